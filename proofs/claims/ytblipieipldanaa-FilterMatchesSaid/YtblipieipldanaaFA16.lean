/-
  Which curve made a signal from another one, in both copies. Conditions: told in each theorem.
-/
import Derived.Test.YtblipieipldanaaWChains
namespace Go.Proofs.Ytblipieipldanaa
open Go.Ab Go.RowKit Go.Dw Go.Shelf

/-- a curve made y of x -/
def mtB (l : List Cv) (x y : List Int) (k : Nat) : Bool := decide ((apR (gc l k) false x).1 = 0) && decide ((apR (gc l k) false x).2 = y)
def mtF (l : List Cv) (x y : List Int) : Int × Int := match (List.range l.length).find? fun k => mtB l x y k with
  | some k => ((k : Int), 0)
  | none => (0, 5)
def mtR (l : List Cv) (x y : List Int) : Int × Int := if chE l ≠ 0 then (0, chE l) else if sigE x ≠ 0 then (0, sigE x) else if sigE y ≠ 0 then (0, sigE y) else if x.length ≠ y.length then (0, 17) else mtF l x y
theorem mt_1 {l : List Cv} {x y : List Int} (h : ¬ chE l = 0) : mtR l x y = (0, chE l) := by rw [mtR, if_pos h]
theorem mt_2 {l : List Cv} {x y : List Int} (h : chE l = 0) (h2 : ¬ sigE x = 0) : mtR l x y = (0, sigE x) := by rw [mtR, if_neg (by simp [h]), if_pos h2]
theorem mt_3 {l : List Cv} {x y : List Int} (h : chE l = 0) (h2 : sigE x = 0) (h3 : ¬ sigE y = 0) : mtR l x y = (0, sigE y) := by rw [mtR, if_neg (by simp [h]), if_neg (by simp [h2]), if_pos h3]
theorem mt_4 {l : List Cv} {x y : List Int} (h : chE l = 0) (h2 : sigE x = 0) (h3 : sigE y = 0) (h4 : ¬ x.length = y.length) : mtR l x y = (0, 17) := by rw [mtR, if_neg (by simp [h]), if_neg (by simp [h2]), if_neg (by simp [h3]), if_pos h4]
theorem mt_5 {l : List Cv} {x y : List Int} (h : chE l = 0) (h2 : sigE x = 0) (h3 : sigE y = 0) (h4 : x.length = y.length) {k : Nat} (hk : k < l.length) (hm : mtB l x y k = true) (hj : ∀ j, j < k → mtB l x y j = false) : mtR l x y = ((k : Int), 0) := by
  rw [mtR, if_neg (by simp [h]), if_neg (by simp [h2]), if_neg (by simp [h3]), if_neg (by simp [h4]), mtF]
  have : (List.range l.length).find? (fun k => mtB l x y k) = some k := by
    rw [List.find?_range_eq_some]
    exact ⟨hm, List.mem_range.2 hk, fun j hjk => by simp [hj j hjk]⟩
  rw [this]
theorem mt_6 {l : List Cv} {x y : List Int} (h : chE l = 0) (h2 : sigE x = 0) (h3 : sigE y = 0) (h4 : x.length = y.length) (hj : ∀ j, j < l.length → mtB l x y j = false) : mtR l x y = (0, 5) := by
  rw [mtR, if_neg (by simp [h]), if_neg (by simp [h2]), if_neg (by simp [h3]), if_neg (by simp [h4]), mtF]
  have : (List.range l.length).find? (fun k => mtB l x y k) = none := by
    rw [List.find?_eq_none]
    intro k hk
    simp [hj k (by simpa using hk)]
  rw [this]
theorem ap_big {c : Cv} {u : Bool} {x : List Int} : (apR c u x).2.length ≤ bigL := chR_len
set_option maxRecDepth 100000 in
theorem refMatch_ac (l : List Cv) (x y : List Int) (hl : cvsL l) (hx : x.length ≤ bigL) (hy : y.length ≤ bigL) : AC Try.prog 47 [V.cvs l, V.ints x, V.ints y] (.tup [.i (mtR l x y).1, .i (mtR l x y).2]) [] := by
  refine ac_intro hTT hMX (fn := Try.f47) (N := _) ⟨Try.func47, rfl, Try.ntmps47, by kernel_rfl⟩ (by simp) fun C hC hF => ?_
  refine aw_seq_k fun K hK => ?_
  refine w_region (n' := 2) (by kernel_rfl) (by kernel_rfl) ?_
  refine aops_n hTT (M := []) (n := 2) [pv (6 : Nat) (V.i (0 : Int)), pv (7 : Nat) (V.i (0 : Int))] (by kernel_rfl) (by kernel_rfl) True.intro ?_
  refine aops_nil ?_
  refine xt_n ?_
  refine hK _ ?_
  clear hK K
  refine aw_seq_k fun K hK => ?_
  refine w_region (n' := 3) (by kernel_rfl) (by kernel_rfl) ?_
  refine aops_n hTT (M := []) (n := 1) [pv (12 : Nat) (V.sl (3 : Nat) (List.length l) fun (k : Nat) => [V.ints (Cv.feed (gc l k)), V.ints (Cv.back (gc l k)), V.i (Cv.share (gc l k))])] (by kernel_rfl) (by kernel_rfl) True.intro ?_
  refine e_call (first := []) (caps := []) (refCheckChain_ac l hl) (by kernel_rfl) (by kernel_rfl) (by kernel_rfl) (by kernel_rfl) (by kernel_rfl) ?_
  refine aops_n hTT (M := []) (n := 1) [pv (8 : Nat) (V.i (chE l))] (by kernel_rfl) (by kernel_rfl) True.intro ?_
  refine aops_nil ?_
  refine xt_n ?_
  refine hK _ ?_
  clear hK K
  refine aw_seq_k fun K hK => ?_
  refine aw_seq_k fun K hK => ?_
  refine w_region (n' := 4) (by kernel_rfl) (by kernel_rfl) ?_
  refine aops_n hTT (M := []) (n := 2) [pv (14 : Nat) (V.i (chE l)), pv (15 : Nat) (V.b !decide (chE l = (0 : Int)))] (by kernel_rfl) (by kernel_rfl) True.intro ?_
  refine aops_nil ?_
  refine xt_n ?_
  refine hK _ ?_
  clear hK K
  refine w_cond (t := !decide (chE l = (0 : Int))) (by kernel_rfl) (fun c1 => ?_) (fun c1 => ?_)
  · simp at c1
    refine aw_seq_k fun K hK => ?_
    refine w_region (n' := 5) (by kernel_rfl) (by kernel_rfl) ?_
    refine aops_n hTT (M := []) (n := 3) [pv (16 : Nat) (V.i (chE l)), pv (6 : Nat) (V.i (0 : Int)), pv (7 : Nat) (V.i (chE l))] (by kernel_rfl) (by kernel_rfl) True.intro ?_
    refine aops_nil ?_
    refine xt_n ?_
    refine hK _ ?_
    clear hK K
    refine aw_ret ?_
    refine xt_r ?_
    rw [mt_1 c1]
    refine ret_pure (v' := V.tup [V.i (0 : Int), V.i (chE l)]) (.inr rfl) (by kernel_rfl) (by kernel_rfl) (by kernel_rfl)
  simp at c1
  refine aw_skip ?_
  refine xt_n ?_
  refine hK _ ?_
  clear hK K
  refine aw_seq_k fun K hK => ?_
  refine w_region (n' := 5) (by kernel_rfl) (by kernel_rfl) ?_
  refine aops_n hTT (M := []) (n := 1) [pv (17 : Nat) (V.sl (1 : Nat) (List.length x) fun (k : Nat) => [V.i (gi x k)])] (by kernel_rfl) (by kernel_rfl) True.intro ?_
  refine e_call (first := []) (caps := []) (refSignal_ac x hx) (by kernel_rfl) (by kernel_rfl) (by kernel_rfl) (by kernel_rfl) (by kernel_rfl) ?_
  refine aops_n hTT (M := []) (n := 1) [pv (8 : Nat) (V.i (sigE x))] (by kernel_rfl) (by kernel_rfl) True.intro ?_
  refine aops_nil ?_
  refine xt_n ?_
  refine hK _ ?_
  clear hK K
  refine aw_seq_k fun K hK => ?_
  refine aw_seq_k fun K hK => ?_
  refine w_region (n' := 6) (by kernel_rfl) (by kernel_rfl) ?_
  refine aops_n hTT (M := []) (n := 2) [pv (19 : Nat) (V.i (sigE x)), pv (20 : Nat) (V.b !decide (sigE x = (0 : Int)))] (by kernel_rfl) (by kernel_rfl) True.intro ?_
  refine aops_nil ?_
  refine xt_n ?_
  refine hK _ ?_
  clear hK K
  refine w_cond (t := !decide (sigE x = (0 : Int))) (by kernel_rfl) (fun c2 => ?_) (fun c2 => ?_)
  · simp at c2
    refine aw_seq_k fun K hK => ?_
    refine w_region (n' := 7) (by kernel_rfl) (by kernel_rfl) ?_
    refine aops_n hTT (M := []) (n := 3) [pv (21 : Nat) (V.i (sigE x)), pv (6 : Nat) (V.i (0 : Int)), pv (7 : Nat) (V.i (sigE x))] (by kernel_rfl) (by kernel_rfl) True.intro ?_
    refine aops_nil ?_
    refine xt_n ?_
    refine hK _ ?_
    clear hK K
    refine aw_ret ?_
    refine xt_r ?_
    rw [mt_2 c1 c2]
    refine ret_pure (v' := V.tup [V.i (0 : Int), V.i (sigE x)]) (.inr rfl) (by kernel_rfl) (by kernel_rfl) (by kernel_rfl)
  simp at c2
  refine aw_skip ?_
  refine xt_n ?_
  refine hK _ ?_
  clear hK K
  refine aw_seq_k fun K hK => ?_
  refine w_region (n' := 7) (by kernel_rfl) (by kernel_rfl) ?_
  refine aops_n hTT (M := []) (n := 1) [pv (22 : Nat) (V.sl (1 : Nat) (List.length y) fun (k : Nat) => [V.i (gi y k)])] (by kernel_rfl) (by kernel_rfl) True.intro ?_
  refine e_call (first := []) (caps := []) (refSignal_ac y hy) (by kernel_rfl) (by kernel_rfl) (by kernel_rfl) (by kernel_rfl) (by kernel_rfl) ?_
  refine aops_n hTT (M := []) (n := 1) [pv (8 : Nat) (V.i (sigE y))] (by kernel_rfl) (by kernel_rfl) True.intro ?_
  refine aops_nil ?_
  refine xt_n ?_
  refine hK _ ?_
  clear hK K
  refine aw_seq_k fun K hK => ?_
  refine aw_seq_k fun K hK => ?_
  refine w_region (n' := 8) (by kernel_rfl) (by kernel_rfl) ?_
  refine aops_n hTT (M := []) (n := 2) [pv (24 : Nat) (V.i (sigE y)), pv (25 : Nat) (V.b !decide (sigE y = (0 : Int)))] (by kernel_rfl) (by kernel_rfl) True.intro ?_
  refine aops_nil ?_
  refine xt_n ?_
  refine hK _ ?_
  clear hK K
  refine w_cond (t := !decide (sigE y = (0 : Int))) (by kernel_rfl) (fun c3 => ?_) (fun c3 => ?_)
  · simp at c3
    refine aw_seq_k fun K hK => ?_
    refine w_region (n' := 9) (by kernel_rfl) (by kernel_rfl) ?_
    refine aops_n hTT (M := []) (n := 3) [pv (26 : Nat) (V.i (sigE y)), pv (6 : Nat) (V.i (0 : Int)), pv (7 : Nat) (V.i (sigE y))] (by kernel_rfl) (by kernel_rfl) True.intro ?_
    refine aops_nil ?_
    refine xt_n ?_
    refine hK _ ?_
    clear hK K
    refine aw_ret ?_
    refine xt_r ?_
    rw [mt_3 c1 c2 c3]
    refine ret_pure (v' := V.tup [V.i (0 : Int), V.i (sigE y)]) (.inr rfl) (by kernel_rfl) (by kernel_rfl) (by kernel_rfl)
  simp at c3
  refine aw_skip ?_
  refine xt_n ?_
  refine hK _ ?_
  clear hK K
  refine aw_seq_k fun K hK => ?_
  refine aw_seq_k fun K hK => ?_
  refine w_region (n' := 9) (by kernel_rfl) (by kernel_rfl) ?_
  refine aops_n hTT (M := []) (n := 5) [pv (27 : Nat) (V.sl (1 : Nat) (List.length x) fun (k : Nat) => [V.i (gi x k)]), pv (28 : Nat) (V.i (↑(List.length x) : Int)), pv (29 : Nat) (V.sl (1 : Nat) (List.length y) fun (k : Nat) => [V.i (gi y k)]), pv (30 : Nat) (V.i (↑(List.length y) : Int)), pv (31 : Nat) (V.b !decide ((↑(List.length x) : Int) = (↑(List.length y) : Int)))] (by kernel_rfl) (by kernel_rfl) True.intro ?_
  refine aops_nil ?_
  refine xt_n ?_
  refine hK _ ?_
  clear hK K
  refine w_cond (t := !decide ((↑(List.length x) : Int) = (↑(List.length y) : Int))) (by kernel_rfl) (fun c4 => ?_) (fun c4 => ?_)
  · simp at c4
    refine aw_seq_k fun K hK => ?_
    refine w_region (n' := 10) (by kernel_rfl) (by kernel_rfl) ?_
    refine aops_n hTT (M := []) (n := 2) [pv (6 : Nat) (V.i (0 : Int)), pv (7 : Nat) (V.i (17 : Int))] (by kernel_rfl) (by kernel_rfl) True.intro ?_
    refine aops_nil ?_
    refine xt_n ?_
    refine hK _ ?_
    clear hK K
    refine aw_ret ?_
    refine xt_r ?_
    rw [mt_4 c1 c2 c3 (by omega)]
    refine ret_pure (v' := V.tup [V.i (0 : Int), V.i (17 : Int)]) (.inr rfl) (by kernel_rfl) (by kernel_rfl) (by kernel_rfl)
  simp at c4
  have g8 := (chE_ok.1 c1).1
  refine aw_skip ?_
  refine xt_n ?_
  refine hK _ ?_
  clear hK K
  refine aw_seq_k fun K hK => ?_
  refine aw_seq_k fun K hK => ?_
  refine w_region (n' := 10) (by kernel_rfl) (by kernel_rfl) ?_
  refine aops_n hTT (M := []) (n := 1) [pv (9 : Nat) (V.i (0 : Int))] (by kernel_rfl) (by kernel_rfl) True.intro ?_
  refine aops_nil ?_
  refine xt_n ?_
  refine hK _ ?_
  clear hK K
  refine aw_block ?_
  refine w_loop (ι := Nat) (fun k => [(0, V.cvs l), (1, V.ints x), (2, V.ints y), (9, .i k)]) (fun _ => []) (fun k => k ≤ l.length ∧ ∀ j, j < k → mtB l x y j = false) (fun k => l.length - k) 0 ⟨Nat.zero_le _, fun j hj => by omega⟩ ?_ ?_
  · refine le_ren [] (.cons (by kernel_rfl) (.cons (by kernel_rfl) (.cons (by kernel_rfl) (.cons (by kernel_rfl) .nil)))) .nil (by kernel_rfl) (by kernel_rfl)
  rintro k ⟨hk, hj⟩
  refine aw_seq_k fun K hK => ?_
  refine aw_seq_k fun K hK => ?_
  refine w_region (n' := 2) (by kernel_rfl) (by kernel_rfl) ?_
  refine aops_n hTT (M := []) (n := 4) [pv (32 : Nat) (V.i (↑k : Int)), pv (33 : Nat) (V.sl (3 : Nat) (List.length l) fun (k : Nat) => [V.ints (Cv.feed (gc l k)), V.ints (Cv.back (gc l k)), V.i (Cv.share (gc l k))]), pv (34 : Nat) (V.i (↑(List.length l) : Int)), pv (35 : Nat) (V.b (decide ((↑k : Int) < (↑(List.length l) : Int))))] (by kernel_rfl) (by kernel_rfl) True.intro ?_
  refine aops_nil ?_
  refine xt_n ?_
  refine hK _ ?_
  clear hK K
  refine w_cond (t := decide ((↑k : Int) < (↑(List.length l) : Int))) (by kernel_rfl) (fun c5 => ?_) (fun c5 => ?_)
  · simp at c5
    refine aw_skip ?_
    refine xt_n ?_
    refine hK _ ?_
    clear hK K
    refine aw_seq_k fun K hK => ?_
    refine aw_block ?_
    refine aw_seq_k fun K hK => ?_
    refine w_region (n' := 3) (by kernel_rfl) (by kernel_rfl) ?_
    refine aops_n hTT (M := []) (n := 5) [pv (39 : Nat) (V.sl (3 : Nat) (List.length l) fun (k : Nat) => [V.ints (Cv.feed (gc l k)), V.ints (Cv.back (gc l k)), V.i (Cv.share (gc l k))]), pv (40 : Nat) (V.i (↑k : Int)), pc (41 : Nat) ((0 : Int) ≤ (↑k : Int) ∧ (↑k : Int) < (↑(List.length l) : Int)) (V.ptr [V.sl (1 : Nat) (List.length (Cv.feed (gc l k))) fun (k_1 : Nat) => [V.i (gi (Cv.feed (gc l k)) k_1)], V.sl (1 : Nat) (List.length (Cv.back (gc l k))) fun (k_1 : Nat) => [V.i (gi (Cv.back (gc l k)) k_1)], V.i (Cv.share (gc l k))]), pv (42 : Nat) (V.agg [V.sl (1 : Nat) (List.length (Cv.feed (gc l k))) fun (k_1 : Nat) => [V.i (gi (Cv.feed (gc l k)) k_1)], V.sl (1 : Nat) (List.length (Cv.back (gc l k))) fun (k_1 : Nat) => [V.i (gi (Cv.back (gc l k)) k_1)], V.i (Cv.share (gc l k))]), pv (43 : Nat) (V.sl (1 : Nat) (List.length x) fun (k : Nat) => [V.i (gi x k)])] (by kernel_rfl) (by kernel_rfl) ⟨(by omega), True.intro⟩ ?_
    refine e_call (first := []) (caps := []) (refApply_ac (gc l k) x (hl.2 k c5) hx) (by kernel_rfl) (by kernel_rfl) (by kernel_rfl) (by kernel_rfl) (by kernel_rfl) ?_
    refine aops_n hTT (M := []) (n := 5) [pv (38 : Nat) (V.tup [V.sl (1 : Nat) (List.length (Prod.snd (apR (gc l k) false x))) fun (k_1 : Nat) => [V.i (gi (Prod.snd (apR (gc l k) false x)) k_1)], V.i (Prod.fst (apR (gc l k) false x))]), pv (45 : Nat) (V.sl (1 : Nat) (List.length (Prod.snd (apR (gc l k) false x))) fun (k_1 : Nat) => [V.i (gi (Prod.snd (apR (gc l k) false x)) k_1)]), pv (46 : Nat) (V.i (Prod.fst (apR (gc l k) false x))), pv (10 : Nat) (V.sl (1 : Nat) (List.length (Prod.snd (apR (gc l k) false x))) fun (k_1 : Nat) => [V.i (gi (Prod.snd (apR (gc l k) false x)) k_1)]), pv (11 : Nat) (V.i (Prod.fst (apR (gc l k) false x)))] (by kernel_rfl) (by kernel_rfl) True.intro ?_
    refine aops_nil ?_
    refine xt_n ?_
    refine hK _ ?_
    clear hK K
    refine aw_seq_k fun K hK => ?_
    refine w_region (n' := 4) (by kernel_rfl) (by kernel_rfl) ?_
    refine aops_n hTT (M := []) (n := 5) [pv (47 : Nat) (V.i (Prod.fst (apR (gc l k) false x))), pv (48 : Nat) (V.b (decide (Prod.fst (apR (gc l k) false x) = (0 : Int)))), pv (49 : Nat) (V.b (decide (Prod.fst (apR (gc l k) false x) = (0 : Int)))), pc (50 : Nat) ((True ∧ True) ∧ ((decide (Prod.fst (apR (gc l k) false x) = (0 : Int)) == true) = true → True)) (V.gd (decide (Prod.fst (apR (gc l k) false x) = (0 : Int)) == true) (V.sl (1 : Nat) (List.length (Prod.snd (apR (gc l k) false x))) fun (k_1 : Nat) => [V.i (gi (Prod.snd (apR (gc l k) false x)) k_1)])), pc (51 : Nat) ((True ∧ True) ∧ ((decide (Prod.fst (apR (gc l k) false x) = (0 : Int)) == true) = true → True)) (V.gd (decide (Prod.fst (apR (gc l k) false x) = (0 : Int)) == true) (V.sl (1 : Nat) (List.length y) fun (k : Nat) => [V.i (gi y k)]))] (by kernel_rfl) (by kernel_rfl) ⟨⟨⟨True.intro, True.intro⟩, (fun _ => True.intro)⟩, ⟨⟨True.intro, True.intro⟩, (fun _ => True.intro)⟩, True.intro⟩ ?_
    refine e_callG 2 (g := decide (Prod.fst (apR (gc l k) false x) = (0 : Int)) == true) (first := []) (caps := []) (by kernel_rfl) (fun h => refSame_ac (apR (gc l k) false x).2 y ap_big hy) (by kernel_rfl) (by kernel_rfl) (by kernel_rfl) (by kernel_rfl) (by kernel_rfl) (by kernel_rfl) ?_
    refine aops_n hTT (M := []) (n := 1) [pc (53 : Nat) ((decide (Prod.fst (apR (gc l k) false x) = (0 : Int)) = true → (decide (Prod.fst (apR (gc l k) false x) = (0 : Int)) == true) = true) ∧ True) (V.b (decide (Prod.fst (apR (gc l k) false x) = (0 : Int)) && decide (Prod.snd (apR (gc l k) false x) = y)))] (by kernel_rfl) (by kernel_rfl) ⟨⟨(by (intro h; rw [h]; rfl)), True.intro⟩, True.intro⟩ ?_
    refine aops_nil ?_
    refine xt_n ?_
    refine hK _ ?_
    clear hK K
    refine w_cond (t := decide (Prod.fst (apR (gc l k) false x) = (0 : Int)) && decide (Prod.snd (apR (gc l k) false x) = y)) (by kernel_rfl) (fun c6 => ?_) (fun c6 => ?_)
    · have hm : mtB l x y k = true := by unfold mtB; simpa using c6
      refine aw_seq_k fun K hK => ?_
      refine w_region (n' := 5) (by kernel_rfl) (by kernel_rfl) ?_
      refine aops_n hTT (M := []) (n := 3) [pv (54 : Nat) (V.i (↑k : Int)), pv (6 : Nat) (V.i (↑k : Int)), pv (7 : Nat) (V.i (0 : Int))] (by kernel_rfl) (by kernel_rfl) True.intro ?_
      refine aops_nil ?_
      refine xt_n ?_
      refine hK _ ?_
      clear hK K
      refine aw_ret ?_
      refine xb_r ?_
      refine xt_r ?_
      refine xt_r ?_
      refine xb_r ?_
      refine xt_r ?_
      rw [mt_5 c1 c2 c3 (by omega) c5 hm hj]
      refine ret_pure (v' := V.tup [V.i (↑k : Int), V.i (0 : Int)]) (.inr rfl) (by kernel_rfl) (by kernel_rfl) (by kernel_rfl)
    · have hm : mtB l x y k = false := by unfold mtB; simpa using c6
      refine aw_skip ?_
      refine xb_n ?_
      refine xt_n ?_
      refine hK _ ?_
      clear hK K
      refine w_region (n' := 5) (by kernel_rfl) (by kernel_rfl) ?_
      refine aops_n hTT (M := []) (n := 3) [pv (36 : Nat) (V.i (↑k : Int)), pc (37 : Nat) ((-9223372036854775808 : Int) ≤ (↑k : Int) + (1 : Int) ∧ (↑k : Int) + (1 : Int) ≤ (9223372036854775807 : Int)) (V.i ((↑k : Int) + (1 : Int))), pv (9 : Nat) (V.i ((↑k : Int) + (1 : Int)))] (by kernel_rfl) (by kernel_rfl) ⟨(by omega), True.intro⟩ ?_
      refine aops_nil ?_
      refine xt_n ?_
      refine ⟨k + 1, ⟨by omega, fun j hjk => ?_⟩, by refine le_ren [] (.cons (by kernel_rfl) (.cons (by kernel_rfl) (.cons (by kernel_rfl) (.cons (by kernel_rfl) .nil)))) .nil (by kernel_rfl) (by kernel_rfl), by omega⟩
      by_cases h : j < k
      · exact hj j h
      · obtain rfl : j = k := by omega
        exact hm
  · simp at c5
    refine aw_exit ?_
    refine xt_x ?_
    refine xt_x ?_
    refine xb_same ?_
    refine xt_n ?_
    clear hK K
    refine hK _ ?_
    clear hK K
    refine aw_seq_k fun K hK => ?_
    refine w_region (n' := 3) (by kernel_rfl) (by kernel_rfl) ?_
    refine aops_n hTT (M := []) (n := 2) [pv (6 : Nat) (V.i (0 : Int)), pv (7 : Nat) (V.i (5 : Int))] (by kernel_rfl) (by kernel_rfl) True.intro ?_
    refine aops_nil ?_
    refine xt_n ?_
    refine hK _ ?_
    clear hK K
    refine aw_ret ?_
    rw [mt_6 c1 c2 c3 (by omega) fun j h => hj j (by omega)]
    refine ret_pure (v' := V.tup [V.i (0 : Int), V.i (5 : Int)]) (.inr rfl) (by kernel_rfl) (by kernel_rfl) (by kernel_rfl)
set_option maxRecDepth 100000 in
theorem Equal_ac (a b : List Int) (ha : a.length ≤ bigL) (hb : b.length ≤ bigL) : AC Try.prog 77 [V.ints a, V.ints b] (.b (decide (a = b))) [] := by
  unfold bigL at ha hb
  refine ac_intro hTT hMX (fn := Try.f77) (N := _) ⟨Try.func77, rfl, Try.ntmps77, by kernel_rfl⟩ (by simp) fun C hC hF => ?_
  refine aw_seq_k fun K hK => ?_
  refine w_region (n' := 2) (by kernel_rfl) (by kernel_rfl) ?_
  refine aops_n hTT (M := []) (n := 1) [pv (4 : Nat) (V.b false)] (by kernel_rfl) (by kernel_rfl) True.intro ?_
  refine aops_nil ?_
  refine xt_n ?_
  refine hK _ ?_
  clear hK K
  refine aw_seq_k fun K hK => ?_
  refine aw_seq_k fun K hK => ?_
  refine w_region (n' := 3) (by kernel_rfl) (by kernel_rfl) ?_
  refine aops_n hTT (M := []) (n := 5) [pv (6 : Nat) (V.sl (1 : Nat) (List.length a) fun (k : Nat) => [V.i (gi a k)]), pv (7 : Nat) (V.i (↑(List.length a) : Int)), pv (8 : Nat) (V.sl (1 : Nat) (List.length b) fun (k : Nat) => [V.i (gi b k)]), pv (9 : Nat) (V.i (↑(List.length b) : Int)), pv (10 : Nat) (V.b !decide ((↑(List.length a) : Int) = (↑(List.length b) : Int)))] (by kernel_rfl) (by kernel_rfl) True.intro ?_
  refine aops_nil ?_
  refine xt_n ?_
  refine hK _ ?_
  clear hK K
  refine w_cond (t := !decide ((↑(List.length a) : Int) = (↑(List.length b) : Int))) (by kernel_rfl) (fun c1 => ?_) (fun c1 => ?_)
  · simp at c1
    refine aw_seq_k fun K hK => ?_
    refine w_region (n' := 4) (by kernel_rfl) (by kernel_rfl) ?_
    refine aops_n hTT (M := []) (n := 1) [pv (4 : Nat) (V.b false)] (by kernel_rfl) (by kernel_rfl) True.intro ?_
    refine aops_nil ?_
    refine xt_n ?_
    refine hK _ ?_
    clear hK K
    refine aw_ret ?_
    refine xt_r ?_
    rw [show decide (a = b) = false by simp; rintro rfl; omega]
    refine ret_pure (v' := V.b false) (.inr rfl) (by kernel_rfl) (by kernel_rfl) (by kernel_rfl)
  simp at c1
  refine aw_skip ?_
  refine xt_n ?_
  refine hK _ ?_
  clear hK K
  refine aw_seq_k fun K hK => ?_
  refine aw_seq_k fun K hK => ?_
  refine w_region (n' := 4) (by kernel_rfl) (by kernel_rfl) ?_
  refine aops_n hTT (M := []) (n := 3) [pv (11 : Nat) (V.sl (1 : Nat) (List.length a) fun (k : Nat) => [V.i (gi a k)]), pv (12 : Nat) (V.i (↑(List.length a) : Int)), pv (13 : Nat) (V.i (0 : Int))] (by kernel_rfl) (by kernel_rfl) True.intro ?_
  refine aops_nil ?_
  refine xt_n ?_
  refine hK _ ?_
  clear hK K
  refine aw_block ?_
  refine w_loop (ι := Nat) (fun k => [(0, V.ints a), (1, V.ints b), (12, .i a.length), (13, .i k)]) (fun _ => []) (fun k => k ≤ a.length ∧ ∀ j, j < k → gi a j = gi b j) (fun k => a.length - k) 0 ⟨Nat.zero_le _, fun j hj => by omega⟩ ?_ ?_
  · refine le_ren [] (.cons (by kernel_rfl) (.cons (by kernel_rfl) (.cons (by kernel_rfl) (.cons (by kernel_rfl) .nil)))) .nil (by kernel_rfl) (by kernel_rfl)
  rintro k ⟨hk, hj⟩
  refine aw_seq_k fun K hK => ?_
  refine w_region (n' := 2) (by kernel_rfl) (by kernel_rfl) ?_
  refine aops_n hTT (M := []) (n := 1) [pv (14 : Nat) (V.b (decide ((↑k : Int) < (↑(List.length a) : Int))))] (by kernel_rfl) (by kernel_rfl) True.intro ?_
  refine aops_nil ?_
  refine xt_n ?_
  refine hK _ ?_
  clear hK K
  refine aw_seq_k fun K hK => ?_
  refine w_cond (t := decide ((↑k : Int) < (↑(List.length a) : Int))) (by kernel_rfl) (fun c2 => ?_) (fun c2 => ?_)
  · simp at c2
    refine aw_skip ?_
    refine xt_n ?_
    refine hK _ ?_
    clear hK K
    refine aw_seq_k fun K hK => ?_
    refine aw_block ?_
    refine aw_seq_k fun K hK => ?_
    refine w_region (n' := 3) (by kernel_rfl) (by kernel_rfl) ?_
    refine aops_n hTT (M := []) (n := 2) [pv (15 : Nat) (V.i (↑k : Int)), pv (5 : Nat) (V.i (↑k : Int))] (by kernel_rfl) (by kernel_rfl) True.intro ?_
    refine aops_nil ?_
    refine xt_n ?_
    refine hK _ ?_
    clear hK K
    refine aw_seq_k fun K hK => ?_
    refine w_regionD (n' := 4) (by kernel_rfl) (by kernel_rfl) ?_
    refine aops_n hTT (M := []) (n := 9) [pv (16 : Nat) (V.sl (1 : Nat) (List.length a) fun (k : Nat) => [V.i (gi a k)]), pv (17 : Nat) (V.i (↑k : Int)), pc (18 : Nat) ((0 : Int) ≤ (↑k : Int) ∧ (↑k : Int) < (↑(List.length a) : Int)) (V.ptr [V.i (gi a k)]), pv (19 : Nat) (V.i (gi a k)), pv (20 : Nat) (V.sl (1 : Nat) (List.length b) fun (k : Nat) => [V.i (gi b k)]), pv (21 : Nat) (V.i (↑k : Int)), pc (22 : Nat) ((0 : Int) ≤ (↑k : Int) ∧ (↑k : Int) < (↑(List.length b) : Int)) (V.ptr [V.i (gi b k)]), pv (23 : Nat) (V.i (gi b k)), pv (24 : Nat) (V.b !decide (gi a k = gi b k))] (by kernel_rfl) (by kernel_rfl) ⟨(by omega), (by omega), True.intro⟩ ?_
    refine aops_nil ⟨by kernel_rfl, ?_⟩
    refine xt_n ?_
    refine hK _ ?_
    clear hK K
    refine w_cond (t := !decide (gi a k = gi b k)) (by kernel_rfl) (fun c3 => ?_) (fun c3 => ?_)
    · simp at c3
      refine aw_seq_k fun K hK => ?_
      refine w_region (n' := 5) (by kernel_rfl) (by kernel_rfl) ?_
      refine aops_n hTT (M := []) (n := 1) [pv (4 : Nat) (V.b false)] (by kernel_rfl) (by kernel_rfl) True.intro ?_
      refine aops_nil ?_
      refine xt_n ?_
      refine hK _ ?_
      clear hK K
      refine aw_ret ?_
      refine xb_r ?_
      refine xt_r ?_
      refine xt_r ?_
      refine xb_r ?_
      refine xt_r ?_
      rw [show decide (a = b) = false by simp; rintro rfl; exact c3 rfl]
      refine ret_pure (v' := V.b false) (.inr rfl) (by kernel_rfl) (by kernel_rfl) (by kernel_rfl)
    · simp at c3
      refine aw_skip ?_
      refine xb_n ?_
      refine xt_n ?_
      refine hK _ ?_
      clear hK K
      refine w_region (n' := 5) (by kernel_rfl) (by kernel_rfl) ?_
      refine aops_n hTT (M := []) (n := 2) [pc (25 : Nat) ((-9223372036854775808 : Int) ≤ (↑k : Int) + (1 : Int) ∧ (↑k : Int) + (1 : Int) ≤ (9223372036854775807 : Int)) (V.i ((↑k : Int) + (1 : Int))), pv (13 : Nat) (V.i ((↑k : Int) + (1 : Int)))] (by kernel_rfl) (by kernel_rfl) ⟨(by omega), True.intro⟩ ?_
      refine aops_nil ?_
      refine xt_n ?_
      refine ⟨k + 1, ⟨by omega, fun j hjk => ?_⟩, by refine le_ren [] (.cons (by kernel_rfl) (.cons (by kernel_rfl) (.cons (by kernel_rfl) (.cons (by kernel_rfl) .nil)))) .nil (by kernel_rfl) (by kernel_rfl), by omega⟩
      by_cases h : j < k
      · exact hj j h
      · obtain rfl : j = k := by omega
        exact c3
  · simp at c2
    refine aw_exit ?_
    refine xt_x ?_
    refine xt_x ?_
    refine xb_same ?_
    refine xt_n ?_
    clear hK K
    refine hK _ ?_
    clear hK K
    refine aw_seq_k fun K hK => ?_
    refine w_region (n' := 3) (by kernel_rfl) (by kernel_rfl) ?_
    refine aops_n hTT (M := []) (n := 1) [pv (4 : Nat) (V.b true)] (by kernel_rfl) (by kernel_rfl) True.intro ?_
    refine aops_nil ?_
    refine xt_n ?_
    refine hK _ ?_
    clear hK K
    refine aw_ret ?_
    rw [show decide (a = b) = true by simp; exact ext_gi (by omega) fun k hk => hj k (by omega)]
    refine ret_pure (v' := V.b true) (.inr rfl) (by kernel_rfl) (by kernel_rfl) (by kernel_rfl)
/-- the three errors at the beginning -/
def mtE (l : List Cv) (x y : List Int) : List Int := [chE l, sigE x, sigE y]
set_option maxRecDepth 100000 in
theorem Match_ac (l : List Cv) (x y : List Int) (hl : cvsL l) (hx : x.length ≤ bigL) (hy : y.length ≤ bigL) : AC Try.prog 46 [V.cvs l, V.ints x, V.ints y] (.tup [.i (mtR l x y).1, .i (mtR l x y).2]) [] := by
  refine ac_intro hTT hMX (fn := Try.f46) (N := _) ⟨Try.func46, rfl, Try.ntmps46, by kernel_rfl⟩ (by simp) fun C hC hF => ?_
  refine aw_seq_k fun K hK => ?_
  refine w_region (n' := 2) (by kernel_rfl) (by kernel_rfl) ?_
  refine aops_n hTT (M := []) (n := 2) [pv (6 : Nat) (V.i (0 : Int)), pv (7 : Nat) (V.i (0 : Int))] (by kernel_rfl) (by kernel_rfl) True.intro ?_
  refine aops_nil ?_
  refine xt_n ?_
  refine hK _ ?_
  clear hK K
  refine aw_seq_k fun K hK => ?_
  refine aw_seq_k fun K hK => ?_
  refine w_region (n' := 3) (by kernel_rfl) (by kernel_rfl) ?_
  refine aops_n hTT (M := []) (n := 1) [pv (14 : Nat) (V.sl (3 : Nat) (List.length l) fun (k : Nat) => [V.ints (Cv.feed (gc l k)), V.ints (Cv.back (gc l k)), V.i (Cv.share (gc l k))])] (by kernel_rfl) (by kernel_rfl) True.intro ?_
  refine e_call (first := []) (caps := []) (checkChain_ac l hl) (by kernel_rfl) (by kernel_rfl) (by kernel_rfl) (by kernel_rfl) (by kernel_rfl) ?_
  refine aops_n hTT (M := []) (n := 1) [pv (16 : Nat) (V.sl (1 : Nat) (List.length x) fun (k : Nat) => [V.i (gi x k)])] (by kernel_rfl) (by kernel_rfl) True.intro ?_
  refine e_call (first := []) (caps := []) (checkSignal_ac x hx) (by kernel_rfl) (by kernel_rfl) (by kernel_rfl) (by kernel_rfl) (by kernel_rfl) ?_
  refine aops_n hTT (M := []) (n := 1) [pv (18 : Nat) (V.sl (1 : Nat) (List.length y) fun (k : Nat) => [V.i (gi y k)])] (by kernel_rfl) (by kernel_rfl) True.intro ?_
  refine e_call (first := []) (caps := []) (checkSignal_ac y hy) (by kernel_rfl) (by kernel_rfl) (by kernel_rfl) (by kernel_rfl) (by kernel_rfl) ?_
  refine aops_n hTT (M := []) (n := 3) [pv (20 : Nat) (V.sl (1 : Nat) (3 : Nat) fun (i : Nat) => List.take (1 : Nat) (List.drop (i * (1 : Nat)) [V.i (chE l), V.i (sigE x), V.i (sigE y)])), pv (21 : Nat) (V.i (↑(3 : Nat) : Int)), pv (22 : Nat) (V.i (0 : Int))] (by kernel_rfl) (by kernel_rfl) True.intro ?_
  refine aops_nil ?_
  refine xt_n ?_
  refine hK _ ?_
  clear hK K
  refine aw_block ?_
  refine w_loop (ι := Nat) (fun k => [(0, V.cvs l), (1, V.ints x), (2, V.ints y), (20, .sl 1 3 fun i => ([V.i (chE l), V.i (sigE x), V.i (sigE y)].drop (i * 1)).take 1), (21, .i (3 : Nat)), (22, .i k)]) (fun _ => []) (fun k => k ≤ 3 ∧ ∀ j, j < k → gi (mtE l x y) j = 0) (fun k => 3 - k) 0 ⟨Nat.zero_le _, fun j hj => by omega⟩ ?_ ?_
  · refine le_ren [] (.cons (by kernel_rfl) (.cons (by kernel_rfl) (.cons (by kernel_rfl) (.cons (by kernel_rfl) (.cons (by kernel_rfl) (.cons (by kernel_rfl) .nil)))))) .nil (by kernel_rfl) (by kernel_rfl)
  rintro k ⟨hk, hj⟩
  have hlen : (mtE l x y).length = 3 := rfl
  rcases (by omega : k = 0 ∨ k = 1 ∨ k = 2 ∨ k = 3) with rfl | rfl | rfl | rfl
  · refine aw_seq_k fun K hK => ?_
    refine w_region (n' := 2) (by kernel_rfl) (by kernel_rfl) ?_
    refine aops_n hTT (M := []) (n := 1) [pv (23 : Nat) (V.b true)] (by kernel_rfl) (by kernel_rfl) True.intro ?_
    refine aops_nil ?_
    refine xt_n ?_
    refine hK _ ?_
    clear hK K
    refine aw_seq_k fun K hK => ?_
    refine w_true (t := true) (by kernel_rfl) rfl ?_
    refine aw_skip ?_
    refine xt_n ?_
    refine hK _ ?_
    clear hK K
    refine aw_seq_k fun K hK => ?_
    refine aw_block ?_
    refine aw_seq_k fun K hK => ?_
    refine w_region (n' := 3) (by kernel_rfl) (by kernel_rfl) ?_
    refine aops_n hTT (M := []) (n := 3) [pc (24 : Nat) ((0 : Int) ≤ (↑(0 : Nat) : Int) ∧ (↑(0 : Nat) : Int) < (↑(3 : Nat) : Int)) (V.ptr [V.i (chE l)]), pv (25 : Nat) (V.i (chE l)), pv (9 : Nat) (V.i (chE l))] (by kernel_rfl) (by kernel_rfl) ⟨(by omega), True.intro⟩ ?_
    refine aops_nil ?_
    refine xt_n ?_
    refine hK _ ?_
    clear hK K
    refine aw_seq_k fun K hK => ?_
    refine w_region (n' := 4) (by kernel_rfl) (by kernel_rfl) ?_
    refine aops_n hTT (M := []) (n := 2) [pv (26 : Nat) (V.i (chE l)), pv (27 : Nat) (V.b !decide (chE l = (0 : Int)))] (by kernel_rfl) (by kernel_rfl) True.intro ?_
    refine aops_nil ?_
    refine xt_n ?_
    refine hK _ ?_
    clear hK K
    refine w_cond (t := !decide (chE l = (0 : Int))) (by kernel_rfl) (fun c2 => ?_) (fun c2 => ?_)
    · simp at c2
      refine aw_seq_k fun K hK => ?_
      refine w_region (n' := 5) (by kernel_rfl) (by kernel_rfl) ?_
      refine aops_n hTT (M := []) (n := 3) [pv (28 : Nat) (V.i (chE l)), pv (6 : Nat) (V.i (0 : Int)), pv (7 : Nat) (V.i (chE l))] (by kernel_rfl) (by kernel_rfl) True.intro ?_
      refine aops_nil ?_
      refine xt_n ?_
      refine hK _ ?_
      clear hK K
      refine aw_ret ?_
      refine xb_r ?_
      refine xt_r ?_
      refine xt_r ?_
      refine xb_r ?_
      refine xt_r ?_
      rw [mt_1 c2]
      refine ret_pure (v' := V.tup [V.i (0 : Int), V.i (chE l)]) (.inr rfl) (by kernel_rfl) (by kernel_rfl) (by kernel_rfl)
    · simp at c2
      refine aw_skip ?_
      refine xb_n ?_
      refine xt_n ?_
      refine hK _ ?_
      clear hK K
      refine w_region (n' := 5) (by kernel_rfl) (by kernel_rfl) ?_
      refine aops_n hTT (M := []) (n := 2) [pc (29 : Nat) ((-9223372036854775808 : Int) ≤ (↑(0 : Nat) : Int) + (1 : Int) ∧ (↑(0 : Nat) : Int) + (1 : Int) ≤ (9223372036854775807 : Int)) (V.i ((↑(0 : Nat) : Int) + (1 : Int))), pv (22 : Nat) (V.i ((↑(0 : Nat) : Int) + (1 : Int)))] (by kernel_rfl) (by kernel_rfl) ⟨(by omega), True.intro⟩ ?_
      refine aops_nil ?_
      refine xt_n ?_
      refine ⟨1, ⟨by omega, fun j hjk => ?_⟩, by refine le_ren [] (.cons (by kernel_rfl) (.cons (by kernel_rfl) (.cons (by kernel_rfl) (.cons (by kernel_rfl) (.cons (by kernel_rfl) (.cons (by kernel_rfl) .nil)))))) .nil (by kernel_rfl) (by kernel_rfl), by omega⟩
      by_cases h : j < 0
      · exact hj j h
      · obtain rfl : j = 0 := by omega
        exact c2
  · refine aw_seq_k fun K hK => ?_
    refine w_region (n' := 2) (by kernel_rfl) (by kernel_rfl) ?_
    refine aops_n hTT (M := []) (n := 1) [pv (23 : Nat) (V.b true)] (by kernel_rfl) (by kernel_rfl) True.intro ?_
    refine aops_nil ?_
    refine xt_n ?_
    refine hK _ ?_
    clear hK K
    refine aw_seq_k fun K hK => ?_
    refine w_true (t := true) (by kernel_rfl) rfl ?_
    refine aw_skip ?_
    refine xt_n ?_
    refine hK _ ?_
    clear hK K
    refine aw_seq_k fun K hK => ?_
    refine aw_block ?_
    refine aw_seq_k fun K hK => ?_
    refine w_region (n' := 3) (by kernel_rfl) (by kernel_rfl) ?_
    refine aops_n hTT (M := []) (n := 3) [pc (24 : Nat) ((0 : Int) ≤ (↑(1 : Nat) : Int) ∧ (↑(1 : Nat) : Int) < (↑(3 : Nat) : Int)) (V.ptr [V.i (sigE x)]), pv (25 : Nat) (V.i (sigE x)), pv (9 : Nat) (V.i (sigE x))] (by kernel_rfl) (by kernel_rfl) ⟨(by omega), True.intro⟩ ?_
    refine aops_nil ?_
    refine xt_n ?_
    refine hK _ ?_
    clear hK K
    refine aw_seq_k fun K hK => ?_
    refine w_region (n' := 4) (by kernel_rfl) (by kernel_rfl) ?_
    refine aops_n hTT (M := []) (n := 2) [pv (26 : Nat) (V.i (sigE x)), pv (27 : Nat) (V.b !decide (sigE x = (0 : Int)))] (by kernel_rfl) (by kernel_rfl) True.intro ?_
    refine aops_nil ?_
    refine xt_n ?_
    refine hK _ ?_
    clear hK K
    refine w_cond (t := !decide (sigE x = (0 : Int))) (by kernel_rfl) (fun c2 => ?_) (fun c2 => ?_)
    · simp at c2
      refine aw_seq_k fun K hK => ?_
      refine w_region (n' := 5) (by kernel_rfl) (by kernel_rfl) ?_
      refine aops_n hTT (M := []) (n := 3) [pv (28 : Nat) (V.i (sigE x)), pv (6 : Nat) (V.i (0 : Int)), pv (7 : Nat) (V.i (sigE x))] (by kernel_rfl) (by kernel_rfl) True.intro ?_
      refine aops_nil ?_
      refine xt_n ?_
      refine hK _ ?_
      clear hK K
      refine aw_ret ?_
      refine xb_r ?_
      refine xt_r ?_
      refine xt_r ?_
      refine xb_r ?_
      refine xt_r ?_
      rw [mt_2 (hj 0 (by omega)) c2]
      refine ret_pure (v' := V.tup [V.i (0 : Int), V.i (sigE x)]) (.inr rfl) (by kernel_rfl) (by kernel_rfl) (by kernel_rfl)
    · simp at c2
      refine aw_skip ?_
      refine xb_n ?_
      refine xt_n ?_
      refine hK _ ?_
      clear hK K
      refine w_region (n' := 5) (by kernel_rfl) (by kernel_rfl) ?_
      refine aops_n hTT (M := []) (n := 2) [pc (29 : Nat) ((-9223372036854775808 : Int) ≤ (↑(1 : Nat) : Int) + (1 : Int) ∧ (↑(1 : Nat) : Int) + (1 : Int) ≤ (9223372036854775807 : Int)) (V.i ((↑(1 : Nat) : Int) + (1 : Int))), pv (22 : Nat) (V.i ((↑(1 : Nat) : Int) + (1 : Int)))] (by kernel_rfl) (by kernel_rfl) ⟨(by omega), True.intro⟩ ?_
      refine aops_nil ?_
      refine xt_n ?_
      refine ⟨2, ⟨by omega, fun j hjk => ?_⟩, by refine le_ren [] (.cons (by kernel_rfl) (.cons (by kernel_rfl) (.cons (by kernel_rfl) (.cons (by kernel_rfl) (.cons (by kernel_rfl) (.cons (by kernel_rfl) .nil)))))) .nil (by kernel_rfl) (by kernel_rfl), by omega⟩
      by_cases h : j < 1
      · exact hj j h
      · obtain rfl : j = 1 := by omega
        exact c2
  · refine aw_seq_k fun K hK => ?_
    refine w_region (n' := 2) (by kernel_rfl) (by kernel_rfl) ?_
    refine aops_n hTT (M := []) (n := 1) [pv (23 : Nat) (V.b true)] (by kernel_rfl) (by kernel_rfl) True.intro ?_
    refine aops_nil ?_
    refine xt_n ?_
    refine hK _ ?_
    clear hK K
    refine aw_seq_k fun K hK => ?_
    refine w_true (t := true) (by kernel_rfl) rfl ?_
    refine aw_skip ?_
    refine xt_n ?_
    refine hK _ ?_
    clear hK K
    refine aw_seq_k fun K hK => ?_
    refine aw_block ?_
    refine aw_seq_k fun K hK => ?_
    refine w_region (n' := 3) (by kernel_rfl) (by kernel_rfl) ?_
    refine aops_n hTT (M := []) (n := 3) [pc (24 : Nat) ((0 : Int) ≤ (↑(2 : Nat) : Int) ∧ (↑(2 : Nat) : Int) < (↑(3 : Nat) : Int)) (V.ptr [V.i (sigE y)]), pv (25 : Nat) (V.i (sigE y)), pv (9 : Nat) (V.i (sigE y))] (by kernel_rfl) (by kernel_rfl) ⟨(by omega), True.intro⟩ ?_
    refine aops_nil ?_
    refine xt_n ?_
    refine hK _ ?_
    clear hK K
    refine aw_seq_k fun K hK => ?_
    refine w_region (n' := 4) (by kernel_rfl) (by kernel_rfl) ?_
    refine aops_n hTT (M := []) (n := 2) [pv (26 : Nat) (V.i (sigE y)), pv (27 : Nat) (V.b !decide (sigE y = (0 : Int)))] (by kernel_rfl) (by kernel_rfl) True.intro ?_
    refine aops_nil ?_
    refine xt_n ?_
    refine hK _ ?_
    clear hK K
    refine w_cond (t := !decide (sigE y = (0 : Int))) (by kernel_rfl) (fun c2 => ?_) (fun c2 => ?_)
    · simp at c2
      refine aw_seq_k fun K hK => ?_
      refine w_region (n' := 5) (by kernel_rfl) (by kernel_rfl) ?_
      refine aops_n hTT (M := []) (n := 3) [pv (28 : Nat) (V.i (sigE y)), pv (6 : Nat) (V.i (0 : Int)), pv (7 : Nat) (V.i (sigE y))] (by kernel_rfl) (by kernel_rfl) True.intro ?_
      refine aops_nil ?_
      refine xt_n ?_
      refine hK _ ?_
      clear hK K
      refine aw_ret ?_
      refine xb_r ?_
      refine xt_r ?_
      refine xt_r ?_
      refine xb_r ?_
      refine xt_r ?_
      rw [mt_3 (hj 0 (by omega)) (hj 1 (by omega)) c2]
      refine ret_pure (v' := V.tup [V.i (0 : Int), V.i (sigE y)]) (.inr rfl) (by kernel_rfl) (by kernel_rfl) (by kernel_rfl)
    · simp at c2
      refine aw_skip ?_
      refine xb_n ?_
      refine xt_n ?_
      refine hK _ ?_
      clear hK K
      refine w_region (n' := 5) (by kernel_rfl) (by kernel_rfl) ?_
      refine aops_n hTT (M := []) (n := 2) [pc (29 : Nat) ((-9223372036854775808 : Int) ≤ (↑(2 : Nat) : Int) + (1 : Int) ∧ (↑(2 : Nat) : Int) + (1 : Int) ≤ (9223372036854775807 : Int)) (V.i ((↑(2 : Nat) : Int) + (1 : Int))), pv (22 : Nat) (V.i ((↑(2 : Nat) : Int) + (1 : Int)))] (by kernel_rfl) (by kernel_rfl) ⟨(by omega), True.intro⟩ ?_
      refine aops_nil ?_
      refine xt_n ?_
      refine ⟨3, ⟨by omega, fun j hjk => ?_⟩, by refine le_ren [] (.cons (by kernel_rfl) (.cons (by kernel_rfl) (.cons (by kernel_rfl) (.cons (by kernel_rfl) (.cons (by kernel_rfl) (.cons (by kernel_rfl) .nil)))))) .nil (by kernel_rfl) (by kernel_rfl), by omega⟩
      by_cases h : j < 2
      · exact hj j h
      · obtain rfl : j = 2 := by omega
        exact c2
  have d1 : chE l = 0 := hj 0 (by omega)
  have d2 : sigE x = 0 := hj 1 (by omega)
  have d3 : sigE y = 0 := hj 2 (by omega)
  have g8 := (chE_ok.1 d1).1
  refine aw_seq_k fun K hK => ?_
  refine w_region (n' := 2) (by kernel_rfl) (by kernel_rfl) ?_
  refine aops_n hTT (M := []) (n := 1) [pv (23 : Nat) (V.b false)] (by kernel_rfl) (by kernel_rfl) True.intro ?_
  refine aops_nil ?_
  refine xt_n ?_
  refine hK _ ?_
  clear hK K
  refine aw_seq_k fun K hK => ?_
  refine w_false (t := false) (by kernel_rfl) rfl ?_
  refine aw_exit ?_
  refine xt_x ?_
  refine xt_x ?_
  refine xb_same ?_
  refine xt_n ?_
  clear hK K
  refine hK _ ?_
  clear hK K
  refine aw_seq_k fun K hK => ?_
  refine aw_seq_k fun K hK => ?_
  refine w_region (n' := 3) (by kernel_rfl) (by kernel_rfl) ?_
  refine aops_n hTT (M := []) (n := 5) [pv (30 : Nat) (V.sl (1 : Nat) (List.length x) fun (k : Nat) => [V.i (gi x k)]), pv (31 : Nat) (V.i (↑(List.length x) : Int)), pv (32 : Nat) (V.sl (1 : Nat) (List.length y) fun (k : Nat) => [V.i (gi y k)]), pv (33 : Nat) (V.i (↑(List.length y) : Int)), pv (34 : Nat) (V.b !decide ((↑(List.length x) : Int) = (↑(List.length y) : Int)))] (by kernel_rfl) (by kernel_rfl) True.intro ?_
  refine aops_nil ?_
  refine xt_n ?_
  refine hK _ ?_
  clear hK K
  refine w_cond (t := !decide ((↑(List.length x) : Int) = (↑(List.length y) : Int))) (by kernel_rfl) (fun c4 => ?_) (fun c4 => ?_)
  · simp at c4
    refine aw_seq_k fun K hK => ?_
    refine w_region (n' := 4) (by kernel_rfl) (by kernel_rfl) ?_
    refine aops_n hTT (M := []) (n := 2) [pv (6 : Nat) (V.i (0 : Int)), pv (7 : Nat) (V.i (17 : Int))] (by kernel_rfl) (by kernel_rfl) True.intro ?_
    refine aops_nil ?_
    refine xt_n ?_
    refine hK _ ?_
    clear hK K
    refine aw_ret ?_
    refine xt_r ?_
    rw [mt_4 d1 d2 d3 (by omega)]
    refine ret_pure (v' := V.tup [V.i (0 : Int), V.i (17 : Int)]) (.inr rfl) (by kernel_rfl) (by kernel_rfl) (by kernel_rfl)
  simp at c4
  refine aw_skip ?_
  refine xt_n ?_
  refine hK _ ?_
  clear hK K
  refine aw_seq_k fun K hK => ?_
  refine aw_seq_k fun K hK => ?_
  refine w_region (n' := 4) (by kernel_rfl) (by kernel_rfl) ?_
  refine aops_n hTT (M := []) (n := 3) [pv (35 : Nat) (V.sl (3 : Nat) (List.length l) fun (k : Nat) => [V.ints (Cv.feed (gc l k)), V.ints (Cv.back (gc l k)), V.i (Cv.share (gc l k))]), pv (36 : Nat) (V.i (↑(List.length l) : Int)), pv (37 : Nat) (V.i (0 : Int))] (by kernel_rfl) (by kernel_rfl) True.intro ?_
  refine aops_nil ?_
  refine xt_n ?_
  refine hK _ ?_
  clear hK K
  refine aw_block ?_
  refine w_loop (ι := Nat) (fun k => [(1, V.ints x), (2, V.ints y), (35, V.cvs l), (36, .i l.length), (37, .i k)]) (fun _ => []) (fun k => k ≤ l.length ∧ ∀ j, j < k → mtB l x y j = false) (fun k => l.length - k) 0 ⟨Nat.zero_le _, fun j hj => by omega⟩ ?_ ?_
  · refine le_ren [] (.cons (by kernel_rfl) (.cons (by kernel_rfl) (.cons (by kernel_rfl) (.cons (by kernel_rfl) (.cons (by kernel_rfl) .nil))))) .nil (by kernel_rfl) (by kernel_rfl)
  rintro i ⟨hi, hji⟩
  refine aw_seq_k fun K hK => ?_
  refine w_region (n' := 2) (by kernel_rfl) (by kernel_rfl) ?_
  refine aops_n hTT (M := []) (n := 1) [pv (38 : Nat) (V.b (decide ((↑i : Int) < (↑(List.length l) : Int))))] (by kernel_rfl) (by kernel_rfl) True.intro ?_
  refine aops_nil ?_
  refine xt_n ?_
  refine hK _ ?_
  clear hK K
  refine aw_seq_k fun K hK => ?_
  refine w_cond (t := decide ((↑i : Int) < (↑(List.length l) : Int))) (by kernel_rfl) (fun c5 => ?_) (fun c5 => ?_)
  · simp at c5
    refine aw_skip ?_
    refine xt_n ?_
    refine hK _ ?_
    clear hK K
    refine aw_seq_k fun K hK => ?_
    refine aw_block ?_
    refine aw_seq_k fun K hK => ?_
    refine w_region (n' := 3) (by kernel_rfl) (by kernel_rfl) ?_
    refine aops_n hTT (M := []) (n := 6) [pv (39 : Nat) (V.i (↑i : Int)), pc (40 : Nat) ((0 : Int) ≤ (↑i : Int) ∧ (↑i : Int) < (↑(List.length l) : Int)) (V.ptr [V.sl (1 : Nat) (List.length (Cv.feed (gc l i))) fun (k : Nat) => [V.i (gi (Cv.feed (gc l i)) k)], V.sl (1 : Nat) (List.length (Cv.back (gc l i))) fun (k : Nat) => [V.i (gi (Cv.back (gc l i)) k)], V.i (Cv.share (gc l i))]), pv (41 : Nat) (V.agg [V.sl (1 : Nat) (List.length (Cv.feed (gc l i))) fun (k : Nat) => [V.i (gi (Cv.feed (gc l i)) k)], V.sl (1 : Nat) (List.length (Cv.back (gc l i))) fun (k : Nat) => [V.i (gi (Cv.back (gc l i)) k)], V.i (Cv.share (gc l i))]), pn (11 : Nat) (V.ref (200011 : Nat) (0 : Nat)) (200011 : Nat) (Ob.box (24 : Nat) [V.nil, V.nil, V.i (0 : Int)]), pv (10 : Nat) (V.i (↑i : Int)), pw ((0 : Nat) + (3 : Nat) ≤ (3 : Nat)) (200011 : Nat) (Ob.box (24 : Nat) [V.sl (1 : Nat) (List.length (Cv.feed (gc l i))) fun (k : Nat) => [V.i (gi (Cv.feed (gc l i)) k)], V.sl (1 : Nat) (List.length (Cv.back (gc l i))) fun (k : Nat) => [V.i (gi (Cv.back (gc l i)) k)], V.i (Cv.share (gc l i))])] (by kernel_rfl) (by kernel_rfl) ⟨(by omega), (by omega), True.intro⟩ ?_
    refine aops_nil ?_
    refine xt_n ?_
    refine hK _ ?_
    clear hK K
    refine aw_seq_k fun K hK => ?_
    refine w_region (n' := 4) (by kernel_rfl) (by kernel_rfl) ?_
    refine aops_n hTT (M := []) (n := 2) [pc (43 : Nat) ((0 : Nat) ≤ (3 : Nat)) (V.agg [V.sl (1 : Nat) (List.length (Cv.feed (gc l i))) fun (k : Nat) => [V.i (gi (Cv.feed (gc l i)) k)], V.sl (1 : Nat) (List.length (Cv.back (gc l i))) fun (k : Nat) => [V.i (gi (Cv.back (gc l i)) k)], V.i (Cv.share (gc l i))]), pv (44 : Nat) (V.sl (1 : Nat) (List.length x) fun (k : Nat) => [V.i (gi x k)])] (by kernel_rfl) (by kernel_rfl) ⟨(by omega), True.intro⟩ ?_
    refine e_call (first := []) (caps := []) (Apply_ac (gc l i) x (hl.2 i c5) hx) (by kernel_rfl) (by kernel_rfl) (by kernel_rfl) (by kernel_rfl) (by kernel_rfl) ?_
    refine aops_n hTT (M := []) (n := 5) [pv (42 : Nat) (V.tup [V.sl (1 : Nat) (List.length (Prod.snd (apR (gc l i) false x))) fun (k : Nat) => [V.i (gi (Prod.snd (apR (gc l i) false x)) k)], V.i (Prod.fst (apR (gc l i) false x))]), pv (46 : Nat) (V.sl (1 : Nat) (List.length (Prod.snd (apR (gc l i) false x))) fun (k : Nat) => [V.i (gi (Prod.snd (apR (gc l i) false x)) k)]), pv (47 : Nat) (V.i (Prod.fst (apR (gc l i) false x))), pv (12 : Nat) (V.sl (1 : Nat) (List.length (Prod.snd (apR (gc l i) false x))) fun (k : Nat) => [V.i (gi (Prod.snd (apR (gc l i) false x)) k)]), pv (13 : Nat) (V.i (Prod.fst (apR (gc l i) false x)))] (by kernel_rfl) (by kernel_rfl) True.intro ?_
    refine aops_nil ?_
    refine xt_n ?_
    refine hK _ ?_
    clear hK K
    refine aw_seq_k fun K hK => ?_
    refine w_region (n' := 5) (by kernel_rfl) (by kernel_rfl) ?_
    refine aops_n hTT (M := []) (n := 5) [pv (48 : Nat) (V.i (Prod.fst (apR (gc l i) false x))), pv (49 : Nat) (V.b (decide (Prod.fst (apR (gc l i) false x) = (0 : Int)))), pv (50 : Nat) (V.b (decide (Prod.fst (apR (gc l i) false x) = (0 : Int)))), pc (51 : Nat) ((True ∧ True) ∧ ((decide (Prod.fst (apR (gc l i) false x) = (0 : Int)) == true) = true → True)) (V.gd (decide (Prod.fst (apR (gc l i) false x) = (0 : Int)) == true) (V.sl (1 : Nat) (List.length (Prod.snd (apR (gc l i) false x))) fun (k : Nat) => [V.i (gi (Prod.snd (apR (gc l i) false x)) k)])), pc (52 : Nat) ((True ∧ True) ∧ ((decide (Prod.fst (apR (gc l i) false x) = (0 : Int)) == true) = true → True)) (V.gd (decide (Prod.fst (apR (gc l i) false x) = (0 : Int)) == true) (V.sl (1 : Nat) (List.length y) fun (k : Nat) => [V.i (gi y k)]))] (by kernel_rfl) (by kernel_rfl) ⟨⟨⟨True.intro, True.intro⟩, (fun _ => True.intro)⟩, ⟨⟨True.intro, True.intro⟩, (fun _ => True.intro)⟩, True.intro⟩ ?_
    refine e_callG 2 (g := decide (Prod.fst (apR (gc l i) false x) = (0 : Int)) == true) (first := []) (caps := []) (by kernel_rfl) (fun h => Equal_ac (apR (gc l i) false x).2 y ap_big hy) (by kernel_rfl) (by kernel_rfl) (by kernel_rfl) (by kernel_rfl) (by kernel_rfl) (by kernel_rfl) ?_
    refine aops_n hTT (M := []) (n := 1) [pc (54 : Nat) ((decide (Prod.fst (apR (gc l i) false x) = (0 : Int)) = true → (decide (Prod.fst (apR (gc l i) false x) = (0 : Int)) == true) = true) ∧ True) (V.b (decide (Prod.fst (apR (gc l i) false x) = (0 : Int)) && decide (Prod.snd (apR (gc l i) false x) = y)))] (by kernel_rfl) (by kernel_rfl) ⟨⟨(by (intro h; rw [h]; rfl)), True.intro⟩, True.intro⟩ ?_
    refine aops_nil ?_
    refine xt_n ?_
    refine hK _ ?_
    clear hK K
    refine w_cond (t := decide (Prod.fst (apR (gc l i) false x) = (0 : Int)) && decide (Prod.snd (apR (gc l i) false x) = y)) (by kernel_rfl) (fun c6 => ?_) (fun c6 => ?_)
    · have hm : mtB l x y i = true := by unfold mtB; simpa using c6
      refine aw_seq_k fun K hK => ?_
      refine w_region (n' := 6) (by kernel_rfl) (by kernel_rfl) ?_
      refine aops_n hTT (M := []) (n := 3) [pv (55 : Nat) (V.i (↑i : Int)), pv (6 : Nat) (V.i (↑i : Int)), pv (7 : Nat) (V.i (0 : Int))] (by kernel_rfl) (by kernel_rfl) True.intro ?_
      refine aops_nil ?_
      refine xt_n ?_
      refine hK _ ?_
      clear hK K
      refine aw_ret ?_
      refine xb_r ?_
      refine xt_r ?_
      refine xt_r ?_
      refine xb_r ?_
      refine xt_r ?_
      rw [mt_5 d1 d2 d3 (by omega) c5 hm hji]
      refine ret_pure (v' := V.tup [V.i (↑i : Int), V.i (0 : Int)]) (.inr rfl) (by kernel_rfl) (by kernel_rfl) (by kernel_rfl)
    · have hm : mtB l x y i = false := by unfold mtB; simpa using c6
      refine aw_skip ?_
      refine xb_n ?_
      refine xt_n ?_
      refine hK _ ?_
      clear hK K
      refine w_region (n' := 6) (by kernel_rfl) (by kernel_rfl) ?_
      refine aops_n hTT (M := []) (n := 2) [pc (56 : Nat) ((-9223372036854775808 : Int) ≤ (↑i : Int) + (1 : Int) ∧ (↑i : Int) + (1 : Int) ≤ (9223372036854775807 : Int)) (V.i ((↑i : Int) + (1 : Int))), pv (37 : Nat) (V.i ((↑i : Int) + (1 : Int)))] (by kernel_rfl) (by kernel_rfl) ⟨(by omega), True.intro⟩ ?_
      refine aops_nil ?_
      refine xt_n ?_
      refine ⟨i + 1, ⟨by omega, fun j hjk => ?_⟩, by refine le_ren [] (.cons (by kernel_rfl) (.cons (by kernel_rfl) (.cons (by kernel_rfl) (.cons (by kernel_rfl) (.cons (by kernel_rfl) .nil))))) .nil (by kernel_rfl) (by kernel_rfl), by omega⟩
      by_cases h : j < i
      · exact hji j h
      · obtain rfl : j = i := by omega
        exact hm
  · simp at c5
    refine aw_exit ?_
    refine xt_x ?_
    refine xt_x ?_
    refine xb_same ?_
    refine xt_n ?_
    clear hK K
    refine hK _ ?_
    clear hK K
    refine aw_seq_k fun K hK => ?_
    refine w_region (n' := 3) (by kernel_rfl) (by kernel_rfl) ?_
    refine aops_n hTT (M := []) (n := 2) [pv (6 : Nat) (V.i (0 : Int)), pv (7 : Nat) (V.i (5 : Int))] (by kernel_rfl) (by kernel_rfl) True.intro ?_
    refine aops_nil ?_
    refine xt_n ?_
    refine hK _ ?_
    clear hK K
    refine aw_ret ?_
    rw [mt_6 d1 d2 d3 (by omega) fun j h => hji j (by omega)]
    refine ret_pure (v' := V.tup [V.i (0 : Int), V.i (5 : Int)]) (.inr rfl) (by kernel_rfl) (by kernel_rfl) (by kernel_rfl)
end Go.Proofs.Ytblipieipldanaa
