/-
  What can be heard: the walk of the reference. No condition.
-/
import Derived.Test.YtlfaaddoemcokaaPAb10
namespace Go.Proofs.Ytlfaaddoemcokaa
open Go.Ab Go.RowKit Go.Dw Go.Shelf

set_option maxRecDepth 100000 in
theorem refHear_ac (s t : List Int) (l : List Pt) (wow : Int) (hs' : s.length ≤ 4611686018427387904) (ht : t.length ≤ 4611686018427387904) (hl : l.length ≤ 4611686018427387904) :
    AC Try.prog 51 [.agg [V.ints s], .agg [V.ints t], V.pts l, .i wow] (hearV s t l wow) [] := by
  refine ac_intro hTT hMX (fn := Try.f51) (N := _) ⟨Try.func51, rfl, Try.ntmps51, by kernel_rfl⟩ (by simp) fun C hC hF => ?_
  refine aw_seq_k fun K hK => ?_
  refine w_region (n' := 2) (by kernel_rfl) (by kernel_rfl) ?_
  refine aops_n hTT (M := []) (n := 4) [pv (4 : Nat) (V.ptr [V.sl (1 : Nat) (List.length s) fun (k : Nat) => [V.i (gi s k)]]), pv (5 : Nat) (V.ptr [V.sl (1 : Nat) (List.length t) fun (k : Nat) => [V.i (gi t k)]]), pv (8 : Nat) V.nil, pv (9 : Nat) (V.i (0 : Int))] (by kernel_rfl) (by kernel_rfl) True.intro ?_
  refine aops_nil ?_
  refine xt_n ?_
  refine hK _ ?_
  clear hK K
  refine aw_seq_k fun K hK => ?_
  refine w_region (n' := 3) (by kernel_rfl) (by kernel_rfl) ?_
  refine aops_n hTT (M := []) (n := 1) [pv (17 : Nat) (V.agg [V.sl (1 : Nat) (List.length s) fun (k : Nat) => [V.i (gi s k)]])] (by kernel_rfl) (by kernel_rfl) True.intro ?_
  refine e_call (first := []) (caps := []) (refCheckTip_ac s hs') (by kernel_rfl) (by kernel_rfl) (by kernel_rfl) (by kernel_rfl) (by kernel_rfl) ?_
  refine aops_n hTT (M := []) (n := 1) [pv (10 : Nat) (V.i (checkTip s))] (by kernel_rfl) (by kernel_rfl) True.intro ?_
  refine aops_nil ?_
  refine xt_n ?_
  refine hK _ ?_
  clear hK K
  refine aw_seq_k fun K hK => ?_
  refine aw_seq_k fun K hK => ?_
  refine w_region (n' := 4) (by kernel_rfl) (by kernel_rfl) ?_
  refine aops_n hTT (M := []) (n := 2) [pv (19 : Nat) (V.i (checkTip s)), pv (20 : Nat) (V.b !decide (checkTip s = (0 : Int)))] (by kernel_rfl) (by kernel_rfl) True.intro ?_
  refine aops_nil ?_
  refine xt_n ?_
  refine hK _ ?_
  clear hK K
  refine w_cond (t := !decide (checkTip s = (0 : Int))) (by kernel_rfl) (fun h1 => ?_) (fun h1 => ?_)
  · simp at h1
    refine aw_seq_k fun K hK => ?_
    refine w_region (n' := 5) (by kernel_rfl) (by kernel_rfl) ?_
    refine aops_n hTT (M := []) (n := 3) [pv (21 : Nat) (V.i (checkTip s)), pv (8 : Nat) V.nil, pv (9 : Nat) (V.i (checkTip s))] (by kernel_rfl) (by kernel_rfl) True.intro ?_
    refine aops_nil ?_
    refine xt_n ?_
    refine hK _ ?_
    clear hK K
    refine aw_ret ?_
    refine xt_r ?_
    refine ret_of_le (le_nil 8 (sz := 4) (hearNn s t l wow) (fun k => vhd (hearAt (readP s l) (readP t l) l.length (wow.toNat + 1) k)) (by kernel_rfl) ?_) ?_
    · exact hearNn_no (by rw [hearE_1 h1]; exact h1)
    refine ret_pure (v' := V.tup [V.sl (4 : Nat) (hearNn s t l wow) fun (k : Nat) => vhd (hearAt (readP s l) (readP t l) (List.length l) (Int.toNat wow + (1 : Nat)) k), V.i (checkTip s)]) (.inr rfl) (by kernel_rfl) ?_ (by kernel_rfl)
    rw [hearV, hearE_1 h1]
  simp at h1
  refine aw_skip ?_
  refine xt_n ?_
  refine hK _ ?_
  clear hK K
  refine aw_seq_k fun K hK => ?_
  refine w_region (n' := 5) (by kernel_rfl) (by kernel_rfl) ?_
  refine aops_n hTT (M := []) (n := 2) [pv (22 : Nat) (V.agg [V.sl (1 : Nat) (List.length t) fun (k : Nat) => [V.i (gi t k)]]), pv (23 : Nat) (V.sl (2 : Nat) (List.length l) fun (k : Nat) => [V.i (Prod.fst (gp l k)), V.i (Prod.snd (gp l k))])] (by kernel_rfl) (by kernel_rfl) True.intro ?_
  refine e_call (first := []) (caps := []) (both_ac t l ht hl) (by kernel_rfl) (by kernel_rfl) (by kernel_rfl) (by kernel_rfl) (by kernel_rfl) ?_
  refine aops_n hTT (M := []) (n := 1) [pv (10 : Nat) (V.i (checkBoth t l))] (by kernel_rfl) (by kernel_rfl) True.intro ?_
  refine aops_nil ?_
  refine xt_n ?_
  refine hK _ ?_
  clear hK K
  refine aw_seq_k fun K hK => ?_
  refine aw_seq_k fun K hK => ?_
  refine w_region (n' := 6) (by kernel_rfl) (by kernel_rfl) ?_
  refine aops_n hTT (M := []) (n := 2) [pv (25 : Nat) (V.i (checkBoth t l)), pv (26 : Nat) (V.b !decide (checkBoth t l = (0 : Int)))] (by kernel_rfl) (by kernel_rfl) True.intro ?_
  refine aops_nil ?_
  refine xt_n ?_
  refine hK _ ?_
  clear hK K
  refine w_cond (t := !decide (checkBoth t l = (0 : Int))) (by kernel_rfl) (fun h2 => ?_) (fun h2 => ?_)
  · simp at h2
    refine aw_seq_k fun K hK => ?_
    refine w_region (n' := 7) (by kernel_rfl) (by kernel_rfl) ?_
    refine aops_n hTT (M := []) (n := 3) [pv (27 : Nat) (V.i (checkBoth t l)), pv (8 : Nat) V.nil, pv (9 : Nat) (V.i (checkBoth t l))] (by kernel_rfl) (by kernel_rfl) True.intro ?_
    refine aops_nil ?_
    refine xt_n ?_
    refine hK _ ?_
    clear hK K
    refine aw_ret ?_
    refine xt_r ?_
    refine ret_of_le (le_nil 8 (sz := 4) (hearNn s t l wow) (fun k => vhd (hearAt (readP s l) (readP t l) l.length (wow.toNat + 1) k)) (by kernel_rfl) ?_) ?_
    · exact hearNn_no (by rw [hearE_2 h1 h2]; exact h2)
    refine ret_pure (v' := V.tup [V.sl (4 : Nat) (hearNn s t l wow) fun (k : Nat) => vhd (hearAt (readP s l) (readP t l) (List.length l) (Int.toNat wow + (1 : Nat)) k), V.i (checkBoth t l)]) (.inr rfl) (by kernel_rfl) ?_ (by kernel_rfl)
    rw [hearV, hearE_2 h1 h2]
  simp at h2
  refine aw_skip ?_
  refine xt_n ?_
  refine hK _ ?_
  clear hK K
  refine aw_seq_k fun K hK => ?_
  refine aw_seq_k fun K hK => ?_
  refine w_region (n' := 7) (by kernel_rfl) (by kernel_rfl) ?_
  refine aops_n hTT (M := []) (n := 2) [pv (28 : Nat) (V.agg [V.sl (1 : Nat) (List.length s) fun (k : Nat) => [V.i (gi s k)]]), pv (29 : Nat) (V.agg [V.sl (1 : Nat) (List.length t) fun (k : Nat) => [V.i (gi t k)]])] (by kernel_rfl) (by kernel_rfl) True.intro ?_
  obtain ⟨k1, k2⟩ := checkBoth_ok h2
  obtain ⟨_, m2, _, _, m3⟩ := checkTip_ok k1
  obtain ⟨_, q2, _, _, q3⟩ := checkTip_ok h1
  obtain ⟨m4, m5⟩ := checkPts_ok k2
  refine e_call (first := []) (caps := []) (refBlunter_ac s t q2 m2) (by kernel_rfl) (by kernel_rfl) (by kernel_rfl) (by kernel_rfl) (by kernel_rfl) ?_
  refine aops_n hTT (M := []) (n := 1) [pv (31 : Nat) (V.b !bluntB s t)] (by kernel_rfl) (by kernel_rfl) True.intro ?_
  refine aops_nil ?_
  refine xt_n ?_
  refine hK _ ?_
  clear hK K
  refine w_cond (t := !bluntB s t) (by kernel_rfl) (fun h3 => ?_) (fun h3 => ?_)
  · simp at h3
    refine aw_seq_k fun K hK => ?_
    refine w_region (n' := 8) (by kernel_rfl) (by kernel_rfl) ?_
    refine aops_n hTT (M := []) (n := 2) [pv (8 : Nat) V.nil, pv (9 : Nat) (V.i (20 : Int))] (by kernel_rfl) (by kernel_rfl) True.intro ?_
    refine aops_nil ?_
    refine xt_n ?_
    refine hK _ ?_
    clear hK K
    refine aw_ret ?_
    refine xt_r ?_
    refine ret_of_le (le_nil 8 (sz := 4) (hearNn s t l wow) (fun k => vhd (hearAt (readP s l) (readP t l) l.length (wow.toNat + 1) k)) (by kernel_rfl) ?_) ?_
    · exact hearNn_no (by rw [hearE_3 h1 h2 h3]; decide)
    refine ret_pure (v' := V.tup [V.sl (4 : Nat) (hearNn s t l wow) fun (k : Nat) => vhd (hearAt (readP s l) (readP t l) (List.length l) (Int.toNat wow + (1 : Nat)) k), V.i (20 : Int)]) (.inr rfl) (by kernel_rfl) ?_ (by kernel_rfl)
    rw [hearV, hearE_3 h1 h2 h3]
  simp at h3
  refine aw_skip ?_
  refine xt_n ?_
  refine hK _ ?_
  clear hK K
  refine aw_seq_k fun K hK => ?_
  refine aw_seq_k fun K hK => ?_
  refine w_region (n' := 8) (by kernel_rfl) (by kernel_rfl) ?_
  refine aops_n hTT (M := []) (n := 6) [pv (32 : Nat) (V.i wow), pv (33 : Nat) (V.b (decide (wow < (0 : Int)))), pv (34 : Nat) (V.b (decide (wow < (0 : Int)))), pc (35 : Nat) ((True ∧ True) ∧ ((decide (wow < (0 : Int)) == false) = true → True)) (V.gd (decide (wow < (0 : Int)) == false) (V.i wow)), pc (36 : Nat) ((((decide (wow < (0 : Int)) == false) = true → (decide (wow < (0 : Int)) == false) = true) ∧ True ∧ True) ∧ ((decide (wow < (0 : Int)) == false) = true → True)) (V.gd (decide (wow < (0 : Int)) == false) (V.b (decide ((256 : Int) < wow)))), pc (37 : Nat) (True ∧ (decide (wow < (0 : Int)) = false → (decide (wow < (0 : Int)) == false) = true)) (V.b (decide (wow < (0 : Int)) || decide ((256 : Int) < wow)))] (by kernel_rfl) (by kernel_rfl) ⟨⟨⟨True.intro, True.intro⟩, (fun _ => True.intro)⟩, ⟨⟨(by (exact fun h => h)), ⟨True.intro, True.intro⟩⟩, (fun _ => True.intro)⟩, ⟨True.intro, (by (intro h; rw [h]; rfl))⟩, True.intro⟩ ?_
  refine aops_nil ?_
  refine xt_n ?_
  refine hK _ ?_
  clear hK K
  refine w_cond (t := decide (wow < (0 : Int)) || decide ((256 : Int) < wow)) (by kernel_rfl) (fun h4 => ?_) (fun h4 => ?_)
  · refine aw_seq_k fun K hK => ?_
    refine w_region (n' := 9) (by kernel_rfl) (by kernel_rfl) ?_
    refine aops_n hTT (M := []) (n := 2) [pv (8 : Nat) V.nil, pv (9 : Nat) (V.i (3 : Int))] (by kernel_rfl) (by kernel_rfl) True.intro ?_
    refine aops_nil ?_
    refine xt_n ?_
    refine hK _ ?_
    clear hK K
    refine aw_ret ?_
    refine xt_r ?_
    refine ret_of_le (le_nil 8 (sz := 4) (hearNn s t l wow) (fun k => vhd (hearAt (readP s l) (readP t l) l.length (wow.toNat + 1) k)) (by kernel_rfl) ?_) ?_
    · exact hearNn_no (by rw [hearE_4 h1 h2 h3 h4]; decide)
    refine ret_pure (v' := V.tup [V.sl (4 : Nat) (hearNn s t l wow) fun (k : Nat) => vhd (hearAt (readP s l) (readP t l) (List.length l) (Int.toNat wow + (1 : Nat)) k), V.i (3 : Int)]) (.inr rfl) (by kernel_rfl) ?_ (by kernel_rfl)
    rw [hearV, hearE_4 h1 h2 h3 h4]
  simp at h4
  refine aw_skip ?_
  refine xt_n ?_
  refine hK _ ?_
  clear hK K
  refine aw_seq_k fun K hK => ?_
  refine w_regionD (n' := 9) (by kernel_rfl) (by kernel_rfl) ?_
  refine aops_n hTT (M := []) (n := 2) [pv (38 : Nat) (V.agg [V.sl (1 : Nat) (List.length s) fun (k : Nat) => [V.i (gi s k)]]), pv (39 : Nat) (V.sl (2 : Nat) (List.length l) fun (k : Nat) => [V.i (Prod.fst (gp l k)), V.i (Prod.snd (gp l k))])] (by kernel_rfl) (by kernel_rfl) True.intro ?_
  refine e_call (first := []) (caps := []) (refread_ac s l (checkBoth_of h1 k2)) (by kernel_rfl) (by kernel_rfl) (by kernel_rfl) (by kernel_rfl) (by kernel_rfl) ?_
  refine aops_n hTT (M := []) (n := 2) [pv (41 : Nat) (V.agg [V.sl (1 : Nat) (List.length t) fun (k : Nat) => [V.i (gi t k)]]), pv (42 : Nat) (V.sl (2 : Nat) (List.length l) fun (k : Nat) => [V.i (Prod.fst (gp l k)), V.i (Prod.snd (gp l k))])] (by kernel_rfl) (by kernel_rfl) True.intro ?_
  refine e_call (first := []) (caps := []) (refread_ac t l h2) (by kernel_rfl) (by kernel_rfl) (by kernel_rfl) (by kernel_rfl) (by kernel_rfl) ?_
  refine aops_n hTT (M := []) (n := 2) [pv (11 : Nat) (V.sl (2 : Nat) (List.length (readP s l)) fun (k : Nat) => [V.i (Prod.fst (gp (readP s l) k)), V.i (Prod.snd (gp (readP s l) k))]), pv (12 : Nat) (V.sl (2 : Nat) (List.length (readP t l)) fun (k : Nat) => [V.i (Prod.fst (gp (readP t l) k)), V.i (Prod.snd (gp (readP t l) k))])] (by kernel_rfl) (by kernel_rfl) True.intro ?_
  refine aops_nil ⟨by kernel_rfl, ?_⟩
  refine xt_n ?_
  refine hK _ ?_
  clear hK K
  refine aw_seq_k fun K hK => ?_
  refine w_region (n' := 10) (by kernel_rfl) (by kernel_rfl) ?_
  refine aops_n hTT (M := []) (n := 1) [pv (13 : Nat) V.nil] (by kernel_rfl) (by kernel_rfl) True.intro ?_
  refine aops_nil ?_
  refine xt_n ?_
  refine hK _ ?_
  clear hK K
  refine aw_seq_k fun K hK => ?_
  refine aw_seq_k fun K hK => ?_
  refine w_region (n' := 11) (by kernel_rfl) (by kernel_rfl) ?_
  refine aops_n hTT (M := []) (n := 1) [pv (14 : Nat) (V.i (0 : Int))] (by kernel_rfl) (by kernel_rfl) True.intro ?_
  refine aops_nil ?_
  refine xt_n ?_
  refine hK _ ?_
  clear hK K
  refine aw_block ?_
  obtain ⟨wn, rfl⟩ : ∃ n : Nat, wow = (n : Int) := ⟨wow.toNat, by omega⟩
  obtain ⟨a, ha⟩ : ∃ a, a = readP s l := ⟨_, rfl⟩
  obtain ⟨b, hb⟩ : ∃ b, b = readP t l := ⟨_, rfl⟩
  have la : a.length = l.length := by rw [ha]; exact readP_length _ _
  have lb : b.length = l.length := by rw [hb]; exact readP_length _ _
  rw [← ha, ← hb]
  refine w_le (le_open 13 72 4 (fun k => vhd (hearAt a b l.length (wn + 1) k)) (by kernel_rfl) rfl) ?_
  refine w_loop (fun k : Nat => [(2, V.pts l), (3, .i wn), (11, V.pts a), (12, V.pts b), (13, .own 13), (14, .i k)]) (fun k => [(13, .row 72 4 k fun k => vhd (hearAt a b l.length (wn + 1) k))])
    (fun k => k ≤ l.length) (fun k => l.length - k) 0 (Nat.zero_le _) ?_ ?_
  · refine le_ren [(13, 1100013)] (.cons (by kernel_rfl) (.cons (by kernel_rfl) (.cons (by kernel_rfl) (.cons (by kernel_rfl) (.cons (by kernel_rfl) (.cons (by kernel_rfl) .nil)))))) (.cons ⟨Ob.row (72 : Nat) (4 : Nat) (0 : Nat) fun (k : Nat) => vhd (hearAt a b (List.length l) (wn + (1 : Nat)) k), (by kernel_rfl), .row (by kernel_rfl) (fun _ _ => rfl)⟩ .nil) (by kernel_rfl) (by kernel_rfl)
  intro k hk
  refine aw_seq_k fun K hK => ?_
  refine aw_seq_k fun K hK => ?_
  refine w_region (n' := 2) (by kernel_rfl) (by kernel_rfl) ?_
  refine aops_n hTT (M := []) (n := 4) [pv (44 : Nat) (V.i (↑k : Int)), pv (45 : Nat) (V.sl (2 : Nat) (List.length l) fun (k : Nat) => [V.i (Prod.fst (gp l k)), V.i (Prod.snd (gp l k))]), pv (46 : Nat) (V.i (↑(List.length l) : Int)), pv (47 : Nat) (V.b (decide ((↑k : Int) < (↑(List.length l) : Int))))] (by kernel_rfl) (by kernel_rfl) True.intro ?_
  refine aops_nil ?_
  refine xt_n ?_
  refine hK _ ?_
  clear hK K
  refine w_cond (t := decide ((↑k : Int) < (↑(List.length l) : Int))) (by kernel_rfl) (fun hkl => ?_) (fun hkl => ?_)
  · simp at hkl
    have hka : k < a.length := by omega
    have hkb : k < b.length := by omega
    refine aw_skip ?_
    refine xt_n ?_
    refine hK _ ?_
    clear hK K
    refine aw_seq_k fun K hK => ?_
    refine aw_block ?_
    refine aw_seq_k fun K hK => ?_
    refine w_regionD (n' := 3) (by kernel_rfl) (by kernel_rfl) ?_
    refine aops_n hTT (M := []) (n := 25) [pv (50 : Nat) (V.sl (2 : Nat) (List.length b) fun (k : Nat) => [V.i (Prod.fst (gp b k)), V.i (Prod.snd (gp b k))]), pv (51 : Nat) (V.i (↑k : Int)), pc (52 : Nat) ((0 : Int) ≤ (↑k : Int) ∧ (↑k : Int) < (↑(List.length b) : Int)) (V.ptr [V.i (Prod.fst (gp b k)), V.i (Prod.snd (gp b k))]), pv (53 : Nat) (V.ptr [V.i (Prod.fst (gp b k)), V.i (Prod.snd (gp b k))]), pv (54 : Nat) (V.i (Prod.fst (gp b k))), pv (55 : Nat) (V.sl (2 : Nat) (List.length a) fun (k : Nat) => [V.i (Prod.fst (gp a k)), V.i (Prod.snd (gp a k))]), pv (56 : Nat) (V.i (↑k : Int)), pc (57 : Nat) ((0 : Int) ≤ (↑k : Int) ∧ (↑k : Int) < (↑(List.length a) : Int)) (V.ptr [V.i (Prod.fst (gp a k)), V.i (Prod.snd (gp a k))]), pv (58 : Nat) (V.ptr [V.i (Prod.fst (gp a k)), V.i (Prod.snd (gp a k))]), pv (59 : Nat) (V.i (Prod.fst (gp a k))), pv (60 : Nat) (V.agg [V.i (Prod.fst (gp b k)), V.i (Prod.fst (gp a k))]), pv (61 : Nat) (V.sl (2 : Nat) (List.length a) fun (k : Nat) => [V.i (Prod.fst (gp a k)), V.i (Prod.snd (gp a k))]), pv (62 : Nat) (V.i (↑k : Int)), pc (63 : Nat) ((0 : Int) ≤ (↑k : Int) ∧ (↑k : Int) < (↑(List.length a) : Int)) (V.ptr [V.i (Prod.fst (gp a k)), V.i (Prod.snd (gp a k))]), pv (64 : Nat) (V.ptr [V.i (Prod.snd (gp a k))]), pv (65 : Nat) (V.i (Prod.snd (gp a k))), pv (66 : Nat) (V.sl (2 : Nat) (List.length b) fun (k : Nat) => [V.i (Prod.fst (gp b k)), V.i (Prod.snd (gp b k))]), pv (67 : Nat) (V.i (↑k : Int)), pc (68 : Nat) ((0 : Int) ≤ (↑k : Int) ∧ (↑k : Int) < (↑(List.length b) : Int)) (V.ptr [V.i (Prod.fst (gp b k)), V.i (Prod.snd (gp b k))]), pv (69 : Nat) (V.ptr [V.i (Prod.snd (gp b k))]), pv (70 : Nat) (V.i (Prod.snd (gp b k))), pv (71 : Nat) (V.agg [V.i (Prod.snd (gp a k)), V.i (Prod.snd (gp b k))]), pv (72 : Nat) (V.agg [V.i (Prod.fst (gp b k)), V.i (Prod.fst (gp a k)), V.i (Prod.snd (gp a k)), V.i (Prod.snd (gp b k))]), pn (15 : Nat) (V.ref (200015 : Nat) (0 : Nat)) (200015 : Nat) (Ob.box (72 : Nat) [V.i (0 : Int), V.i (0 : Int), V.i (0 : Int), V.i (0 : Int)]), pw ((0 : Nat) + (4 : Nat) ≤ (4 : Nat)) (200015 : Nat) (Ob.box (72 : Nat) [V.i (Prod.fst (gp b k)), V.i (Prod.fst (gp a k)), V.i (Prod.snd (gp a k)), V.i (Prod.snd (gp b k))])] (by kernel_rfl) (by kernel_rfl) ⟨(by omega), (by omega), (by omega), (by omega), (by omega), True.intro⟩ ?_
    refine aops_nil ⟨by kernel_rfl, ?_⟩
    refine xt_n ?_
    refine hK _ ?_
    clear hK K
    refine aw_seq_k fun K hK => ?_
    refine aw_seq_k fun K hK => ?_
    refine w_region (n' := 4) (by kernel_rfl) (by kernel_rfl) ?_
    refine aops_n hTT (M := []) (n := 1) [pv (16 : Nat) (V.i (0 : Int))] (by kernel_rfl) (by kernel_rfl) True.intro ?_
    refine aops_nil ?_
    refine xt_n ?_
    refine hK _ ?_
    clear hK K
    refine aw_block ?_
    refine w_loop (fun u : Nat => [(2, V.pts l), (3, .i wn), (11, V.pts a), (12, V.pts b), (13, .own 13), (14, .i k), (15, .ref 15 0), (16, .i u)])
      (fun u => [(13, .row 72 4 k fun k => vhd (hearAt a b l.length (wn + 1) k)), (15, .box 72 (vhd (hearK a b k (wn + 1) u)))])
      (fun u => u ≤ l.length) (fun u => l.length - u) 0 (Nat.zero_le _) ?_ ?_
    · refine le_ren [(13, 13), (15, 200015)] (.cons (by kernel_rfl) (.cons (by kernel_rfl) (.cons (by kernel_rfl) (.cons (by kernel_rfl) (.cons (by kernel_rfl) (.cons (by kernel_rfl) (.cons (by kernel_rfl) (.cons (by kernel_rfl) .nil)))))))) (.cons ⟨Ob.row (72 : Nat) (4 : Nat) k fun (k : Nat) => vhd (hearAt a b (List.length l) (wn + (1 : Nat)) k), (by kernel_rfl), .row (by kernel_rfl) (fun _ _ => rfl)⟩ (.cons ⟨Ob.box (72 : Nat) [V.i (Prod.fst (gp b k)), V.i (Prod.fst (gp a k)), V.i (Prod.snd (gp a k)), V.i (Prod.snd (gp b k))], (by kernel_rfl), .box (by kernel_rfl)⟩ .nil)) (by kernel_rfl) (by kernel_rfl)
    intro u hu
    refine aw_seq_k fun K hK => ?_
    refine aw_seq_k fun K hK => ?_
    refine w_region (n' := 2) (by kernel_rfl) (by kernel_rfl) ?_
    refine aops_n hTT (M := []) (n := 4) [pv (73 : Nat) (V.i (↑u : Int)), pv (74 : Nat) (V.sl (2 : Nat) (List.length l) fun (k : Nat) => [V.i (Prod.fst (gp l k)), V.i (Prod.snd (gp l k))]), pv (75 : Nat) (V.i (↑(List.length l) : Int)), pv (76 : Nat) (V.b (decide ((↑u : Int) < (↑(List.length l) : Int))))] (by kernel_rfl) (by kernel_rfl) True.intro ?_
    refine aops_nil ?_
    refine xt_n ?_
    refine hK _ ?_
    clear hK K
    refine w_cond (t := decide ((↑u : Int) < (↑(List.length l) : Int))) (by kernel_rfl) (fun hul => ?_) (fun hul => ?_)
    · simp at hul
      have hua : u < a.length := by omega
      have hub : u < b.length := by omega
      refine aw_skip ?_
      refine xt_n ?_
      refine hK _ ?_
      clear hK K
      refine aw_seq_k fun K hK => ?_
      refine aw_block ?_
      refine aw_seq_k fun K hK => ?_
      refine w_region (n' := 3) (by kernel_rfl) (by kernel_rfl) ?_
      refine aops_n hTT (M := []) (n := 9) [pv (79 : Nat) (V.i (↑u : Int)), pv (80 : Nat) (V.i (↑k : Int)), pc (81 : Nat) ((-9223372036854775808 : Int) ≤ (↑u : Int) - (↑k : Int) ∧ (↑u : Int) - (↑k : Int) ≤ (9223372036854775807 : Int)) (V.i ((↑u : Int) - (↑k : Int))), pv (82 : Nat) (V.i (↑k : Int)), pv (83 : Nat) (V.i (↑u : Int)), pc (84 : Nat) ((-9223372036854775808 : Int) ≤ (↑k : Int) - (↑u : Int) ∧ (↑k : Int) - (↑u : Int) ≤ (9223372036854775807 : Int)) (V.i ((↑k : Int) - (↑u : Int))), pv (85 : Nat) (V.i (max ((↑u : Int) - (↑k : Int)) ((↑k : Int) - (↑u : Int)))), pv (86 : Nat) (V.i (↑wn : Int)), pv (87 : Nat) (V.b (decide (max ((↑u : Int) - (↑k : Int)) ((↑k : Int) - (↑u : Int)) ≤ (↑wn : Int))))] (by kernel_rfl) (by kernel_rfl) ⟨(by omega), (by omega), True.intro⟩ ?_
      refine aops_nil ?_
      refine xt_n ?_
      refine hK _ ?_
      clear hK K
      refine w_cond (t := decide (max ((↑u : Int) - (↑k : Int)) ((↑k : Int) - (↑u : Int)) ≤ (↑wn : Int))) (by kernel_rfl) (fun hc => ?_) (fun hc => ?_)
      · have hd : dist u k < wn + 1 := by unfold dist; simp at hc; omega
        refine aw_seq_k fun K hK => ?_
        refine w_regionD (n' := 4) (by kernel_rfl) (by kernel_rfl) ?_
        refine aops_n hTT (M := []) (n := 21) [pv (88 : Nat) (V.ref (15 : Nat) (0 : Nat)), pv (89 : Nat) (V.ref (15 : Nat) (0 : Nat)), pc (90 : Nat) ((0 : Nat) ≤ (4 : Nat)) (V.i (Prod.fst (hearK a b k (wn + (1 : Nat)) u))), pv (91 : Nat) (V.sl (2 : Nat) (List.length b) fun (k : Nat) => [V.i (Prod.fst (gp b k)), V.i (Prod.snd (gp b k))]), pv (92 : Nat) (V.i (↑u : Int)), pc (93 : Nat) ((0 : Int) ≤ (↑u : Int) ∧ (↑u : Int) < (↑(List.length b) : Int)) (V.ptr [V.i (Prod.fst (gp b u)), V.i (Prod.snd (gp b u))]), pv (94 : Nat) (V.ptr [V.i (Prod.fst (gp b u)), V.i (Prod.snd (gp b u))]), pv (95 : Nat) (V.i (Prod.fst (gp b u))), pv (96 : Nat) (V.i (min (Prod.fst (hearK a b k (wn + (1 : Nat)) u)) (Prod.fst (gp b u)))), pv (97 : Nat) (V.ref (15 : Nat) (0 : Nat)), pv (98 : Nat) (V.ref (15 : Nat) (1 : Nat)), pc (99 : Nat) ((1 : Nat) ≤ (4 : Nat)) (V.i (Prod.fst (Prod.snd (hearK a b k (wn + (1 : Nat)) u)))), pv (100 : Nat) (V.sl (2 : Nat) (List.length a) fun (k : Nat) => [V.i (Prod.fst (gp a k)), V.i (Prod.snd (gp a k))]), pv (101 : Nat) (V.i (↑u : Int)), pc (102 : Nat) ((0 : Int) ≤ (↑u : Int) ∧ (↑u : Int) < (↑(List.length a) : Int)) (V.ptr [V.i (Prod.fst (gp a u)), V.i (Prod.snd (gp a u))]), pv (103 : Nat) (V.ptr [V.i (Prod.fst (gp a u)), V.i (Prod.snd (gp a u))]), pv (104 : Nat) (V.i (Prod.fst (gp a u))), pv (105 : Nat) (V.i (max (Prod.fst (Prod.snd (hearK a b k (wn + (1 : Nat)) u))) (Prod.fst (gp a u)))), pv (106 : Nat) (V.agg [V.i (min (Prod.fst (hearK a b k (wn + (1 : Nat)) u)) (Prod.fst (gp b u))), V.i (max (Prod.fst (Prod.snd (hearK a b k (wn + (1 : Nat)) u))) (Prod.fst (gp a u)))]), pv (107 : Nat) (V.ref (15 : Nat) (0 : Nat)), pw ((0 : Nat) + (2 : Nat) ≤ (4 : Nat)) (15 : Nat) (Ob.box (72 : Nat) [V.i (min (Prod.fst (hearK a b k (wn + (1 : Nat)) u)) (Prod.fst (gp b u))), V.i (max (Prod.fst (Prod.snd (hearK a b k (wn + (1 : Nat)) u))) (Prod.fst (gp a u))), V.i (Prod.fst (Prod.snd (Prod.snd (hearK a b k (wn + (1 : Nat)) u)))), V.i (Prod.snd (Prod.snd (Prod.snd (hearK a b k (wn + (1 : Nat)) u))))])] (by kernel_rfl) (by kernel_rfl) ⟨(by omega), (by omega), (by omega), (by omega), (by omega), True.intro⟩ ?_
        refine aops_nil ⟨by kernel_rfl, ?_⟩
        refine xt_n ?_
        refine hK _ ?_
        clear hK K
        refine w_regionD (n' := 5) (by kernel_rfl) (by kernel_rfl) ?_
        refine aops_n hTT (M := []) (n := 21) [pv (108 : Nat) (V.ref (15 : Nat) (2 : Nat)), pv (109 : Nat) (V.ref (15 : Nat) (2 : Nat)), pc (110 : Nat) ((2 : Nat) ≤ (4 : Nat)) (V.i (Prod.fst (Prod.snd (Prod.snd (hearK a b k (wn + (1 : Nat)) u))))), pv (111 : Nat) (V.sl (2 : Nat) (List.length a) fun (k : Nat) => [V.i (Prod.fst (gp a k)), V.i (Prod.snd (gp a k))]), pv (112 : Nat) (V.i (↑u : Int)), pc (113 : Nat) ((0 : Int) ≤ (↑u : Int) ∧ (↑u : Int) < (↑(List.length a) : Int)) (V.ptr [V.i (Prod.fst (gp a u)), V.i (Prod.snd (gp a u))]), pv (114 : Nat) (V.ptr [V.i (Prod.snd (gp a u))]), pv (115 : Nat) (V.i (Prod.snd (gp a u))), pv (116 : Nat) (V.i (min (Prod.fst (Prod.snd (Prod.snd (hearK a b k (wn + (1 : Nat)) u)))) (Prod.snd (gp a u)))), pv (117 : Nat) (V.ref (15 : Nat) (2 : Nat)), pv (118 : Nat) (V.ref (15 : Nat) (3 : Nat)), pc (119 : Nat) ((3 : Nat) ≤ (4 : Nat)) (V.i (Prod.snd (Prod.snd (Prod.snd (hearK a b k (wn + (1 : Nat)) u))))), pv (120 : Nat) (V.sl (2 : Nat) (List.length b) fun (k : Nat) => [V.i (Prod.fst (gp b k)), V.i (Prod.snd (gp b k))]), pv (121 : Nat) (V.i (↑u : Int)), pc (122 : Nat) ((0 : Int) ≤ (↑u : Int) ∧ (↑u : Int) < (↑(List.length b) : Int)) (V.ptr [V.i (Prod.fst (gp b u)), V.i (Prod.snd (gp b u))]), pv (123 : Nat) (V.ptr [V.i (Prod.snd (gp b u))]), pv (124 : Nat) (V.i (Prod.snd (gp b u))), pv (125 : Nat) (V.i (max (Prod.snd (Prod.snd (Prod.snd (hearK a b k (wn + (1 : Nat)) u)))) (Prod.snd (gp b u)))), pv (126 : Nat) (V.agg [V.i (min (Prod.fst (Prod.snd (Prod.snd (hearK a b k (wn + (1 : Nat)) u)))) (Prod.snd (gp a u))), V.i (max (Prod.snd (Prod.snd (Prod.snd (hearK a b k (wn + (1 : Nat)) u)))) (Prod.snd (gp b u)))]), pv (127 : Nat) (V.ref (15 : Nat) (2 : Nat)), pw ((2 : Nat) + (2 : Nat) ≤ (4 : Nat)) (15 : Nat) (Ob.box (72 : Nat) [V.i (min (Prod.fst (hearK a b k (wn + (1 : Nat)) u)) (Prod.fst (gp b u))), V.i (max (Prod.fst (Prod.snd (hearK a b k (wn + (1 : Nat)) u))) (Prod.fst (gp a u))), V.i (min (Prod.fst (Prod.snd (Prod.snd (hearK a b k (wn + (1 : Nat)) u)))) (Prod.snd (gp a u))), V.i (max (Prod.snd (Prod.snd (Prod.snd (hearK a b k (wn + (1 : Nat)) u)))) (Prod.snd (gp b u)))])] (by kernel_rfl) (by kernel_rfl) ⟨(by omega), (by omega), (by omega), (by omega), (by omega), True.intro⟩ ?_
        refine aops_nil ⟨by kernel_rfl, ?_⟩
        refine xb_n ?_
        refine xt_n ?_
        refine hK _ ?_
        clear hK K
        refine w_region (n' := 6) (by kernel_rfl) (by kernel_rfl) ?_
        refine aops_n hTT (M := []) (n := 3) [pv (77 : Nat) (V.i (↑u : Int)), pc (78 : Nat) ((-9223372036854775808 : Int) ≤ (↑u : Int) + (1 : Int) ∧ (↑u : Int) + (1 : Int) ≤ (9223372036854775807 : Int)) (V.i ((↑u : Int) + (1 : Int))), pv (16 : Nat) (V.i ((↑u : Int) + (1 : Int)))] (by kernel_rfl) (by kernel_rfl) ⟨(by omega), True.intro⟩ ?_
        refine aops_nil ?_
        refine xt_n ?_
        refine ⟨u + 1, by omega, ?_, by omega⟩
        refine le_ren [(13, 13), (15, 15)] (.cons (by kernel_rfl) (.cons (by kernel_rfl) (.cons (by kernel_rfl) (.cons (by kernel_rfl) (.cons (by kernel_rfl) (.cons (by kernel_rfl) (.cons (by kernel_rfl) (.cons (by kernel_rfl) .nil)))))))) (.cons ⟨Ob.row (72 : Nat) (4 : Nat) k fun (k : Nat) => vhd (hearAt a b (List.length l) (wn + (1 : Nat)) k), (by kernel_rfl), .row (by kernel_rfl) (fun _ _ => rfl)⟩ (.cons ⟨Ob.box (72 : Nat) [V.i (min (Prod.fst (hearK a b k (wn + (1 : Nat)) u)) (Prod.fst (gp b u))), V.i (max (Prod.fst (Prod.snd (hearK a b k (wn + (1 : Nat)) u))) (Prod.fst (gp a u))), V.i (min (Prod.fst (Prod.snd (Prod.snd (hearK a b k (wn + (1 : Nat)) u)))) (Prod.snd (gp a u))), V.i (max (Prod.snd (Prod.snd (Prod.snd (hearK a b k (wn + (1 : Nat)) u)))) (Prod.snd (gp b u)))], (by kernel_rfl), .box ?_⟩ .nil)) (by kernel_rfl) (by kernel_rfl)
        rw [hearK_succ, if_pos hd]
        rfl
      · have hd : ¬ dist u k < wn + 1 := by unfold dist; simp at hc; omega
        refine aw_skip ?_
        refine xb_n ?_
        refine xt_n ?_
        refine hK _ ?_
        clear hK K
        refine w_region (n' := 4) (by kernel_rfl) (by kernel_rfl) ?_
        refine aops_n hTT (M := []) (n := 3) [pv (77 : Nat) (V.i (↑u : Int)), pc (78 : Nat) ((-9223372036854775808 : Int) ≤ (↑u : Int) + (1 : Int) ∧ (↑u : Int) + (1 : Int) ≤ (9223372036854775807 : Int)) (V.i ((↑u : Int) + (1 : Int))), pv (16 : Nat) (V.i ((↑u : Int) + (1 : Int)))] (by kernel_rfl) (by kernel_rfl) ⟨(by omega), True.intro⟩ ?_
        refine aops_nil ?_
        refine xt_n ?_
        refine ⟨u + 1, by omega, ?_, by omega⟩
        refine le_ren [(13, 13), (15, 15)] (.cons (by kernel_rfl) (.cons (by kernel_rfl) (.cons (by kernel_rfl) (.cons (by kernel_rfl) (.cons (by kernel_rfl) (.cons (by kernel_rfl) (.cons (by kernel_rfl) (.cons (by kernel_rfl) .nil)))))))) (.cons ⟨Ob.row (72 : Nat) (4 : Nat) k fun (k : Nat) => vhd (hearAt a b (List.length l) (wn + (1 : Nat)) k), (by kernel_rfl), .row (by kernel_rfl) (fun _ _ => rfl)⟩ (.cons ⟨Ob.box (72 : Nat) [V.i (Prod.fst (hearK a b k (wn + (1 : Nat)) u)), V.i (Prod.fst (Prod.snd (hearK a b k (wn + (1 : Nat)) u))), V.i (Prod.fst (Prod.snd (Prod.snd (hearK a b k (wn + (1 : Nat)) u)))), V.i (Prod.snd (Prod.snd (Prod.snd (hearK a b k (wn + (1 : Nat)) u))))], (by kernel_rfl), .box ?_⟩ .nil)) (by kernel_rfl) (by kernel_rfl)
        rw [hearK_succ, if_neg hd]
        rfl
    simp at hul
    obtain rfl : u = l.length := by omega
    refine aw_exit ?_
    refine xt_x ?_
    refine xt_x ?_
    refine xb_same ?_
    refine xt_n ?_
    clear hK K
    refine hK _ ?_
    clear hK K
    refine w_region (n' := 3) (by kernel_rfl) (by kernel_rfl) ?_
    refine aops_n hTT (M := []) (n := 5) [pv (128 : Nat) (V.own (13 : Nat)), pc (129 : Nat) ((0 : Nat) ≤ (4 : Nat)) (V.agg [V.i (Prod.fst (hearK a b k (wn + (1 : Nat)) (List.length l))), V.i (Prod.fst (Prod.snd (hearK a b k (wn + (1 : Nat)) (List.length l)))), V.i (Prod.fst (Prod.snd (Prod.snd (hearK a b k (wn + (1 : Nat)) (List.length l))))), V.i (Prod.snd (Prod.snd (Prod.snd (hearK a b k (wn + (1 : Nat)) (List.length l)))))]), pv (130 : Nat) (V.sl (4 : Nat) (1 : Nat) fun (i : Nat) => List.take (4 : Nat) (List.drop (i * (4 : Nat)) [V.i (Prod.fst (hearK a b k (wn + (1 : Nat)) (List.length l))), V.i (Prod.fst (Prod.snd (hearK a b k (wn + (1 : Nat)) (List.length l)))), V.i (Prod.fst (Prod.snd (Prod.snd (hearK a b k (wn + (1 : Nat)) (List.length l))))), V.i (Prod.snd (Prod.snd (Prod.snd (hearK a b k (wn + (1 : Nat)) (List.length l)))))])), PR.mk (some (131 : Nat)) (some (k + (1 : Nat) ≤ (1099511627776 : Nat))) (V.own (200131 : Nat)) [((13 : Nat), none), ((200131 : Nat), some (Ob.row (72 : Nat) (4 : Nat) (k + (1 : Nat)) (appRow k (fun (k : Nat) => vhd (hearAt a b (List.length l) (wn + (1 : Nat)) k)) fun (i : Nat) => List.take (4 : Nat) (List.drop (i * (4 : Nat)) [V.i (Prod.fst (hearK a b k (wn + (1 : Nat)) (List.length l))), V.i (Prod.fst (Prod.snd (hearK a b k (wn + (1 : Nat)) (List.length l)))), V.i (Prod.fst (Prod.snd (Prod.snd (hearK a b k (wn + (1 : Nat)) (List.length l))))), V.i (Prod.snd (Prod.snd (Prod.snd (hearK a b k (wn + (1 : Nat)) (List.length l)))))]))))], pv (13 : Nat) (V.own (200131 : Nat))] (by kernel_rfl) (by kernel_rfl) ⟨(by omega), (by omega), True.intro⟩ ?_
    refine aops_nil ?_
    refine xb_n ?_
    refine xt_n ?_
    refine hK _ ?_
    clear hK K
    refine w_region (n' := 4) (by kernel_rfl) (by kernel_rfl) ?_
    refine aops_n hTT (M := []) (n := 3) [pv (48 : Nat) (V.i (↑k : Int)), pc (49 : Nat) ((-9223372036854775808 : Int) ≤ (↑k : Int) + (1 : Int) ∧ (↑k : Int) + (1 : Int) ≤ (9223372036854775807 : Int)) (V.i ((↑k : Int) + (1 : Int))), pv (14 : Nat) (V.i ((↑k : Int) + (1 : Int)))] (by kernel_rfl) (by kernel_rfl) ⟨(by omega), True.intro⟩ ?_
    refine aops_nil ?_
    refine xt_n ?_
    refine ⟨k + 1, by omega, ?_, by omega⟩
    refine le_ren [(13, 200131)] (.cons (by kernel_rfl) (.cons (by kernel_rfl) (.cons (by kernel_rfl) (.cons (by kernel_rfl) (.cons (by kernel_rfl) (.cons (by kernel_rfl) .nil)))))) (.cons ⟨Ob.row (72 : Nat) (4 : Nat) (k + (1 : Nat)) (appRow k (fun (k : Nat) => vhd (hearAt a b (List.length l) (wn + (1 : Nat)) k)) fun (i : Nat) => List.take (4 : Nat) (List.drop (i * (4 : Nat)) [V.i (Prod.fst (hearK a b k (wn + (1 : Nat)) (List.length l))), V.i (Prod.fst (Prod.snd (hearK a b k (wn + (1 : Nat)) (List.length l)))), V.i (Prod.fst (Prod.snd (Prod.snd (hearK a b k (wn + (1 : Nat)) (List.length l))))), V.i (Prod.snd (Prod.snd (Prod.snd (hearK a b k (wn + (1 : Nat)) (List.length l)))))])), (by kernel_rfl), .row (by kernel_rfl) ?_⟩ .nil) (by kernel_rfl) (by kernel_rfl)
    intro i hi
    by_cases hik : i < k
    · rw [appRow_lt hik]; rfl
    · obtain rfl : i = k := by omega
      rw [appRow_at]
      rfl
  simp at hkl
  obtain rfl : k = l.length := by omega
  refine aw_exit ?_
  refine xt_x ?_
  refine xt_x ?_
  refine xb_same ?_
  refine xt_n ?_
  clear hK K
  refine hK _ ?_
  clear hK K
  refine aw_seq_k fun K hK => ?_
  refine w_region (n' := 3) (by kernel_rfl) (by kernel_rfl) ?_
  refine aops_n hTT (M := []) (n := 3) [pv (132 : Nat) (V.own (13 : Nat)), pv (8 : Nat) (V.own (13 : Nat)), pv (9 : Nat) (V.i (0 : Int))] (by kernel_rfl) (by kernel_rfl) True.intro ?_
  refine aops_nil ?_
  refine xt_n ?_
  refine hK _ ?_
  clear hK K
  refine aw_ret ?_
  have h5 := hearE_5 h1 h2 h3 h4
  have h6 : hearNn s t l wn = l.length := by rw [hearNn, if_pos h5]
  refine ret_of_le (le_shut 8 13 (e := (72 : Nat)) (sz := (4 : Nat)) (n := List.length l) (n' := (hearNn s t l wn)) (row := fun (k : Nat) => vhd (hearAt a b (List.length l) (wn + (1 : Nat)) k)) (row' := (fun k => vhd (hearAt (readP s l) (readP t l) l.length ((wn : Int).toNat + 1) k))) (by kernel_rfl) (by kernel_rfl) (fun _ _ => rfl) ?_ ?_) ?_
  · exact h6.symm
  · intro i _
    rw [ha, hb]
    rfl
  refine ret_pure (v' := V.tup [V.sl (4 : Nat) (hearNn s t l (↑wn : Int)) fun (k : Nat) => vhd (hearAt (readP s l) (readP t l) (List.length l) (wn + (1 : Nat)) k), V.i (0 : Int)]) (.inr rfl) (by kernel_rfl) ?_ (by kernel_rfl)
  rw [hearV, h5]
  rfl
end Go.Proofs.Ytlfaaddoemcokaa
