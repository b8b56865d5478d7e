/-
  FilterLess: the walk of the law. No condition.
-/
import Derived.Test.YtblipieipldanaaWGains
import Derived.Test.YtblipieipldanaaFPl4
namespace Go.Proofs.Ytblipieipldanaa
open Go.Ab Go.RowKit Go.Dw Go.Shelf

/-- the greatest amount of the first k samples -/
def loudK (p : List Pt) : Nat → Int
  | 0 => 0
  | k + 1 => max (max (loudK p k) (absI (gp p k).1)) (absI (gp p k).2)
theorem loudK_le {p : List Pt} : ∀ {k j : Nat}, j < k → amtS (gp p j) ≤ loudK p k
  | k + 1, j, h => by
    rw [loudK, amtS_max]
    by_cases hj : j = k
    · subst hj; omega
    · have := loudK_le (p := p) (k := k) (j := j) (by omega)
      rw [amtS_max] at this
      omega
theorem loudK_bd {p : List Pt} {m : Int} (hm : 0 ≤ m) (h : ∀ k, k < p.length → (-m ≤ (gp p k).1 ∧ (gp p k).1 ≤ m) ∧ (-m ≤ (gp p k).2 ∧ (gp p k).2 ≤ m)) : ∀ k, k ≤ p.length → 0 ≤ loudK p k ∧ loudK p k ≤ m
  | 0, _ => ⟨Int.le_refl 0, hm⟩
  | k + 1, hk => by
    have ih := loudK_bd hm h k (by omega)
    have h1 := h k (by omega)
    rw [loudK]
    unfold absI
    omega
set_option maxRecDepth 100000 in
theorem less_law (p : List Pt) (c s hi wd : Int) (hl : p.length ≤ bigL) (hh : 0 ≤ hi ∧ hi ≤ 65535) (hw : 0 ≤ wd ∧ wd ≤ 255) : AC Try.prog 9 [V.pts p, .i c, .i s, .c (.int .u16 hi), .c (.int .u8 wd)] (.b true) [] := by
  refine ac_intro hTT hMX (fn := Try.f9) (N := _) ⟨Try.func9, rfl, Try.ntmps9, by kernel_rfl⟩ (by simp) fun C hC hF => ?_
  refine aw_seq_k fun K hK => ?_
  refine w_region (n' := 2) (by kernel_rfl) (by kernel_rfl) ?_
  refine aops_n hTT (M := []) (n := 1) [pv (10 : Nat) (V.b false)] (by kernel_rfl) (by kernel_rfl) True.intro ?_
  refine aops_nil ?_
  refine xt_n ?_
  refine hK _ ?_
  clear hK K
  refine aw_seq_k fun K hK => ?_
  refine aw_seq_k fun K hK => ?_
  refine w_region (n' := 3) (by kernel_rfl) (by kernel_rfl) ?_
  refine aops_n hTT (M := []) (n := 3) [pv (22 : Nat) (V.sl (2 : Nat) (List.length p) fun (k : Nat) => [V.i (Prod.fst (gp p k)), V.i (Prod.snd (gp p k))]), pv (23 : Nat) (V.i c), pv (24 : Nat) (V.i s)] (by kernel_rfl) (by kernel_rfl) True.intro ?_
  refine e_call (first := []) (caps := []) (limits_ac p c s hl) (by kernel_rfl) (by kernel_rfl) (by kernel_rfl) (by kernel_rfl) (by kernel_rfl) ?_
  refine aops_n hTT (M := []) (n := 1) [pv (26 : Nat) (V.b !limitsB p c s)] (by kernel_rfl) (by kernel_rfl) True.intro ?_
  refine aops_nil ?_
  refine xt_n ?_
  refine hK _ ?_
  clear hK K
  refine w_cond (t := !limitsB p c s) (by kernel_rfl) (fun c1 => ?_) (fun c1 => ?_)
  · refine aw_seq_k fun K hK => ?_
    refine w_region (n' := 4) (by kernel_rfl) (by kernel_rfl) ?_
    refine e_call (first := []) (caps := []) (works_ac) (by kernel_rfl) (by kernel_rfl) (by kernel_rfl) (by kernel_rfl) (by kernel_rfl) ?_
    refine aops_n hTT (M := []) (n := 1) [pv (10 : Nat) (V.b true)] (by kernel_rfl) (by kernel_rfl) True.intro ?_
    refine aops_nil ?_
    refine xt_n ?_
    refine hK _ ?_
    clear hK K
    refine aw_ret ?_
    refine xt_r ?_
    refine ret_pure (v' := V.b true) (.inr rfl) (by kernel_rfl) (by kernel_rfl) (by kernel_rfl)
  have hv : limitsB p c s = true := by
    cases h : limitsB p c s with
    | true => rfl
    | false => rw [h] at c1; cases c1
  obtain ⟨v1, v2⟩ := limitsB_ok hv
  obtain ⟨n1, n2⟩ := gainE_ok.1 v2
  obtain ⟨m1, m2⟩ := needE_ok.1 n1
  obtain ⟨h3, h4⟩ := progE_ok.1 m1
  have c' : 1 ≤ min 32767 (c + hi) ∧ min 32767 (c + hi) ≤ 32767 ∧ c ≤ min 32767 (c + hi) := by omega
  have s' : 0 ≤ min 256 (s + wd) ∧ min 256 (s + wd) ≤ 256 ∧ s ≤ min 256 (s + wd) := by omega
  have v3 : gainE p (min 32767 (c + hi)) (min 256 (s + wd)) = 0 := gainE_ok.2 ⟨needE_ok.2 ⟨m1, c'.1, c'.2.1⟩, s'.1, s'.2.1⟩
  have v4 : gainE p c 256 = 0 := gainE_ok.2 ⟨n1, by decide, by decide⟩
  have r1 := (gain_3 n1 n2).2
  have r3 := (gain_3 (gainE_ok.1 v3).1 (gainE_ok.1 v3).2).2
  have r4 : gainR p c 256 = needR p c := by rw [(gain_3 n1 (gainE_ok.1 v4).2).2, gainL_wide (needL_bd n1), needR, if_pos n1]
  have g1 := Gains_ac p c s hl
  have g3 := Gains_ac p (min 32767 (c + hi)) (min 256 (s + wd)) hl
  have g4 := Gains_ac p c 256 hl
  have g5 := Needs_im p c hl
  have l1 := gainR_len v2
  have l3 := gainR_len v3
  have l5 : (needR p c).length = p.length := by rw [needR, if_pos n1, needL_len]
  have hnb := needR_big (p := p) (c := c) hl
  rw [v2] at g1
  rw [v3] at g3
  rw [v4, r4] at g4
  rw [n1] at g5
  refine aw_skip ?_
  refine xt_n ?_
  refine hK _ ?_
  clear hK K
  refine aw_seq_k fun K hK => ?_
  refine w_region (n' := 4) (by kernel_rfl) (by kernel_rfl) ?_
  refine aops_n hTT (M := []) (n := 3) [pv (29 : Nat) (V.sl (2 : Nat) (List.length p) fun (k : Nat) => [V.i (Prod.fst (gp p k)), V.i (Prod.snd (gp p k))]), pv (30 : Nat) (V.i c), pv (31 : Nat) (V.i s)] (by kernel_rfl) (by kernel_rfl) True.intro ?_
  refine e_call (first := []) (caps := []) (g1) (by kernel_rfl) (by kernel_rfl) (by kernel_rfl) (by kernel_rfl) (by kernel_rfl) ?_
  refine aops_n hTT (M := []) (n := 5) [pv (28 : Nat) (V.tup [V.sl (1 : Nat) (List.length (gainR p c s)) fun (k : Nat) => [V.i (gi (gainR p c s) k)], V.i (0 : Int)]), pv (33 : Nat) (V.sl (1 : Nat) (List.length (gainR p c s)) fun (k : Nat) => [V.i (gi (gainR p c s) k)]), pv (34 : Nat) (V.i (0 : Int)), pv (11 : Nat) (V.sl (1 : Nat) (List.length (gainR p c s)) fun (k : Nat) => [V.i (gi (gainR p c s) k)]), pv (12 : Nat) (V.i (0 : Int))] (by kernel_rfl) (by kernel_rfl) True.intro ?_
  refine aops_nil ?_
  refine xt_n ?_
  refine hK _ ?_
  clear hK K
  refine aw_seq_k fun K hK => ?_
  refine w_region (n' := 5) (by kernel_rfl) (by kernel_rfl) ?_
  refine aops_n hTT (M := []) (n := 11) [pv (36 : Nat) (V.sl (2 : Nat) (List.length p) fun (k : Nat) => [V.i (Prod.fst (gp p k)), V.i (Prod.snd (gp p k))]), pv (37 : Nat) (V.i c), pv (38 : Nat) (V.c (Value.int IntKind.u16 hi)), pc (39 : Nat) ((-9223372036854775808 : Int) ≤ hi ∧ hi ≤ (9223372036854775807 : Int)) (V.i hi), pc (40 : Nat) ((-9223372036854775808 : Int) ≤ c + hi ∧ c + hi ≤ (9223372036854775807 : Int)) (V.i (c + hi)), pv (41 : Nat) (V.i (min (32767 : Int) (c + hi))), pv (42 : Nat) (V.i s), pv (43 : Nat) (V.c (Value.int IntKind.u8 wd)), pc (44 : Nat) ((-9223372036854775808 : Int) ≤ wd ∧ wd ≤ (9223372036854775807 : Int)) (V.i wd), pc (45 : Nat) ((-9223372036854775808 : Int) ≤ s + wd ∧ s + wd ≤ (9223372036854775807 : Int)) (V.i (s + wd)), pv (46 : Nat) (V.i (min (256 : Int) (s + wd)))] (by kernel_rfl) (by kernel_rfl) ⟨(by omega), (by omega), (by omega), (by omega), True.intro⟩ ?_
  refine e_call (first := []) (caps := []) (g3) (by kernel_rfl) (by kernel_rfl) (by kernel_rfl) (by kernel_rfl) (by kernel_rfl) ?_
  refine aops_n hTT (M := []) (n := 5) [pv (35 : Nat) (V.tup [V.sl (1 : Nat) (List.length (gainR p (min (32767 : Int) (c + hi)) (min (256 : Int) (s + wd)))) fun (k : Nat) => [V.i (gi (gainR p (min (32767 : Int) (c + hi)) (min (256 : Int) (s + wd))) k)], V.i (0 : Int)]), pv (48 : Nat) (V.sl (1 : Nat) (List.length (gainR p (min (32767 : Int) (c + hi)) (min (256 : Int) (s + wd)))) fun (k : Nat) => [V.i (gi (gainR p (min (32767 : Int) (c + hi)) (min (256 : Int) (s + wd))) k)]), pv (49 : Nat) (V.i (0 : Int)), pv (13 : Nat) (V.sl (1 : Nat) (List.length (gainR p (min (32767 : Int) (c + hi)) (min (256 : Int) (s + wd)))) fun (k : Nat) => [V.i (gi (gainR p (min (32767 : Int) (c + hi)) (min (256 : Int) (s + wd))) k)]), pv (14 : Nat) (V.i (0 : Int))] (by kernel_rfl) (by kernel_rfl) True.intro ?_
  refine aops_nil ?_
  refine xt_n ?_
  refine hK _ ?_
  clear hK K
  refine aw_seq_k fun K hK => ?_
  refine w_region (n' := 6) (by kernel_rfl) (by kernel_rfl) ?_
  refine aops_n hTT (M := []) (n := 2) [pv (51 : Nat) (V.sl (2 : Nat) (List.length p) fun (k : Nat) => [V.i (Prod.fst (gp p k)), V.i (Prod.snd (gp p k))]), pv (52 : Nat) (V.i c)] (by kernel_rfl) (by kernel_rfl) True.intro ?_
  refine e_call (first := []) (caps := []) (g4) (by kernel_rfl) (by kernel_rfl) (by kernel_rfl) (by kernel_rfl) (by kernel_rfl) ?_
  refine aops_n hTT (M := []) (n := 5) [pv (50 : Nat) (V.tup [V.sl (1 : Nat) (List.length (needR p c)) fun (k : Nat) => [V.i (gi (needR p c) k)], V.i (0 : Int)]), pv (54 : Nat) (V.sl (1 : Nat) (List.length (needR p c)) fun (k : Nat) => [V.i (gi (needR p c) k)]), pv (55 : Nat) (V.i (0 : Int)), pv (15 : Nat) (V.sl (1 : Nat) (List.length (needR p c)) fun (k : Nat) => [V.i (gi (needR p c) k)]), pv (16 : Nat) (V.i (0 : Int))] (by kernel_rfl) (by kernel_rfl) True.intro ?_
  refine aops_nil ?_
  refine xt_n ?_
  refine hK _ ?_
  clear hK K
  refine aw_seq_k fun K hK => ?_
  refine w_region (n' := 7) (by kernel_rfl) (by kernel_rfl) ?_
  refine aops_n hTT (M := []) (n := 2) [pv (57 : Nat) (V.sl (2 : Nat) (List.length p) fun (k : Nat) => [V.i (Prod.fst (gp p k)), V.i (Prod.snd (gp p k))]), pv (58 : Nat) (V.i c)] (by kernel_rfl) (by kernel_rfl) True.intro ?_
  refine e_call (first := []) (caps := []) (g5) (by kernel_rfl) (by kernel_rfl) (by kernel_rfl) (by kernel_rfl) (by kernel_rfl) ?_
  refine aops_n hTT (M := []) (n := 5) [pv (56 : Nat) (V.tup [V.sl (1 : Nat) (List.length (needR p c)) fun (k : Nat) => [V.i (gi (needR p c) k)], V.i (0 : Int)]), pv (60 : Nat) (V.sl (1 : Nat) (List.length (needR p c)) fun (k : Nat) => [V.i (gi (needR p c) k)]), pv (61 : Nat) (V.i (0 : Int)), pv (17 : Nat) (V.sl (1 : Nat) (List.length (needR p c)) fun (k : Nat) => [V.i (gi (needR p c) k)]), pv (18 : Nat) (V.i (0 : Int))] (by kernel_rfl) (by kernel_rfl) True.intro ?_
  refine aops_nil ?_
  refine xt_n ?_
  refine hK _ ?_
  clear hK K
  refine aw_seq_k fun K hK => ?_
  refine aw_seq_k fun K hK => ?_
  refine w_region (n' := 8) (by kernel_rfl) (by kernel_rfl) ?_
  refine aops_n hTT (M := []) (n := 31) [pv (62 : Nat) (V.i (0 : Int)), pv (63 : Nat) (V.b false), pv (64 : Nat) (V.b false), pc (65 : Nat) ((True ∧ True) ∧ ((false == false) = true → True)) (V.gd (false == false) (V.i (0 : Int))), pc (66 : Nat) ((((false == false) = true → (false == false) = true) ∧ True ∧ True) ∧ ((false == false) = true → True)) (V.gd (false == false) (V.b false)), pc (67 : Nat) (True ∧ (false = false → (false == false) = true)) (V.b false), pv (68 : Nat) (V.b false), pc (69 : Nat) ((True ∧ True) ∧ ((false == false) = true → True)) (V.gd (false == false) (V.i (0 : Int))), pc (70 : Nat) ((((false == false) = true → (false == false) = true) ∧ True ∧ True) ∧ ((false == false) = true → True)) (V.gd (false == false) (V.b false)), pc (71 : Nat) (True ∧ (false = false → (false == false) = true)) (V.b false), pv (72 : Nat) (V.b false), pc (73 : Nat) ((True ∧ True) ∧ ((false == false) = true → True)) (V.gd (false == false) (V.i (0 : Int))), pc (74 : Nat) ((((false == false) = true → (false == false) = true) ∧ True ∧ True) ∧ ((false == false) = true → True)) (V.gd (false == false) (V.b false)), pc (75 : Nat) (True ∧ (false = false → (false == false) = true)) (V.b false), pv (76 : Nat) (V.b false), pc (77 : Nat) ((True ∧ True) ∧ ((false == false) = true → True)) (V.gd (false == false) (V.sl (1 : Nat) (List.length (gainR p c s)) fun (k : Nat) => [V.i (gi (gainR p c s) k)])), pc (78 : Nat) ((((false == false) = true → (false == false) = true) ∧ True) ∧ ((false == false) = true → True)) (V.gd (false == false) (V.i (↑(List.length (gainR p c s)) : Int))), pc (79 : Nat) ((True ∧ True) ∧ ((false == false) = true → True)) (V.gd (false == false) (V.sl (2 : Nat) (List.length p) fun (k : Nat) => [V.i (Prod.fst (gp p k)), V.i (Prod.snd (gp p k))])), pc (80 : Nat) ((((false == false) = true → (false == false) = true) ∧ True) ∧ ((false == false) = true → True)) (V.gd (false == false) (V.i (↑(List.length p) : Int))), pc (81 : Nat) ((((false == false) = true → (false == false) = true) ∧ ((false == false) = true → (false == false) = true) ∧ True) ∧ ((false == false) = true → True)) (V.gd (false == false) (V.b !decide ((↑(List.length (gainR p c s)) : Int) = (↑(List.length p) : Int)))), pc (82 : Nat) (True ∧ (false = false → (false == false) = true)) (V.b !decide ((↑(List.length (gainR p c s)) : Int) = (↑(List.length p) : Int))), pv (83 : Nat) (V.b !decide ((↑(List.length (gainR p c s)) : Int) = (↑(List.length p) : Int))), pc (84 : Nat) ((True ∧ True) ∧ (((!decide ((↑(List.length (gainR p c s)) : Int) = (↑(List.length p) : Int))) == false) = true → True)) (V.gd ((!decide ((↑(List.length (gainR p c s)) : Int) = (↑(List.length p) : Int))) == false) (V.sl (1 : Nat) (List.length (gainR p (min (32767 : Int) (c + hi)) (min (256 : Int) (s + wd)))) fun (k : Nat) => [V.i (gi (gainR p (min (32767 : Int) (c + hi)) (min (256 : Int) (s + wd))) k)])), pc (85 : Nat) (((((!decide ((↑(List.length (gainR p c s)) : Int) = (↑(List.length p) : Int))) == false) = true → ((!decide ((↑(List.length (gainR p c s)) : Int) = (↑(List.length p) : Int))) == false) = true) ∧ True) ∧ (((!decide ((↑(List.length (gainR p c s)) : Int) = (↑(List.length p) : Int))) == false) = true → True)) (V.gd ((!decide ((↑(List.length (gainR p c s)) : Int) = (↑(List.length p) : Int))) == false) (V.i (↑(List.length (gainR p (min (32767 : Int) (c + hi)) (min (256 : Int) (s + wd)))) : Int))), pc (86 : Nat) ((True ∧ True) ∧ (((!decide ((↑(List.length (gainR p c s)) : Int) = (↑(List.length p) : Int))) == false) = true → True)) (V.gd ((!decide ((↑(List.length (gainR p c s)) : Int) = (↑(List.length p) : Int))) == false) (V.sl (2 : Nat) (List.length p) fun (k : Nat) => [V.i (Prod.fst (gp p k)), V.i (Prod.snd (gp p k))])), pc (87 : Nat) (((((!decide ((↑(List.length (gainR p c s)) : Int) = (↑(List.length p) : Int))) == false) = true → ((!decide ((↑(List.length (gainR p c s)) : Int) = (↑(List.length p) : Int))) == false) = true) ∧ True) ∧ (((!decide ((↑(List.length (gainR p c s)) : Int) = (↑(List.length p) : Int))) == false) = true → True)) (V.gd ((!decide ((↑(List.length (gainR p c s)) : Int) = (↑(List.length p) : Int))) == false) (V.i (↑(List.length p) : Int))), pc (88 : Nat) (((((!decide ((↑(List.length (gainR p c s)) : Int) = (↑(List.length p) : Int))) == false) = true → ((!decide ((↑(List.length (gainR p c s)) : Int) = (↑(List.length p) : Int))) == false) = true) ∧ (((!decide ((↑(List.length (gainR p c s)) : Int) = (↑(List.length p) : Int))) == false) = true → ((!decide ((↑(List.length (gainR p c s)) : Int) = (↑(List.length p) : Int))) == false) = true) ∧ True) ∧ (((!decide ((↑(List.length (gainR p c s)) : Int) = (↑(List.length p) : Int))) == false) = true → True)) (V.gd ((!decide ((↑(List.length (gainR p c s)) : Int) = (↑(List.length p) : Int))) == false) (V.b !decide ((↑(List.length (gainR p (min (32767 : Int) (c + hi)) (min (256 : Int) (s + wd)))) : Int) = (↑(List.length p) : Int)))), pc (89 : Nat) (True ∧ ((!decide ((↑(List.length (gainR p c s)) : Int) = (↑(List.length p) : Int))) = false → ((!decide ((↑(List.length (gainR p c s)) : Int) = (↑(List.length p) : Int))) == false) = true)) (V.b (!decide ((↑(List.length (gainR p c s)) : Int) = (↑(List.length p) : Int)) || !decide ((↑(List.length (gainR p (min (32767 : Int) (c + hi)) (min (256 : Int) (s + wd)))) : Int) = (↑(List.length p) : Int)))), pv (90 : Nat) (V.b (!decide ((↑(List.length (gainR p c s)) : Int) = (↑(List.length p) : Int)) || !decide ((↑(List.length (gainR p (min (32767 : Int) (c + hi)) (min (256 : Int) (s + wd)))) : Int) = (↑(List.length p) : Int)))), pc (91 : Nat) ((True ∧ True) ∧ (((!decide ((↑(List.length (gainR p c s)) : Int) = (↑(List.length p) : Int)) || !decide ((↑(List.length (gainR p (min (32767 : Int) (c + hi)) (min (256 : Int) (s + wd)))) : Int) = (↑(List.length p) : Int))) == false) = true → True)) (V.gd ((!decide ((↑(List.length (gainR p c s)) : Int) = (↑(List.length p) : Int)) || !decide ((↑(List.length (gainR p (min (32767 : Int) (c + hi)) (min (256 : Int) (s + wd)))) : Int) = (↑(List.length p) : Int))) == false) (V.sl (1 : Nat) (List.length (needR p c)) fun (k : Nat) => [V.i (gi (needR p c) k)])), pc (92 : Nat) ((True ∧ True) ∧ (((!decide ((↑(List.length (gainR p c s)) : Int) = (↑(List.length p) : Int)) || !decide ((↑(List.length (gainR p (min (32767 : Int) (c + hi)) (min (256 : Int) (s + wd)))) : Int) = (↑(List.length p) : Int))) == false) = true → True)) (V.gd ((!decide ((↑(List.length (gainR p c s)) : Int) = (↑(List.length p) : Int)) || !decide ((↑(List.length (gainR p (min (32767 : Int) (c + hi)) (min (256 : Int) (s + wd)))) : Int) = (↑(List.length p) : Int))) == false) (V.sl (1 : Nat) (List.length (needR p c)) fun (k : Nat) => [V.i (gi (needR p c) k)]))] (by kernel_rfl) (by kernel_rfl) ⟨⟨⟨True.intro, True.intro⟩, (fun _ => True.intro)⟩, ⟨⟨(by (exact fun h => h)), ⟨True.intro, True.intro⟩⟩, (fun _ => True.intro)⟩, ⟨True.intro, (by (intro h; rw [h]; rfl))⟩, ⟨⟨True.intro, True.intro⟩, (fun _ => True.intro)⟩, ⟨⟨(by (exact fun h => h)), ⟨True.intro, True.intro⟩⟩, (fun _ => True.intro)⟩, ⟨True.intro, (by (intro h; rw [h]; rfl))⟩, ⟨⟨True.intro, True.intro⟩, (fun _ => True.intro)⟩, ⟨⟨(by (exact fun h => h)), ⟨True.intro, True.intro⟩⟩, (fun _ => True.intro)⟩, ⟨True.intro, (by (intro h; rw [h]; rfl))⟩, ⟨⟨True.intro, True.intro⟩, (fun _ => True.intro)⟩, ⟨⟨(by (exact fun h => h)), True.intro⟩, (fun _ => True.intro)⟩, ⟨⟨True.intro, True.intro⟩, (fun _ => True.intro)⟩, ⟨⟨(by (exact fun h => h)), True.intro⟩, (fun _ => True.intro)⟩, ⟨⟨(by (exact fun h => h)), ⟨(by (exact fun h => h)), True.intro⟩⟩, (fun _ => True.intro)⟩, ⟨True.intro, (by (intro h; rw [h]; rfl))⟩, ⟨⟨True.intro, True.intro⟩, (fun _ => True.intro)⟩, ⟨⟨(by (exact fun h => h)), True.intro⟩, (fun _ => True.intro)⟩, ⟨⟨True.intro, True.intro⟩, (fun _ => True.intro)⟩, ⟨⟨(by (exact fun h => h)), True.intro⟩, (fun _ => True.intro)⟩, ⟨⟨(by (exact fun h => h)), ⟨(by (exact fun h => h)), True.intro⟩⟩, (fun _ => True.intro)⟩, ⟨True.intro, (by (intro h; rw [h]; rfl))⟩, ⟨⟨True.intro, True.intro⟩, (fun _ => True.intro)⟩, ⟨⟨True.intro, True.intro⟩, (fun _ => True.intro)⟩, True.intro⟩ ?_
  refine e_callG 2 (g := (!decide ((↑(List.length (gainR p c s)) : Int) = (↑(List.length p) : Int)) || !decide ((↑(List.length (gainR p (min (32767 : Int) (c + hi)) (min (256 : Int) (s + wd)))) : Int) = (↑(List.length p) : Int))) == false) (first := []) (caps := []) (by kernel_rfl) (fun h => refSame_ac (needR p c) (needR p c) hnb hnb) (by kernel_rfl) (by kernel_rfl) (by kernel_rfl) (by kernel_rfl) (by kernel_rfl) (by kernel_rfl) ?_
  refine aops_n hTT (M := []) (n := 2) [pc (94 : Nat) (((((!decide ((↑(List.length (gainR p c s)) : Int) = (↑(List.length p) : Int)) || !decide ((↑(List.length (gainR p (min (32767 : Int) (c + hi)) (min (256 : Int) (s + wd)))) : Int) = (↑(List.length p) : Int))) == false) = true → ((!decide ((↑(List.length (gainR p c s)) : Int) = (↑(List.length p) : Int)) || !decide ((↑(List.length (gainR p (min (32767 : Int) (c + hi)) (min (256 : Int) (s + wd)))) : Int) = (↑(List.length p) : Int))) == false) = true) ∧ True) ∧ (((!decide ((↑(List.length (gainR p c s)) : Int) = (↑(List.length p) : Int)) || !decide ((↑(List.length (gainR p (min (32767 : Int) (c + hi)) (min (256 : Int) (s + wd)))) : Int) = (↑(List.length p) : Int))) == false) = true → True)) (V.gd ((!decide ((↑(List.length (gainR p c s)) : Int) = (↑(List.length p) : Int)) || !decide ((↑(List.length (gainR p (min (32767 : Int) (c + hi)) (min (256 : Int) (s + wd)))) : Int) = (↑(List.length p) : Int))) == false) (V.b !decide (needR p c = needR p c))), pc (95 : Nat) (True ∧ ((!decide ((↑(List.length (gainR p c s)) : Int) = (↑(List.length p) : Int)) || !decide ((↑(List.length (gainR p (min (32767 : Int) (c + hi)) (min (256 : Int) (s + wd)))) : Int) = (↑(List.length p) : Int))) = false → ((!decide ((↑(List.length (gainR p c s)) : Int) = (↑(List.length p) : Int)) || !decide ((↑(List.length (gainR p (min (32767 : Int) (c + hi)) (min (256 : Int) (s + wd)))) : Int) = (↑(List.length p) : Int))) == false) = true)) (V.b (!decide ((↑(List.length (gainR p c s)) : Int) = (↑(List.length p) : Int)) || !decide ((↑(List.length (gainR p (min (32767 : Int) (c + hi)) (min (256 : Int) (s + wd)))) : Int) = (↑(List.length p) : Int)) || !decide (needR p c = needR p c)))] (by kernel_rfl) (by kernel_rfl) ⟨⟨⟨(by (exact fun h => h)), True.intro⟩, (fun _ => True.intro)⟩, ⟨True.intro, (by (intro h; rw [h]; rfl))⟩, True.intro⟩ ?_
  refine aops_nil ?_
  refine xt_n ?_
  refine hK _ ?_
  clear hK K
  refine w_cond (t := !decide ((↑(List.length (gainR p c s)) : Int) = (↑(List.length p) : Int)) || !decide ((↑(List.length (gainR p (min (32767 : Int) (c + hi)) (min (256 : Int) (s + wd)))) : Int) = (↑(List.length p) : Int)) || !decide (needR p c = needR p c)) (by kernel_rfl) (fun c2 => ?_) (fun c2 => ?_)
  · simp [l1, l3] at c2
  refine aw_skip ?_
  refine xt_n ?_
  refine hK _ ?_
  clear hK K
  refine aw_seq_k fun K hK => ?_
  refine w_region (n' := 9) (by kernel_rfl) (by kernel_rfl) ?_
  refine aops_n hTT (M := []) (n := 1) [pv (19 : Nat) (V.i (0 : Int))] (by kernel_rfl) (by kernel_rfl) True.intro ?_
  refine aops_nil ?_
  refine xt_n ?_
  refine hK _ ?_
  clear hK K
  refine aw_seq_k fun K hK => ?_
  refine aw_seq_k fun K hK => ?_
  refine w_region (n' := 10) (by kernel_rfl) (by kernel_rfl) ?_
  refine aops_n hTT (M := []) (n := 1) [pv (20 : Nat) (V.i (0 : Int))] (by kernel_rfl) (by kernel_rfl) True.intro ?_
  refine aops_nil ?_
  refine xt_n ?_
  refine hK _ ?_
  clear hK K
  refine aw_block ?_
  refine w_loop (ι := Nat) (fun i => [(0, V.pts p), (2, .i s), (11, V.ints (gainR p c s)), (13, V.ints (gainR p (min 32767 (c + hi)) (min 256 (s + wd)))), (17, V.ints (needR p c)), (19, .i (loudK p i)), (20, .i i)]) (fun _ => []) (fun i => i ≤ p.length) (fun i => p.length - i) 0 (Nat.zero_le _) ?_ ?_
  · refine le_ren [] (.cons (by kernel_rfl) (.cons (by kernel_rfl) (.cons (by kernel_rfl) (.cons (by kernel_rfl) (.cons (by kernel_rfl) (.cons (by kernel_rfl) (.cons (by kernel_rfl) .nil))))))) .nil (by kernel_rfl) (by kernel_rfl)
  intro i hi2
  have hlk := loudK_bd (p := p) (m := 32767) (by decide) h4 i hi2
  refine aw_seq_k fun K hK => ?_
  refine aw_seq_k fun K hK => ?_
  refine w_region (n' := 2) (by kernel_rfl) (by kernel_rfl) ?_
  refine aops_n hTT (M := []) (n := 4) [pv (96 : Nat) (V.i (↑i : Int)), pv (97 : Nat) (V.sl (2 : Nat) (List.length p) fun (k : Nat) => [V.i (Prod.fst (gp p k)), V.i (Prod.snd (gp p k))]), pv (98 : Nat) (V.i (↑(List.length p) : Int)), pv (99 : Nat) (V.b (decide ((↑i : Int) < (↑(List.length p) : Int))))] (by kernel_rfl) (by kernel_rfl) True.intro ?_
  refine aops_nil ?_
  refine xt_n ?_
  refine hK _ ?_
  clear hK K
  refine w_cond (t := decide ((↑i : Int) < (↑(List.length p) : Int))) (by kernel_rfl) (fun c3 => ?_) (fun c3 => ?_)
  · simp at c3
    have h4i := h4 i c3
    have q1 : gi (gainR p c s) i ≤ gi (gainR p (min 32767 (c + hi)) (min 256 (s + wd))) i := by
      rw [r1, r3, gainL_gi (by rw [needL_len]; exact c3), gainL_gi (by rw [needL_len]; exact c3)]
      refine gainAt_mono (by rw [needL_len, needL_len]) (fun k hk => ?_) s'.2.2 (by rw [needL_len]; exact c3)
      rw [needL_len] at hk
      rw [needL_gi hk, needL_gi hk]
      exact needI_mono (amtS_bd (h4 k hk)).1 m2.1 c'.2.2
    have q2 : gi (gainR p c s) i ≤ gi (needR p c) i := by
      rw [r1, gainL_gi (by rw [needL_len]; exact c3), needR, if_pos n1]
      exact gainAt_need
    refine aw_skip ?_
    refine xt_n ?_
    refine hK _ ?_
    clear hK K
    refine aw_seq_k fun K hK => ?_
    refine aw_block ?_
    refine aw_seq_k fun K hK => ?_
    refine aw_seq_k fun K hK => ?_
    refine w_regionD (n' := 3) (by kernel_rfl) (by kernel_rfl) ?_
    refine aops_n hTT (M := []) (n := 20) [pv (102 : Nat) (V.sl (1 : Nat) (List.length (gainR p c s)) fun (k : Nat) => [V.i (gi (gainR p c s) k)]), pv (103 : Nat) (V.i (↑i : Int)), pc (104 : Nat) ((0 : Int) ≤ (↑i : Int) ∧ (↑i : Int) < (↑(List.length (gainR p c s)) : Int)) (V.ptr [V.i (gi (gainR p c s) i)]), pv (105 : Nat) (V.i (gi (gainR p c s) i)), pv (106 : Nat) (V.sl (1 : Nat) (List.length (gainR p (min (32767 : Int) (c + hi)) (min (256 : Int) (s + wd)))) fun (k : Nat) => [V.i (gi (gainR p (min (32767 : Int) (c + hi)) (min (256 : Int) (s + wd))) k)]), pv (107 : Nat) (V.i (↑i : Int)), pc (108 : Nat) ((0 : Int) ≤ (↑i : Int) ∧ (↑i : Int) < (↑(List.length (gainR p (min (32767 : Int) (c + hi)) (min (256 : Int) (s + wd)))) : Int)) (V.ptr [V.i (gi (gainR p (min (32767 : Int) (c + hi)) (min (256 : Int) (s + wd))) i)]), pv (109 : Nat) (V.i (gi (gainR p (min (32767 : Int) (c + hi)) (min (256 : Int) (s + wd))) i)), pv (110 : Nat) (V.b (decide (gi (gainR p (min (32767 : Int) (c + hi)) (min (256 : Int) (s + wd))) i < gi (gainR p c s) i))), pv (111 : Nat) (V.b (decide (gi (gainR p (min (32767 : Int) (c + hi)) (min (256 : Int) (s + wd))) i < gi (gainR p c s) i))), pc (112 : Nat) ((True ∧ True) ∧ ((decide (gi (gainR p (min (32767 : Int) (c + hi)) (min (256 : Int) (s + wd))) i < gi (gainR p c s) i) == false) = true → True)) (V.gd (decide (gi (gainR p (min (32767 : Int) (c + hi)) (min (256 : Int) (s + wd))) i < gi (gainR p c s) i) == false) (V.sl (1 : Nat) (List.length (gainR p c s)) fun (k : Nat) => [V.i (gi (gainR p c s) k)])), pc (113 : Nat) ((True ∧ True) ∧ ((decide (gi (gainR p (min (32767 : Int) (c + hi)) (min (256 : Int) (s + wd))) i < gi (gainR p c s) i) == false) = true → True)) (V.gd (decide (gi (gainR p (min (32767 : Int) (c + hi)) (min (256 : Int) (s + wd))) i < gi (gainR p c s) i) == false) (V.i (↑i : Int))), pc (114 : Nat) ((((decide (gi (gainR p (min (32767 : Int) (c + hi)) (min (256 : Int) (s + wd))) i < gi (gainR p c s) i) == false) = true → (decide (gi (gainR p (min (32767 : Int) (c + hi)) (min (256 : Int) (s + wd))) i < gi (gainR p c s) i) == false) = true) ∧ ((decide (gi (gainR p (min (32767 : Int) (c + hi)) (min (256 : Int) (s + wd))) i < gi (gainR p c s) i) == false) = true → (decide (gi (gainR p (min (32767 : Int) (c + hi)) (min (256 : Int) (s + wd))) i < gi (gainR p c s) i) == false) = true) ∧ True) ∧ ((decide (gi (gainR p (min (32767 : Int) (c + hi)) (min (256 : Int) (s + wd))) i < gi (gainR p c s) i) == false) = true → (0 : Int) ≤ (↑i : Int) ∧ (↑i : Int) < (↑(List.length (gainR p c s)) : Int))) (V.gd (decide (gi (gainR p (min (32767 : Int) (c + hi)) (min (256 : Int) (s + wd))) i < gi (gainR p c s) i) == false) (V.ptr [V.i (gi (gainR p c s) i)])), pc (115 : Nat) ((((decide (gi (gainR p (min (32767 : Int) (c + hi)) (min (256 : Int) (s + wd))) i < gi (gainR p c s) i) == false) = true → (decide (gi (gainR p (min (32767 : Int) (c + hi)) (min (256 : Int) (s + wd))) i < gi (gainR p c s) i) == false) = true) ∧ True) ∧ ((decide (gi (gainR p (min (32767 : Int) (c + hi)) (min (256 : Int) (s + wd))) i < gi (gainR p c s) i) == false) = true → True)) (V.gd (decide (gi (gainR p (min (32767 : Int) (c + hi)) (min (256 : Int) (s + wd))) i < gi (gainR p c s) i) == false) (V.i (gi (gainR p c s) i))), pc (116 : Nat) ((True ∧ True) ∧ ((decide (gi (gainR p (min (32767 : Int) (c + hi)) (min (256 : Int) (s + wd))) i < gi (gainR p c s) i) == false) = true → True)) (V.gd (decide (gi (gainR p (min (32767 : Int) (c + hi)) (min (256 : Int) (s + wd))) i < gi (gainR p c s) i) == false) (V.sl (1 : Nat) (List.length (needR p c)) fun (k : Nat) => [V.i (gi (needR p c) k)])), pc (117 : Nat) ((True ∧ True) ∧ ((decide (gi (gainR p (min (32767 : Int) (c + hi)) (min (256 : Int) (s + wd))) i < gi (gainR p c s) i) == false) = true → True)) (V.gd (decide (gi (gainR p (min (32767 : Int) (c + hi)) (min (256 : Int) (s + wd))) i < gi (gainR p c s) i) == false) (V.i (↑i : Int))), pc (118 : Nat) ((((decide (gi (gainR p (min (32767 : Int) (c + hi)) (min (256 : Int) (s + wd))) i < gi (gainR p c s) i) == false) = true → (decide (gi (gainR p (min (32767 : Int) (c + hi)) (min (256 : Int) (s + wd))) i < gi (gainR p c s) i) == false) = true) ∧ ((decide (gi (gainR p (min (32767 : Int) (c + hi)) (min (256 : Int) (s + wd))) i < gi (gainR p c s) i) == false) = true → (decide (gi (gainR p (min (32767 : Int) (c + hi)) (min (256 : Int) (s + wd))) i < gi (gainR p c s) i) == false) = true) ∧ True) ∧ ((decide (gi (gainR p (min (32767 : Int) (c + hi)) (min (256 : Int) (s + wd))) i < gi (gainR p c s) i) == false) = true → (0 : Int) ≤ (↑i : Int) ∧ (↑i : Int) < (↑(List.length (needR p c)) : Int))) (V.gd (decide (gi (gainR p (min (32767 : Int) (c + hi)) (min (256 : Int) (s + wd))) i < gi (gainR p c s) i) == false) (V.ptr [V.i (gi (needR p c) i)])), pc (119 : Nat) ((((decide (gi (gainR p (min (32767 : Int) (c + hi)) (min (256 : Int) (s + wd))) i < gi (gainR p c s) i) == false) = true → (decide (gi (gainR p (min (32767 : Int) (c + hi)) (min (256 : Int) (s + wd))) i < gi (gainR p c s) i) == false) = true) ∧ True) ∧ ((decide (gi (gainR p (min (32767 : Int) (c + hi)) (min (256 : Int) (s + wd))) i < gi (gainR p c s) i) == false) = true → True)) (V.gd (decide (gi (gainR p (min (32767 : Int) (c + hi)) (min (256 : Int) (s + wd))) i < gi (gainR p c s) i) == false) (V.i (gi (needR p c) i))), pc (120 : Nat) ((((decide (gi (gainR p (min (32767 : Int) (c + hi)) (min (256 : Int) (s + wd))) i < gi (gainR p c s) i) == false) = true → (decide (gi (gainR p (min (32767 : Int) (c + hi)) (min (256 : Int) (s + wd))) i < gi (gainR p c s) i) == false) = true) ∧ ((decide (gi (gainR p (min (32767 : Int) (c + hi)) (min (256 : Int) (s + wd))) i < gi (gainR p c s) i) == false) = true → (decide (gi (gainR p (min (32767 : Int) (c + hi)) (min (256 : Int) (s + wd))) i < gi (gainR p c s) i) == false) = true) ∧ True) ∧ ((decide (gi (gainR p (min (32767 : Int) (c + hi)) (min (256 : Int) (s + wd))) i < gi (gainR p c s) i) == false) = true → True)) (V.gd (decide (gi (gainR p (min (32767 : Int) (c + hi)) (min (256 : Int) (s + wd))) i < gi (gainR p c s) i) == false) (V.b (decide (gi (needR p c) i < gi (gainR p c s) i)))), pc (121 : Nat) (True ∧ (decide (gi (gainR p (min (32767 : Int) (c + hi)) (min (256 : Int) (s + wd))) i < gi (gainR p c s) i) = false → (decide (gi (gainR p (min (32767 : Int) (c + hi)) (min (256 : Int) (s + wd))) i < gi (gainR p c s) i) == false) = true)) (V.b (decide (gi (gainR p (min (32767 : Int) (c + hi)) (min (256 : Int) (s + wd))) i < gi (gainR p c s) i) || decide (gi (needR p c) i < gi (gainR p c s) i)))] (by kernel_rfl) (by kernel_rfl) ⟨(by omega), (by omega), ⟨⟨True.intro, True.intro⟩, (fun _ => True.intro)⟩, ⟨⟨True.intro, True.intro⟩, (fun _ => True.intro)⟩, ⟨⟨(by (exact fun h => h)), ⟨(by (exact fun h => h)), True.intro⟩⟩, (by (intro hg; simp at hg; omega))⟩, ⟨⟨(by (exact fun h => h)), True.intro⟩, (fun _ => True.intro)⟩, ⟨⟨True.intro, True.intro⟩, (fun _ => True.intro)⟩, ⟨⟨True.intro, True.intro⟩, (fun _ => True.intro)⟩, ⟨⟨(by (exact fun h => h)), ⟨(by (exact fun h => h)), True.intro⟩⟩, (by (intro hg; simp at hg; omega))⟩, ⟨⟨(by (exact fun h => h)), True.intro⟩, (fun _ => True.intro)⟩, ⟨⟨(by (exact fun h => h)), ⟨(by (exact fun h => h)), True.intro⟩⟩, (fun _ => True.intro)⟩, ⟨True.intro, (by (intro h; rw [h]; rfl))⟩, True.intro⟩ ?_
    refine aops_nil ⟨by kernel_rfl, ?_⟩
    refine xt_n ?_
    refine hK _ ?_
    clear hK K
    refine w_cond (t := decide (gi (gainR p (min (32767 : Int) (c + hi)) (min (256 : Int) (s + wd))) i < gi (gainR p c s) i) || decide (gi (needR p c) i < gi (gainR p c s) i)) (by kernel_rfl) (fun c4 => ?_) (fun c4 => ?_)
    · simp at c4
      omega
    refine aw_skip ?_
    refine xt_n ?_
    refine hK _ ?_
    clear hK K
    refine w_regionD (n' := 4) (by kernel_rfl) (by kernel_rfl) ?_
    refine aops_n hTT (M := []) (n := 6) [pv (122 : Nat) (V.i (loudK p i)), pv (123 : Nat) (V.sl (2 : Nat) (List.length p) fun (k : Nat) => [V.i (Prod.fst (gp p k)), V.i (Prod.snd (gp p k))]), pv (124 : Nat) (V.i (↑i : Int)), pc (125 : Nat) ((0 : Int) ≤ (↑i : Int) ∧ (↑i : Int) < (↑(List.length p) : Int)) (V.ptr [V.i (Prod.fst (gp p i)), V.i (Prod.snd (gp p i))]), pv (126 : Nat) (V.ptr [V.i (Prod.fst (gp p i)), V.i (Prod.snd (gp p i))]), pv (127 : Nat) (V.i (Prod.fst (gp p i)))] (by kernel_rfl) (by kernel_rfl) ⟨(by omega), True.intro⟩ ?_
    refine e_call (first := []) (caps := []) (refAbs_ac (gp p i).1 (by omega)) (by kernel_rfl) (by kernel_rfl) (by kernel_rfl) (by kernel_rfl) (by kernel_rfl) ?_
    refine aops_n hTT (M := []) (n := 5) [pv (129 : Nat) (V.sl (2 : Nat) (List.length p) fun (k : Nat) => [V.i (Prod.fst (gp p k)), V.i (Prod.snd (gp p k))]), pv (130 : Nat) (V.i (↑i : Int)), pc (131 : Nat) ((0 : Int) ≤ (↑i : Int) ∧ (↑i : Int) < (↑(List.length p) : Int)) (V.ptr [V.i (Prod.fst (gp p i)), V.i (Prod.snd (gp p i))]), pv (132 : Nat) (V.ptr [V.i (Prod.snd (gp p i))]), pv (133 : Nat) (V.i (Prod.snd (gp p i)))] (by kernel_rfl) (by kernel_rfl) ⟨(by omega), True.intro⟩ ?_
    refine e_call (first := []) (caps := []) (refAbs_ac (gp p i).2 (by omega)) (by kernel_rfl) (by kernel_rfl) (by kernel_rfl) (by kernel_rfl) (by kernel_rfl) ?_
    refine aops_n hTT (M := []) (n := 2) [pv (135 : Nat) (V.i (max (max (loudK p i) (absI (Prod.fst (gp p i)))) (absI (Prod.snd (gp p i))))), pv (19 : Nat) (V.i (max (max (loudK p i) (absI (Prod.fst (gp p i)))) (absI (Prod.snd (gp p i)))))] (by kernel_rfl) (by kernel_rfl) True.intro ?_
    refine aops_nil ⟨by kernel_rfl, ?_⟩
    refine xb_n ?_
    refine xt_n ?_
    refine hK _ ?_
    clear hK K
    refine w_region (n' := 5) (by kernel_rfl) (by kernel_rfl) ?_
    refine aops_n hTT (M := []) (n := 3) [pv (100 : Nat) (V.i (↑i : Int)), pc (101 : Nat) ((-9223372036854775808 : Int) ≤ (↑i : Int) + (1 : Int) ∧ (↑i : Int) + (1 : Int) ≤ (9223372036854775807 : Int)) (V.i ((↑i : Int) + (1 : Int))), pv (20 : Nat) (V.i ((↑i : Int) + (1 : Int)))] (by kernel_rfl) (by kernel_rfl) ⟨(by omega), True.intro⟩ ?_
    refine aops_nil ?_
    refine xt_n ?_
    exact ⟨i + 1, by omega, by refine le_ren [] (.cons (by kernel_rfl) (.cons (by kernel_rfl) (.cons (by kernel_rfl) (.cons (by kernel_rfl) (.cons (by kernel_rfl) (.cons (by kernel_rfl) (.cons (by kernel_rfl) .nil))))))) .nil (by kernel_rfl) (by kernel_rfl), by omega⟩
  · simp at c3
    obtain rfl : i = p.length := by omega
    have hc1 : 1 ≤ max 1 (loudK p p.length) ∧ max 1 (loudK p p.length) ≤ 32767 := by omega
    have v6 : gainE p (max 1 (loudK p p.length)) s = 0 := gainE_ok.2 ⟨needE_ok.2 ⟨m1, hc1⟩, n2⟩
    have g6 := Limit_ac p (max 1 (loudK p p.length)) s hl
    have hfull : limR p (max 1 (loudK p p.length)) s = p := by
      rw [limR, if_pos v6, (gain_3 (gainE_ok.1 v6).1 n2).2]
      refine limL_full fun k hk => ?_
      rw [gainL_gi (by rw [needL_len]; exact hk)]
      refine gainAt_same n2.1 (fun j hj => ?_) (by rw [needL_len]; exact hk)
      rw [needL_len] at hj
      rw [needL_gi hj]
      refine needI_full hc1.1 (amtS_bd (h4 j hj)).1 ?_
      have := loudK_le (p := p) hj
      omega
    rw [v6, hfull] at g6
    refine aw_exit ?_
    refine xt_x ?_
    refine xt_x ?_
    refine xb_same ?_
    refine xt_n ?_
    clear hK K
    refine hK _ ?_
    clear hK K
    refine aw_seq_k fun K hK => ?_
    refine w_region (n' := 3) (by kernel_rfl) (by kernel_rfl) ?_
    refine aops_n hTT (M := []) (n := 4) [pv (137 : Nat) (V.sl (2 : Nat) (List.length p) fun (k : Nat) => [V.i (Prod.fst (gp p k)), V.i (Prod.snd (gp p k))]), pv (138 : Nat) (V.i (loudK p (List.length p))), pv (139 : Nat) (V.i (max (1 : Int) (loudK p (List.length p)))), pv (140 : Nat) (V.i s)] (by kernel_rfl) (by kernel_rfl) True.intro ?_
    refine e_call (first := []) (caps := []) (g6) (by kernel_rfl) (by kernel_rfl) (by kernel_rfl) (by kernel_rfl) (by kernel_rfl) ?_
    refine aops_n hTT (M := []) (n := 5) [pv (136 : Nat) (V.tup [V.sl (2 : Nat) (List.length p) fun (k : Nat) => [V.i (Prod.fst (gp p k)), V.i (Prod.snd (gp p k))], V.i (0 : Int)]), pv (142 : Nat) (V.sl (2 : Nat) (List.length p) fun (k : Nat) => [V.i (Prod.fst (gp p k)), V.i (Prod.snd (gp p k))]), pv (143 : Nat) (V.i (0 : Int)), pv (21 : Nat) (V.sl (2 : Nat) (List.length p) fun (k : Nat) => [V.i (Prod.fst (gp p k)), V.i (Prod.snd (gp p k))]), pv (12 : Nat) (V.i (0 : Int))] (by kernel_rfl) (by kernel_rfl) True.intro ?_
    refine aops_nil ?_
    refine xt_n ?_
    refine hK _ ?_
    clear hK K
    refine aw_seq_k fun K hK => ?_
    refine w_region (n' := 4) (by kernel_rfl) (by kernel_rfl) ?_
    refine aops_n hTT (M := []) (n := 5) [pv (144 : Nat) (V.i (0 : Int)), pv (145 : Nat) (V.b true), pv (146 : Nat) (V.b true), pc (147 : Nat) ((True ∧ True) ∧ ((true == true) = true → True)) (V.gd (true == true) (V.sl (2 : Nat) (List.length p) fun (k : Nat) => [V.i (Prod.fst (gp p k)), V.i (Prod.snd (gp p k))])), pc (148 : Nat) ((True ∧ True) ∧ ((true == true) = true → True)) (V.gd (true == true) (V.sl (2 : Nat) (List.length p) fun (k : Nat) => [V.i (Prod.fst (gp p k)), V.i (Prod.snd (gp p k))]))] (by kernel_rfl) (by kernel_rfl) ⟨⟨⟨True.intro, True.intro⟩, (fun _ => True.intro)⟩, ⟨⟨True.intro, True.intro⟩, (fun _ => True.intro)⟩, True.intro⟩ ?_
    refine e_callG 2 (g := true == true) (first := []) (caps := []) (by kernel_rfl) (fun h => refSamePrograms_ac p p hl hl) (by kernel_rfl) (by kernel_rfl) (by kernel_rfl) (by kernel_rfl) (by kernel_rfl) (by kernel_rfl) ?_
    refine aops_n hTT (M := []) (n := 2) [pc (150 : Nat) ((true = true → (true == true) = true) ∧ True) (V.b (decide (p = p))), pv (151 : Nat) (V.b (decide (p = p)))] (by kernel_rfl) (by kernel_rfl) ⟨⟨(by (exact fun h => h)), True.intro⟩, True.intro⟩ ?_
    refine e_callG 0 (g := decide (p = p) == true) (first := []) (caps := []) (by kernel_rfl) (fun h => works_ac) (by kernel_rfl) (by kernel_rfl) (by kernel_rfl) (by kernel_rfl) (by kernel_rfl) (by kernel_rfl) ?_
    refine aops_n hTT (M := []) (n := 2) [pc (153 : Nat) ((decide (p = p) = true → (decide (p = p) == true) = true) ∧ True) (V.b (decide (p = p) && true)), pv (10 : Nat) (V.b (decide (p = p) && true))] (by kernel_rfl) (by kernel_rfl) ⟨⟨(by (intro h; rw [h]; rfl)), True.intro⟩, True.intro⟩ ?_
    refine aops_nil ?_
    refine xt_n ?_
    refine hK _ ?_
    clear hK K
    refine aw_ret ?_
    refine ret_pure (v' := V.b (decide (p = p) && true)) (.inr rfl) (by kernel_rfl) ?_ (by kernel_rfl)
    simp
def lessSh : List Sh := [(.sl (.fld (.int .i64) (.lst (.int .i64)))), (.int .i64), (.int .i64), (.int .u16), (.int .u8)]
theorem less_all (x : TL lessSh) (hx : wfL lessSh x) : AC Try.prog 9 (valL lessSh x) (V.b true) [] := by
  obtain ⟨p, c, s, a, b, _⟩ := x
  obtain ⟨⟨h1, _⟩, h2, h3, h4, h5, _⟩ := hx
  exact less_law p c s a b h1 (wf_u16 h4) (wf_u8 h5)
end Go.Proofs.Ytblipieipldanaa
