/-
  FilterBounded: the walk of the law. No condition.
-/
import Derived.Test.YtblipieipldanaaFA15
import Derived.Test.YtblipieipldanaaWUndone
namespace Go.Proofs.Ytblipieipldanaa
open Go.Ab Go.RowKit Go.Dw Go.Shelf

/-- the greatest amount of the first k numbers -/
def ldK (l : List Int) : Nat → Int
  | 0 => 0
  | k + 1 => max (ldK l k) (absI (gi l k))
theorem ldK_ge {l : List Int} : ∀ {k j : Nat}, j < k → absI (gi l j) ≤ ldK l k
  | k + 1, j, h => by
    rw [ldK]
    by_cases hj : j = k
    · subst hj; omega
    · have := ldK_ge (l := l) (k := k) (j := j) (by omega); omega
theorem ldK_le {l : List Int} {m : Int} (hm : 0 ≤ m) (h : AllLe m l) : ∀ k, 0 ≤ ldK l k ∧ ldK l k ≤ m
  | 0 => ⟨Int.le_refl 0, hm⟩
  | k + 1 => by
    have ih := ldK_le hm h k
    have := h.gi hm k
    rw [ldK]
    unfold absI
    omega
def ldI (l : List Int) : Int := ldK l l.length
theorem ldI_all (l : List Int) : AllLe (ldI l) l := .of_gi fun k hk => by
  have := ldK_ge (l := l) hk
  unfold absI at this
  unfold ldI
  omega
set_option maxRecDepth 100000 in
theorem loudest_ac (l : List Int) (m : Int) (hm : 0 ≤ m ∧ m ≤ 1000000) (h : AllLe m l) (hl : l.length ≤ bigL) : AC Try.prog 65 [V.ints l] (.i (ldI l)) [] := by
  unfold bigL at hl
  refine ac_intro hTT hMX (fn := Try.f65) (N := _) ⟨Try.func65, rfl, Try.ntmps65, by kernel_rfl⟩ (by simp) fun C hC hF => ?_
  refine aw_seq_k fun K hK => ?_
  refine w_region (n' := 2) (by kernel_rfl) (by kernel_rfl) ?_
  refine aops_n hTT (M := []) (n := 1) [pv (2 : Nat) (V.i (0 : Int))] (by kernel_rfl) (by kernel_rfl) True.intro ?_
  refine aops_nil ?_
  refine xt_n ?_
  refine hK _ ?_
  clear hK K
  refine aw_seq_k fun K hK => ?_
  refine w_region (n' := 3) (by kernel_rfl) (by kernel_rfl) ?_
  refine aops_n hTT (M := []) (n := 1) [pv (3 : Nat) (V.i (0 : Int))] (by kernel_rfl) (by kernel_rfl) True.intro ?_
  refine aops_nil ?_
  refine xt_n ?_
  refine hK _ ?_
  clear hK K
  refine aw_seq_k fun K hK => ?_
  refine aw_seq_k fun K hK => ?_
  refine w_region (n' := 4) (by kernel_rfl) (by kernel_rfl) ?_
  refine aops_n hTT (M := []) (n := 1) [pv (4 : Nat) (V.i (0 : Int))] (by kernel_rfl) (by kernel_rfl) True.intro ?_
  refine aops_nil ?_
  refine xt_n ?_
  refine hK _ ?_
  clear hK K
  refine aw_block ?_
  refine w_loop (ι := Nat) (fun k => [(0, V.ints l), (3, .i (ldK l k)), (4, .i k)]) (fun _ => []) (fun k => k ≤ l.length) (fun k => l.length - k) 0 (Nat.zero_le _) ?_ ?_
  · refine le_ren [] (.cons (by kernel_rfl) (.cons (by kernel_rfl) (.cons (by kernel_rfl) .nil))) .nil (by kernel_rfl) (by kernel_rfl)
  intro k hk
  have b1 := h.gi hm.1 k
  refine aw_seq_k fun K hK => ?_
  refine aw_seq_k fun K hK => ?_
  refine w_region (n' := 2) (by kernel_rfl) (by kernel_rfl) ?_
  refine aops_n hTT (M := []) (n := 4) [pv (5 : Nat) (V.i (↑k : Int)), pv (6 : Nat) (V.sl (1 : Nat) (List.length l) fun (k : Nat) => [V.i (gi l k)]), pv (7 : Nat) (V.i (↑(List.length l) : Int)), pv (8 : Nat) (V.b (decide ((↑k : Int) < (↑(List.length l) : Int))))] (by kernel_rfl) (by kernel_rfl) True.intro ?_
  refine aops_nil ?_
  refine xt_n ?_
  refine hK _ ?_
  clear hK K
  refine w_cond (t := decide ((↑k : Int) < (↑(List.length l) : Int))) (by kernel_rfl) (fun c1 => ?_) (fun c1 => ?_)
  · simp at c1
    refine aw_skip ?_
    refine xt_n ?_
    refine hK _ ?_
    clear hK K
    refine aw_seq_k fun K hK => ?_
    refine aw_block ?_
    refine w_region (n' := 3) (by kernel_rfl) (by kernel_rfl) ?_
    refine aops_n hTT (M := []) (n := 5) [pv (11 : Nat) (V.i (ldK l k)), pv (12 : Nat) (V.sl (1 : Nat) (List.length l) fun (k : Nat) => [V.i (gi l k)]), pv (13 : Nat) (V.i (↑k : Int)), pc (14 : Nat) ((0 : Int) ≤ (↑k : Int) ∧ (↑k : Int) < (↑(List.length l) : Int)) (V.ptr [V.i (gi l k)]), pv (15 : Nat) (V.i (gi l k))] (by kernel_rfl) (by kernel_rfl) ⟨(by omega), True.intro⟩ ?_
    refine e_call (first := []) (caps := []) (refAbs_ac (gi l k) (by omega)) (by kernel_rfl) (by kernel_rfl) (by kernel_rfl) (by kernel_rfl) (by kernel_rfl) ?_
    refine aops_n hTT (M := []) (n := 2) [pv (17 : Nat) (V.i (max (ldK l k) (absI (gi l k)))), pv (3 : Nat) (V.i (max (ldK l k) (absI (gi l k))))] (by kernel_rfl) (by kernel_rfl) True.intro ?_
    refine aops_nil ?_
    refine xb_n ?_
    refine xt_n ?_
    refine hK _ ?_
    clear hK K
    refine w_region (n' := 4) (by kernel_rfl) (by kernel_rfl) ?_
    refine aops_n hTT (M := []) (n := 3) [pv (9 : Nat) (V.i (↑k : Int)), pc (10 : Nat) ((-9223372036854775808 : Int) ≤ (↑k : Int) + (1 : Int) ∧ (↑k : Int) + (1 : Int) ≤ (9223372036854775807 : Int)) (V.i ((↑k : Int) + (1 : Int))), pv (4 : Nat) (V.i ((↑k : Int) + (1 : Int)))] (by kernel_rfl) (by kernel_rfl) ⟨(by omega), True.intro⟩ ?_
    refine aops_nil ?_
    refine xt_n ?_
    exact ⟨k + 1, by omega, by refine le_ren [] (.cons (by kernel_rfl) (.cons (by kernel_rfl) (.cons (by kernel_rfl) .nil))) .nil (by kernel_rfl) (by kernel_rfl), by omega⟩
  · simp at c1
    obtain rfl : k = l.length := by omega
    refine aw_exit ?_
    refine xt_x ?_
    refine xt_x ?_
    refine xb_same ?_
    refine xt_n ?_
    clear hK K
    refine hK _ ?_
    clear hK K
    refine aw_seq_k fun K hK => ?_
    refine w_region (n' := 3) (by kernel_rfl) (by kernel_rfl) ?_
    refine aops_n hTT (M := []) (n := 2) [pv (18 : Nat) (V.i (ldK l (List.length l))), pv (2 : Nat) (V.i (ldK l (List.length l)))] (by kernel_rfl) (by kernel_rfl) True.intro ?_
    refine aops_nil ?_
    refine xt_n ?_
    refine hK _ ?_
    clear hK K
    refine aw_ret ?_
    refine ret_pure (v' := V.i (ldK l (List.length l))) (.inr rfl) (by kernel_rfl) (by kernel_rfl) (by kernel_rfl)
theorem boundI_mono {c : Cv} (h3 : hdE c = 0) {a b : Int} (h : a ≤ b) : boundI c a ≤ boundI c b := by
  obtain ⟨hk, hd⟩ := hdE_ok h3
  have b1 := amtL_bd hk.2.2.1 hk.1
  have b3 := hk.2.2.2.2
  unfold boundI boundN
  refine Int.ediv_le_ediv (by show 0 < c.share - amtL c.back; omega) ?_
  have := Int.mul_le_mul_of_nonneg_right h (show 0 ≤ c.share + amt c.feed c.feed.length by show 0 ≤ c.share + amtL c.feed; omega)
  omega
set_option maxRecDepth 100000 in
theorem bounded_law (c : Cv) (x : List Int) (mo : Int) (hc : cvL c) (hx : x.length ≤ bigL) (hmo : 0 ≤ mo ∧ mo ≤ 65535) : AC Try.prog 17 [V.cv c, V.ints x, .c (.int .u16 mo)] (.b true) [] := by
  refine ac_intro hTT hMX (fn := Try.f17) (N := _) ⟨Try.func17, rfl, Try.ntmps17, by kernel_rfl⟩ (by simp) fun C hC hF => ?_
  refine aw_seq_k fun K hK => ?_
  refine w_region (n' := 2) (by kernel_rfl) (by kernel_rfl) ?_
  refine aops_n hTT (M := []) (n := 2) [pv (3 : Nat) (V.ptr [V.sl (1 : Nat) (List.length (Cv.feed c)) fun (k : Nat) => [V.i (gi (Cv.feed c) k)], V.sl (1 : Nat) (List.length (Cv.back c)) fun (k : Nat) => [V.i (gi (Cv.back c) k)], V.i (Cv.share c)]), pv (6 : Nat) (V.b false)] (by kernel_rfl) (by kernel_rfl) True.intro ?_
  refine aops_nil ?_
  refine xt_n ?_
  refine hK _ ?_
  clear hK K
  refine aw_seq_k fun K hK => ?_
  refine aw_seq_k fun K hK => ?_
  refine w_region (n' := 3) (by kernel_rfl) (by kernel_rfl) ?_
  refine aops_n hTT (M := []) (n := 2) [pv (19 : Nat) (V.agg [V.sl (1 : Nat) (List.length (Cv.feed c)) fun (k : Nat) => [V.i (gi (Cv.feed c) k)], V.sl (1 : Nat) (List.length (Cv.back c)) fun (k : Nat) => [V.i (gi (Cv.back c) k)], V.i (Cv.share c)]), pv (20 : Nat) (V.sl (1 : Nat) (List.length x) fun (k : Nat) => [V.i (gi x k)])] (by kernel_rfl) (by kernel_rfl) True.intro ?_
  refine e_call (first := []) (caps := []) (valid_ac c x 400 hc hx) (by kernel_rfl) (by kernel_rfl) (by kernel_rfl) (by kernel_rfl) (by kernel_rfl) ?_
  refine aops_n hTT (M := []) (n := 1) [pv (22 : Nat) (V.b !validB c x (400 : Int))] (by kernel_rfl) (by kernel_rfl) True.intro ?_
  refine aops_nil ?_
  refine xt_n ?_
  refine hK _ ?_
  clear hK K
  refine w_cond (t := !validB c x (400 : Int)) (by kernel_rfl) (fun c1 => ?_) (fun c1 => ?_)
  · refine aw_seq_k fun K hK => ?_
    refine w_region (n' := 4) (by kernel_rfl) (by kernel_rfl) ?_
    refine e_call (first := []) (caps := []) (works_ac) (by kernel_rfl) (by kernel_rfl) (by kernel_rfl) (by kernel_rfl) (by kernel_rfl) ?_
    refine aops_n hTT (M := []) (n := 1) [pv (6 : Nat) (V.b true)] (by kernel_rfl) (by kernel_rfl) True.intro ?_
    refine aops_nil ?_
    refine xt_n ?_
    refine hK _ ?_
    clear hK K
    refine aw_ret ?_
    refine xt_r ?_
    refine ret_pure (v' := V.b true) (.inr rfl) (by kernel_rfl) (by kernel_rfl) (by kernel_rfl)
  have hv : validB c x 400 = true := by
    cases h : validB c x 400 with
    | true => rfl
    | false => rw [h] at c1; cases c1
  obtain ⟨v1, v2, v3⟩ := validB_ok hv
  have hs := (sigE_ok.1 v3).2
  have ha := ldK_le (by decide) hs x.length
  have B1 := Bound_ac c (ldI x) hc
  have H1 := Headroom_ac c hc
  have A1 := Apply_ac c x hc hx
  refine aw_skip ?_
  refine xt_n ?_
  refine hK _ ?_
  clear hK K
  refine aw_seq_k fun K hK => ?_
  refine w_region (n' := 4) (by kernel_rfl) (by kernel_rfl) ?_
  refine aops_n hTT (M := []) (n := 1) [pv (24 : Nat) (V.sl (1 : Nat) (List.length x) fun (k : Nat) => [V.i (gi x k)])] (by kernel_rfl) (by kernel_rfl) True.intro ?_
  refine e_call (first := []) (caps := []) (loudest_ac x 32767 (by decide) hs hx) (by kernel_rfl) (by kernel_rfl) (by kernel_rfl) (by kernel_rfl) (by kernel_rfl) ?_
  by_cases h3 : hdE c = 0
  · obtain ⟨hk, hd⟩ := hdE_ok h3
    have hb := hdI_bd h3
    have hle := fun {a : Int} => bound_iff h3 (a := a)
    have eR : hdR c = hdI c := by rw [hdR, if_pos h3]
    rw [(bd_4 (m := ldI x) ha h3).1, (bd_4 (m := ldI x) ha h3).2] at B1
    rw [h3, eR] at H1
    have hgr : ldI x ≤ min 32767 (ldI x + mo) ∧ 0 ≤ min 32767 (ldI x + mo) ∧ min 32767 (ldI x + mo) ≤ 32767 := by unfold ldI; omega
    have B2 := Bound_ac c (min 32767 (ldI x + mo)) hc
    rw [(bd_4 hgr.2 h3).1, (bd_4 hgr.2 h3).2] at B2
    have B3 := Bound_ac c (hdI c) hc
    rw [(bd_4 hb h3).1, (bd_4 hb h3).2] at B3
    have m1 := boundI_mono h3 hgr.1
    have m2 : boundI c (hdI c) ≤ 32767 := hle.2 (by unfold hdI; omega)
    have hai : 0 ≤ ldI x ∧ ldI x ≤ 32767 := ha
    have hbnd : ∀ k, -boundI c (ldI x) ≤ outK c false x k ∧ outK c false x k ≤ boundI c (ldI x) := bounded (c := c) hk.2.2.2.2.1 hd (l := x) hai.1 (ldI_all x)
    have hfin : (apR c false x).1 = 0 ∧ ldI (apR c false x).2 ≤ boundI c (ldI x) ∧ AllLe 32767 (apR c false x).2 ∧ (apR c false x).2.length ≤ bigL ∨ (apR c false x).1 ≠ 0 ∧ hdI c < ldI x ∧ 32767 < boundI c (ldI x) := by
      rcases apR_or (u := false) v2 v3 with ⟨e1, r1⟩ | ⟨y, e1, r1, _, _⟩
      · right
        rw [e1]
        have hgt : 32767 < boundI c (ldI x) := by
          refine Int.lt_of_not_ge fun hge => ?_
          have : runI c false 32767 x = some (resL c false x) := runI_some fun j hj => bey_no.2 (by have := hbnd j; omega)
          rw [r1] at this; cases this
        refine ⟨by decide, ?_, hgt⟩
        refine Int.lt_of_not_ge fun hge => ?_
        have := boundI_mono h3 hge
        omega
      · left
        rw [e1]
        obtain ⟨r2, r3⟩ := runI_eq.1 r1
        refine ⟨rfl, ?_, r2, by show y.length ≤ _; rw [runI_len r1]; exact hx⟩
        have hB0 : 0 ≤ boundI c (ldI x) := by have := hbnd 0; omega
        refine (ldK_le hB0 ?_ _).2
        show AllLe (boundI c (ldI x)) y
        rw [r3]
        refine .of_gi fun k hk2 => ?_
        rw [resL_len] at hk2
        rw [resL_gi hk2]
        exact hbnd k
    refine aops_n hTT (M := []) (n := 1) [pv (7 : Nat) (V.i (ldI x))] (by kernel_rfl) (by kernel_rfl) True.intro ?_
    refine aops_nil ?_
    refine xt_n ?_
    refine hK _ ?_
    clear hK K
    refine aw_seq_k fun K hK => ?_
    refine w_region (n' := 5) (by kernel_rfl) (by kernel_rfl) ?_
    refine aops_n hTT (M := []) (n := 2) [pv (27 : Nat) (V.agg [V.sl (1 : Nat) (List.length (Cv.feed c)) fun (k : Nat) => [V.i (gi (Cv.feed c) k)], V.sl (1 : Nat) (List.length (Cv.back c)) fun (k : Nat) => [V.i (gi (Cv.back c) k)], V.i (Cv.share c)]), pv (28 : Nat) (V.i (ldI x))] (by kernel_rfl) (by kernel_rfl) True.intro ?_
    refine e_call (first := []) (caps := []) (B1) (by kernel_rfl) (by kernel_rfl) (by kernel_rfl) (by kernel_rfl) (by kernel_rfl) ?_
    refine aops_n hTT (M := []) (n := 5) [pv (26 : Nat) (V.tup [V.i (boundI c (ldI x)), V.i (0 : Int)]), pv (30 : Nat) (V.i (boundI c (ldI x))), pv (31 : Nat) (V.i (0 : Int)), pv (8 : Nat) (V.i (boundI c (ldI x))), pv (9 : Nat) (V.i (0 : Int))] (by kernel_rfl) (by kernel_rfl) True.intro ?_
    refine aops_nil ?_
    refine xt_n ?_
    refine hK _ ?_
    clear hK K
    refine aw_seq_k fun K hK => ?_
    refine w_region (n' := 6) (by kernel_rfl) (by kernel_rfl) ?_
    refine aops_n hTT (M := []) (n := 1) [pv (33 : Nat) (V.agg [V.sl (1 : Nat) (List.length (Cv.feed c)) fun (k : Nat) => [V.i (gi (Cv.feed c) k)], V.sl (1 : Nat) (List.length (Cv.back c)) fun (k : Nat) => [V.i (gi (Cv.back c) k)], V.i (Cv.share c)])] (by kernel_rfl) (by kernel_rfl) True.intro ?_
    refine e_call (first := []) (caps := []) (H1) (by kernel_rfl) (by kernel_rfl) (by kernel_rfl) (by kernel_rfl) (by kernel_rfl) ?_
    refine aops_n hTT (M := []) (n := 5) [pv (32 : Nat) (V.tup [V.i (hdI c), V.i (0 : Int)]), pv (35 : Nat) (V.i (hdI c)), pv (36 : Nat) (V.i (0 : Int)), pv (10 : Nat) (V.i (hdI c)), pv (11 : Nat) (V.i (0 : Int))] (by kernel_rfl) (by kernel_rfl) True.intro ?_
    refine aops_nil ?_
    refine xt_n ?_
    refine hK _ ?_
    clear hK K
    refine aw_seq_k fun K hK => ?_
    refine w_region (n' := 7) (by kernel_rfl) (by kernel_rfl) ?_
    refine aops_n hTT (M := []) (n := 2) [pv (38 : Nat) (V.agg [V.sl (1 : Nat) (List.length (Cv.feed c)) fun (k : Nat) => [V.i (gi (Cv.feed c) k)], V.sl (1 : Nat) (List.length (Cv.back c)) fun (k : Nat) => [V.i (gi (Cv.back c) k)], V.i (Cv.share c)]), pv (39 : Nat) (V.sl (1 : Nat) (List.length x) fun (k : Nat) => [V.i (gi x k)])] (by kernel_rfl) (by kernel_rfl) True.intro ?_
    refine e_call (first := []) (caps := []) (A1) (by kernel_rfl) (by kernel_rfl) (by kernel_rfl) (by kernel_rfl) (by kernel_rfl) ?_
    refine aops_n hTT (M := []) (n := 5) [pv (37 : Nat) (V.tup [V.sl (1 : Nat) (List.length (Prod.snd (apR c false x))) fun (k : Nat) => [V.i (gi (Prod.snd (apR c false x)) k)], V.i (Prod.fst (apR c false x))]), pv (41 : Nat) (V.sl (1 : Nat) (List.length (Prod.snd (apR c false x))) fun (k : Nat) => [V.i (gi (Prod.snd (apR c false x)) k)]), pv (42 : Nat) (V.i (Prod.fst (apR c false x))), pv (12 : Nat) (V.sl (1 : Nat) (List.length (Prod.snd (apR c false x))) fun (k : Nat) => [V.i (gi (Prod.snd (apR c false x)) k)]), pv (13 : Nat) (V.i (Prod.fst (apR c false x)))] (by kernel_rfl) (by kernel_rfl) True.intro ?_
    refine aops_nil ?_
    refine xt_n ?_
    refine hK _ ?_
    clear hK K
    refine aw_seq_k fun K hK => ?_
    refine aw_seq_k fun K hK => ?_
    refine w_region (n' := 8) (by kernel_rfl) (by kernel_rfl) ?_
    refine aops_n hTT (M := []) (n := 6) [pv (43 : Nat) (V.i (0 : Int)), pv (44 : Nat) (V.b false), pv (45 : Nat) (V.b false), pc (46 : Nat) ((True ∧ True) ∧ ((false == false) = true → True)) (V.gd (false == false) (V.i (0 : Int))), pc (47 : Nat) ((((false == false) = true → (false == false) = true) ∧ True ∧ True) ∧ ((false == false) = true → True)) (V.gd (false == false) (V.b false)), pc (48 : Nat) (True ∧ (false = false → (false == false) = true)) (V.b false)] (by kernel_rfl) (by kernel_rfl) ⟨⟨⟨True.intro, True.intro⟩, (fun _ => True.intro)⟩, ⟨⟨(by (exact fun h => h)), ⟨True.intro, True.intro⟩⟩, (fun _ => True.intro)⟩, ⟨True.intro, (by (intro h; rw [h]; rfl))⟩, True.intro⟩ ?_
    refine aops_nil ?_
    refine xt_n ?_
    refine hK _ ?_
    clear hK K
    refine w_false (t := false) (by kernel_rfl) rfl ?_
    refine aw_skip ?_
    refine xt_n ?_
    refine hK _ ?_
    clear hK K
    refine aw_seq_k fun K hK => ?_
    refine w_region (n' := 9) (by kernel_rfl) (by kernel_rfl) ?_
    refine aops_n hTT (M := []) (n := 6) [pv (58 : Nat) (V.i (ldI x)), pv (59 : Nat) (V.c (Value.int IntKind.u16 mo)), pc (60 : Nat) ((-9223372036854775808 : Int) ≤ mo ∧ mo ≤ (9223372036854775807 : Int)) (V.i mo), pc (61 : Nat) ((-9223372036854775808 : Int) ≤ ldI x + mo ∧ ldI x + mo ≤ (9223372036854775807 : Int)) (V.i (ldI x + mo)), pv (62 : Nat) (V.i (min (32767 : Int) (ldI x + mo))), pv (14 : Nat) (V.i (min (32767 : Int) (ldI x + mo)))] (by kernel_rfl) (by kernel_rfl) ⟨(by omega), (by omega), True.intro⟩ ?_
    refine aops_nil ?_
    refine xt_n ?_
    refine hK _ ?_
    clear hK K
    refine aw_seq_k fun K hK => ?_
    refine w_region (n' := 10) (by kernel_rfl) (by kernel_rfl) ?_
    refine aops_n hTT (M := []) (n := 2) [pv (64 : Nat) (V.agg [V.sl (1 : Nat) (List.length (Cv.feed c)) fun (k : Nat) => [V.i (gi (Cv.feed c) k)], V.sl (1 : Nat) (List.length (Cv.back c)) fun (k : Nat) => [V.i (gi (Cv.back c) k)], V.i (Cv.share c)]), pv (65 : Nat) (V.i (min (32767 : Int) (ldI x + mo)))] (by kernel_rfl) (by kernel_rfl) True.intro ?_
    refine e_call (first := []) (caps := []) (B2) (by kernel_rfl) (by kernel_rfl) (by kernel_rfl) (by kernel_rfl) (by kernel_rfl) ?_
    refine aops_n hTT (M := []) (n := 5) [pv (63 : Nat) (V.tup [V.i (boundI c (min (32767 : Int) (ldI x + mo))), V.i (0 : Int)]), pv (67 : Nat) (V.i (boundI c (min (32767 : Int) (ldI x + mo)))), pv (68 : Nat) (V.i (0 : Int)), pv (15 : Nat) (V.i (boundI c (min (32767 : Int) (ldI x + mo)))), pv (9 : Nat) (V.i (0 : Int))] (by kernel_rfl) (by kernel_rfl) True.intro ?_
    refine aops_nil ?_
    refine xt_n ?_
    refine hK _ ?_
    clear hK K
    refine aw_seq_k fun K hK => ?_
    refine aw_seq_k fun K hK => ?_
    refine w_region (n' := 11) (by kernel_rfl) (by kernel_rfl) ?_
    refine aops_n hTT (M := []) (n := 15) [pv (69 : Nat) (V.i (0 : Int)), pv (70 : Nat) (V.b false), pv (71 : Nat) (V.b false), pc (72 : Nat) ((True ∧ True) ∧ ((false == false) = true → True)) (V.gd (false == false) (V.i (boundI c (min (32767 : Int) (ldI x + mo))))), pc (73 : Nat) ((True ∧ True) ∧ ((false == false) = true → True)) (V.gd (false == false) (V.i (boundI c (ldI x)))), pc (74 : Nat) ((((false == false) = true → (false == false) = true) ∧ ((false == false) = true → (false == false) = true) ∧ True) ∧ ((false == false) = true → True)) (V.gd (false == false) (V.b (decide (boundI c (min (32767 : Int) (ldI x + mo)) < boundI c (ldI x))))), pc (75 : Nat) (True ∧ (false = false → (false == false) = true)) (V.b (decide (boundI c (min (32767 : Int) (ldI x + mo)) < boundI c (ldI x)))), pv (76 : Nat) (V.b (decide (boundI c (min (32767 : Int) (ldI x + mo)) < boundI c (ldI x)))), pc (77 : Nat) ((True ∧ True) ∧ ((decide (boundI c (min (32767 : Int) (ldI x + mo)) < boundI c (ldI x)) == false) = true → True)) (V.gd (decide (boundI c (min (32767 : Int) (ldI x + mo)) < boundI c (ldI x)) == false) (V.i (hdI c))), pc (78 : Nat) ((((decide (boundI c (min (32767 : Int) (ldI x + mo)) < boundI c (ldI x)) == false) = true → (decide (boundI c (min (32767 : Int) (ldI x + mo)) < boundI c (ldI x)) == false) = true) ∧ True ∧ True) ∧ ((decide (boundI c (min (32767 : Int) (ldI x + mo)) < boundI c (ldI x)) == false) = true → True)) (V.gd (decide (boundI c (min (32767 : Int) (ldI x + mo)) < boundI c (ldI x)) == false) (V.b (decide (hdI c < (0 : Int))))), pc (79 : Nat) (True ∧ (decide (boundI c (min (32767 : Int) (ldI x + mo)) < boundI c (ldI x)) = false → (decide (boundI c (min (32767 : Int) (ldI x + mo)) < boundI c (ldI x)) == false) = true)) (V.b (decide (boundI c (min (32767 : Int) (ldI x + mo)) < boundI c (ldI x)) || decide (hdI c < (0 : Int)))), pv (80 : Nat) (V.b (decide (boundI c (min (32767 : Int) (ldI x + mo)) < boundI c (ldI x)) || decide (hdI c < (0 : Int)))), pc (81 : Nat) ((True ∧ True) ∧ (((decide (boundI c (min (32767 : Int) (ldI x + mo)) < boundI c (ldI x)) || decide (hdI c < (0 : Int))) == false) = true → True)) (V.gd ((decide (boundI c (min (32767 : Int) (ldI x + mo)) < boundI c (ldI x)) || decide (hdI c < (0 : Int))) == false) (V.i (hdI c))), pc (82 : Nat) (((((decide (boundI c (min (32767 : Int) (ldI x + mo)) < boundI c (ldI x)) || decide (hdI c < (0 : Int))) == false) = true → ((decide (boundI c (min (32767 : Int) (ldI x + mo)) < boundI c (ldI x)) || decide (hdI c < (0 : Int))) == false) = true) ∧ True ∧ True) ∧ (((decide (boundI c (min (32767 : Int) (ldI x + mo)) < boundI c (ldI x)) || decide (hdI c < (0 : Int))) == false) = true → True)) (V.gd ((decide (boundI c (min (32767 : Int) (ldI x + mo)) < boundI c (ldI x)) || decide (hdI c < (0 : Int))) == false) (V.b (decide ((32767 : Int) < hdI c)))), pc (83 : Nat) (True ∧ ((decide (boundI c (min (32767 : Int) (ldI x + mo)) < boundI c (ldI x)) || decide (hdI c < (0 : Int))) = false → ((decide (boundI c (min (32767 : Int) (ldI x + mo)) < boundI c (ldI x)) || decide (hdI c < (0 : Int))) == false) = true)) (V.b (decide (boundI c (min (32767 : Int) (ldI x + mo)) < boundI c (ldI x)) || decide (hdI c < (0 : Int)) || decide ((32767 : Int) < hdI c)))] (by kernel_rfl) (by kernel_rfl) ⟨⟨⟨True.intro, True.intro⟩, (fun _ => True.intro)⟩, ⟨⟨True.intro, True.intro⟩, (fun _ => True.intro)⟩, ⟨⟨(by (exact fun h => h)), ⟨(by (exact fun h => h)), True.intro⟩⟩, (fun _ => True.intro)⟩, ⟨True.intro, (by (intro h; rw [h]; rfl))⟩, ⟨⟨True.intro, True.intro⟩, (fun _ => True.intro)⟩, ⟨⟨(by (exact fun h => h)), ⟨True.intro, True.intro⟩⟩, (fun _ => True.intro)⟩, ⟨True.intro, (by (intro h; rw [h]; rfl))⟩, ⟨⟨True.intro, True.intro⟩, (fun _ => True.intro)⟩, ⟨⟨(by (exact fun h => h)), ⟨True.intro, True.intro⟩⟩, (fun _ => True.intro)⟩, ⟨True.intro, (by (intro h; rw [h]; rfl))⟩, True.intro⟩ ?_
    refine aops_nil ?_
    refine xt_n ?_
    refine hK _ ?_
    clear hK K
    refine w_cond (t := decide (boundI c (min (32767 : Int) (ldI x + mo)) < boundI c (ldI x)) || decide (hdI c < (0 : Int)) || decide ((32767 : Int) < hdI c)) (by kernel_rfl) (fun c2 => ?_) (fun c2 => ?_)
    · simp at c2
      omega
    refine aw_skip ?_
    refine xt_n ?_
    refine hK _ ?_
    clear hK K
    refine aw_seq_k fun K hK => ?_
    refine w_region (n' := 12) (by kernel_rfl) (by kernel_rfl) ?_
    refine aops_n hTT (M := []) (n := 2) [pv (85 : Nat) (V.agg [V.sl (1 : Nat) (List.length (Cv.feed c)) fun (k : Nat) => [V.i (gi (Cv.feed c) k)], V.sl (1 : Nat) (List.length (Cv.back c)) fun (k : Nat) => [V.i (gi (Cv.back c) k)], V.i (Cv.share c)]), pv (86 : Nat) (V.i (hdI c))] (by kernel_rfl) (by kernel_rfl) True.intro ?_
    refine e_call (first := []) (caps := []) (B3) (by kernel_rfl) (by kernel_rfl) (by kernel_rfl) (by kernel_rfl) (by kernel_rfl) ?_
    refine aops_n hTT (M := []) (n := 5) [pv (84 : Nat) (V.tup [V.i (boundI c (hdI c)), V.i (0 : Int)]), pv (88 : Nat) (V.i (boundI c (hdI c))), pv (89 : Nat) (V.i (0 : Int)), pv (16 : Nat) (V.i (boundI c (hdI c))), pv (9 : Nat) (V.i (0 : Int))] (by kernel_rfl) (by kernel_rfl) True.intro ?_
    refine aops_nil ?_
    refine xt_n ?_
    refine hK _ ?_
    clear hK K
    refine aw_seq_k fun K hK => ?_
    refine aw_seq_k fun K hK => ?_
    refine w_region (n' := 13) (by kernel_rfl) (by kernel_rfl) ?_
    refine aops_n hTT (M := []) (n := 6) [pv (90 : Nat) (V.i (0 : Int)), pv (91 : Nat) (V.b false), pv (92 : Nat) (V.b false), pc (93 : Nat) ((True ∧ True) ∧ ((false == false) = true → True)) (V.gd (false == false) (V.i (boundI c (hdI c)))), pc (94 : Nat) ((((false == false) = true → (false == false) = true) ∧ True ∧ True) ∧ ((false == false) = true → True)) (V.gd (false == false) (V.b (decide ((32767 : Int) < boundI c (hdI c))))), pc (95 : Nat) (True ∧ (false = false → (false == false) = true)) (V.b (decide ((32767 : Int) < boundI c (hdI c))))] (by kernel_rfl) (by kernel_rfl) ⟨⟨⟨True.intro, True.intro⟩, (fun _ => True.intro)⟩, ⟨⟨(by (exact fun h => h)), ⟨True.intro, True.intro⟩⟩, (fun _ => True.intro)⟩, ⟨True.intro, (by (intro h; rw [h]; rfl))⟩, True.intro⟩ ?_
    refine aops_nil ?_
    refine xt_n ?_
    refine hK _ ?_
    clear hK K
    refine w_cond (t := decide ((32767 : Int) < boundI c (hdI c))) (by kernel_rfl) (fun c3 => ?_) (fun c3 => ?_)
    · simp at c3
      omega
    refine aw_skip ?_
    refine xt_n ?_
    refine hK _ ?_
    clear hK K
    refine aw_seq_k fun K hK => ?_
    refine aw_seq_k fun K hK => ?_
    refine w_region (n' := 14) (by kernel_rfl) (by kernel_rfl) ?_
    refine aops_n hTT (M := []) (n := 2) [pv (96 : Nat) (V.i (hdI c)), pv (97 : Nat) (V.b (decide (hdI c < (32767 : Int))))] (by kernel_rfl) (by kernel_rfl) True.intro ?_
    refine aops_nil ?_
    refine xt_n ?_
    refine hK _ ?_
    clear hK K
    refine w_cond (t := decide (hdI c < (32767 : Int))) (by kernel_rfl) (fun c4 => ?_) (fun c4 => ?_)
    · simp at c4
      have B4 := Bound_ac c (hdI c + 1) hc
      rw [(bd_4 (m := hdI c + 1) (by omega) h3).1, (bd_4 (m := hdI c + 1) (by omega) h3).2] at B4
      have m3 : 32767 < boundI c (hdI c + 1) := by
        refine Int.lt_of_not_ge fun hge => ?_
        have := hle.1 hge
        unfold hdI at this c4
        omega
      refine aw_seq_k fun K hK => ?_
      refine w_region (n' := 15) (by kernel_rfl) (by kernel_rfl) ?_
      refine aops_n hTT (M := []) (n := 3) [pv (99 : Nat) (V.agg [V.sl (1 : Nat) (List.length (Cv.feed c)) fun (k : Nat) => [V.i (gi (Cv.feed c) k)], V.sl (1 : Nat) (List.length (Cv.back c)) fun (k : Nat) => [V.i (gi (Cv.back c) k)], V.i (Cv.share c)]), pv (100 : Nat) (V.i (hdI c)), pc (101 : Nat) ((-9223372036854775808 : Int) ≤ hdI c + (1 : Int) ∧ hdI c + (1 : Int) ≤ (9223372036854775807 : Int)) (V.i (hdI c + (1 : Int)))] (by kernel_rfl) (by kernel_rfl) ⟨(by omega), True.intro⟩ ?_
      refine e_call (first := []) (caps := []) (B4) (by kernel_rfl) (by kernel_rfl) (by kernel_rfl) (by kernel_rfl) (by kernel_rfl) ?_
      refine aops_n hTT (M := []) (n := 5) [pv (98 : Nat) (V.tup [V.i (boundI c (hdI c + (1 : Int))), V.i (0 : Int)]), pv (103 : Nat) (V.i (boundI c (hdI c + (1 : Int)))), pv (104 : Nat) (V.i (0 : Int)), pv (17 : Nat) (V.i (boundI c (hdI c + (1 : Int)))), pv (18 : Nat) (V.i (0 : Int))] (by kernel_rfl) (by kernel_rfl) True.intro ?_
      refine aops_nil ?_
      refine xt_n ?_
      refine hK _ ?_
      clear hK K
      refine aw_seq_k fun K hK => ?_
      refine w_region (n' := 16) (by kernel_rfl) (by kernel_rfl) ?_
      refine aops_n hTT (M := []) (n := 6) [pv (105 : Nat) (V.i (0 : Int)), pv (106 : Nat) (V.b false), pv (107 : Nat) (V.b false), pc (108 : Nat) ((True ∧ True) ∧ ((false == false) = true → True)) (V.gd (false == false) (V.i (boundI c (hdI c + (1 : Int))))), pc (109 : Nat) ((((false == false) = true → (false == false) = true) ∧ True ∧ True) ∧ ((false == false) = true → True)) (V.gd (false == false) (V.b (decide (boundI c (hdI c + (1 : Int)) ≤ (32767 : Int))))), pc (110 : Nat) (True ∧ (false = false → (false == false) = true)) (V.b (decide (boundI c (hdI c + (1 : Int)) ≤ (32767 : Int))))] (by kernel_rfl) (by kernel_rfl) ⟨⟨⟨True.intro, True.intro⟩, (fun _ => True.intro)⟩, ⟨⟨(by (exact fun h => h)), ⟨True.intro, True.intro⟩⟩, (fun _ => True.intro)⟩, ⟨True.intro, (by (intro h; rw [h]; rfl))⟩, True.intro⟩ ?_
      refine aops_nil ?_
      refine xt_n ?_
      refine hK _ ?_
      clear hK K
      refine w_cond (t := decide (boundI c (hdI c + (1 : Int)) ≤ (32767 : Int))) (by kernel_rfl) (fun c5 => ?_) (fun c5 => ?_)
      · simp at c5
        omega
      refine aw_skip ?_
      refine xt_n ?_
      refine hK _ ?_
      clear hK K
      refine aw_seq_k fun K hK => ?_
      refine aw_seq_k fun K hK => ?_
      refine w_region (n' := 17) (by kernel_rfl) (by kernel_rfl) ?_
      refine aops_n hTT (M := []) (n := 2) [pv (111 : Nat) (V.i (Prod.fst (apR c false x))), pv (112 : Nat) (V.b !decide (Prod.fst (apR c false x) = (0 : Int)))] (by kernel_rfl) (by kernel_rfl) True.intro ?_
      refine aops_nil ?_
      refine xt_n ?_
      refine hK _ ?_
      clear hK K
      rcases hfin with ⟨f1, f2, f3, f4⟩ | ⟨f1, f2, f3⟩
      · refine w_cond (t := !decide (Prod.fst (apR c false x) = (0 : Int))) (by kernel_rfl) (fun c6 => ?_) (fun c6 => ?_)
        · simp [f1] at c6
        refine aw_skip ?_
        refine xt_n ?_
        refine hK _ ?_
        clear hK K
        refine aw_seq_k fun K hK => ?_
        refine w_region (n' := 18) (by kernel_rfl) (by kernel_rfl) ?_
        refine aops_n hTT (M := []) (n := 1) [pv (123 : Nat) (V.sl (1 : Nat) (List.length (Prod.snd (apR c false x))) fun (k : Nat) => [V.i (gi (Prod.snd (apR c false x)) k)])] (by kernel_rfl) (by kernel_rfl) True.intro ?_
        refine e_call (first := []) (caps := []) (loudest_ac (apR c false x).2 32767 (by decide) f3 f4) (by kernel_rfl) (by kernel_rfl) (by kernel_rfl) (by kernel_rfl) (by kernel_rfl) ?_
        refine aops_n hTT (M := []) (n := 3) [pv (125 : Nat) (V.i (boundI c (ldI x))), pv (126 : Nat) (V.b (decide (ldI (Prod.snd (apR c false x)) ≤ boundI c (ldI x)))), pv (127 : Nat) (V.b (decide (ldI (Prod.snd (apR c false x)) ≤ boundI c (ldI x))))] (by kernel_rfl) (by kernel_rfl) True.intro ?_
        refine e_callG 0 (g := decide (ldI (Prod.snd (apR c false x)) ≤ boundI c (ldI x)) == true) (first := []) (caps := []) (by kernel_rfl) (fun h => works_ac) (by kernel_rfl) (by kernel_rfl) (by kernel_rfl) (by kernel_rfl) (by kernel_rfl) (by kernel_rfl) ?_
        refine aops_n hTT (M := []) (n := 2) [pc (129 : Nat) ((decide (ldI (Prod.snd (apR c false x)) ≤ boundI c (ldI x)) = true → (decide (ldI (Prod.snd (apR c false x)) ≤ boundI c (ldI x)) == true) = true) ∧ True) (V.b (decide (ldI (Prod.snd (apR c false x)) ≤ boundI c (ldI x)) && true)), pv (6 : Nat) (V.b (decide (ldI (Prod.snd (apR c false x)) ≤ boundI c (ldI x)) && true))] (by kernel_rfl) (by kernel_rfl) ⟨⟨(by (intro h; rw [h]; rfl)), True.intro⟩, True.intro⟩ ?_
        refine aops_nil ?_
        refine xt_n ?_
        refine hK _ ?_
        clear hK K
        refine aw_ret ?_
        refine ret_pure (v' := V.b (decide (ldI (Prod.snd (apR c false x)) ≤ boundI c (ldI x)) && true)) (.inr rfl) (by kernel_rfl) ?_ (by kernel_rfl)
        simp [f2]
      · refine w_cond (t := !decide (Prod.fst (apR c false x) = (0 : Int))) (by kernel_rfl) (fun c6 => ?_) (fun c6 => ?_)
        · refine aw_seq_k fun K hK => ?_
          refine w_region (n' := 18) (by kernel_rfl) (by kernel_rfl) ?_
          refine aops_n hTT (M := []) (n := 8) [pv (113 : Nat) (V.i (ldI x)), pv (114 : Nat) (V.i (hdI c)), pv (115 : Nat) (V.b (decide (hdI c < ldI x))), pv (116 : Nat) (V.b (decide (hdI c < ldI x))), pc (117 : Nat) ((True ∧ True) ∧ ((decide (hdI c < ldI x) == true) = true → True)) (V.gd (decide (hdI c < ldI x) == true) (V.i (boundI c (ldI x)))), pc (118 : Nat) ((((decide (hdI c < ldI x) == true) = true → (decide (hdI c < ldI x) == true) = true) ∧ True ∧ True) ∧ ((decide (hdI c < ldI x) == true) = true → True)) (V.gd (decide (hdI c < ldI x) == true) (V.b (decide ((32767 : Int) < boundI c (ldI x))))), pc (119 : Nat) ((decide (hdI c < ldI x) = true → (decide (hdI c < ldI x) == true) = true) ∧ True) (V.b (decide (hdI c < ldI x) && decide ((32767 : Int) < boundI c (ldI x)))), pv (120 : Nat) (V.b (decide (hdI c < ldI x) && decide ((32767 : Int) < boundI c (ldI x))))] (by kernel_rfl) (by kernel_rfl) ⟨⟨⟨True.intro, True.intro⟩, (fun _ => True.intro)⟩, ⟨⟨(by (exact fun h => h)), ⟨True.intro, True.intro⟩⟩, (fun _ => True.intro)⟩, ⟨(by (intro h; rw [h]; rfl)), True.intro⟩, True.intro⟩ ?_
          refine e_callG 0 (g := (decide (hdI c < ldI x) && decide ((32767 : Int) < boundI c (ldI x))) == true) (first := []) (caps := []) (by kernel_rfl) (fun h => works_ac) (by kernel_rfl) (by kernel_rfl) (by kernel_rfl) (by kernel_rfl) (by kernel_rfl) (by kernel_rfl) ?_
          refine aops_n hTT (M := []) (n := 2) [pc (122 : Nat) (((decide (hdI c < ldI x) && decide ((32767 : Int) < boundI c (ldI x))) = true → ((decide (hdI c < ldI x) && decide ((32767 : Int) < boundI c (ldI x))) == true) = true) ∧ True) (V.b (decide (hdI c < ldI x) && decide ((32767 : Int) < boundI c (ldI x)) && true)), pv (6 : Nat) (V.b (decide (hdI c < ldI x) && decide ((32767 : Int) < boundI c (ldI x)) && true))] (by kernel_rfl) (by kernel_rfl) ⟨⟨(by (intro h; rw [h]; rfl)), True.intro⟩, True.intro⟩ ?_
          refine aops_nil ?_
          refine xt_n ?_
          refine hK _ ?_
          clear hK K
          refine aw_ret ?_
          refine xt_r ?_
          refine ret_pure (v' := V.b (decide (hdI c < ldI x) && decide ((32767 : Int) < boundI c (ldI x)) && true)) (.inr rfl) (by kernel_rfl) ?_ (by kernel_rfl)
          simp [f2, f3]
        · simp at c6
          exact absurd c6 f1
    · refine aw_skip ?_
      refine xt_n ?_
      refine hK _ ?_
      clear hK K
      refine aw_seq_k fun K hK => ?_
      refine aw_seq_k fun K hK => ?_
      refine w_region (n' := 15) (by kernel_rfl) (by kernel_rfl) ?_
      refine aops_n hTT (M := []) (n := 2) [pv (111 : Nat) (V.i (Prod.fst (apR c false x))), pv (112 : Nat) (V.b !decide (Prod.fst (apR c false x) = (0 : Int)))] (by kernel_rfl) (by kernel_rfl) True.intro ?_
      refine aops_nil ?_
      refine xt_n ?_
      refine hK _ ?_
      clear hK K
      rcases hfin with ⟨f1, f2, f3, f4⟩ | ⟨f1, f2, f3⟩
      · refine w_cond (t := !decide (Prod.fst (apR c false x) = (0 : Int))) (by kernel_rfl) (fun c6 => ?_) (fun c6 => ?_)
        · simp [f1] at c6
        refine aw_skip ?_
        refine xt_n ?_
        refine hK _ ?_
        clear hK K
        refine aw_seq_k fun K hK => ?_
        refine w_region (n' := 16) (by kernel_rfl) (by kernel_rfl) ?_
        refine aops_n hTT (M := []) (n := 1) [pv (123 : Nat) (V.sl (1 : Nat) (List.length (Prod.snd (apR c false x))) fun (k : Nat) => [V.i (gi (Prod.snd (apR c false x)) k)])] (by kernel_rfl) (by kernel_rfl) True.intro ?_
        refine e_call (first := []) (caps := []) (loudest_ac (apR c false x).2 32767 (by decide) f3 f4) (by kernel_rfl) (by kernel_rfl) (by kernel_rfl) (by kernel_rfl) (by kernel_rfl) ?_
        refine aops_n hTT (M := []) (n := 3) [pv (125 : Nat) (V.i (boundI c (ldI x))), pv (126 : Nat) (V.b (decide (ldI (Prod.snd (apR c false x)) ≤ boundI c (ldI x)))), pv (127 : Nat) (V.b (decide (ldI (Prod.snd (apR c false x)) ≤ boundI c (ldI x))))] (by kernel_rfl) (by kernel_rfl) True.intro ?_
        refine e_callG 0 (g := decide (ldI (Prod.snd (apR c false x)) ≤ boundI c (ldI x)) == true) (first := []) (caps := []) (by kernel_rfl) (fun h => works_ac) (by kernel_rfl) (by kernel_rfl) (by kernel_rfl) (by kernel_rfl) (by kernel_rfl) (by kernel_rfl) ?_
        refine aops_n hTT (M := []) (n := 2) [pc (129 : Nat) ((decide (ldI (Prod.snd (apR c false x)) ≤ boundI c (ldI x)) = true → (decide (ldI (Prod.snd (apR c false x)) ≤ boundI c (ldI x)) == true) = true) ∧ True) (V.b (decide (ldI (Prod.snd (apR c false x)) ≤ boundI c (ldI x)) && true)), pv (6 : Nat) (V.b (decide (ldI (Prod.snd (apR c false x)) ≤ boundI c (ldI x)) && true))] (by kernel_rfl) (by kernel_rfl) ⟨⟨(by (intro h; rw [h]; rfl)), True.intro⟩, True.intro⟩ ?_
        refine aops_nil ?_
        refine xt_n ?_
        refine hK _ ?_
        clear hK K
        refine aw_ret ?_
        refine ret_pure (v' := V.b (decide (ldI (Prod.snd (apR c false x)) ≤ boundI c (ldI x)) && true)) (.inr rfl) (by kernel_rfl) ?_ (by kernel_rfl)
        simp [f2]
      · refine w_cond (t := !decide (Prod.fst (apR c false x) = (0 : Int))) (by kernel_rfl) (fun c6 => ?_) (fun c6 => ?_)
        · refine aw_seq_k fun K hK => ?_
          refine w_region (n' := 16) (by kernel_rfl) (by kernel_rfl) ?_
          refine aops_n hTT (M := []) (n := 8) [pv (113 : Nat) (V.i (ldI x)), pv (114 : Nat) (V.i (hdI c)), pv (115 : Nat) (V.b (decide (hdI c < ldI x))), pv (116 : Nat) (V.b (decide (hdI c < ldI x))), pc (117 : Nat) ((True ∧ True) ∧ ((decide (hdI c < ldI x) == true) = true → True)) (V.gd (decide (hdI c < ldI x) == true) (V.i (boundI c (ldI x)))), pc (118 : Nat) ((((decide (hdI c < ldI x) == true) = true → (decide (hdI c < ldI x) == true) = true) ∧ True ∧ True) ∧ ((decide (hdI c < ldI x) == true) = true → True)) (V.gd (decide (hdI c < ldI x) == true) (V.b (decide ((32767 : Int) < boundI c (ldI x))))), pc (119 : Nat) ((decide (hdI c < ldI x) = true → (decide (hdI c < ldI x) == true) = true) ∧ True) (V.b (decide (hdI c < ldI x) && decide ((32767 : Int) < boundI c (ldI x)))), pv (120 : Nat) (V.b (decide (hdI c < ldI x) && decide ((32767 : Int) < boundI c (ldI x))))] (by kernel_rfl) (by kernel_rfl) ⟨⟨⟨True.intro, True.intro⟩, (fun _ => True.intro)⟩, ⟨⟨(by (exact fun h => h)), ⟨True.intro, True.intro⟩⟩, (fun _ => True.intro)⟩, ⟨(by (intro h; rw [h]; rfl)), True.intro⟩, True.intro⟩ ?_
          refine e_callG 0 (g := (decide (hdI c < ldI x) && decide ((32767 : Int) < boundI c (ldI x))) == true) (first := []) (caps := []) (by kernel_rfl) (fun h => works_ac) (by kernel_rfl) (by kernel_rfl) (by kernel_rfl) (by kernel_rfl) (by kernel_rfl) (by kernel_rfl) ?_
          refine aops_n hTT (M := []) (n := 2) [pc (122 : Nat) (((decide (hdI c < ldI x) && decide ((32767 : Int) < boundI c (ldI x))) = true → ((decide (hdI c < ldI x) && decide ((32767 : Int) < boundI c (ldI x))) == true) = true) ∧ True) (V.b (decide (hdI c < ldI x) && decide ((32767 : Int) < boundI c (ldI x)) && true)), pv (6 : Nat) (V.b (decide (hdI c < ldI x) && decide ((32767 : Int) < boundI c (ldI x)) && true))] (by kernel_rfl) (by kernel_rfl) ⟨⟨(by (intro h; rw [h]; rfl)), True.intro⟩, True.intro⟩ ?_
          refine aops_nil ?_
          refine xt_n ?_
          refine hK _ ?_
          clear hK K
          refine aw_ret ?_
          refine xt_r ?_
          refine ret_pure (v' := V.b (decide (hdI c < ldI x) && decide ((32767 : Int) < boundI c (ldI x)) && true)) (.inr rfl) (by kernel_rfl) ?_ (by kernel_rfl)
          simp [f2, f3]
        · simp at c6
          exact absurd c6 f1
  · have e5 : hdE c = 5 := by
      by_cases h4 : c.share ≤ amtL c.back
      · exact hdE_2 v2 h4
      · exact absurd (hdE_3 v2 h4) h3
    rw [(bd_3 (m := ldI x) v2 ha h3).1, (bd_3 (m := ldI x) v2 ha h3).2] at B1
    rw [e5] at H1
    refine aops_n hTT (M := []) (n := 1) [pv (7 : Nat) (V.i (ldI x))] (by kernel_rfl) (by kernel_rfl) True.intro ?_
    refine aops_nil ?_
    refine xt_n ?_
    refine hK _ ?_
    clear hK K
    refine aw_seq_k fun K hK => ?_
    refine w_region (n' := 5) (by kernel_rfl) (by kernel_rfl) ?_
    refine aops_n hTT (M := []) (n := 2) [pv (27 : Nat) (V.agg [V.sl (1 : Nat) (List.length (Cv.feed c)) fun (k : Nat) => [V.i (gi (Cv.feed c) k)], V.sl (1 : Nat) (List.length (Cv.back c)) fun (k : Nat) => [V.i (gi (Cv.back c) k)], V.i (Cv.share c)]), pv (28 : Nat) (V.i (ldI x))] (by kernel_rfl) (by kernel_rfl) True.intro ?_
    refine e_call (first := []) (caps := []) (B1) (by kernel_rfl) (by kernel_rfl) (by kernel_rfl) (by kernel_rfl) (by kernel_rfl) ?_
    refine aops_n hTT (M := []) (n := 5) [pv (26 : Nat) (V.tup [V.i (0 : Int), V.i (5 : Int)]), pv (30 : Nat) (V.i (0 : Int)), pv (31 : Nat) (V.i (5 : Int)), pv (8 : Nat) (V.i (0 : Int)), pv (9 : Nat) (V.i (5 : Int))] (by kernel_rfl) (by kernel_rfl) True.intro ?_
    refine aops_nil ?_
    refine xt_n ?_
    refine hK _ ?_
    clear hK K
    refine aw_seq_k fun K hK => ?_
    refine w_region (n' := 6) (by kernel_rfl) (by kernel_rfl) ?_
    refine aops_n hTT (M := []) (n := 1) [pv (33 : Nat) (V.agg [V.sl (1 : Nat) (List.length (Cv.feed c)) fun (k : Nat) => [V.i (gi (Cv.feed c) k)], V.sl (1 : Nat) (List.length (Cv.back c)) fun (k : Nat) => [V.i (gi (Cv.back c) k)], V.i (Cv.share c)])] (by kernel_rfl) (by kernel_rfl) True.intro ?_
    refine e_call (first := []) (caps := []) (H1) (by kernel_rfl) (by kernel_rfl) (by kernel_rfl) (by kernel_rfl) (by kernel_rfl) ?_
    refine aops_n hTT (M := []) (n := 5) [pv (32 : Nat) (V.tup [V.i (hdR c), V.i (5 : Int)]), pv (35 : Nat) (V.i (hdR c)), pv (36 : Nat) (V.i (5 : Int)), pv (10 : Nat) (V.i (hdR c)), pv (11 : Nat) (V.i (5 : Int))] (by kernel_rfl) (by kernel_rfl) True.intro ?_
    refine aops_nil ?_
    refine xt_n ?_
    refine hK _ ?_
    clear hK K
    refine aw_seq_k fun K hK => ?_
    refine w_region (n' := 7) (by kernel_rfl) (by kernel_rfl) ?_
    refine aops_n hTT (M := []) (n := 2) [pv (38 : Nat) (V.agg [V.sl (1 : Nat) (List.length (Cv.feed c)) fun (k : Nat) => [V.i (gi (Cv.feed c) k)], V.sl (1 : Nat) (List.length (Cv.back c)) fun (k : Nat) => [V.i (gi (Cv.back c) k)], V.i (Cv.share c)]), pv (39 : Nat) (V.sl (1 : Nat) (List.length x) fun (k : Nat) => [V.i (gi x k)])] (by kernel_rfl) (by kernel_rfl) True.intro ?_
    refine e_call (first := []) (caps := []) (A1) (by kernel_rfl) (by kernel_rfl) (by kernel_rfl) (by kernel_rfl) (by kernel_rfl) ?_
    refine aops_n hTT (M := []) (n := 5) [pv (37 : Nat) (V.tup [V.sl (1 : Nat) (List.length (Prod.snd (apR c false x))) fun (k : Nat) => [V.i (gi (Prod.snd (apR c false x)) k)], V.i (Prod.fst (apR c false x))]), pv (41 : Nat) (V.sl (1 : Nat) (List.length (Prod.snd (apR c false x))) fun (k : Nat) => [V.i (gi (Prod.snd (apR c false x)) k)]), pv (42 : Nat) (V.i (Prod.fst (apR c false x))), pv (12 : Nat) (V.sl (1 : Nat) (List.length (Prod.snd (apR c false x))) fun (k : Nat) => [V.i (gi (Prod.snd (apR c false x)) k)]), pv (13 : Nat) (V.i (Prod.fst (apR c false x)))] (by kernel_rfl) (by kernel_rfl) True.intro ?_
    refine aops_nil ?_
    refine xt_n ?_
    refine hK _ ?_
    clear hK K
    refine aw_seq_k fun K hK => ?_
    refine aw_seq_k fun K hK => ?_
    refine w_region (n' := 8) (by kernel_rfl) (by kernel_rfl) ?_
    refine aops_n hTT (M := []) (n := 6) [pv (43 : Nat) (V.i (5 : Int)), pv (44 : Nat) (V.b true), pv (45 : Nat) (V.b true), pc (46 : Nat) ((True ∧ True) ∧ ((true == false) = true → True)) (V.gd (true == false) (V.i (5 : Int))), pc (47 : Nat) ((((true == false) = true → (true == false) = true) ∧ True ∧ True) ∧ ((true == false) = true → True)) (V.gd (true == false) (V.b true)), pc (48 : Nat) (True ∧ (true = false → (true == false) = true)) (V.b true)] (by kernel_rfl) (by kernel_rfl) ⟨⟨⟨True.intro, True.intro⟩, (fun _ => True.intro)⟩, ⟨⟨(by (exact fun h => h)), ⟨True.intro, True.intro⟩⟩, (fun _ => True.intro)⟩, ⟨True.intro, (by (intro h; simp at h; done))⟩, True.intro⟩ ?_
    refine aops_nil ?_
    refine xt_n ?_
    refine hK _ ?_
    clear hK K
    refine w_true (t := true) (by kernel_rfl) rfl ?_
    refine aw_seq_k fun K hK => ?_
    refine w_region (n' := 9) (by kernel_rfl) (by kernel_rfl) ?_
    refine aops_n hTT (M := []) (n := 7) [pv (49 : Nat) (V.i (5 : Int)), pv (50 : Nat) (V.b true), pv (51 : Nat) (V.b true), pc (52 : Nat) ((True ∧ True) ∧ ((true == true) = true → True)) (V.gd (true == true) (V.i (5 : Int))), pc (53 : Nat) ((((true == true) = true → (true == true) = true) ∧ True ∧ True) ∧ ((true == true) = true → True)) (V.gd (true == true) (V.b true)), pc (54 : Nat) ((true = true → (true == true) = true) ∧ True) (V.b true), pv (55 : Nat) (V.b true)] (by kernel_rfl) (by kernel_rfl) ⟨⟨⟨True.intro, True.intro⟩, (fun _ => True.intro)⟩, ⟨⟨(by (exact fun h => h)), ⟨True.intro, True.intro⟩⟩, (fun _ => True.intro)⟩, ⟨(by (exact fun h => h)), True.intro⟩, True.intro⟩ ?_
    refine e_callG 0 (g := true == true) (first := []) (caps := []) (by kernel_rfl) (fun h => works_ac) (by kernel_rfl) (by kernel_rfl) (by kernel_rfl) (by kernel_rfl) (by kernel_rfl) (by kernel_rfl) ?_
    refine aops_n hTT (M := []) (n := 2) [pc (57 : Nat) ((true = true → (true == true) = true) ∧ True) (V.b true), pv (6 : Nat) (V.b true)] (by kernel_rfl) (by kernel_rfl) ⟨⟨(by (exact fun h => h)), True.intro⟩, True.intro⟩ ?_
    refine aops_nil ?_
    refine xt_n ?_
    refine hK _ ?_
    clear hK K
    refine aw_ret ?_
    refine xt_r ?_
    refine ret_pure (v' := V.b true) (.inr rfl) (by kernel_rfl) (by kernel_rfl) (by kernel_rfl)
def boundedSh : List Sh := [(.fld (.sl (.int .i64)) (.fld (.sl (.int .i64)) (.lst (.int .i64)))), (.sl (.int .i64)), (.int .u16)]
theorem bounded_all (x : TL boundedSh) (hx : wfL boundedSh x) : AC Try.prog 17 (valL boundedSh x) (V.b true) [] := by
  obtain ⟨⟨f, b, s⟩, l, m, _⟩ := x
  obtain ⟨⟨⟨h1, _⟩, ⟨h2, _⟩, h3⟩, ⟨h4, _⟩, h5, _⟩ := hx
  exact bounded_law ⟨f, b, s⟩ l m ⟨h1, h2⟩ h4 (wf_u16 h5)
end Go.Proofs.Ytblipieipldanaa
