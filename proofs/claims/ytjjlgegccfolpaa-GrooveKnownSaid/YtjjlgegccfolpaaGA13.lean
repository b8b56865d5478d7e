/-
  The loudest step: the walks of both copies. Conditions: told in each theorem.
-/
import Derived.Test.YtjjlgegccfolpaaGA12
namespace Go.Proofs.Ytjjlgegccfolpaa
open Go.Ab Go.RowKit Go.Dw Go.Shelf

def loudP (k : Nat) (s : Pt) : Pt := ((s.1 * 50 * k).tdiv 1000, (s.2 * 50 * k).tdiv 1000)
def loudL (k : Nat) (s : List Pt) : List Pt := s.map (loudP k)
theorem loudL_len (k : Nat) (s : List Pt) : (loudL k s).length = s.length := by simp [loudL]
def fitsK (c : Cut) (s : List Pt) (r per : Int) (k : Nat) : Bool := decide (sChk (loudL k s) = 0) && decide ((faultR c ((loudL k s).map (wallP c)) r per).2 = 0)
theorem map_gChk {c : Cut} {s : List Pt} (hc : cutE c = 0) (hs : sChk s = 0) : gChk (s.map (wallP c)) = 0 := by
  obtain ⟨h1, h2⟩ := sChk_ok.1 hs
  refine gChk_ok.2 ⟨by simpa using h1, fun k hk => ?_⟩
  rw [List.length_map] at hk
  rw [gp_map hk]
  exact wallP_gE hc (h2 k hk)
def loA (k : Nat) (s : List Pt) (m j : Nat) : Int := if j < m then (loudP k (gp s j)).1 else 0
def loB (k : Nat) (s : List Pt) (m j : Nat) : Int := if j < m then (loudP k (gp s j)).2 else 0
theorem loAB_set {k : Nat} {s : List Pt} {m : Nat} (i : Nat) : (if i = m then [V.i (loudP k (gp s m)).1, V.i (loudP k (gp s m)).2] else [V.i (loA k s m i), V.i (loB k s m i)]) = [V.i (loA k s (m + 1) i), V.i (loB k s (m + 1) i)] := by
  unfold loA loB
  by_cases h : i = m
  · subst h; rw [if_pos rfl, if_pos (by omega), if_pos (by omega)]
  · rw [if_neg h]
    by_cases h2 : i < m
    · rw [if_pos h2, if_pos h2, if_pos (by omega), if_pos (by omega)]
    · rw [if_neg h2, if_neg h2, if_neg (by omega), if_neg (by omega)]
abbrev cutC (c : Cut) : List V := [.i c.half, .i c.gain, .i c.thin, .i c.wide, .i c.slope, .i c.jerk, .i c.sty]
theorem lou_bd {x : Int} {k : Nat} (hx : -32767 ≤ x ∧ x ≤ 32767) (hk : k ≤ 41) : (-1638350 ≤ x * 50 ∧ x * 50 ≤ 1638350) ∧ -67172350 ≤ x * 50 * (k : Int) ∧ x * 50 * (k : Int) ≤ 67172350 := by
  have := gMul (m := 1638350) (n := 41) (a := x * 50) (b := (k : Int)) (by omega) (by omega)
  omega
set_option maxRecDepth 100000 in
theorem loudest1_ac (c : Cut) (s : List Pt) (r per : Int) (k : Nat) (hk : k ≤ 40) (hc : cutE c = 0) (hs : sChk s = 0) (hp : Plc r per) :
    AC Try.prog 71 [.i k, .ptr [V.pts s], .ptr (cutC c), .ptr [.i r], .ptr [.i per]] (.b (fitsK c s r per k)) [] := by
  obtain ⟨l1, l2⟩ := sChk_ok.1 hs
  refine ac_intro hTT hMX (fn := Try.f71) (N := _) ⟨Try.func71, rfl, Try.ntmps71, by kernel_rfl⟩ (by simp) fun C hC hF => ?_
  refine aw_seq_k fun K hK => ?_
  refine w_region (n' := 2) (by kernel_rfl) (by kernel_rfl) ?_
  refine aops_n hTT (M := []) (n := 1) [pv (6 : Nat) (V.b false)] (by kernel_rfl) (by kernel_rfl) True.intro ?_
  refine aops_nil ?_
  refine xt_n ?_
  refine hK _ ?_
  clear hK K
  refine aw_seq_k fun K hK => ?_
  refine w_region (n' := 3) (by kernel_rfl) (by kernel_rfl) ?_
  refine aops_n hTT (M := []) (n := 4) [pv (14 : Nat) (V.sl (2 : Nat) (List.length s) fun (k : Nat) => [V.i (Prod.fst (gp s k)), V.i (Prod.snd (gp s k))]), pv (15 : Nat) (V.i (↑(List.length s) : Int)), PR.mk (some (16 : Nat)) (some ((0 : Int) ≤ (↑(List.length s) : Int) ∧ (↑(List.length s) : Int) ≤ (↑(List.length s) : Int) ∧ (↑(List.length s) : Int) ≤ (1099511627776 : Int))) (V.own (200016 : Nat)) [((200016 : Nat), some (Ob.row (30 : Nat) (2 : Nat) (List.length s) fun (x : Nat) => [V.c (Value.int IntKind.i64 (0 : Int)), V.c (Value.int IntKind.i64 (0 : Int))]))] false, pv (7 : Nat) (V.own (200016 : Nat))] (by kernel_rfl) (by kernel_rfl) ⟨⟨(by omega), (by omega)⟩, True.intro⟩ ?_
  refine aops_nil ?_
  refine xt_n ?_
  refine hK _ ?_
  clear hK K
  refine aw_seq_k fun K hK => ?_
  refine aw_seq_k fun K hK => ?_
  refine w_region (n' := 4) (by kernel_rfl) (by kernel_rfl) ?_
  refine aops_n hTT (M := []) (n := 3) [pv (17 : Nat) (V.sl (2 : Nat) (List.length s) fun (k : Nat) => [V.i (Prod.fst (gp s k)), V.i (Prod.snd (gp s k))]), pv (18 : Nat) (V.i (↑(List.length s) : Int)), pv (19 : Nat) (V.i (0 : Int))] (by kernel_rfl) (by kernel_rfl) True.intro ?_
  refine aops_nil ?_
  refine xt_n ?_
  refine hK _ ?_
  clear hK K
  refine aw_block ?_
  refine w_loop (ι := Nat) (fun m => [(0, .i k), (2, .ptr (cutC c)), (3, .ptr [.i r]), (4, .ptr [.i per]), (7, .own 7), (17, V.pts s), (18, .i s.length), (19, .i m)]) (fun m => [(7, .row 30 2 s.length fun j => [.i (loA k s m j), .i (loB k s m j)])]) (fun m => m ≤ s.length) (fun m => s.length - m) 0 (Nat.zero_le _) ?_ ?_
  · refine le_ren (sl := [(7, Ob.row (30 : Nat) (2 : Nat) (List.length s) fun (j : Nat) => [V.i (loA k s (0 : Nat) j), V.i (loB k s (0 : Nat) j)])]) [(7, 200016)] (.cons (by kernel_rfl) (.cons (by kernel_rfl) (.cons (by kernel_rfl) (.cons (by kernel_rfl) (.cons (by kernel_rfl) (.cons (by kernel_rfl) (.cons (by kernel_rfl) (.cons (by kernel_rfl) .nil)))))))) (.cons ⟨Ob.row (30 : Nat) (2 : Nat) (List.length s) fun (x : Nat) => [V.c (Value.int IntKind.i64 (0 : Int)), V.c (Value.int IntKind.i64 (0 : Int))], (by kernel_rfl), .row (by kernel_rfl) (fun _ _ => rfl)⟩ .nil) (by kernel_rfl) (by kernel_rfl)
  intro m hm
  refine aw_seq_k fun K hK => ?_
  refine w_region (n' := 2) (by kernel_rfl) (by kernel_rfl) ?_
  refine aops_n hTT (M := []) (n := 1) [pv (20 : Nat) (V.b (decide ((↑m : Int) < (↑(List.length s) : Int))))] (by kernel_rfl) (by kernel_rfl) True.intro ?_
  refine aops_nil ?_
  refine xt_n ?_
  refine hK _ ?_
  clear hK K
  refine aw_seq_k fun K hK => ?_
  refine w_cond (t := decide ((↑m : Int) < (↑(List.length s) : Int))) (by kernel_rfl) (fun c1 => ?_) (fun c1 => ?_)
  · have h1 : m < s.length := by simpa using c1
    have sb := sE_iff.1 (l2 m h1)
    have q1 := lou_bd (k := k) sb.1 (by omega)
    have q2 := lou_bd (k := k) sb.2 (by omega)
    refine aw_skip ?_
    refine xt_n ?_
    refine hK _ ?_
    clear hK K
    refine aw_seq_k fun K hK => ?_
    refine aw_block ?_
    refine aw_seq_k fun K hK => ?_
    refine w_region (n' := 3) (by kernel_rfl) (by kernel_rfl) ?_
    refine aops_n hTT (M := []) (n := 6) [pv (21 : Nat) (V.i (↑m : Int)), pc (22 : Nat) ((0 : Int) ≤ (↑m : Int) ∧ (↑m : Int) < (↑(List.length s) : Int)) (V.ptr [V.i (Prod.fst (gp s m)), V.i (Prod.snd (gp s m))]), pv (23 : Nat) (V.agg [V.i (Prod.fst (gp s m)), V.i (Prod.snd (gp s m))]), pn (9 : Nat) (V.ref (200009 : Nat) (0 : Nat)) (200009 : Nat) (Ob.box (30 : Nat) [V.i (0 : Int), V.i (0 : Int)]), pv (8 : Nat) (V.i (↑m : Int)), pw ((0 : Nat) + (2 : Nat) ≤ (2 : Nat)) (200009 : Nat) (Ob.box (30 : Nat) [V.i (Prod.fst (gp s m)), V.i (Prod.snd (gp s m))])] (by kernel_rfl) (by kernel_rfl) ⟨(by omega), (by omega), True.intro⟩ ?_
    refine aops_nil ?_
    refine xt_n ?_
    refine hK _ ?_
    clear hK K
    refine w_region (n' := 4) (by kernel_rfl) (by kernel_rfl) ?_
    refine aops_n hTT (M := []) (n := 17) [pv (24 : Nat) (V.own (7 : Nat)), pv (25 : Nat) (V.i (↑m : Int)), pv (26 : Nat) (V.ref (200009 : Nat) (0 : Nat)), pc (27 : Nat) ((0 : Nat) ≤ (2 : Nat)) (V.i (Prod.fst (gp s m))), pc (28 : Nat) ((-9223372036854775808 : Int) ≤ Prod.fst (gp s m) * (50 : Int) ∧ Prod.fst (gp s m) * (50 : Int) ≤ (9223372036854775807 : Int)) (V.i (Prod.fst (gp s m) * (50 : Int))), pv (29 : Nat) (V.i (↑k : Int)), pc (30 : Nat) ((-9223372036854775808 : Int) ≤ Prod.fst (gp s m) * (50 : Int) * (↑k : Int) ∧ Prod.fst (gp s m) * (50 : Int) * (↑k : Int) ≤ (9223372036854775807 : Int)) (V.i (Prod.fst (gp s m) * (50 : Int) * (↑k : Int))), pc (31 : Nat) ((0 : Int) < (1000 : Int) ∧ (-9223372036854775808 : Int) ≤ Prod.fst (gp s m) * (50 : Int) * (↑k : Int) ∧ Prod.fst (gp s m) * (50 : Int) * (↑k : Int) ≤ (9223372036854775807 : Int)) (V.i (Int.tdiv (Prod.fst (gp s m) * (50 : Int) * (↑k : Int)) (1000 : Int))), pv (32 : Nat) (V.ref (200009 : Nat) (1 : Nat)), pc (33 : Nat) ((1 : Nat) ≤ (2 : Nat)) (V.i (Prod.snd (gp s m))), pc (34 : Nat) ((-9223372036854775808 : Int) ≤ Prod.snd (gp s m) * (50 : Int) ∧ Prod.snd (gp s m) * (50 : Int) ≤ (9223372036854775807 : Int)) (V.i (Prod.snd (gp s m) * (50 : Int))), pv (35 : Nat) (V.i (↑k : Int)), pc (36 : Nat) ((-9223372036854775808 : Int) ≤ Prod.snd (gp s m) * (50 : Int) * (↑k : Int) ∧ Prod.snd (gp s m) * (50 : Int) * (↑k : Int) ≤ (9223372036854775807 : Int)) (V.i (Prod.snd (gp s m) * (50 : Int) * (↑k : Int))), pc (37 : Nat) ((0 : Int) < (1000 : Int) ∧ (-9223372036854775808 : Int) ≤ Prod.snd (gp s m) * (50 : Int) * (↑k : Int) ∧ Prod.snd (gp s m) * (50 : Int) * (↑k : Int) ≤ (9223372036854775807 : Int)) (V.i (Int.tdiv (Prod.snd (gp s m) * (50 : Int) * (↑k : Int)) (1000 : Int))), pv (38 : Nat) (V.agg [V.i (Int.tdiv (Prod.fst (gp s m) * (50 : Int) * (↑k : Int)) (1000 : Int)), V.i (Int.tdiv (Prod.snd (gp s m) * (50 : Int) * (↑k : Int)) (1000 : Int))]), pc (39 : Nat) ((0 : Int) ≤ (↑m : Int) ∧ (↑m : Int) < (↑(List.length s) : Int)) (V.oel (7 : Nat) (2 : Nat) m (0 : Nat)), pw (m < List.length s ∧ (0 : Nat) + (2 : Nat) ≤ (2 : Nat)) (7 : Nat) (Ob.row (30 : Nat) (2 : Nat) (List.length s) fun (j : Nat) => if j = m then [V.i (Int.tdiv (Prod.fst (gp s m) * (50 : Int) * (↑k : Int)) (1000 : Int)), V.i (Int.tdiv (Prod.snd (gp s m) * (50 : Int) * (↑k : Int)) (1000 : Int))] else [V.i (loA k s m j), V.i (loB k s m j)])] (by kernel_rfl) (by kernel_rfl) ⟨(by omega), (by omega), (by omega), ⟨(by omega), (by omega)⟩, (by omega), (by omega), (by omega), ⟨(by omega), (by omega)⟩, (by omega), (by omega), True.intro⟩ ?_
    refine aops_nil ?_
    refine xb_n ?_
    refine xt_n ?_
    refine hK _ ?_
    clear hK K
    refine w_region (n' := 5) (by kernel_rfl) (by kernel_rfl) ?_
    refine aops_n hTT (M := []) (n := 2) [pc (40 : Nat) ((-9223372036854775808 : Int) ≤ (↑m : Int) + (1 : Int) ∧ (↑m : Int) + (1 : Int) ≤ (9223372036854775807 : Int)) (V.i ((↑m : Int) + (1 : Int))), pv (19 : Nat) (V.i ((↑m : Int) + (1 : Int)))] (by kernel_rfl) (by kernel_rfl) ⟨(by omega), True.intro⟩ ?_
    refine aops_nil ?_
    refine xt_n ?_
    refine ⟨m + 1, by omega, ?_, by omega⟩
    refine le_ren (tl := [(0, V.i (↑k : Int)), (2, V.ptr [V.i (Cut.half c), V.i (Cut.gain c), V.i (Cut.thin c), V.i (Cut.wide c), V.i (Cut.slope c), V.i (Cut.jerk c), V.i (Cut.sty c)]), (3, V.ptr [V.i r]), (4, V.ptr [V.i per]), (7, V.own (7 : Nat)), (17, V.sl (2 : Nat) (List.length s) fun (k : Nat) => [V.i (Prod.fst (gp s k)), V.i (Prod.snd (gp s k))]), (18, V.i (↑(List.length s) : Int)), (19, V.i (↑(m + (1 : Nat)) : Int))]) (sl := [(7, Ob.row (30 : Nat) (2 : Nat) (List.length s) fun (j : Nat) => [V.i (loA k s (m + (1 : Nat)) j), V.i (loB k s (m + (1 : Nat)) j)])]) [(7, 7)] (.cons (by kernel_rfl) (.cons (by kernel_rfl) (.cons (by kernel_rfl) (.cons (by kernel_rfl) (.cons (by kernel_rfl) (.cons (by kernel_rfl) (.cons (by kernel_rfl) (.cons (by kernel_rfl) .nil)))))))) (.cons ⟨Ob.row (30 : Nat) (2 : Nat) (List.length s) fun (j : Nat) => if j = m then [V.i (Int.tdiv (Prod.fst (gp s m) * (50 : Int) * (↑k : Int)) (1000 : Int)), V.i (Int.tdiv (Prod.snd (gp s m) * (50 : Int) * (↑k : Int)) (1000 : Int))] else [V.i (loA k s m j), V.i (loB k s m j)], (by kernel_rfl), .row (by kernel_rfl) ?_⟩ .nil) (by kernel_rfl) (by kernel_rfl)
    intro i hi
    exact loAB_set i
  have h1 : m = s.length := by simp at c1; omega
  subst h1
  refine aw_exit ?_
  refine xt_x ?_
  refine xt_x ?_
  refine xb_same ?_
  refine xt_n ?_
  clear hK K
  refine hK _ ?_
  clear hK K
  refine aw_seq_k fun K hK => ?_
  refine w_le (le_shut 7 7 (e := (30 : Nat)) (sz := (2 : Nat)) (n := List.length s) (n' := (loudL k s).length) (row := fun (j : Nat) => [V.i (loA k s (List.length s) j), V.i (loB k s (List.length s) j)]) (row' := (fun j => [.i (gp (loudL k s) j).1, .i (gp (loudL k s) j).2])) (by kernel_rfl) (by kernel_rfl) (fun _ _ => rfl) ?_ ?_) ?_
  · rw [loudL_len]
  · intro i hi
    rw [loA, loB, if_pos hi, if_pos hi, loudL, gp_map hi]
  refine w_region (n' := 3) (by kernel_rfl) (by kernel_rfl) ?_
  refine aops_n hTT (M := []) (n := 2) [pv (42 : Nat) (V.agg [V.i (Cut.half c), V.i (Cut.gain c), V.i (Cut.thin c), V.i (Cut.wide c), V.i (Cut.slope c), V.i (Cut.jerk c), V.i (Cut.sty c)]), pv (43 : Nat) (V.sl (2 : Nat) (List.length (loudL k s)) fun (j : Nat) => [V.i (Prod.fst (gp (loudL k s) j)), V.i (Prod.snd (gp (loudL k s) j))])] (by kernel_rfl) (by kernel_rfl) True.intro ?_
  refine e_call (first := []) (caps := []) (Cut_ac c (loudL k s) (by rw [loudL_len]; omega)) (by kernel_rfl) (by kernel_rfl) (by kernel_rfl) (by kernel_rfl) (by kernel_rfl) ?_
  refine aops_n hTT (M := []) (n := 5) [pv (41 : Nat) (V.tup [V.sl (2 : Nat) (List.length (Prod.fst (cutR c (loudL k s)))) fun (k_1 : Nat) => [V.i (Prod.fst (gp (Prod.fst (cutR c (loudL k s))) k_1)), V.i (Prod.snd (gp (Prod.fst (cutR c (loudL k s))) k_1))], V.i (Prod.snd (cutR c (loudL k s)))]), pv (45 : Nat) (V.sl (2 : Nat) (List.length (Prod.fst (cutR c (loudL k s)))) fun (k_1 : Nat) => [V.i (Prod.fst (gp (Prod.fst (cutR c (loudL k s))) k_1)), V.i (Prod.snd (gp (Prod.fst (cutR c (loudL k s))) k_1))]), pv (46 : Nat) (V.i (Prod.snd (cutR c (loudL k s)))), pv (10 : Nat) (V.sl (2 : Nat) (List.length (Prod.fst (cutR c (loudL k s)))) fun (k_1 : Nat) => [V.i (Prod.fst (gp (Prod.fst (cutR c (loudL k s))) k_1)), V.i (Prod.snd (gp (Prod.fst (cutR c (loudL k s))) k_1))]), pv (11 : Nat) (V.i (Prod.snd (cutR c (loudL k s))))] (by kernel_rfl) (by kernel_rfl) True.intro ?_
  refine aops_nil ?_
  refine xt_n ?_
  refine hK _ ?_
  clear hK K
  refine aw_seq_k fun K hK => ?_
  refine aw_seq_k fun K hK => ?_
  refine w_region (n' := 4) (by kernel_rfl) (by kernel_rfl) ?_
  refine aops_n hTT (M := []) (n := 2) [pv (47 : Nat) (V.i (Prod.snd (cutR c (loudL k s)))), pv (48 : Nat) (V.b !decide (Prod.snd (cutR c (loudL k s)) = (0 : Int)))] (by kernel_rfl) (by kernel_rfl) True.intro ?_
  refine aops_nil ?_
  refine xt_n ?_
  refine hK _ ?_
  clear hK K
  by_cases h2 : sChk (loudL k s) = 0
  · rw [cutR_3 hc h2]
    refine w_false (t := false) (by kernel_rfl) rfl ?_
    refine aw_skip ?_
    refine xt_n ?_
    refine hK _ ?_
    clear hK K
    refine aw_seq_k fun K hK => ?_
    refine w_region (n' := 5) (by kernel_rfl) (by kernel_rfl) ?_
    refine aops_n hTT (M := []) (n := 6) [pv (50 : Nat) (V.agg [V.i (Cut.half c), V.i (Cut.gain c), V.i (Cut.thin c), V.i (Cut.wide c), V.i (Cut.slope c), V.i (Cut.jerk c), V.i (Cut.sty c)]), pv (51 : Nat) (V.sl (2 : Nat) (List.length (List.map (wallP c) (loudL k s))) fun (k_1 : Nat) => [V.i (Prod.fst (gp (List.map (wallP c) (loudL k s)) k_1)), V.i (Prod.snd (gp (List.map (wallP c) (loudL k s)) k_1))]), pv (52 : Nat) (V.i r), pv (53 : Nat) (V.i per), pv (54 : Nat) (V.agg [V.i (Cut.half c), V.i (Cut.gain c), V.i (Cut.thin c), V.i (Cut.wide c), V.i (Cut.slope c), V.i (Cut.jerk c), V.i (Cut.sty c), V.sl (2 : Nat) (List.length (List.map (wallP c) (loudL k s))) fun (k_1 : Nat) => [V.i (Prod.fst (gp (List.map (wallP c) (loudL k s)) k_1)), V.i (Prod.snd (gp (List.map (wallP c) (loudL k s)) k_1))], V.i r, V.i per]), pv (55 : Nat) (V.ptr [V.i (Cut.half c), V.i (Cut.gain c), V.i (Cut.thin c), V.i (Cut.wide c), V.i (Cut.slope c), V.i (Cut.jerk c), V.i (Cut.sty c), V.sl (2 : Nat) (List.length (List.map (wallP c) (loudL k s))) fun (k_1 : Nat) => [V.i (Prod.fst (gp (List.map (wallP c) (loudL k s)) k_1)), V.i (Prod.snd (gp (List.map (wallP c) (loudL k s)) k_1))], V.i r, V.i per])] (by kernel_rfl) (by kernel_rfl) True.intro ?_
    refine e_call (first := []) (caps := []) (fault_ac c ((loudL k s).map (wallP c)) r per hc (map_gChk hc h2) hp) (by kernel_rfl) (by kernel_rfl) (by kernel_rfl) (by kernel_rfl) (by kernel_rfl) ?_
    refine aops_n hTT (M := []) (n := 5) [pv (49 : Nat) (V.tup [V.i (Prod.fst (faultR c (List.map (wallP c) (loudL k s)) r per)), V.i (Prod.snd (faultR c (List.map (wallP c) (loudL k s)) r per))]), pv (57 : Nat) (V.i (Prod.fst (faultR c (List.map (wallP c) (loudL k s)) r per))), pv (58 : Nat) (V.i (Prod.snd (faultR c (List.map (wallP c) (loudL k s)) r per))), pv (12 : Nat) (V.i (Prod.fst (faultR c (List.map (wallP c) (loudL k s)) r per))), pv (13 : Nat) (V.i (Prod.snd (faultR c (List.map (wallP c) (loudL k s)) r per)))] (by kernel_rfl) (by kernel_rfl) True.intro ?_
    refine aops_nil ?_
    refine xt_n ?_
    refine hK _ ?_
    clear hK K
    refine aw_seq_k fun K hK => ?_
    refine w_region (n' := 6) (by kernel_rfl) (by kernel_rfl) ?_
    refine aops_n hTT (M := []) (n := 3) [pv (59 : Nat) (V.i (Prod.snd (faultR c (List.map (wallP c) (loudL k s)) r per))), pv (60 : Nat) (V.b (decide (Prod.snd (faultR c (List.map (wallP c) (loudL k s)) r per) = (0 : Int)))), pv (6 : Nat) (V.b (decide (Prod.snd (faultR c (List.map (wallP c) (loudL k s)) r per) = (0 : Int))))] (by kernel_rfl) (by kernel_rfl) True.intro ?_
    refine aops_nil ?_
    refine xt_n ?_
    refine hK _ ?_
    clear hK K
    refine aw_ret ?_
    rw [fitsK, decide_eq_true h2, Bool.true_and]
    refine ret_pure (v' := V.b (decide (Prod.snd (faultR c (List.map (wallP c) (loudL k s)) r per) = (0 : Int)))) (.inr rfl) (by kernel_rfl) (by kernel_rfl) (by kernel_rfl)
  · rw [cutR_2 hc h2]
    refine w_cond (t := !decide (sChk (loudL k s) = (0 : Int))) (by kernel_rfl) (fun c2 => ?_) (fun c2 => ?_)
    · refine aw_seq_k fun K hK => ?_
      refine w_region (n' := 5) (by kernel_rfl) (by kernel_rfl) ?_
      refine aops_n hTT (M := []) (n := 1) [pv (6 : Nat) (V.b false)] (by kernel_rfl) (by kernel_rfl) True.intro ?_
      refine aops_nil ?_
      refine xt_n ?_
      refine hK _ ?_
      clear hK K
      refine aw_ret ?_
      refine xt_r ?_
      rw [fitsK, decide_eq_false h2, Bool.false_and]
      refine ret_pure (v' := V.b false) (.inr rfl) (by kernel_rfl) (by kernel_rfl) (by kernel_rfl)
    · simp at c2
      exact absurd c2 h2
/-- the first step that does not fit, 41 where there is none -/
def loudN (c : Cut) (s : List Pt) (r per : Int) : Nat := ((List.range 41).find? fun k => !fitsK c s r per k).getD 41
theorem loudN_at {c : Cut} {s : List Pt} {r per : Int} {k : Nat} (hk : k < 41) (h : fitsK c s r per k = false) (hj : ∀ j, j < k → fitsK c s r per j = true) : loudN c s r per = k := by
  have : (List.range 41).find? (fun k => !fitsK c s r per k) = some k := by
    rw [List.find?_range_eq_some]
    exact ⟨by simp [h], by simpa using hk, fun j hj2 => by simp [hj j hj2]⟩
  rw [loudN, this]; rfl
theorem loudN_all {c : Cut} {s : List Pt} {r per : Int} (hj : ∀ j, j < 41 → fitsK c s r per j = true) : loudN c s r per = 41 := by
  have : (List.range 41).find? (fun k => !fitsK c s r per k) = none := by
    rw [List.find?_eq_none]
    intro j hj2
    simp [hj j (by simpa using hj2)]
  rw [loudN, this]; rfl
def lErr (c : Cut) (s : List Pt) (r per : Int) : Int := if cutE c = 0 then (if sChk s = 0 then plcE r per else sChk s) else cutE c
theorem lErr_1 {c : Cut} {s : List Pt} {r per : Int} (h : ¬ cutE c = 0) : lErr c s r per = cutE c := by rw [lErr, if_neg h]
theorem lErr_2 {c : Cut} {s : List Pt} {r per : Int} (h : cutE c = 0) (h2 : ¬ sChk s = 0) : lErr c s r per = sChk s := by rw [lErr, if_pos h, if_neg h2]
theorem lErr_3 {c : Cut} {s : List Pt} {r per : Int} (h : cutE c = 0) (h2 : sChk s = 0) : lErr c s r per = plcE r per := by rw [lErr, if_pos h, if_pos h2]
def loudR (c : Cut) (s : List Pt) (r per : Int) : Int × Int := if lErr c s r per = 0 then (if loudN c s r per = 0 then (0, 14) else ((loudN c s r per : Int) - 1, 0)) else (0, lErr c s r per)
theorem loudR_1 {c : Cut} {s : List Pt} {r per : Int} (h : ¬ lErr c s r per = 0) : loudR c s r per = (0, lErr c s r per) := by rw [loudR, if_neg h]
theorem loudR_2 {c : Cut} {s : List Pt} {r per : Int} (h : lErr c s r per = 0) (h2 : loudN c s r per = 0) : loudR c s r per = (0, 14) := by rw [loudR, if_pos h, if_pos h2]
theorem loudR_3 {c : Cut} {s : List Pt} {r per : Int} {k : Nat} (h : lErr c s r per = 0) (h2 : loudN c s r per = k) (h3 : k ≠ 0) : loudR c s r per = ((k : Int) - 1, 0) := by rw [loudR, if_pos h, h2, if_neg h3]
abbrev loV (c : Cut) (s : List Pt) (r per : Int) : V := .fn (.func 71) [] [.ptr [V.pts s], .ptr (cutC c), .ptr [.i r], .ptr [.i per]]
set_option maxRecDepth 100000 in
theorem Loudest_ac (c : Cut) (s : List Pt) (r per : Int) (hl : s.length ≤ 4611686018427387904) : AC Try.prog 38 [c.v, V.pts s, .i r, .i per] (.tup [.i (loudR c s r per).1, .i (loudR c s r per).2]) [] := by
  refine ac_intro hTT hMX (fn := Try.f38) (N := _) ⟨Try.func38, rfl, Try.ntmps38, by kernel_rfl⟩ (by simp) fun C hC hF => ?_
  refine aw_seq_k fun K hK => ?_
  refine w_region (n' := 2) (by kernel_rfl) (by kernel_rfl) ?_
  refine aops_n hTT (M := []) (n := 6) [pv (4 : Nat) (V.ptr [V.i (Cut.half c), V.i (Cut.gain c), V.i (Cut.thin c), V.i (Cut.wide c), V.i (Cut.slope c), V.i (Cut.jerk c), V.i (Cut.sty c)]), pv (5 : Nat) (V.ptr [V.sl (2 : Nat) (List.length s) fun (k : Nat) => [V.i (Prod.fst (gp s k)), V.i (Prod.snd (gp s k))]]), pv (6 : Nat) (V.ptr [V.i r]), pv (7 : Nat) (V.ptr [V.i per]), pv (8 : Nat) (V.i (0 : Int)), pv (9 : Nat) (V.i (0 : Int))] (by kernel_rfl) (by kernel_rfl) True.intro ?_
  refine aops_nil ?_
  refine xt_n ?_
  refine hK _ ?_
  clear hK K
  refine aw_seq_k fun K hK => ?_
  refine aw_seq_k fun K hK => ?_
  refine w_region (n' := 3) (by kernel_rfl) (by kernel_rfl) ?_
  refine aops_n hTT (M := []) (n := 1) [pv (15 : Nat) (V.agg [V.i (Cut.half c), V.i (Cut.gain c), V.i (Cut.thin c), V.i (Cut.wide c), V.i (Cut.slope c), V.i (Cut.jerk c), V.i (Cut.sty c)])] (by kernel_rfl) (by kernel_rfl) True.intro ?_
  refine e_call (first := []) (caps := []) (cutCheck_ac c) (by kernel_rfl) (by kernel_rfl) (by kernel_rfl) (by kernel_rfl) (by kernel_rfl) ?_
  refine aops_n hTT (M := []) (n := 1) [pv (10 : Nat) (V.i (cutE c))] (by kernel_rfl) (by kernel_rfl) True.intro ?_
  refine aops_nil ?_
  refine xt_n ?_
  refine hK _ ?_
  clear hK K
  refine aw_seq_k fun K hK => ?_
  refine w_region (n' := 4) (by kernel_rfl) (by kernel_rfl) ?_
  refine aops_n hTT (M := []) (n := 2) [pv (17 : Nat) (V.i (cutE c)), pv (18 : Nat) (V.b !decide (cutE c = (0 : Int)))] (by kernel_rfl) (by kernel_rfl) True.intro ?_
  refine aops_nil ?_
  refine xt_n ?_
  refine hK _ ?_
  clear hK K
  refine w_cond (t := !decide (cutE c = (0 : Int))) (by kernel_rfl) (fun c1 => ?_) (fun c1 => ?_)
  · have h : ¬ cutE c = 0 := by simpa using c1
    have e := lErr_1 (s := s) (r := r) (per := per) h
    refine aw_seq_k fun K hK => ?_
    refine w_region (n' := 5) (by kernel_rfl) (by kernel_rfl) ?_
    refine aops_n hTT (M := []) (n := 3) [pv (19 : Nat) (V.i (cutE c)), pv (8 : Nat) (V.i (0 : Int)), pv (9 : Nat) (V.i (cutE c))] (by kernel_rfl) (by kernel_rfl) True.intro ?_
    refine aops_nil ?_
    refine xt_n ?_
    refine hK _ ?_
    clear hK K
    refine aw_ret ?_
    refine xt_r ?_
    rw [loudR_1 (by rw [e]; exact h), e]
    refine ret_pure (v' := V.tup [V.i (0 : Int), V.i (cutE c)]) (.inr rfl) (by kernel_rfl) (by kernel_rfl) (by kernel_rfl)
  have h1 : cutE c = 0 := by simpa using c1
  refine aw_skip ?_
  refine xt_n ?_
  refine hK _ ?_
  clear hK K
  refine aw_seq_k fun K hK => ?_
  refine aw_seq_k fun K hK => ?_
  refine w_region (n' := 5) (by kernel_rfl) (by kernel_rfl) ?_
  refine aops_n hTT (M := []) (n := 1) [pv (20 : Nat) (V.sl (2 : Nat) (List.length s) fun (k : Nat) => [V.i (Prod.fst (gp s k)), V.i (Prod.snd (gp s k))])] (by kernel_rfl) (by kernel_rfl) True.intro ?_
  refine e_call (first := []) (caps := []) (tCheckSamples_ac s hl) (by kernel_rfl) (by kernel_rfl) (by kernel_rfl) (by kernel_rfl) (by kernel_rfl) ?_
  refine aops_n hTT (M := []) (n := 1) [pv (11 : Nat) (V.i (sChk s))] (by kernel_rfl) (by kernel_rfl) True.intro ?_
  refine aops_nil ?_
  refine xt_n ?_
  refine hK _ ?_
  clear hK K
  refine aw_seq_k fun K hK => ?_
  refine w_region (n' := 6) (by kernel_rfl) (by kernel_rfl) ?_
  refine aops_n hTT (M := []) (n := 2) [pv (22 : Nat) (V.i (sChk s)), pv (23 : Nat) (V.b !decide (sChk s = (0 : Int)))] (by kernel_rfl) (by kernel_rfl) True.intro ?_
  refine aops_nil ?_
  refine xt_n ?_
  refine hK _ ?_
  clear hK K
  refine w_cond (t := !decide (sChk s = (0 : Int))) (by kernel_rfl) (fun c2 => ?_) (fun c2 => ?_)
  · have h : ¬ sChk s = 0 := by simpa using c2
    have e := lErr_2 (r := r) (per := per) h1 h
    refine aw_seq_k fun K hK => ?_
    refine w_region (n' := 7) (by kernel_rfl) (by kernel_rfl) ?_
    refine aops_n hTT (M := []) (n := 3) [pv (24 : Nat) (V.i (sChk s)), pv (8 : Nat) (V.i (0 : Int)), pv (9 : Nat) (V.i (sChk s))] (by kernel_rfl) (by kernel_rfl) True.intro ?_
    refine aops_nil ?_
    refine xt_n ?_
    refine hK _ ?_
    clear hK K
    refine aw_ret ?_
    refine xt_r ?_
    rw [loudR_1 (by rw [e]; exact h), e]
    refine ret_pure (v' := V.tup [V.i (0 : Int), V.i (sChk s)]) (.inr rfl) (by kernel_rfl) (by kernel_rfl) (by kernel_rfl)
  have h2 : sChk s = 0 := by simpa using c2
  have e := lErr_3 (r := r) (per := per) h1 h2
  refine aw_skip ?_
  refine xt_n ?_
  refine hK _ ?_
  clear hK K
  refine aw_seq_k fun K hK => ?_
  refine aw_seq_k fun K hK => ?_
  refine w_region (n' := 7) (by kernel_rfl) (by kernel_rfl) ?_
  refine aops_n hTT (M := []) (n := 2) [pv (25 : Nat) (V.i r), pv (26 : Nat) (V.i per)] (by kernel_rfl) (by kernel_rfl) True.intro ?_
  refine e_call (first := []) (caps := []) (checkPlace_ac r per) (by kernel_rfl) (by kernel_rfl) (by kernel_rfl) (by kernel_rfl) (by kernel_rfl) ?_
  refine aops_n hTT (M := []) (n := 1) [pv (12 : Nat) (V.i (plcE r per))] (by kernel_rfl) (by kernel_rfl) True.intro ?_
  refine aops_nil ?_
  refine xt_n ?_
  refine hK _ ?_
  clear hK K
  refine aw_seq_k fun K hK => ?_
  refine w_region (n' := 8) (by kernel_rfl) (by kernel_rfl) ?_
  refine aops_n hTT (M := []) (n := 2) [pv (28 : Nat) (V.i (plcE r per)), pv (29 : Nat) (V.b !decide (plcE r per = (0 : Int)))] (by kernel_rfl) (by kernel_rfl) True.intro ?_
  refine aops_nil ?_
  refine xt_n ?_
  refine hK _ ?_
  clear hK K
  refine w_cond (t := !decide (plcE r per = (0 : Int))) (by kernel_rfl) (fun c3 => ?_) (fun c3 => ?_)
  · have h : ¬ plcE r per = 0 := by simpa using c3
    refine aw_seq_k fun K hK => ?_
    refine w_region (n' := 9) (by kernel_rfl) (by kernel_rfl) ?_
    refine aops_n hTT (M := []) (n := 3) [pv (30 : Nat) (V.i (plcE r per)), pv (8 : Nat) (V.i (0 : Int)), pv (9 : Nat) (V.i (plcE r per))] (by kernel_rfl) (by kernel_rfl) True.intro ?_
    refine aops_nil ?_
    refine xt_n ?_
    refine hK _ ?_
    clear hK K
    refine aw_ret ?_
    refine xt_r ?_
    rw [loudR_1 (by rw [e]; exact h), e]
    refine ret_pure (v' := V.tup [V.i (0 : Int), V.i (plcE r per)]) (.inr rfl) (by kernel_rfl) (by kernel_rfl) (by kernel_rfl)
  have h3 : plcE r per = 0 := by simpa using c3
  have he : lErr c s r per = 0 := e.trans h3
  refine aw_skip ?_
  refine xt_n ?_
  refine hK _ ?_
  clear hK K
  refine aw_seq_k fun K hK => ?_
  refine w_region (n' := 9) (by kernel_rfl) (by kernel_rfl) ?_
  refine aops_n hTT (M := []) (n := 2) [pv (31 : Nat) (V.fn (Fn.func (71 : Nat)) [] [V.ptr [V.sl (2 : Nat) (List.length s) fun (k : Nat) => [V.i (Prod.fst (gp s k)), V.i (Prod.snd (gp s k))]], V.ptr [V.i (Cut.half c), V.i (Cut.gain c), V.i (Cut.thin c), V.i (Cut.wide c), V.i (Cut.slope c), V.i (Cut.jerk c), V.i (Cut.sty c)], V.ptr [V.i r], V.ptr [V.i per]]), pv (13 : Nat) (V.fn (Fn.func (71 : Nat)) [] [V.ptr [V.sl (2 : Nat) (List.length s) fun (k : Nat) => [V.i (Prod.fst (gp s k)), V.i (Prod.snd (gp s k))]], V.ptr [V.i (Cut.half c), V.i (Cut.gain c), V.i (Cut.thin c), V.i (Cut.wide c), V.i (Cut.slope c), V.i (Cut.jerk c), V.i (Cut.sty c)], V.ptr [V.i r], V.ptr [V.i per]])] (by kernel_rfl) (by kernel_rfl) True.intro ?_
  refine aops_nil ?_
  refine xt_n ?_
  refine hK _ ?_
  clear hK K
  refine aw_seq_k fun K hK => ?_
  refine w_region (n' := 10) (by kernel_rfl) (by kernel_rfl) ?_
  refine aops_n hTT (M := []) (n := 1) [pv (14 : Nat) (V.i (0 : Int))] (by kernel_rfl) (by kernel_rfl) True.intro ?_
  refine aops_nil ?_
  refine xt_n ?_
  refine hK _ ?_
  clear hK K
  refine aw_seq_k fun K hK => ?_
  refine aw_block ?_
  refine w_loop (ι := Nat) (fun k => [(13, loV c s r per), (14, .i k)]) (fun _ => []) (fun k => k ≤ 41 ∧ ∀ j, j < k → fitsK c s r per j = true) (fun k => 41 - k) 0 ⟨by decide, fun j hj => by omega⟩ ?_ ?_
  · refine le_ren [] (.cons (by kernel_rfl) (.cons (by kernel_rfl) .nil)) .nil (by kernel_rfl) (by kernel_rfl)
  rintro k ⟨hk, hj⟩
  refine aw_seq_k fun K hK => ?_
  refine aw_seq_k fun K hK => ?_
  refine w_region (n' := 2) (by kernel_rfl) (by kernel_rfl) ?_
  refine aops_n hTT (M := []) (n := 5) [pv (32 : Nat) (V.i (↑k : Int)), pv (33 : Nat) (V.b (decide ((↑k : Int) ≤ (40 : Int)))), pv (34 : Nat) (V.b (decide ((↑k : Int) ≤ (40 : Int)))), pc (35 : Nat) ((True ∧ True) ∧ ((decide ((↑k : Int) ≤ (40 : Int)) == true) = true → True)) (V.gd (decide ((↑k : Int) ≤ (40 : Int)) == true) (V.fn (Fn.func (71 : Nat)) [] [V.ptr [V.sl (2 : Nat) (List.length s) fun (k : Nat) => [V.i (Prod.fst (gp s k)), V.i (Prod.snd (gp s k))]], V.ptr [V.i (Cut.half c), V.i (Cut.gain c), V.i (Cut.thin c), V.i (Cut.wide c), V.i (Cut.slope c), V.i (Cut.jerk c), V.i (Cut.sty c)], V.ptr [V.i r], V.ptr [V.i per]])), pc (36 : Nat) ((True ∧ True) ∧ ((decide ((↑k : Int) ≤ (40 : Int)) == true) = true → True)) (V.gd (decide ((↑k : Int) ≤ (40 : Int)) == true) (V.i (↑k : Int)))] (by kernel_rfl) (by kernel_rfl) ⟨⟨⟨True.intro, True.intro⟩, (fun _ => True.intro)⟩, ⟨⟨True.intro, True.intro⟩, (fun _ => True.intro)⟩, True.intro⟩ ?_
  refine e_callG 2 (g := decide ((↑k : Int) ≤ (40 : Int)) == true) (first := []) (caps := [V.ptr [V.sl (2 : Nat) (List.length s) fun (k : Nat) => [V.i (Prod.fst (gp s k)), V.i (Prod.snd (gp s k))]], V.ptr [V.i (Cut.half c), V.i (Cut.gain c), V.i (Cut.thin c), V.i (Cut.wide c), V.i (Cut.slope c), V.i (Cut.jerk c), V.i (Cut.sty c)], V.ptr [V.i r], V.ptr [V.i per]]) (by kernel_rfl) (fun h => loudest1_ac c s r per k (by simp at h; omega) h1 h2 (plcE_ok.1 h3)) (by kernel_rfl) (by kernel_rfl) (by kernel_rfl) (by kernel_rfl) (by kernel_rfl) (by kernel_rfl) ?_
  refine aops_n hTT (M := []) (n := 1) [pc (38 : Nat) ((decide ((↑k : Int) ≤ (40 : Int)) = true → (decide ((↑k : Int) ≤ (40 : Int)) == true) = true) ∧ True) (V.b (decide ((↑k : Int) ≤ (40 : Int)) && fitsK c s r per k))] (by kernel_rfl) (by kernel_rfl) ⟨⟨(by (intro h; rw [h]; rfl)), True.intro⟩, True.intro⟩ ?_
  refine aops_nil ?_
  refine xt_n ?_
  refine hK _ ?_
  clear hK K
  refine w_cond (t := decide ((↑k : Int) ≤ (40 : Int)) && fitsK c s r per k) (by kernel_rfl) (fun c4 => ?_) (fun c4 => ?_)
  · have q : k ≤ 40 ∧ fitsK c s r per k = true := by
      simp at c4
      exact ⟨by omega, c4.2⟩
    refine aw_skip ?_
    refine xt_n ?_
    refine hK _ ?_
    clear hK K
    refine aw_block ?_
    refine w_region (n' := 3) (by kernel_rfl) (by kernel_rfl) ?_
    refine aops_n hTT (M := []) (n := 3) [pv (39 : Nat) (V.i (↑k : Int)), pc (40 : Nat) ((-9223372036854775808 : Int) ≤ (↑k : Int) + (1 : Int) ∧ (↑k : Int) + (1 : Int) ≤ (9223372036854775807 : Int)) (V.i ((↑k : Int) + (1 : Int))), pv (14 : Nat) (V.i ((↑k : Int) + (1 : Int)))] (by kernel_rfl) (by kernel_rfl) ⟨(by omega), True.intro⟩ ?_
    refine aops_nil ?_
    refine xb_n ?_
    refine xt_n ?_
    refine ⟨k + 1, ⟨by omega, fun j hj2 => ?_⟩, by refine le_ren [] (.cons (by kernel_rfl) (.cons (by kernel_rfl) .nil)) .nil (by kernel_rfl) (by kernel_rfl), by omega⟩
    rcases Nat.lt_or_ge j k with h5 | h5
    · exact hj j h5
    · obtain rfl : j = k := by omega
      exact q.2
  have hN : loudN c s r per = k := by
    by_cases h41 : k = 41
    · subst h41; exact loudN_all hj
    · refine loudN_at (by omega) ?_ hj
      simp at c4
      exact c4 (by omega)
  refine aw_exit ?_
  refine xt_x ?_
  refine xt_x ?_
  refine xb_same ?_
  refine xt_n ?_
  clear hK K
  refine hK _ ?_
  clear hK K
  refine aw_seq_k fun K hK => ?_
  refine aw_seq_k fun K hK => ?_
  refine w_region (n' := 3) (by kernel_rfl) (by kernel_rfl) ?_
  refine aops_n hTT (M := []) (n := 2) [pv (41 : Nat) (V.i (↑k : Int)), pv (42 : Nat) (V.b (decide ((↑k : Int) = (0 : Int))))] (by kernel_rfl) (by kernel_rfl) True.intro ?_
  refine aops_nil ?_
  refine xt_n ?_
  refine hK _ ?_
  clear hK K
  refine w_cond (t := decide ((↑k : Int) = (0 : Int))) (by kernel_rfl) (fun c5 => ?_) (fun c5 => ?_)
  · have h0 : k = 0 := by simp at c5; omega
    refine aw_seq_k fun K hK => ?_
    refine w_region (n' := 4) (by kernel_rfl) (by kernel_rfl) ?_
    refine aops_n hTT (M := []) (n := 2) [pv (8 : Nat) (V.i (0 : Int)), pv (9 : Nat) (V.i (14 : Int))] (by kernel_rfl) (by kernel_rfl) True.intro ?_
    refine aops_nil ?_
    refine xt_n ?_
    refine hK _ ?_
    clear hK K
    refine aw_ret ?_
    refine xt_r ?_
    rw [loudR_2 he (hN.trans h0)]
    refine ret_pure (v' := V.tup [V.i (0 : Int), V.i (14 : Int)]) (.inr rfl) (by kernel_rfl) (by kernel_rfl) (by kernel_rfl)
  · have h0 : k ≠ 0 := by simp at c5; omega
    refine aw_skip ?_
    refine xt_n ?_
    refine hK _ ?_
    clear hK K
    refine aw_seq_k fun K hK => ?_
    refine w_region (n' := 4) (by kernel_rfl) (by kernel_rfl) ?_
    refine aops_n hTT (M := []) (n := 4) [pv (43 : Nat) (V.i (↑k : Int)), pc (44 : Nat) ((-9223372036854775808 : Int) ≤ (↑k : Int) - (1 : Int) ∧ (↑k : Int) - (1 : Int) ≤ (9223372036854775807 : Int)) (V.i ((↑k : Int) - (1 : Int))), pv (8 : Nat) (V.i ((↑k : Int) - (1 : Int))), pv (9 : Nat) (V.i (0 : Int))] (by kernel_rfl) (by kernel_rfl) ⟨(by omega), True.intro⟩ ?_
    refine aops_nil ?_
    refine xt_n ?_
    refine hK _ ?_
    clear hK K
    refine aw_ret ?_
    rw [loudR_3 he hN h0]
    refine ret_pure (v' := V.tup [V.i ((↑k : Int) - (1 : Int)), V.i (0 : Int)]) (.inr rfl) (by kernel_rfl) (by kernel_rfl) (by kernel_rfl)
end Go.Proofs.Ytjjlgegccfolpaa
