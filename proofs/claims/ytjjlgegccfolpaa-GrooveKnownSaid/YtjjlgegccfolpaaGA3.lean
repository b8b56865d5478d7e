/-
  The rules of grooves at a point: the walks of the program. Conditions: edges in range, a valid cutter, a radius and a turn in range.
-/
import Derived.Test.YtjjlgegccfolpaaGA2
import Derived.Test.YtjjlgegccfolpaaGPl2
namespace Go.Proofs.Ytjjlgegccfolpaa
open Go.Ab Go.RowKit Go.Dw Go.Shelf

theorem gLit2 {row : Nat → List V} {x y : Int} (h0 : row 0 = [.i x]) (h1 : row 1 = [.i y]) : RImp (.sl 1 2 row) (V.ints [x, y]) := by
  refine RImp.rows rfl fun i hi => ?_
  rcases (by omega : i = 0 ∨ i = 1) with rfl | rfl
  · exact h0
  · exact h1
set_option maxRecDepth 100000 in
theorem gMost_ac (x y : Int) : AC Try.prog 90 [V.ints [x, y]] (.i (max x y)) [] := by
  refine ac_intro hTT hMX (fn := Try.f90) (N := _) ⟨Try.func90, rfl, Try.ntmps90, by kernel_rfl⟩ (by simp) fun C hC hF => ?_
  refine aw_seq_k fun K hK => ?_
  refine w_region (n' := 2) (by kernel_rfl) (by kernel_rfl) ?_
  refine aops_n hTT (M := []) (n := 1) [pv (2 : Nat) (V.i (0 : Int))] (by kernel_rfl) (by kernel_rfl) True.intro ?_
  refine aops_nil ?_
  refine xt_n ?_
  refine hK _ ?_
  clear hK K
  refine aw_seq_k fun K hK => ?_
  refine w_region (n' := 3) (by kernel_rfl) (by kernel_rfl) ?_
  refine aops_n hTT (M := []) (n := 4) [pv (6 : Nat) (V.sl (1 : Nat) (2 : Nat) fun (k : Nat) => [V.i (gi [x, y] k)]), pc (7 : Nat) ((0 : Int) ≤ (0 : Int) ∧ (0 : Int) < (↑(2 : Nat) : Int)) (V.ptr [V.i (gi [x, y] (0 : Nat))]), pv (8 : Nat) (V.i (gi [x, y] (0 : Nat))), pv (3 : Nat) (V.i (gi [x, y] (0 : Nat)))] (by kernel_rfl) (by kernel_rfl) ⟨(by omega), True.intro⟩ ?_
  refine aops_nil ?_
  refine xt_n ?_
  refine hK _ ?_
  clear hK K
  refine aw_seq_k fun K hK => ?_
  refine aw_seq_k fun K hK => ?_
  refine w_region (n' := 4) (by kernel_rfl) (by kernel_rfl) ?_
  refine aops_n hTT (M := []) (n := 4) [pv (9 : Nat) (V.sl (1 : Nat) (2 : Nat) fun (k : Nat) => [V.i (gi [x, y] k)]), pc (10 : Nat) ((0 : Int) ≤ (1 : Int) ∧ (1 : Int) ≤ (↑(2 : Nat) : Int) ∧ (↑(2 : Nat) : Int) ≤ (↑(2 : Nat) : Int)) (V.sl (1 : Nat) (1 : Nat) fun (i : Nat) => [V.i (gi [x, y] (i + (1 : Nat)))]), pv (11 : Nat) (V.i (↑(1 : Nat) : Int)), pv (12 : Nat) (V.i (0 : Int))] (by kernel_rfl) (by kernel_rfl) ⟨⟨(by omega), (by omega)⟩, True.intro⟩ ?_
  refine aops_nil ?_
  refine xt_n ?_
  refine hK _ ?_
  clear hK K
  refine aw_block ?_
  refine w_loop (ι := Nat) (fun k => [(3, .i (if k = 0 then x else max x y)), (10, .sl 1 1 fun i => [.i (gi [x, y] (i + 1))]), (11, .i 1), (12, .i k)]) (fun _ => []) (fun k => k ≤ 1) (fun k => 1 - k) 0 (Nat.zero_le _) ?_ ?_
  · refine le_ren [] (.cons (by kernel_rfl) (.cons (by kernel_rfl) (.cons (by kernel_rfl) (.cons (by kernel_rfl) .nil)))) .nil (by kernel_rfl) (by kernel_rfl)
  intro k hk
  rcases (by omega : k = 0 ∨ k = 1) with rfl | rfl
  · refine aw_seq_k fun K hK => ?_
    refine w_region (n' := 2) (by kernel_rfl) (by kernel_rfl) ?_
    refine aops_n hTT (M := []) (n := 1) [pv (13 : Nat) (V.b true)] (by kernel_rfl) (by kernel_rfl) True.intro ?_
    refine aops_nil ?_
    refine xt_n ?_
    refine hK _ ?_
    clear hK K
    refine aw_seq_k fun K hK => ?_
    refine w_true (t := true) (by kernel_rfl) rfl ?_
    refine aw_skip ?_
    refine xt_n ?_
    refine hK _ ?_
    clear hK K
    refine aw_seq_k fun K hK => ?_
    refine aw_block ?_
    refine aw_seq_k fun K hK => ?_
    refine w_region (n' := 3) (by kernel_rfl) (by kernel_rfl) ?_
    refine aops_n hTT (M := []) (n := 3) [pc (14 : Nat) ((0 : Int) ≤ (↑(0 : Nat) : Int) ∧ (↑(0 : Nat) : Int) < (↑(1 : Nat) : Int)) (V.ptr [V.i (gi [x, y] ((0 : Nat) + (1 : Nat)))]), pv (15 : Nat) (V.i (gi [x, y] ((0 : Nat) + (1 : Nat)))), pv (5 : Nat) (V.i (gi [x, y] ((0 : Nat) + (1 : Nat))))] (by kernel_rfl) (by kernel_rfl) ⟨(by omega), True.intro⟩ ?_
    refine aops_nil ?_
    refine xt_n ?_
    refine hK _ ?_
    clear hK K
    refine w_region (n' := 4) (by kernel_rfl) (by kernel_rfl) ?_
    refine aops_n hTT (M := []) (n := 4) [pv (16 : Nat) (V.i (if (0 : Nat) = (0 : Nat) then x else max x y)), pv (17 : Nat) (V.i (gi [x, y] ((0 : Nat) + (1 : Nat)))), pv (18 : Nat) (V.i (max (if (0 : Nat) = (0 : Nat) then x else max x y) (gi [x, y] ((0 : Nat) + (1 : Nat))))), pv (3 : Nat) (V.i (max (if (0 : Nat) = (0 : Nat) then x else max x y) (gi [x, y] ((0 : Nat) + (1 : Nat)))))] (by kernel_rfl) (by kernel_rfl) True.intro ?_
    refine aops_nil ?_
    refine xb_n ?_
    refine xt_n ?_
    refine hK _ ?_
    clear hK K
    refine w_region (n' := 5) (by kernel_rfl) (by kernel_rfl) ?_
    refine aops_n hTT (M := []) (n := 2) [pc (19 : Nat) ((-9223372036854775808 : Int) ≤ (↑(0 : Nat) : Int) + (1 : Int) ∧ (↑(0 : Nat) : Int) + (1 : Int) ≤ (9223372036854775807 : Int)) (V.i ((↑(0 : Nat) : Int) + (1 : Int))), pv (12 : Nat) (V.i ((↑(0 : Nat) : Int) + (1 : Int)))] (by kernel_rfl) (by kernel_rfl) ⟨(by omega), True.intro⟩ ?_
    refine aops_nil ?_
    refine xt_n ?_
    refine ⟨1, by omega, ?_, by omega⟩
    refine le_ren [] (.cons (by kernel_rfl) (.cons (by kernel_rfl) (.cons (by kernel_rfl) (.cons (by kernel_rfl) .nil)))) .nil (by kernel_rfl) (by kernel_rfl)
  · refine aw_seq_k fun K hK => ?_
    refine w_region (n' := 2) (by kernel_rfl) (by kernel_rfl) ?_
    refine aops_n hTT (M := []) (n := 1) [pv (13 : Nat) (V.b false)] (by kernel_rfl) (by kernel_rfl) True.intro ?_
    refine aops_nil ?_
    refine xt_n ?_
    refine hK _ ?_
    clear hK K
    refine aw_seq_k fun K hK => ?_
    refine w_false (t := false) (by kernel_rfl) rfl ?_
    refine aw_exit ?_
    refine xt_x ?_
    refine xt_x ?_
    refine xb_same ?_
    refine xt_n ?_
    clear hK K
    refine hK _ ?_
    clear hK K
    refine aw_seq_k fun K hK => ?_
    refine w_region (n' := 3) (by kernel_rfl) (by kernel_rfl) ?_
    refine aops_n hTT (M := []) (n := 2) [pv (20 : Nat) (V.i (if (1 : Nat) = (0 : Nat) then x else max x y)), pv (2 : Nat) (V.i (if (1 : Nat) = (0 : Nat) then x else max x y))] (by kernel_rfl) (by kernel_rfl) True.intro ?_
    refine aops_nil ?_
    refine xt_n ?_
    refine hK _ ?_
    clear hK K
    refine aw_ret ?_
    refine ret_pure (v' := V.i (if (1 : Nat) = (0 : Nat) then x else max x y)) (.inr rfl) (by kernel_rfl) (by kernel_rfl) (by kernel_rfl)
def trC (c : Cut) (l : List Pt) (r per : Int) : List V := [.i c.half, .i c.gain, .i c.thin, .i c.wide, .i c.slope, .i c.jerk, .i c.sty, V.pts l, .i r, .i per]
def gNearV (b : Option Pt) (h : Pt) (a : Option Pt) : V := .agg [optP b, .ptr [.i h.1, .i h.2], optP a]
theorem EdO.some {p : Pt} (h : EdO (some p)) : Ed p := h
set_option maxRecDepth 100000 in
theorem width_nn (h : Pt) (hh : Ed h) : AC Try.prog 87 [gNearV none h none] (.i (h.2 - h.1)) [] := by
  unfold Ed at hh
  refine ac_intro hTT hMX (fn := Try.f87) (N := _) ⟨Try.func87, rfl, Try.ntmps87, by kernel_rfl⟩ (by simp) fun C hC hF => ?_
  refine aw_seq_k fun K hK => ?_
  refine w_region (n' := 2) (by kernel_rfl) (by kernel_rfl) ?_
  refine aops_n hTT (M := []) (n := 2) [pv (1 : Nat) (V.ptr [V.c (Value.pointer none), V.ptr [V.i (Prod.fst h), V.i (Prod.snd h)], V.c (Value.pointer none)]), pv (2 : Nat) (V.i (0 : Int))] (by kernel_rfl) (by kernel_rfl) True.intro ?_
  refine aops_nil ?_
  refine xt_n ?_
  refine hK _ ?_
  clear hK K
  refine aw_seq_k fun K hK => ?_
  refine w_regionD (n' := 3) (by kernel_rfl) (by kernel_rfl) ?_
  refine aops_n hTT (M := []) (n := 12) [pv (3 : Nat) (V.ptr [V.ptr [V.i (Prod.fst h), V.i (Prod.snd h)], V.c (Value.pointer none)]), pv (4 : Nat) (V.ptr [V.i (Prod.fst h), V.i (Prod.snd h)]), pv (5 : Nat) (V.ptr [V.i (Prod.fst h), V.i (Prod.snd h)]), pv (6 : Nat) (V.ptr [V.i (Prod.snd h)]), pv (7 : Nat) (V.i (Prod.snd h)), pv (8 : Nat) (V.ptr [V.ptr [V.i (Prod.fst h), V.i (Prod.snd h)], V.c (Value.pointer none)]), pv (9 : Nat) (V.ptr [V.i (Prod.fst h), V.i (Prod.snd h)]), pv (10 : Nat) (V.ptr [V.i (Prod.fst h), V.i (Prod.snd h)]), pv (11 : Nat) (V.ptr [V.i (Prod.fst h), V.i (Prod.snd h)]), pv (12 : Nat) (V.i (Prod.fst h)), pc (13 : Nat) ((-9223372036854775808 : Int) ≤ Prod.snd h - Prod.fst h ∧ Prod.snd h - Prod.fst h ≤ (9223372036854775807 : Int)) (V.i (Prod.snd h - Prod.fst h)), pv (2 : Nat) (V.i (Prod.snd h - Prod.fst h))] (by kernel_rfl) (by kernel_rfl) ⟨(by omega), True.intro⟩ ?_
  refine aops_nil ⟨by kernel_rfl, ?_⟩
  refine xt_n ?_
  refine hK _ ?_
  clear hK K
  refine aw_ret ?_
  refine ret_pure (v' := V.i (Prod.snd h - Prod.fst h)) (.inr rfl) (by kernel_rfl) (by kernel_rfl) (by kernel_rfl)
set_option maxRecDepth 100000 in
theorem width_ns (h a : Pt) (hh : Ed h) : AC Try.prog 87 [gNearV none h (some a)] (.i (h.2 - h.1)) [] := by
  unfold Ed at hh
  refine ac_intro hTT hMX (fn := Try.f87) (N := _) ⟨Try.func87, rfl, Try.ntmps87, by kernel_rfl⟩ (by simp) fun C hC hF => ?_
  refine aw_seq_k fun K hK => ?_
  refine w_region (n' := 2) (by kernel_rfl) (by kernel_rfl) ?_
  refine aops_n hTT (M := []) (n := 2) [pv (1 : Nat) (V.ptr [V.c (Value.pointer none), V.ptr [V.i (Prod.fst h), V.i (Prod.snd h)], V.ptr [V.i (Prod.fst a), V.i (Prod.snd a)]]), pv (2 : Nat) (V.i (0 : Int))] (by kernel_rfl) (by kernel_rfl) True.intro ?_
  refine aops_nil ?_
  refine xt_n ?_
  refine hK _ ?_
  clear hK K
  refine aw_seq_k fun K hK => ?_
  refine w_regionD (n' := 3) (by kernel_rfl) (by kernel_rfl) ?_
  refine aops_n hTT (M := []) (n := 12) [pv (3 : Nat) (V.ptr [V.ptr [V.i (Prod.fst h), V.i (Prod.snd h)], V.ptr [V.i (Prod.fst a), V.i (Prod.snd a)]]), pv (4 : Nat) (V.ptr [V.i (Prod.fst h), V.i (Prod.snd h)]), pv (5 : Nat) (V.ptr [V.i (Prod.fst h), V.i (Prod.snd h)]), pv (6 : Nat) (V.ptr [V.i (Prod.snd h)]), pv (7 : Nat) (V.i (Prod.snd h)), pv (8 : Nat) (V.ptr [V.ptr [V.i (Prod.fst h), V.i (Prod.snd h)], V.ptr [V.i (Prod.fst a), V.i (Prod.snd a)]]), pv (9 : Nat) (V.ptr [V.i (Prod.fst h), V.i (Prod.snd h)]), pv (10 : Nat) (V.ptr [V.i (Prod.fst h), V.i (Prod.snd h)]), pv (11 : Nat) (V.ptr [V.i (Prod.fst h), V.i (Prod.snd h)]), pv (12 : Nat) (V.i (Prod.fst h)), pc (13 : Nat) ((-9223372036854775808 : Int) ≤ Prod.snd h - Prod.fst h ∧ Prod.snd h - Prod.fst h ≤ (9223372036854775807 : Int)) (V.i (Prod.snd h - Prod.fst h)), pv (2 : Nat) (V.i (Prod.snd h - Prod.fst h))] (by kernel_rfl) (by kernel_rfl) ⟨(by omega), True.intro⟩ ?_
  refine aops_nil ⟨by kernel_rfl, ?_⟩
  refine xt_n ?_
  refine hK _ ?_
  clear hK K
  refine aw_ret ?_
  refine ret_pure (v' := V.i (Prod.snd h - Prod.fst h)) (.inr rfl) (by kernel_rfl) (by kernel_rfl) (by kernel_rfl)
set_option maxRecDepth 100000 in
theorem width_sn (b h : Pt) (hh : Ed h) : AC Try.prog 87 [gNearV (some b) h none] (.i (h.2 - h.1)) [] := by
  unfold Ed at hh
  refine ac_intro hTT hMX (fn := Try.f87) (N := _) ⟨Try.func87, rfl, Try.ntmps87, by kernel_rfl⟩ (by simp) fun C hC hF => ?_
  refine aw_seq_k fun K hK => ?_
  refine w_region (n' := 2) (by kernel_rfl) (by kernel_rfl) ?_
  refine aops_n hTT (M := []) (n := 2) [pv (1 : Nat) (V.ptr [V.ptr [V.i (Prod.fst b), V.i (Prod.snd b)], V.ptr [V.i (Prod.fst h), V.i (Prod.snd h)], V.c (Value.pointer none)]), pv (2 : Nat) (V.i (0 : Int))] (by kernel_rfl) (by kernel_rfl) True.intro ?_
  refine aops_nil ?_
  refine xt_n ?_
  refine hK _ ?_
  clear hK K
  refine aw_seq_k fun K hK => ?_
  refine w_regionD (n' := 3) (by kernel_rfl) (by kernel_rfl) ?_
  refine aops_n hTT (M := []) (n := 12) [pv (3 : Nat) (V.ptr [V.ptr [V.i (Prod.fst h), V.i (Prod.snd h)], V.c (Value.pointer none)]), pv (4 : Nat) (V.ptr [V.i (Prod.fst h), V.i (Prod.snd h)]), pv (5 : Nat) (V.ptr [V.i (Prod.fst h), V.i (Prod.snd h)]), pv (6 : Nat) (V.ptr [V.i (Prod.snd h)]), pv (7 : Nat) (V.i (Prod.snd h)), pv (8 : Nat) (V.ptr [V.ptr [V.i (Prod.fst h), V.i (Prod.snd h)], V.c (Value.pointer none)]), pv (9 : Nat) (V.ptr [V.i (Prod.fst h), V.i (Prod.snd h)]), pv (10 : Nat) (V.ptr [V.i (Prod.fst h), V.i (Prod.snd h)]), pv (11 : Nat) (V.ptr [V.i (Prod.fst h), V.i (Prod.snd h)]), pv (12 : Nat) (V.i (Prod.fst h)), pc (13 : Nat) ((-9223372036854775808 : Int) ≤ Prod.snd h - Prod.fst h ∧ Prod.snd h - Prod.fst h ≤ (9223372036854775807 : Int)) (V.i (Prod.snd h - Prod.fst h)), pv (2 : Nat) (V.i (Prod.snd h - Prod.fst h))] (by kernel_rfl) (by kernel_rfl) ⟨(by omega), True.intro⟩ ?_
  refine aops_nil ⟨by kernel_rfl, ?_⟩
  refine xt_n ?_
  refine hK _ ?_
  clear hK K
  refine aw_ret ?_
  refine ret_pure (v' := V.i (Prod.snd h - Prod.fst h)) (.inr rfl) (by kernel_rfl) (by kernel_rfl) (by kernel_rfl)
set_option maxRecDepth 100000 in
theorem width_ss (b h a : Pt) (hh : Ed h) : AC Try.prog 87 [gNearV (some b) h (some a)] (.i (h.2 - h.1)) [] := by
  unfold Ed at hh
  refine ac_intro hTT hMX (fn := Try.f87) (N := _) ⟨Try.func87, rfl, Try.ntmps87, by kernel_rfl⟩ (by simp) fun C hC hF => ?_
  refine aw_seq_k fun K hK => ?_
  refine w_region (n' := 2) (by kernel_rfl) (by kernel_rfl) ?_
  refine aops_n hTT (M := []) (n := 2) [pv (1 : Nat) (V.ptr [V.ptr [V.i (Prod.fst b), V.i (Prod.snd b)], V.ptr [V.i (Prod.fst h), V.i (Prod.snd h)], V.ptr [V.i (Prod.fst a), V.i (Prod.snd a)]]), pv (2 : Nat) (V.i (0 : Int))] (by kernel_rfl) (by kernel_rfl) True.intro ?_
  refine aops_nil ?_
  refine xt_n ?_
  refine hK _ ?_
  clear hK K
  refine aw_seq_k fun K hK => ?_
  refine w_regionD (n' := 3) (by kernel_rfl) (by kernel_rfl) ?_
  refine aops_n hTT (M := []) (n := 12) [pv (3 : Nat) (V.ptr [V.ptr [V.i (Prod.fst h), V.i (Prod.snd h)], V.ptr [V.i (Prod.fst a), V.i (Prod.snd a)]]), pv (4 : Nat) (V.ptr [V.i (Prod.fst h), V.i (Prod.snd h)]), pv (5 : Nat) (V.ptr [V.i (Prod.fst h), V.i (Prod.snd h)]), pv (6 : Nat) (V.ptr [V.i (Prod.snd h)]), pv (7 : Nat) (V.i (Prod.snd h)), pv (8 : Nat) (V.ptr [V.ptr [V.i (Prod.fst h), V.i (Prod.snd h)], V.ptr [V.i (Prod.fst a), V.i (Prod.snd a)]]), pv (9 : Nat) (V.ptr [V.i (Prod.fst h), V.i (Prod.snd h)]), pv (10 : Nat) (V.ptr [V.i (Prod.fst h), V.i (Prod.snd h)]), pv (11 : Nat) (V.ptr [V.i (Prod.fst h), V.i (Prod.snd h)]), pv (12 : Nat) (V.i (Prod.fst h)), pc (13 : Nat) ((-9223372036854775808 : Int) ≤ Prod.snd h - Prod.fst h ∧ Prod.snd h - Prod.fst h ≤ (9223372036854775807 : Int)) (V.i (Prod.snd h - Prod.fst h)), pv (2 : Nat) (V.i (Prod.snd h - Prod.fst h))] (by kernel_rfl) (by kernel_rfl) ⟨(by omega), True.intro⟩ ?_
  refine aops_nil ⟨by kernel_rfl, ?_⟩
  refine xt_n ?_
  refine hK _ ?_
  clear hK K
  refine aw_ret ?_
  refine ret_pure (v' := V.i (Prod.snd h - Prod.fst h)) (.inr rfl) (by kernel_rfl) (by kernel_rfl) (by kernel_rfl)
theorem width_ac (b : Option Pt) (h : Pt) (a : Option Pt) (hh : Ed h) : AC Try.prog 87 [gNearV b h a] (.i (h.2 - h.1)) [] := by
  cases b with
  | none => cases a with
    | none => exact width_nn  h hh
    | some a => exact width_ns  h a hh
  | some b => cases a with
    | none => exact width_sn  b h hh
    | some a => exact width_ss  b h a hh
set_option maxRecDepth 100000 in
theorem step_nn (h : Pt) (hb : EdO none) (hh : Ed h) : AC Try.prog 88 [gNearV none h none] (.i (stepP none h)) [] := by
  unfold Ed at hh
  refine ac_intro hTT hMX (fn := Try.f88) (N := _) ⟨Try.func88, rfl, Try.ntmps88, by kernel_rfl⟩ (by simp) fun C hC hF => ?_
  refine aw_seq_k fun K hK => ?_
  refine w_region (n' := 2) (by kernel_rfl) (by kernel_rfl) ?_
  refine aops_n hTT (M := []) (n := 2) [pv (1 : Nat) (V.ptr [V.c (Value.pointer none), V.ptr [V.i (Prod.fst h), V.i (Prod.snd h)], V.c (Value.pointer none)]), pv (2 : Nat) (V.i (0 : Int))] (by kernel_rfl) (by kernel_rfl) True.intro ?_
  refine aops_nil ?_
  refine xt_n ?_
  refine hK _ ?_
  clear hK K
  refine aw_seq_k fun K hK => ?_
  refine aw_seq_k fun K hK => ?_
  refine w_region (n' := 3) (by kernel_rfl) (by kernel_rfl) ?_
  refine aops_n hTT (M := []) (n := 3) [pv (3 : Nat) (V.ptr [V.c (Value.pointer none), V.ptr [V.i (Prod.fst h), V.i (Prod.snd h)], V.c (Value.pointer none)]), pv (4 : Nat) (V.c (Value.pointer none)), pv (5 : Nat) (V.b true)] (by kernel_rfl) (by kernel_rfl) True.intro ?_
  refine aops_nil ?_
  refine xt_n ?_
  refine hK _ ?_
  clear hK K
  refine w_true (t := true) (by kernel_rfl) rfl ?_
  refine aw_seq_k fun K hK => ?_
  refine w_region (n' := 4) (by kernel_rfl) (by kernel_rfl) ?_
  refine aops_n hTT (M := []) (n := 1) [pv (2 : Nat) (V.i (0 : Int))] (by kernel_rfl) (by kernel_rfl) True.intro ?_
  refine aops_nil ?_
  refine xt_n ?_
  refine hK _ ?_
  clear hK K
  refine aw_ret ?_
  refine xt_r ?_
  refine ret_pure (v' := V.i (0 : Int)) (.inr rfl) (by kernel_rfl) (by kernel_rfl) (by kernel_rfl)
set_option maxRecDepth 100000 in
theorem step_ns (h a : Pt) (hb : EdO none) (hh : Ed h) : AC Try.prog 88 [gNearV none h (some a)] (.i (stepP none h)) [] := by
  unfold Ed at hh
  refine ac_intro hTT hMX (fn := Try.f88) (N := _) ⟨Try.func88, rfl, Try.ntmps88, by kernel_rfl⟩ (by simp) fun C hC hF => ?_
  refine aw_seq_k fun K hK => ?_
  refine w_region (n' := 2) (by kernel_rfl) (by kernel_rfl) ?_
  refine aops_n hTT (M := []) (n := 2) [pv (1 : Nat) (V.ptr [V.c (Value.pointer none), V.ptr [V.i (Prod.fst h), V.i (Prod.snd h)], V.ptr [V.i (Prod.fst a), V.i (Prod.snd a)]]), pv (2 : Nat) (V.i (0 : Int))] (by kernel_rfl) (by kernel_rfl) True.intro ?_
  refine aops_nil ?_
  refine xt_n ?_
  refine hK _ ?_
  clear hK K
  refine aw_seq_k fun K hK => ?_
  refine aw_seq_k fun K hK => ?_
  refine w_region (n' := 3) (by kernel_rfl) (by kernel_rfl) ?_
  refine aops_n hTT (M := []) (n := 3) [pv (3 : Nat) (V.ptr [V.c (Value.pointer none), V.ptr [V.i (Prod.fst h), V.i (Prod.snd h)], V.ptr [V.i (Prod.fst a), V.i (Prod.snd a)]]), pv (4 : Nat) (V.c (Value.pointer none)), pv (5 : Nat) (V.b true)] (by kernel_rfl) (by kernel_rfl) True.intro ?_
  refine aops_nil ?_
  refine xt_n ?_
  refine hK _ ?_
  clear hK K
  refine w_true (t := true) (by kernel_rfl) rfl ?_
  refine aw_seq_k fun K hK => ?_
  refine w_region (n' := 4) (by kernel_rfl) (by kernel_rfl) ?_
  refine aops_n hTT (M := []) (n := 1) [pv (2 : Nat) (V.i (0 : Int))] (by kernel_rfl) (by kernel_rfl) True.intro ?_
  refine aops_nil ?_
  refine xt_n ?_
  refine hK _ ?_
  clear hK K
  refine aw_ret ?_
  refine xt_r ?_
  refine ret_pure (v' := V.i (0 : Int)) (.inr rfl) (by kernel_rfl) (by kernel_rfl) (by kernel_rfl)
set_option maxRecDepth 100000 in
theorem step_sn (b h : Pt) (hb : EdO (some b)) (hh : Ed h) : AC Try.prog 88 [gNearV (some b) h none] (.i (stepP (some b) h)) [] := by
  unfold Ed at hh
  have hb2 := hb.some
  unfold Ed at hb2
  refine ac_intro hTT hMX (fn := Try.f88) (N := _) ⟨Try.func88, rfl, Try.ntmps88, by kernel_rfl⟩ (by simp) fun C hC hF => ?_
  refine aw_seq_k fun K hK => ?_
  refine w_region (n' := 2) (by kernel_rfl) (by kernel_rfl) ?_
  refine aops_n hTT (M := []) (n := 2) [pv (1 : Nat) (V.ptr [V.ptr [V.i (Prod.fst b), V.i (Prod.snd b)], V.ptr [V.i (Prod.fst h), V.i (Prod.snd h)], V.c (Value.pointer none)]), pv (2 : Nat) (V.i (0 : Int))] (by kernel_rfl) (by kernel_rfl) True.intro ?_
  refine aops_nil ?_
  refine xt_n ?_
  refine hK _ ?_
  clear hK K
  refine aw_seq_k fun K hK => ?_
  refine aw_seq_k fun K hK => ?_
  refine w_region (n' := 3) (by kernel_rfl) (by kernel_rfl) ?_
  refine aops_n hTT (M := []) (n := 3) [pv (3 : Nat) (V.ptr [V.ptr [V.i (Prod.fst b), V.i (Prod.snd b)], V.ptr [V.i (Prod.fst h), V.i (Prod.snd h)], V.c (Value.pointer none)]), pv (4 : Nat) (V.ptr [V.i (Prod.fst b), V.i (Prod.snd b)]), pv (5 : Nat) (V.b false)] (by kernel_rfl) (by kernel_rfl) True.intro ?_
  refine aops_nil ?_
  refine xt_n ?_
  refine hK _ ?_
  clear hK K
  refine w_false (t := false) (by kernel_rfl) rfl ?_
  refine aw_skip ?_
  refine xt_n ?_
  refine hK _ ?_
  clear hK K
  refine aw_seq_k fun K hK => ?_
  refine w_regionD (n' := 4) (by kernel_rfl) (by kernel_rfl) ?_
  refine aops_n hTT (M := []) (n := 11) [pv (6 : Nat) (V.ptr [V.ptr [V.i (Prod.fst h), V.i (Prod.snd h)], V.c (Value.pointer none)]), pv (7 : Nat) (V.ptr [V.i (Prod.fst h), V.i (Prod.snd h)]), pv (8 : Nat) (V.ptr [V.i (Prod.fst h), V.i (Prod.snd h)]), pv (9 : Nat) (V.ptr [V.i (Prod.fst h), V.i (Prod.snd h)]), pv (10 : Nat) (V.i (Prod.fst h)), pv (11 : Nat) (V.ptr [V.ptr [V.i (Prod.fst b), V.i (Prod.snd b)], V.ptr [V.i (Prod.fst h), V.i (Prod.snd h)], V.c (Value.pointer none)]), pv (12 : Nat) (V.ptr [V.i (Prod.fst b), V.i (Prod.snd b)]), pv (13 : Nat) (V.ptr [V.i (Prod.fst b), V.i (Prod.snd b)]), pv (14 : Nat) (V.ptr [V.i (Prod.fst b), V.i (Prod.snd b)]), pv (15 : Nat) (V.i (Prod.fst b)), pc (16 : Nat) ((-9223372036854775808 : Int) ≤ Prod.fst h - Prod.fst b ∧ Prod.fst h - Prod.fst b ≤ (9223372036854775807 : Int)) (V.i (Prod.fst h - Prod.fst b))] (by kernel_rfl) (by kernel_rfl) ⟨(by omega), True.intro⟩ ?_
  refine e_call (first := []) (caps := []) (gAmount_ac (h.1 - b.1) (by omega)) (by kernel_rfl) (by kernel_rfl) (by kernel_rfl) (by kernel_rfl) (by kernel_rfl) ?_
  refine aops_n hTT (M := []) (n := 11) [pv (18 : Nat) (V.ptr [V.ptr [V.i (Prod.fst h), V.i (Prod.snd h)], V.c (Value.pointer none)]), pv (19 : Nat) (V.ptr [V.i (Prod.fst h), V.i (Prod.snd h)]), pv (20 : Nat) (V.ptr [V.i (Prod.fst h), V.i (Prod.snd h)]), pv (21 : Nat) (V.ptr [V.i (Prod.snd h)]), pv (22 : Nat) (V.i (Prod.snd h)), pv (23 : Nat) (V.ptr [V.ptr [V.i (Prod.fst b), V.i (Prod.snd b)], V.ptr [V.i (Prod.fst h), V.i (Prod.snd h)], V.c (Value.pointer none)]), pv (24 : Nat) (V.ptr [V.i (Prod.fst b), V.i (Prod.snd b)]), pv (25 : Nat) (V.ptr [V.i (Prod.fst b), V.i (Prod.snd b)]), pv (26 : Nat) (V.ptr [V.i (Prod.snd b)]), pv (27 : Nat) (V.i (Prod.snd b)), pc (28 : Nat) ((-9223372036854775808 : Int) ≤ Prod.snd h - Prod.snd b ∧ Prod.snd h - Prod.snd b ≤ (9223372036854775807 : Int)) (V.i (Prod.snd h - Prod.snd b))] (by kernel_rfl) (by kernel_rfl) ⟨(by omega), True.intro⟩ ?_
  refine e_call (first := []) (caps := []) (gAmount_ac (h.2 - b.2) (by omega)) (by kernel_rfl) (by kernel_rfl) (by kernel_rfl) (by kernel_rfl) (by kernel_rfl) ?_
  refine aops_n hTT (M := []) (n := 1) [pv (30 : Nat) (V.sl (1 : Nat) (2 : Nat) fun (i : Nat) => List.take (1 : Nat) (List.drop (i * (1 : Nat)) [V.i (gAmt (Prod.fst h - Prod.fst b)), V.i (gAmt (Prod.snd h - Prod.snd b))]))] (by kernel_rfl) (by kernel_rfl) True.intro ?_
  refine e_call (first := []) (caps := []) (AC.conv (gMost_ac (gAmt (h.1 - b.1)) (gAmt (h.2 - b.2))) (args' := [V.sl (1 : Nat) (2 : Nat) fun (i : Nat) => List.take (1 : Nat) (List.drop (i * (1 : Nat)) [V.i (gAmt (Prod.fst h - Prod.fst b)), V.i (gAmt (Prod.snd h - Prod.snd b))])]) ⟨?_, trivial⟩) (by kernel_rfl) (by kernel_rfl) (by kernel_rfl) (by kernel_rfl) (by kernel_rfl) ?_
  · exact gLit2 rfl rfl
  refine aops_n hTT (M := []) (n := 1) [pv (2 : Nat) (V.i (max (gAmt (Prod.fst h - Prod.fst b)) (gAmt (Prod.snd h - Prod.snd b))))] (by kernel_rfl) (by kernel_rfl) True.intro ?_
  refine aops_nil ⟨by kernel_rfl, ?_⟩
  refine xt_n ?_
  refine hK _ ?_
  clear hK K
  refine aw_ret ?_
  refine ret_pure (v' := V.i (max (gAmt (Prod.fst h - Prod.fst b)) (gAmt (Prod.snd h - Prod.snd b)))) (.inr rfl) (by kernel_rfl) (by kernel_rfl) (by kernel_rfl)
set_option maxRecDepth 100000 in
theorem step_ss (b h a : Pt) (hb : EdO (some b)) (hh : Ed h) : AC Try.prog 88 [gNearV (some b) h (some a)] (.i (stepP (some b) h)) [] := by
  unfold Ed at hh
  have hb2 := hb.some
  unfold Ed at hb2
  refine ac_intro hTT hMX (fn := Try.f88) (N := _) ⟨Try.func88, rfl, Try.ntmps88, by kernel_rfl⟩ (by simp) fun C hC hF => ?_
  refine aw_seq_k fun K hK => ?_
  refine w_region (n' := 2) (by kernel_rfl) (by kernel_rfl) ?_
  refine aops_n hTT (M := []) (n := 2) [pv (1 : Nat) (V.ptr [V.ptr [V.i (Prod.fst b), V.i (Prod.snd b)], V.ptr [V.i (Prod.fst h), V.i (Prod.snd h)], V.ptr [V.i (Prod.fst a), V.i (Prod.snd a)]]), pv (2 : Nat) (V.i (0 : Int))] (by kernel_rfl) (by kernel_rfl) True.intro ?_
  refine aops_nil ?_
  refine xt_n ?_
  refine hK _ ?_
  clear hK K
  refine aw_seq_k fun K hK => ?_
  refine aw_seq_k fun K hK => ?_
  refine w_region (n' := 3) (by kernel_rfl) (by kernel_rfl) ?_
  refine aops_n hTT (M := []) (n := 3) [pv (3 : Nat) (V.ptr [V.ptr [V.i (Prod.fst b), V.i (Prod.snd b)], V.ptr [V.i (Prod.fst h), V.i (Prod.snd h)], V.ptr [V.i (Prod.fst a), V.i (Prod.snd a)]]), pv (4 : Nat) (V.ptr [V.i (Prod.fst b), V.i (Prod.snd b)]), pv (5 : Nat) (V.b false)] (by kernel_rfl) (by kernel_rfl) True.intro ?_
  refine aops_nil ?_
  refine xt_n ?_
  refine hK _ ?_
  clear hK K
  refine w_false (t := false) (by kernel_rfl) rfl ?_
  refine aw_skip ?_
  refine xt_n ?_
  refine hK _ ?_
  clear hK K
  refine aw_seq_k fun K hK => ?_
  refine w_regionD (n' := 4) (by kernel_rfl) (by kernel_rfl) ?_
  refine aops_n hTT (M := []) (n := 11) [pv (6 : Nat) (V.ptr [V.ptr [V.i (Prod.fst h), V.i (Prod.snd h)], V.ptr [V.i (Prod.fst a), V.i (Prod.snd a)]]), pv (7 : Nat) (V.ptr [V.i (Prod.fst h), V.i (Prod.snd h)]), pv (8 : Nat) (V.ptr [V.i (Prod.fst h), V.i (Prod.snd h)]), pv (9 : Nat) (V.ptr [V.i (Prod.fst h), V.i (Prod.snd h)]), pv (10 : Nat) (V.i (Prod.fst h)), pv (11 : Nat) (V.ptr [V.ptr [V.i (Prod.fst b), V.i (Prod.snd b)], V.ptr [V.i (Prod.fst h), V.i (Prod.snd h)], V.ptr [V.i (Prod.fst a), V.i (Prod.snd a)]]), pv (12 : Nat) (V.ptr [V.i (Prod.fst b), V.i (Prod.snd b)]), pv (13 : Nat) (V.ptr [V.i (Prod.fst b), V.i (Prod.snd b)]), pv (14 : Nat) (V.ptr [V.i (Prod.fst b), V.i (Prod.snd b)]), pv (15 : Nat) (V.i (Prod.fst b)), pc (16 : Nat) ((-9223372036854775808 : Int) ≤ Prod.fst h - Prod.fst b ∧ Prod.fst h - Prod.fst b ≤ (9223372036854775807 : Int)) (V.i (Prod.fst h - Prod.fst b))] (by kernel_rfl) (by kernel_rfl) ⟨(by omega), True.intro⟩ ?_
  refine e_call (first := []) (caps := []) (gAmount_ac (h.1 - b.1) (by omega)) (by kernel_rfl) (by kernel_rfl) (by kernel_rfl) (by kernel_rfl) (by kernel_rfl) ?_
  refine aops_n hTT (M := []) (n := 11) [pv (18 : Nat) (V.ptr [V.ptr [V.i (Prod.fst h), V.i (Prod.snd h)], V.ptr [V.i (Prod.fst a), V.i (Prod.snd a)]]), pv (19 : Nat) (V.ptr [V.i (Prod.fst h), V.i (Prod.snd h)]), pv (20 : Nat) (V.ptr [V.i (Prod.fst h), V.i (Prod.snd h)]), pv (21 : Nat) (V.ptr [V.i (Prod.snd h)]), pv (22 : Nat) (V.i (Prod.snd h)), pv (23 : Nat) (V.ptr [V.ptr [V.i (Prod.fst b), V.i (Prod.snd b)], V.ptr [V.i (Prod.fst h), V.i (Prod.snd h)], V.ptr [V.i (Prod.fst a), V.i (Prod.snd a)]]), pv (24 : Nat) (V.ptr [V.i (Prod.fst b), V.i (Prod.snd b)]), pv (25 : Nat) (V.ptr [V.i (Prod.fst b), V.i (Prod.snd b)]), pv (26 : Nat) (V.ptr [V.i (Prod.snd b)]), pv (27 : Nat) (V.i (Prod.snd b)), pc (28 : Nat) ((-9223372036854775808 : Int) ≤ Prod.snd h - Prod.snd b ∧ Prod.snd h - Prod.snd b ≤ (9223372036854775807 : Int)) (V.i (Prod.snd h - Prod.snd b))] (by kernel_rfl) (by kernel_rfl) ⟨(by omega), True.intro⟩ ?_
  refine e_call (first := []) (caps := []) (gAmount_ac (h.2 - b.2) (by omega)) (by kernel_rfl) (by kernel_rfl) (by kernel_rfl) (by kernel_rfl) (by kernel_rfl) ?_
  refine aops_n hTT (M := []) (n := 1) [pv (30 : Nat) (V.sl (1 : Nat) (2 : Nat) fun (i : Nat) => List.take (1 : Nat) (List.drop (i * (1 : Nat)) [V.i (gAmt (Prod.fst h - Prod.fst b)), V.i (gAmt (Prod.snd h - Prod.snd b))]))] (by kernel_rfl) (by kernel_rfl) True.intro ?_
  refine e_call (first := []) (caps := []) (AC.conv (gMost_ac (gAmt (h.1 - b.1)) (gAmt (h.2 - b.2))) (args' := [V.sl (1 : Nat) (2 : Nat) fun (i : Nat) => List.take (1 : Nat) (List.drop (i * (1 : Nat)) [V.i (gAmt (Prod.fst h - Prod.fst b)), V.i (gAmt (Prod.snd h - Prod.snd b))])]) ⟨?_, trivial⟩) (by kernel_rfl) (by kernel_rfl) (by kernel_rfl) (by kernel_rfl) (by kernel_rfl) ?_
  · exact gLit2 rfl rfl
  refine aops_n hTT (M := []) (n := 1) [pv (2 : Nat) (V.i (max (gAmt (Prod.fst h - Prod.fst b)) (gAmt (Prod.snd h - Prod.snd b))))] (by kernel_rfl) (by kernel_rfl) True.intro ?_
  refine aops_nil ⟨by kernel_rfl, ?_⟩
  refine xt_n ?_
  refine hK _ ?_
  clear hK K
  refine aw_ret ?_
  refine ret_pure (v' := V.i (max (gAmt (Prod.fst h - Prod.fst b)) (gAmt (Prod.snd h - Prod.snd b)))) (.inr rfl) (by kernel_rfl) (by kernel_rfl) (by kernel_rfl)
theorem step_ac (b : Option Pt) (h : Pt) (a : Option Pt) (hb : EdO b) (hh : Ed h) : AC Try.prog 88 [gNearV b h a] (.i (stepP b h)) [] := by
  cases b with
  | none => cases a with
    | none => exact step_nn  h hb hh
    | some a => exact step_ns  h a hb hh
  | some b => cases a with
    | none => exact step_sn  b h hb hh
    | some a => exact step_ss  b h a hb hh
set_option maxRecDepth 100000 in
theorem bend_nn (h : Pt) (hb : EdO none) (hh : Ed h) (ha : EdO none) : AC Try.prog 89 [gNearV none h none] (.i (bendP none h none)) [] := by
  unfold Ed at hh
  refine ac_intro hTT hMX (fn := Try.f89) (N := _) ⟨Try.func89, rfl, Try.ntmps89, by kernel_rfl⟩ (by simp) fun C hC hF => ?_
  refine aw_seq_k fun K hK => ?_
  refine w_region (n' := 2) (by kernel_rfl) (by kernel_rfl) ?_
  refine aops_n hTT (M := []) (n := 2) [pv (1 : Nat) (V.ptr [V.c (Value.pointer none), V.ptr [V.i (Prod.fst h), V.i (Prod.snd h)], V.c (Value.pointer none)]), pv (2 : Nat) (V.i (0 : Int))] (by kernel_rfl) (by kernel_rfl) True.intro ?_
  refine aops_nil ?_
  refine xt_n ?_
  refine hK _ ?_
  clear hK K
  refine aw_seq_k fun K hK => ?_
  refine aw_seq_k fun K hK => ?_
  refine w_region (n' := 3) (by kernel_rfl) (by kernel_rfl) ?_
  refine aops_n hTT (M := []) (n := 8) [pv (3 : Nat) (V.ptr [V.c (Value.pointer none), V.ptr [V.i (Prod.fst h), V.i (Prod.snd h)], V.c (Value.pointer none)]), pv (4 : Nat) (V.c (Value.pointer none)), pv (5 : Nat) (V.b true), pv (6 : Nat) (V.b true), pc (7 : Nat) ((True ∧ True) ∧ ((true == false) = true → True)) (V.gd (true == false) (V.ptr [V.c (Value.pointer none)])), pc (8 : Nat) ((((true == false) = true → (true == false) = true) ∧ True) ∧ ((true == false) = true → True)) (V.gd (true == false) (V.c (Value.pointer none))), pc (9 : Nat) ((((true == false) = true → (true == false) = true) ∧ True ∧ True) ∧ ((true == false) = true → True)) (V.gd (true == false) (V.b true)), pc (10 : Nat) (True ∧ (true = false → (true == false) = true)) (V.b true)] (by kernel_rfl) (by kernel_rfl) ⟨⟨⟨True.intro, True.intro⟩, (fun _ => True.intro)⟩, ⟨⟨(by (exact fun h => h)), True.intro⟩, (fun _ => True.intro)⟩, ⟨⟨(by (exact fun h => h)), ⟨True.intro, True.intro⟩⟩, (fun _ => True.intro)⟩, ⟨True.intro, (by (intro h; simp at h; done))⟩, True.intro⟩ ?_
  refine aops_nil ?_
  refine xt_n ?_
  refine hK _ ?_
  clear hK K
  refine w_true (t := true) (by kernel_rfl) rfl ?_
  refine aw_seq_k fun K hK => ?_
  refine w_region (n' := 4) (by kernel_rfl) (by kernel_rfl) ?_
  refine aops_n hTT (M := []) (n := 1) [pv (2 : Nat) (V.i (0 : Int))] (by kernel_rfl) (by kernel_rfl) True.intro ?_
  refine aops_nil ?_
  refine xt_n ?_
  refine hK _ ?_
  clear hK K
  refine aw_ret ?_
  refine xt_r ?_
  refine ret_pure (v' := V.i (0 : Int)) (.inr rfl) (by kernel_rfl) (by kernel_rfl) (by kernel_rfl)
set_option maxRecDepth 100000 in
theorem bend_ns (h a : Pt) (hb : EdO none) (hh : Ed h) (ha : EdO (some a)) : AC Try.prog 89 [gNearV none h (some a)] (.i (bendP none h (some a))) [] := by
  unfold Ed at hh
  have ha2 := ha.some
  unfold Ed at ha2
  refine ac_intro hTT hMX (fn := Try.f89) (N := _) ⟨Try.func89, rfl, Try.ntmps89, by kernel_rfl⟩ (by simp) fun C hC hF => ?_
  refine aw_seq_k fun K hK => ?_
  refine w_region (n' := 2) (by kernel_rfl) (by kernel_rfl) ?_
  refine aops_n hTT (M := []) (n := 2) [pv (1 : Nat) (V.ptr [V.c (Value.pointer none), V.ptr [V.i (Prod.fst h), V.i (Prod.snd h)], V.ptr [V.i (Prod.fst a), V.i (Prod.snd a)]]), pv (2 : Nat) (V.i (0 : Int))] (by kernel_rfl) (by kernel_rfl) True.intro ?_
  refine aops_nil ?_
  refine xt_n ?_
  refine hK _ ?_
  clear hK K
  refine aw_seq_k fun K hK => ?_
  refine aw_seq_k fun K hK => ?_
  refine w_region (n' := 3) (by kernel_rfl) (by kernel_rfl) ?_
  refine aops_n hTT (M := []) (n := 8) [pv (3 : Nat) (V.ptr [V.c (Value.pointer none), V.ptr [V.i (Prod.fst h), V.i (Prod.snd h)], V.ptr [V.i (Prod.fst a), V.i (Prod.snd a)]]), pv (4 : Nat) (V.c (Value.pointer none)), pv (5 : Nat) (V.b true), pv (6 : Nat) (V.b true), pc (7 : Nat) ((True ∧ True) ∧ ((true == false) = true → True)) (V.gd (true == false) (V.ptr [V.ptr [V.i (Prod.fst a), V.i (Prod.snd a)]])), pc (8 : Nat) ((((true == false) = true → (true == false) = true) ∧ True) ∧ ((true == false) = true → True)) (V.gd (true == false) (V.ptr [V.i (Prod.fst a), V.i (Prod.snd a)])), pc (9 : Nat) ((((true == false) = true → (true == false) = true) ∧ True ∧ True) ∧ ((true == false) = true → True)) (V.gd (true == false) (V.b false)), pc (10 : Nat) (True ∧ (true = false → (true == false) = true)) (V.b true)] (by kernel_rfl) (by kernel_rfl) ⟨⟨⟨True.intro, True.intro⟩, (fun _ => True.intro)⟩, ⟨⟨(by (exact fun h => h)), True.intro⟩, (fun _ => True.intro)⟩, ⟨⟨(by (exact fun h => h)), ⟨True.intro, True.intro⟩⟩, (fun _ => True.intro)⟩, ⟨True.intro, (by (intro h; simp at h; done))⟩, True.intro⟩ ?_
  refine aops_nil ?_
  refine xt_n ?_
  refine hK _ ?_
  clear hK K
  refine w_true (t := true) (by kernel_rfl) rfl ?_
  refine aw_seq_k fun K hK => ?_
  refine w_region (n' := 4) (by kernel_rfl) (by kernel_rfl) ?_
  refine aops_n hTT (M := []) (n := 1) [pv (2 : Nat) (V.i (0 : Int))] (by kernel_rfl) (by kernel_rfl) True.intro ?_
  refine aops_nil ?_
  refine xt_n ?_
  refine hK _ ?_
  clear hK K
  refine aw_ret ?_
  refine xt_r ?_
  refine ret_pure (v' := V.i (0 : Int)) (.inr rfl) (by kernel_rfl) (by kernel_rfl) (by kernel_rfl)
set_option maxRecDepth 100000 in
theorem bend_sn (b h : Pt) (hb : EdO (some b)) (hh : Ed h) (ha : EdO none) : AC Try.prog 89 [gNearV (some b) h none] (.i (bendP (some b) h none)) [] := by
  unfold Ed at hh
  have hb2 := hb.some
  unfold Ed at hb2
  refine ac_intro hTT hMX (fn := Try.f89) (N := _) ⟨Try.func89, rfl, Try.ntmps89, by kernel_rfl⟩ (by simp) fun C hC hF => ?_
  refine aw_seq_k fun K hK => ?_
  refine w_region (n' := 2) (by kernel_rfl) (by kernel_rfl) ?_
  refine aops_n hTT (M := []) (n := 2) [pv (1 : Nat) (V.ptr [V.ptr [V.i (Prod.fst b), V.i (Prod.snd b)], V.ptr [V.i (Prod.fst h), V.i (Prod.snd h)], V.c (Value.pointer none)]), pv (2 : Nat) (V.i (0 : Int))] (by kernel_rfl) (by kernel_rfl) True.intro ?_
  refine aops_nil ?_
  refine xt_n ?_
  refine hK _ ?_
  clear hK K
  refine aw_seq_k fun K hK => ?_
  refine aw_seq_k fun K hK => ?_
  refine w_region (n' := 3) (by kernel_rfl) (by kernel_rfl) ?_
  refine aops_n hTT (M := []) (n := 8) [pv (3 : Nat) (V.ptr [V.ptr [V.i (Prod.fst b), V.i (Prod.snd b)], V.ptr [V.i (Prod.fst h), V.i (Prod.snd h)], V.c (Value.pointer none)]), pv (4 : Nat) (V.ptr [V.i (Prod.fst b), V.i (Prod.snd b)]), pv (5 : Nat) (V.b false), pv (6 : Nat) (V.b false), pc (7 : Nat) ((True ∧ True) ∧ ((false == false) = true → True)) (V.gd (false == false) (V.ptr [V.c (Value.pointer none)])), pc (8 : Nat) ((((false == false) = true → (false == false) = true) ∧ True) ∧ ((false == false) = true → True)) (V.gd (false == false) (V.c (Value.pointer none))), pc (9 : Nat) ((((false == false) = true → (false == false) = true) ∧ True ∧ True) ∧ ((false == false) = true → True)) (V.gd (false == false) (V.b true)), pc (10 : Nat) (True ∧ (false = false → (false == false) = true)) (V.b true)] (by kernel_rfl) (by kernel_rfl) ⟨⟨⟨True.intro, True.intro⟩, (fun _ => True.intro)⟩, ⟨⟨(by (exact fun h => h)), True.intro⟩, (fun _ => True.intro)⟩, ⟨⟨(by (exact fun h => h)), ⟨True.intro, True.intro⟩⟩, (fun _ => True.intro)⟩, ⟨True.intro, (by (intro h; rw [h]; rfl))⟩, True.intro⟩ ?_
  refine aops_nil ?_
  refine xt_n ?_
  refine hK _ ?_
  clear hK K
  refine w_true (t := true) (by kernel_rfl) rfl ?_
  refine aw_seq_k fun K hK => ?_
  refine w_region (n' := 4) (by kernel_rfl) (by kernel_rfl) ?_
  refine aops_n hTT (M := []) (n := 1) [pv (2 : Nat) (V.i (0 : Int))] (by kernel_rfl) (by kernel_rfl) True.intro ?_
  refine aops_nil ?_
  refine xt_n ?_
  refine hK _ ?_
  clear hK K
  refine aw_ret ?_
  refine xt_r ?_
  refine ret_pure (v' := V.i (0 : Int)) (.inr rfl) (by kernel_rfl) (by kernel_rfl) (by kernel_rfl)
set_option maxRecDepth 100000 in
theorem bend_ss (b h a : Pt) (hb : EdO (some b)) (hh : Ed h) (ha : EdO (some a)) : AC Try.prog 89 [gNearV (some b) h (some a)] (.i (bendP (some b) h (some a))) [] := by
  unfold Ed at hh
  have hb2 := hb.some
  unfold Ed at hb2
  have ha2 := ha.some
  unfold Ed at ha2
  refine ac_intro hTT hMX (fn := Try.f89) (N := _) ⟨Try.func89, rfl, Try.ntmps89, by kernel_rfl⟩ (by simp) fun C hC hF => ?_
  refine aw_seq_k fun K hK => ?_
  refine w_region (n' := 2) (by kernel_rfl) (by kernel_rfl) ?_
  refine aops_n hTT (M := []) (n := 2) [pv (1 : Nat) (V.ptr [V.ptr [V.i (Prod.fst b), V.i (Prod.snd b)], V.ptr [V.i (Prod.fst h), V.i (Prod.snd h)], V.ptr [V.i (Prod.fst a), V.i (Prod.snd a)]]), pv (2 : Nat) (V.i (0 : Int))] (by kernel_rfl) (by kernel_rfl) True.intro ?_
  refine aops_nil ?_
  refine xt_n ?_
  refine hK _ ?_
  clear hK K
  refine aw_seq_k fun K hK => ?_
  refine aw_seq_k fun K hK => ?_
  refine w_region (n' := 3) (by kernel_rfl) (by kernel_rfl) ?_
  refine aops_n hTT (M := []) (n := 8) [pv (3 : Nat) (V.ptr [V.ptr [V.i (Prod.fst b), V.i (Prod.snd b)], V.ptr [V.i (Prod.fst h), V.i (Prod.snd h)], V.ptr [V.i (Prod.fst a), V.i (Prod.snd a)]]), pv (4 : Nat) (V.ptr [V.i (Prod.fst b), V.i (Prod.snd b)]), pv (5 : Nat) (V.b false), pv (6 : Nat) (V.b false), pc (7 : Nat) ((True ∧ True) ∧ ((false == false) = true → True)) (V.gd (false == false) (V.ptr [V.ptr [V.i (Prod.fst a), V.i (Prod.snd a)]])), pc (8 : Nat) ((((false == false) = true → (false == false) = true) ∧ True) ∧ ((false == false) = true → True)) (V.gd (false == false) (V.ptr [V.i (Prod.fst a), V.i (Prod.snd a)])), pc (9 : Nat) ((((false == false) = true → (false == false) = true) ∧ True ∧ True) ∧ ((false == false) = true → True)) (V.gd (false == false) (V.b false)), pc (10 : Nat) (True ∧ (false = false → (false == false) = true)) (V.b false)] (by kernel_rfl) (by kernel_rfl) ⟨⟨⟨True.intro, True.intro⟩, (fun _ => True.intro)⟩, ⟨⟨(by (exact fun h => h)), True.intro⟩, (fun _ => True.intro)⟩, ⟨⟨(by (exact fun h => h)), ⟨True.intro, True.intro⟩⟩, (fun _ => True.intro)⟩, ⟨True.intro, (by (intro h; rw [h]; rfl))⟩, True.intro⟩ ?_
  refine aops_nil ?_
  refine xt_n ?_
  refine hK _ ?_
  clear hK K
  refine w_false (t := false) (by kernel_rfl) rfl ?_
  refine aw_skip ?_
  refine xt_n ?_
  refine hK _ ?_
  clear hK K
  refine aw_seq_k fun K hK => ?_
  refine w_regionD (n' := 4) (by kernel_rfl) (by kernel_rfl) ?_
  refine aops_n hTT (M := []) (n := 18) [pv (11 : Nat) (V.ptr [V.ptr [V.i (Prod.fst b), V.i (Prod.snd b)], V.ptr [V.i (Prod.fst h), V.i (Prod.snd h)], V.ptr [V.i (Prod.fst a), V.i (Prod.snd a)]]), pv (12 : Nat) (V.ptr [V.i (Prod.fst b), V.i (Prod.snd b)]), pv (13 : Nat) (V.ptr [V.i (Prod.fst b), V.i (Prod.snd b)]), pv (14 : Nat) (V.ptr [V.i (Prod.fst b), V.i (Prod.snd b)]), pv (15 : Nat) (V.i (Prod.fst b)), pv (16 : Nat) (V.ptr [V.ptr [V.i (Prod.fst a), V.i (Prod.snd a)]]), pv (17 : Nat) (V.ptr [V.i (Prod.fst a), V.i (Prod.snd a)]), pv (18 : Nat) (V.ptr [V.i (Prod.fst a), V.i (Prod.snd a)]), pv (19 : Nat) (V.ptr [V.i (Prod.fst a), V.i (Prod.snd a)]), pv (20 : Nat) (V.i (Prod.fst a)), pc (21 : Nat) ((-9223372036854775808 : Int) ≤ Prod.fst b + Prod.fst a ∧ Prod.fst b + Prod.fst a ≤ (9223372036854775807 : Int)) (V.i (Prod.fst b + Prod.fst a)), pv (22 : Nat) (V.ptr [V.ptr [V.i (Prod.fst h), V.i (Prod.snd h)], V.ptr [V.i (Prod.fst a), V.i (Prod.snd a)]]), pv (23 : Nat) (V.ptr [V.i (Prod.fst h), V.i (Prod.snd h)]), pv (24 : Nat) (V.ptr [V.i (Prod.fst h), V.i (Prod.snd h)]), pv (25 : Nat) (V.ptr [V.i (Prod.fst h), V.i (Prod.snd h)]), pv (26 : Nat) (V.i (Prod.fst h)), pc (27 : Nat) ((-9223372036854775808 : Int) ≤ (2 : Int) * Prod.fst h ∧ (2 : Int) * Prod.fst h ≤ (9223372036854775807 : Int)) (V.i ((2 : Int) * Prod.fst h)), pc (28 : Nat) ((-9223372036854775808 : Int) ≤ Prod.fst b + Prod.fst a - (2 : Int) * Prod.fst h ∧ Prod.fst b + Prod.fst a - (2 : Int) * Prod.fst h ≤ (9223372036854775807 : Int)) (V.i (Prod.fst b + Prod.fst a - (2 : Int) * Prod.fst h))] (by kernel_rfl) (by kernel_rfl) ⟨(by omega), (by omega), (by omega), True.intro⟩ ?_
  refine e_call (first := []) (caps := []) (gAmount_ac (b.1 + a.1 - 2 * h.1) (by omega)) (by kernel_rfl) (by kernel_rfl) (by kernel_rfl) (by kernel_rfl) (by kernel_rfl) ?_
  refine aops_n hTT (M := []) (n := 18) [pv (30 : Nat) (V.ptr [V.ptr [V.i (Prod.fst b), V.i (Prod.snd b)], V.ptr [V.i (Prod.fst h), V.i (Prod.snd h)], V.ptr [V.i (Prod.fst a), V.i (Prod.snd a)]]), pv (31 : Nat) (V.ptr [V.i (Prod.fst b), V.i (Prod.snd b)]), pv (32 : Nat) (V.ptr [V.i (Prod.fst b), V.i (Prod.snd b)]), pv (33 : Nat) (V.ptr [V.i (Prod.snd b)]), pv (34 : Nat) (V.i (Prod.snd b)), pv (35 : Nat) (V.ptr [V.ptr [V.i (Prod.fst a), V.i (Prod.snd a)]]), pv (36 : Nat) (V.ptr [V.i (Prod.fst a), V.i (Prod.snd a)]), pv (37 : Nat) (V.ptr [V.i (Prod.fst a), V.i (Prod.snd a)]), pv (38 : Nat) (V.ptr [V.i (Prod.snd a)]), pv (39 : Nat) (V.i (Prod.snd a)), pc (40 : Nat) ((-9223372036854775808 : Int) ≤ Prod.snd b + Prod.snd a ∧ Prod.snd b + Prod.snd a ≤ (9223372036854775807 : Int)) (V.i (Prod.snd b + Prod.snd a)), pv (41 : Nat) (V.ptr [V.ptr [V.i (Prod.fst h), V.i (Prod.snd h)], V.ptr [V.i (Prod.fst a), V.i (Prod.snd a)]]), pv (42 : Nat) (V.ptr [V.i (Prod.fst h), V.i (Prod.snd h)]), pv (43 : Nat) (V.ptr [V.i (Prod.fst h), V.i (Prod.snd h)]), pv (44 : Nat) (V.ptr [V.i (Prod.snd h)]), pv (45 : Nat) (V.i (Prod.snd h)), pc (46 : Nat) ((-9223372036854775808 : Int) ≤ (2 : Int) * Prod.snd h ∧ (2 : Int) * Prod.snd h ≤ (9223372036854775807 : Int)) (V.i ((2 : Int) * Prod.snd h)), pc (47 : Nat) ((-9223372036854775808 : Int) ≤ Prod.snd b + Prod.snd a - (2 : Int) * Prod.snd h ∧ Prod.snd b + Prod.snd a - (2 : Int) * Prod.snd h ≤ (9223372036854775807 : Int)) (V.i (Prod.snd b + Prod.snd a - (2 : Int) * Prod.snd h))] (by kernel_rfl) (by kernel_rfl) ⟨(by omega), (by omega), (by omega), True.intro⟩ ?_
  refine e_call (first := []) (caps := []) (gAmount_ac (b.2 + a.2 - 2 * h.2) (by omega)) (by kernel_rfl) (by kernel_rfl) (by kernel_rfl) (by kernel_rfl) (by kernel_rfl) ?_
  refine aops_n hTT (M := []) (n := 1) [pv (49 : Nat) (V.sl (1 : Nat) (2 : Nat) fun (i : Nat) => List.take (1 : Nat) (List.drop (i * (1 : Nat)) [V.i (gAmt (Prod.fst b + Prod.fst a - (2 : Int) * Prod.fst h)), V.i (gAmt (Prod.snd b + Prod.snd a - (2 : Int) * Prod.snd h))]))] (by kernel_rfl) (by kernel_rfl) True.intro ?_
  refine e_call (first := []) (caps := []) (AC.conv (gMost_ac (gAmt (b.1 + a.1 - 2 * h.1)) (gAmt (b.2 + a.2 - 2 * h.2))) (args' := [V.sl (1 : Nat) (2 : Nat) fun (i : Nat) => List.take (1 : Nat) (List.drop (i * (1 : Nat)) [V.i (gAmt (Prod.fst b + Prod.fst a - (2 : Int) * Prod.fst h)), V.i (gAmt (Prod.snd b + Prod.snd a - (2 : Int) * Prod.snd h))])]) ⟨?_, trivial⟩) (by kernel_rfl) (by kernel_rfl) (by kernel_rfl) (by kernel_rfl) (by kernel_rfl) ?_
  · exact gLit2 rfl rfl
  refine aops_n hTT (M := []) (n := 1) [pv (2 : Nat) (V.i (max (gAmt (Prod.fst b + Prod.fst a - (2 : Int) * Prod.fst h)) (gAmt (Prod.snd b + Prod.snd a - (2 : Int) * Prod.snd h))))] (by kernel_rfl) (by kernel_rfl) True.intro ?_
  refine aops_nil ⟨by kernel_rfl, ?_⟩
  refine xt_n ?_
  refine hK _ ?_
  clear hK K
  refine aw_ret ?_
  refine ret_pure (v' := V.i (max (gAmt (Prod.fst b + Prod.fst a - (2 : Int) * Prod.fst h)) (gAmt (Prod.snd b + Prod.snd a - (2 : Int) * Prod.snd h)))) (.inr rfl) (by kernel_rfl) (by kernel_rfl) (by kernel_rfl)
theorem bend_ac (b : Option Pt) (h : Pt) (a : Option Pt) (hb : EdO b) (hh : Ed h) (ha : EdO a) : AC Try.prog 89 [gNearV b h a] (.i (bendP b h a)) [] := by
  cases b with
  | none => cases a with
    | none => exact bend_nn  h hb hh ha
    | some a => exact bend_ns  h a hb hh ha
  | some b => cases a with
    | none => exact bend_sn  b h hb hh ha
    | some a => exact bend_ss  b h a hb hh ha
set_option maxRecDepth 100000 in
theorem gArc_ac (c : Cut) (l : List Pt) (r per : Int) (hp : Plc r per) : AC Try.prog 59 [.ptr (trC c l r per)] (.i (gArc r per)) [] := by
  obtain ⟨w1, w2, w3, w4⟩ := way_bd hp
  obtain ⟨hr, hq⟩ := hp
  refine ac_intro hTT hMX (fn := Try.f59) (N := _) ⟨Try.func59, rfl, Try.ntmps59, by kernel_rfl⟩ (by simp) fun C hC hF => ?_
  refine aw_seq_k fun K hK => ?_
  refine w_region (n' := 2) (by kernel_rfl) (by kernel_rfl) ?_
  refine aops_n hTT (M := []) (n := 1) [pv (2 : Nat) (V.i (0 : Int))] (by kernel_rfl) (by kernel_rfl) True.intro ?_
  refine aops_nil ?_
  refine xt_n ?_
  refine hK _ ?_
  clear hK K
  refine aw_seq_k fun K hK => ?_
  refine w_regionD (n' := 3) (by kernel_rfl) (by kernel_rfl) ?_
  refine aops_n hTT (M := []) (n := 12) [pv (5 : Nat) (V.ptr [V.i (Cut.half c), V.i (Cut.gain c), V.i (Cut.thin c), V.i (Cut.wide c), V.i (Cut.slope c), V.i (Cut.jerk c), V.i (Cut.sty c), V.sl (2 : Nat) (List.length l) fun (k : Nat) => [V.i (Prod.fst (gp l k)), V.i (Prod.snd (gp l k))], V.i r, V.i per]), pv (6 : Nat) (V.ptr [V.i (Cut.half c), V.i (Cut.gain c), V.i (Cut.thin c), V.i (Cut.wide c), V.i (Cut.slope c), V.i (Cut.jerk c), V.i (Cut.sty c), V.sl (2 : Nat) (List.length l) fun (k : Nat) => [V.i (Prod.fst (gp l k)), V.i (Prod.snd (gp l k))], V.i r, V.i per]), pv (7 : Nat) (V.ptr [V.i r, V.i per]), pv (8 : Nat) (V.i r), pc (9 : Nat) ((-9223372036854775808 : Int) ≤ (710 : Int) * r ∧ (710 : Int) * r ≤ (9223372036854775807 : Int)) (V.i ((710 : Int) * r)), pv (10 : Nat) (V.ptr [V.i (Cut.half c), V.i (Cut.gain c), V.i (Cut.thin c), V.i (Cut.wide c), V.i (Cut.slope c), V.i (Cut.jerk c), V.i (Cut.sty c), V.sl (2 : Nat) (List.length l) fun (k : Nat) => [V.i (Prod.fst (gp l k)), V.i (Prod.snd (gp l k))], V.i r, V.i per]), pv (11 : Nat) (V.ptr [V.i (Cut.half c), V.i (Cut.gain c), V.i (Cut.thin c), V.i (Cut.wide c), V.i (Cut.slope c), V.i (Cut.jerk c), V.i (Cut.sty c), V.sl (2 : Nat) (List.length l) fun (k : Nat) => [V.i (Prod.fst (gp l k)), V.i (Prod.snd (gp l k))], V.i r, V.i per]), pv (12 : Nat) (V.ptr [V.i per]), pv (13 : Nat) (V.i per), pc (14 : Nat) ((-9223372036854775808 : Int) ≤ (113 : Int) * per ∧ (113 : Int) * per ≤ (9223372036854775807 : Int)) (V.i ((113 : Int) * per)), pv (3 : Nat) (V.i ((710 : Int) * r)), pv (4 : Nat) (V.i ((113 : Int) * per))] (by kernel_rfl) (by kernel_rfl) ⟨(by omega), (by omega), True.intro⟩ ?_
  refine aops_nil ⟨by kernel_rfl, ?_⟩
  refine xt_n ?_
  refine hK _ ?_
  clear hK K
  refine aw_seq_k fun K hK => ?_
  refine w_region (n' := 4) (by kernel_rfl) (by kernel_rfl) ?_
  refine aops_n hTT (M := []) (n := 8) [pv (15 : Nat) (V.i ((710 : Int) * r)), pv (16 : Nat) (V.i ((710 : Int) * r)), pc (17 : Nat) ((-9223372036854775808 : Int) ≤ (710 : Int) * r * ((710 : Int) * r) ∧ (710 : Int) * r * ((710 : Int) * r) ≤ (9223372036854775807 : Int)) (V.i ((710 : Int) * r * ((710 : Int) * r))), pv (18 : Nat) (V.i ((113 : Int) * per)), pv (19 : Nat) (V.i ((113 : Int) * per)), pc (20 : Nat) ((-9223372036854775808 : Int) ≤ (113 : Int) * per * ((113 : Int) * per) ∧ (113 : Int) * per * ((113 : Int) * per) ≤ (9223372036854775807 : Int)) (V.i ((113 : Int) * per * ((113 : Int) * per))), pc (21 : Nat) ((0 : Int) < (113 : Int) * per * ((113 : Int) * per) ∧ (-9223372036854775808 : Int) ≤ (710 : Int) * r * ((710 : Int) * r) ∧ (710 : Int) * r * ((710 : Int) * r) ≤ (9223372036854775807 : Int)) (V.i (Int.tdiv ((710 : Int) * r * ((710 : Int) * r)) ((113 : Int) * per * ((113 : Int) * per)))), pv (2 : Nat) (V.i (Int.tdiv ((710 : Int) * r * ((710 : Int) * r)) ((113 : Int) * per * ((113 : Int) * per))))] (by kernel_rfl) (by kernel_rfl) ⟨(by omega), (by omega), ⟨(by omega), (by omega)⟩, True.intro⟩ ?_
  refine aops_nil ?_
  refine xt_n ?_
  refine hK _ ?_
  clear hK K
  refine aw_ret ?_
  refine ret_pure (v' := V.i (Int.tdiv ((710 : Int) * r * ((710 : Int) * r)) ((113 : Int) * per * ((113 : Int) * per)))) (.inr rfl) (by kernel_rfl) (by kernel_rfl) (by kernel_rfl)
set_option maxRecDepth 100000 in
theorem thin_nn (c : Cut) (l : List Pt) (r per : Int) (h : Pt) (hh : Ed h) : AC Try.prog 76 [.ptr (trC c l r per), gNearV none h none] (.b (thinB c h)) [] := by
  refine ac_intro hTT hMX (fn := Try.f76) (N := _) ⟨Try.func76, rfl, Try.ntmps76, by kernel_rfl⟩ (by simp) fun C hC hF => ?_
  refine aw_seq_k fun K hK => ?_
  refine w_region (n' := 2) (by kernel_rfl) (by kernel_rfl) ?_
  refine aops_n hTT (M := []) (n := 2) [pv (3 : Nat) (V.ptr [V.c (Value.pointer none), V.ptr [V.i (Prod.fst h), V.i (Prod.snd h)], V.c (Value.pointer none)]), pv (4 : Nat) (V.b false)] (by kernel_rfl) (by kernel_rfl) True.intro ?_
  refine aops_nil ?_
  refine xt_n ?_
  refine hK _ ?_
  clear hK K
  refine aw_seq_k fun K hK => ?_
  refine w_regionD (n' := 3) (by kernel_rfl) (by kernel_rfl) ?_
  refine aops_n hTT (M := []) (n := 1) [pv (5 : Nat) (V.agg [V.c (Value.pointer none), V.ptr [V.i (Prod.fst h), V.i (Prod.snd h)], V.c (Value.pointer none)])] (by kernel_rfl) (by kernel_rfl) True.intro ?_
  refine e_call (first := []) (caps := []) (width_ac none h none hh) (by kernel_rfl) (by kernel_rfl) (by kernel_rfl) (by kernel_rfl) (by kernel_rfl) ?_
  refine aops_n hTT (M := []) (n := 7) [pv (7 : Nat) (V.ptr [V.i (Cut.half c), V.i (Cut.gain c), V.i (Cut.thin c), V.i (Cut.wide c), V.i (Cut.slope c), V.i (Cut.jerk c), V.i (Cut.sty c), V.sl (2 : Nat) (List.length l) fun (k : Nat) => [V.i (Prod.fst (gp l k)), V.i (Prod.snd (gp l k))], V.i r, V.i per]), pv (8 : Nat) (V.ptr [V.i (Cut.half c), V.i (Cut.gain c), V.i (Cut.thin c), V.i (Cut.wide c), V.i (Cut.slope c), V.i (Cut.jerk c), V.i (Cut.sty c), V.sl (2 : Nat) (List.length l) fun (k : Nat) => [V.i (Prod.fst (gp l k)), V.i (Prod.snd (gp l k))], V.i r, V.i per]), pv (9 : Nat) (V.ptr [V.i (Cut.half c), V.i (Cut.gain c), V.i (Cut.thin c), V.i (Cut.wide c), V.i (Cut.slope c), V.i (Cut.jerk c), V.i (Cut.sty c), V.sl (2 : Nat) (List.length l) fun (k : Nat) => [V.i (Prod.fst (gp l k)), V.i (Prod.snd (gp l k))], V.i r, V.i per]), pv (10 : Nat) (V.ptr [V.i (Cut.thin c), V.i (Cut.wide c), V.i (Cut.slope c), V.i (Cut.jerk c), V.i (Cut.sty c), V.sl (2 : Nat) (List.length l) fun (k : Nat) => [V.i (Prod.fst (gp l k)), V.i (Prod.snd (gp l k))], V.i r, V.i per]), pv (11 : Nat) (V.i (Cut.thin c)), pv (12 : Nat) (V.b (decide (Prod.snd h - Prod.fst h < Cut.thin c))), pv (4 : Nat) (V.b (decide (Prod.snd h - Prod.fst h < Cut.thin c)))] (by kernel_rfl) (by kernel_rfl) True.intro ?_
  refine aops_nil ⟨by kernel_rfl, ?_⟩
  refine xt_n ?_
  refine hK _ ?_
  clear hK K
  refine aw_ret ?_
  refine ret_pure (v' := V.b (decide (Prod.snd h - Prod.fst h < Cut.thin c))) (.inr rfl) (by kernel_rfl) (by kernel_rfl) (by kernel_rfl)
set_option maxRecDepth 100000 in
theorem thin_ns (c : Cut) (l : List Pt) (r per : Int) (h a : Pt) (hh : Ed h) : AC Try.prog 76 [.ptr (trC c l r per), gNearV none h (some a)] (.b (thinB c h)) [] := by
  refine ac_intro hTT hMX (fn := Try.f76) (N := _) ⟨Try.func76, rfl, Try.ntmps76, by kernel_rfl⟩ (by simp) fun C hC hF => ?_
  refine aw_seq_k fun K hK => ?_
  refine w_region (n' := 2) (by kernel_rfl) (by kernel_rfl) ?_
  refine aops_n hTT (M := []) (n := 2) [pv (3 : Nat) (V.ptr [V.c (Value.pointer none), V.ptr [V.i (Prod.fst h), V.i (Prod.snd h)], V.ptr [V.i (Prod.fst a), V.i (Prod.snd a)]]), pv (4 : Nat) (V.b false)] (by kernel_rfl) (by kernel_rfl) True.intro ?_
  refine aops_nil ?_
  refine xt_n ?_
  refine hK _ ?_
  clear hK K
  refine aw_seq_k fun K hK => ?_
  refine w_regionD (n' := 3) (by kernel_rfl) (by kernel_rfl) ?_
  refine aops_n hTT (M := []) (n := 1) [pv (5 : Nat) (V.agg [V.c (Value.pointer none), V.ptr [V.i (Prod.fst h), V.i (Prod.snd h)], V.ptr [V.i (Prod.fst a), V.i (Prod.snd a)]])] (by kernel_rfl) (by kernel_rfl) True.intro ?_
  refine e_call (first := []) (caps := []) (width_ac none h (some a) hh) (by kernel_rfl) (by kernel_rfl) (by kernel_rfl) (by kernel_rfl) (by kernel_rfl) ?_
  refine aops_n hTT (M := []) (n := 7) [pv (7 : Nat) (V.ptr [V.i (Cut.half c), V.i (Cut.gain c), V.i (Cut.thin c), V.i (Cut.wide c), V.i (Cut.slope c), V.i (Cut.jerk c), V.i (Cut.sty c), V.sl (2 : Nat) (List.length l) fun (k : Nat) => [V.i (Prod.fst (gp l k)), V.i (Prod.snd (gp l k))], V.i r, V.i per]), pv (8 : Nat) (V.ptr [V.i (Cut.half c), V.i (Cut.gain c), V.i (Cut.thin c), V.i (Cut.wide c), V.i (Cut.slope c), V.i (Cut.jerk c), V.i (Cut.sty c), V.sl (2 : Nat) (List.length l) fun (k : Nat) => [V.i (Prod.fst (gp l k)), V.i (Prod.snd (gp l k))], V.i r, V.i per]), pv (9 : Nat) (V.ptr [V.i (Cut.half c), V.i (Cut.gain c), V.i (Cut.thin c), V.i (Cut.wide c), V.i (Cut.slope c), V.i (Cut.jerk c), V.i (Cut.sty c), V.sl (2 : Nat) (List.length l) fun (k : Nat) => [V.i (Prod.fst (gp l k)), V.i (Prod.snd (gp l k))], V.i r, V.i per]), pv (10 : Nat) (V.ptr [V.i (Cut.thin c), V.i (Cut.wide c), V.i (Cut.slope c), V.i (Cut.jerk c), V.i (Cut.sty c), V.sl (2 : Nat) (List.length l) fun (k : Nat) => [V.i (Prod.fst (gp l k)), V.i (Prod.snd (gp l k))], V.i r, V.i per]), pv (11 : Nat) (V.i (Cut.thin c)), pv (12 : Nat) (V.b (decide (Prod.snd h - Prod.fst h < Cut.thin c))), pv (4 : Nat) (V.b (decide (Prod.snd h - Prod.fst h < Cut.thin c)))] (by kernel_rfl) (by kernel_rfl) True.intro ?_
  refine aops_nil ⟨by kernel_rfl, ?_⟩
  refine xt_n ?_
  refine hK _ ?_
  clear hK K
  refine aw_ret ?_
  refine ret_pure (v' := V.b (decide (Prod.snd h - Prod.fst h < Cut.thin c))) (.inr rfl) (by kernel_rfl) (by kernel_rfl) (by kernel_rfl)
set_option maxRecDepth 100000 in
theorem thin_sn (c : Cut) (l : List Pt) (r per : Int) (b h : Pt) (hh : Ed h) : AC Try.prog 76 [.ptr (trC c l r per), gNearV (some b) h none] (.b (thinB c h)) [] := by
  refine ac_intro hTT hMX (fn := Try.f76) (N := _) ⟨Try.func76, rfl, Try.ntmps76, by kernel_rfl⟩ (by simp) fun C hC hF => ?_
  refine aw_seq_k fun K hK => ?_
  refine w_region (n' := 2) (by kernel_rfl) (by kernel_rfl) ?_
  refine aops_n hTT (M := []) (n := 2) [pv (3 : Nat) (V.ptr [V.ptr [V.i (Prod.fst b), V.i (Prod.snd b)], V.ptr [V.i (Prod.fst h), V.i (Prod.snd h)], V.c (Value.pointer none)]), pv (4 : Nat) (V.b false)] (by kernel_rfl) (by kernel_rfl) True.intro ?_
  refine aops_nil ?_
  refine xt_n ?_
  refine hK _ ?_
  clear hK K
  refine aw_seq_k fun K hK => ?_
  refine w_regionD (n' := 3) (by kernel_rfl) (by kernel_rfl) ?_
  refine aops_n hTT (M := []) (n := 1) [pv (5 : Nat) (V.agg [V.ptr [V.i (Prod.fst b), V.i (Prod.snd b)], V.ptr [V.i (Prod.fst h), V.i (Prod.snd h)], V.c (Value.pointer none)])] (by kernel_rfl) (by kernel_rfl) True.intro ?_
  refine e_call (first := []) (caps := []) (width_ac (some b) h none hh) (by kernel_rfl) (by kernel_rfl) (by kernel_rfl) (by kernel_rfl) (by kernel_rfl) ?_
  refine aops_n hTT (M := []) (n := 7) [pv (7 : Nat) (V.ptr [V.i (Cut.half c), V.i (Cut.gain c), V.i (Cut.thin c), V.i (Cut.wide c), V.i (Cut.slope c), V.i (Cut.jerk c), V.i (Cut.sty c), V.sl (2 : Nat) (List.length l) fun (k : Nat) => [V.i (Prod.fst (gp l k)), V.i (Prod.snd (gp l k))], V.i r, V.i per]), pv (8 : Nat) (V.ptr [V.i (Cut.half c), V.i (Cut.gain c), V.i (Cut.thin c), V.i (Cut.wide c), V.i (Cut.slope c), V.i (Cut.jerk c), V.i (Cut.sty c), V.sl (2 : Nat) (List.length l) fun (k : Nat) => [V.i (Prod.fst (gp l k)), V.i (Prod.snd (gp l k))], V.i r, V.i per]), pv (9 : Nat) (V.ptr [V.i (Cut.half c), V.i (Cut.gain c), V.i (Cut.thin c), V.i (Cut.wide c), V.i (Cut.slope c), V.i (Cut.jerk c), V.i (Cut.sty c), V.sl (2 : Nat) (List.length l) fun (k : Nat) => [V.i (Prod.fst (gp l k)), V.i (Prod.snd (gp l k))], V.i r, V.i per]), pv (10 : Nat) (V.ptr [V.i (Cut.thin c), V.i (Cut.wide c), V.i (Cut.slope c), V.i (Cut.jerk c), V.i (Cut.sty c), V.sl (2 : Nat) (List.length l) fun (k : Nat) => [V.i (Prod.fst (gp l k)), V.i (Prod.snd (gp l k))], V.i r, V.i per]), pv (11 : Nat) (V.i (Cut.thin c)), pv (12 : Nat) (V.b (decide (Prod.snd h - Prod.fst h < Cut.thin c))), pv (4 : Nat) (V.b (decide (Prod.snd h - Prod.fst h < Cut.thin c)))] (by kernel_rfl) (by kernel_rfl) True.intro ?_
  refine aops_nil ⟨by kernel_rfl, ?_⟩
  refine xt_n ?_
  refine hK _ ?_
  clear hK K
  refine aw_ret ?_
  refine ret_pure (v' := V.b (decide (Prod.snd h - Prod.fst h < Cut.thin c))) (.inr rfl) (by kernel_rfl) (by kernel_rfl) (by kernel_rfl)
set_option maxRecDepth 100000 in
theorem thin_ss (c : Cut) (l : List Pt) (r per : Int) (b h a : Pt) (hh : Ed h) : AC Try.prog 76 [.ptr (trC c l r per), gNearV (some b) h (some a)] (.b (thinB c h)) [] := by
  refine ac_intro hTT hMX (fn := Try.f76) (N := _) ⟨Try.func76, rfl, Try.ntmps76, by kernel_rfl⟩ (by simp) fun C hC hF => ?_
  refine aw_seq_k fun K hK => ?_
  refine w_region (n' := 2) (by kernel_rfl) (by kernel_rfl) ?_
  refine aops_n hTT (M := []) (n := 2) [pv (3 : Nat) (V.ptr [V.ptr [V.i (Prod.fst b), V.i (Prod.snd b)], V.ptr [V.i (Prod.fst h), V.i (Prod.snd h)], V.ptr [V.i (Prod.fst a), V.i (Prod.snd a)]]), pv (4 : Nat) (V.b false)] (by kernel_rfl) (by kernel_rfl) True.intro ?_
  refine aops_nil ?_
  refine xt_n ?_
  refine hK _ ?_
  clear hK K
  refine aw_seq_k fun K hK => ?_
  refine w_regionD (n' := 3) (by kernel_rfl) (by kernel_rfl) ?_
  refine aops_n hTT (M := []) (n := 1) [pv (5 : Nat) (V.agg [V.ptr [V.i (Prod.fst b), V.i (Prod.snd b)], V.ptr [V.i (Prod.fst h), V.i (Prod.snd h)], V.ptr [V.i (Prod.fst a), V.i (Prod.snd a)]])] (by kernel_rfl) (by kernel_rfl) True.intro ?_
  refine e_call (first := []) (caps := []) (width_ac (some b) h (some a) hh) (by kernel_rfl) (by kernel_rfl) (by kernel_rfl) (by kernel_rfl) (by kernel_rfl) ?_
  refine aops_n hTT (M := []) (n := 7) [pv (7 : Nat) (V.ptr [V.i (Cut.half c), V.i (Cut.gain c), V.i (Cut.thin c), V.i (Cut.wide c), V.i (Cut.slope c), V.i (Cut.jerk c), V.i (Cut.sty c), V.sl (2 : Nat) (List.length l) fun (k : Nat) => [V.i (Prod.fst (gp l k)), V.i (Prod.snd (gp l k))], V.i r, V.i per]), pv (8 : Nat) (V.ptr [V.i (Cut.half c), V.i (Cut.gain c), V.i (Cut.thin c), V.i (Cut.wide c), V.i (Cut.slope c), V.i (Cut.jerk c), V.i (Cut.sty c), V.sl (2 : Nat) (List.length l) fun (k : Nat) => [V.i (Prod.fst (gp l k)), V.i (Prod.snd (gp l k))], V.i r, V.i per]), pv (9 : Nat) (V.ptr [V.i (Cut.half c), V.i (Cut.gain c), V.i (Cut.thin c), V.i (Cut.wide c), V.i (Cut.slope c), V.i (Cut.jerk c), V.i (Cut.sty c), V.sl (2 : Nat) (List.length l) fun (k : Nat) => [V.i (Prod.fst (gp l k)), V.i (Prod.snd (gp l k))], V.i r, V.i per]), pv (10 : Nat) (V.ptr [V.i (Cut.thin c), V.i (Cut.wide c), V.i (Cut.slope c), V.i (Cut.jerk c), V.i (Cut.sty c), V.sl (2 : Nat) (List.length l) fun (k : Nat) => [V.i (Prod.fst (gp l k)), V.i (Prod.snd (gp l k))], V.i r, V.i per]), pv (11 : Nat) (V.i (Cut.thin c)), pv (12 : Nat) (V.b (decide (Prod.snd h - Prod.fst h < Cut.thin c))), pv (4 : Nat) (V.b (decide (Prod.snd h - Prod.fst h < Cut.thin c)))] (by kernel_rfl) (by kernel_rfl) True.intro ?_
  refine aops_nil ⟨by kernel_rfl, ?_⟩
  refine xt_n ?_
  refine hK _ ?_
  clear hK K
  refine aw_ret ?_
  refine ret_pure (v' := V.b (decide (Prod.snd h - Prod.fst h < Cut.thin c))) (.inr rfl) (by kernel_rfl) (by kernel_rfl) (by kernel_rfl)
theorem thin_ac (c : Cut) (l : List Pt) (r per : Int) (b : Option Pt) (h : Pt) (a : Option Pt) (hh : Ed h) : AC Try.prog 76 [.ptr (trC c l r per), gNearV b h a] (.b (thinB c h)) [] := by
  cases b with
  | none => cases a with
    | none => exact thin_nn c l r per h hh
    | some a => exact thin_ns c l r per h a hh
  | some b => cases a with
    | none => exact thin_sn c l r per b h hh
    | some a => exact thin_ss c l r per b h a hh
set_option maxRecDepth 100000 in
theorem wide_nn (c : Cut) (l : List Pt) (r per : Int) (h : Pt) (hh : Ed h) : AC Try.prog 77 [.ptr (trC c l r per), gNearV none h none] (.b (wideB c h)) [] := by
  refine ac_intro hTT hMX (fn := Try.f77) (N := _) ⟨Try.func77, rfl, Try.ntmps77, by kernel_rfl⟩ (by simp) fun C hC hF => ?_
  refine aw_seq_k fun K hK => ?_
  refine w_region (n' := 2) (by kernel_rfl) (by kernel_rfl) ?_
  refine aops_n hTT (M := []) (n := 2) [pv (3 : Nat) (V.ptr [V.c (Value.pointer none), V.ptr [V.i (Prod.fst h), V.i (Prod.snd h)], V.c (Value.pointer none)]), pv (4 : Nat) (V.b false)] (by kernel_rfl) (by kernel_rfl) True.intro ?_
  refine aops_nil ?_
  refine xt_n ?_
  refine hK _ ?_
  clear hK K
  refine aw_seq_k fun K hK => ?_
  refine w_regionD (n' := 3) (by kernel_rfl) (by kernel_rfl) ?_
  refine aops_n hTT (M := []) (n := 1) [pv (5 : Nat) (V.agg [V.c (Value.pointer none), V.ptr [V.i (Prod.fst h), V.i (Prod.snd h)], V.c (Value.pointer none)])] (by kernel_rfl) (by kernel_rfl) True.intro ?_
  refine e_call (first := []) (caps := []) (width_ac none h none hh) (by kernel_rfl) (by kernel_rfl) (by kernel_rfl) (by kernel_rfl) (by kernel_rfl) ?_
  refine aops_n hTT (M := []) (n := 7) [pv (7 : Nat) (V.ptr [V.i (Cut.half c), V.i (Cut.gain c), V.i (Cut.thin c), V.i (Cut.wide c), V.i (Cut.slope c), V.i (Cut.jerk c), V.i (Cut.sty c), V.sl (2 : Nat) (List.length l) fun (k : Nat) => [V.i (Prod.fst (gp l k)), V.i (Prod.snd (gp l k))], V.i r, V.i per]), pv (8 : Nat) (V.ptr [V.i (Cut.half c), V.i (Cut.gain c), V.i (Cut.thin c), V.i (Cut.wide c), V.i (Cut.slope c), V.i (Cut.jerk c), V.i (Cut.sty c), V.sl (2 : Nat) (List.length l) fun (k : Nat) => [V.i (Prod.fst (gp l k)), V.i (Prod.snd (gp l k))], V.i r, V.i per]), pv (9 : Nat) (V.ptr [V.i (Cut.half c), V.i (Cut.gain c), V.i (Cut.thin c), V.i (Cut.wide c), V.i (Cut.slope c), V.i (Cut.jerk c), V.i (Cut.sty c), V.sl (2 : Nat) (List.length l) fun (k : Nat) => [V.i (Prod.fst (gp l k)), V.i (Prod.snd (gp l k))], V.i r, V.i per]), pv (10 : Nat) (V.ptr [V.i (Cut.wide c), V.i (Cut.slope c), V.i (Cut.jerk c), V.i (Cut.sty c), V.sl (2 : Nat) (List.length l) fun (k : Nat) => [V.i (Prod.fst (gp l k)), V.i (Prod.snd (gp l k))], V.i r, V.i per]), pv (11 : Nat) (V.i (Cut.wide c)), pv (12 : Nat) (V.b (decide (Cut.wide c < Prod.snd h - Prod.fst h))), pv (4 : Nat) (V.b (decide (Cut.wide c < Prod.snd h - Prod.fst h)))] (by kernel_rfl) (by kernel_rfl) True.intro ?_
  refine aops_nil ⟨by kernel_rfl, ?_⟩
  refine xt_n ?_
  refine hK _ ?_
  clear hK K
  refine aw_ret ?_
  refine ret_pure (v' := V.b (decide (Cut.wide c < Prod.snd h - Prod.fst h))) (.inr rfl) (by kernel_rfl) (by kernel_rfl) (by kernel_rfl)
set_option maxRecDepth 100000 in
theorem wide_ns (c : Cut) (l : List Pt) (r per : Int) (h a : Pt) (hh : Ed h) : AC Try.prog 77 [.ptr (trC c l r per), gNearV none h (some a)] (.b (wideB c h)) [] := by
  refine ac_intro hTT hMX (fn := Try.f77) (N := _) ⟨Try.func77, rfl, Try.ntmps77, by kernel_rfl⟩ (by simp) fun C hC hF => ?_
  refine aw_seq_k fun K hK => ?_
  refine w_region (n' := 2) (by kernel_rfl) (by kernel_rfl) ?_
  refine aops_n hTT (M := []) (n := 2) [pv (3 : Nat) (V.ptr [V.c (Value.pointer none), V.ptr [V.i (Prod.fst h), V.i (Prod.snd h)], V.ptr [V.i (Prod.fst a), V.i (Prod.snd a)]]), pv (4 : Nat) (V.b false)] (by kernel_rfl) (by kernel_rfl) True.intro ?_
  refine aops_nil ?_
  refine xt_n ?_
  refine hK _ ?_
  clear hK K
  refine aw_seq_k fun K hK => ?_
  refine w_regionD (n' := 3) (by kernel_rfl) (by kernel_rfl) ?_
  refine aops_n hTT (M := []) (n := 1) [pv (5 : Nat) (V.agg [V.c (Value.pointer none), V.ptr [V.i (Prod.fst h), V.i (Prod.snd h)], V.ptr [V.i (Prod.fst a), V.i (Prod.snd a)]])] (by kernel_rfl) (by kernel_rfl) True.intro ?_
  refine e_call (first := []) (caps := []) (width_ac none h (some a) hh) (by kernel_rfl) (by kernel_rfl) (by kernel_rfl) (by kernel_rfl) (by kernel_rfl) ?_
  refine aops_n hTT (M := []) (n := 7) [pv (7 : Nat) (V.ptr [V.i (Cut.half c), V.i (Cut.gain c), V.i (Cut.thin c), V.i (Cut.wide c), V.i (Cut.slope c), V.i (Cut.jerk c), V.i (Cut.sty c), V.sl (2 : Nat) (List.length l) fun (k : Nat) => [V.i (Prod.fst (gp l k)), V.i (Prod.snd (gp l k))], V.i r, V.i per]), pv (8 : Nat) (V.ptr [V.i (Cut.half c), V.i (Cut.gain c), V.i (Cut.thin c), V.i (Cut.wide c), V.i (Cut.slope c), V.i (Cut.jerk c), V.i (Cut.sty c), V.sl (2 : Nat) (List.length l) fun (k : Nat) => [V.i (Prod.fst (gp l k)), V.i (Prod.snd (gp l k))], V.i r, V.i per]), pv (9 : Nat) (V.ptr [V.i (Cut.half c), V.i (Cut.gain c), V.i (Cut.thin c), V.i (Cut.wide c), V.i (Cut.slope c), V.i (Cut.jerk c), V.i (Cut.sty c), V.sl (2 : Nat) (List.length l) fun (k : Nat) => [V.i (Prod.fst (gp l k)), V.i (Prod.snd (gp l k))], V.i r, V.i per]), pv (10 : Nat) (V.ptr [V.i (Cut.wide c), V.i (Cut.slope c), V.i (Cut.jerk c), V.i (Cut.sty c), V.sl (2 : Nat) (List.length l) fun (k : Nat) => [V.i (Prod.fst (gp l k)), V.i (Prod.snd (gp l k))], V.i r, V.i per]), pv (11 : Nat) (V.i (Cut.wide c)), pv (12 : Nat) (V.b (decide (Cut.wide c < Prod.snd h - Prod.fst h))), pv (4 : Nat) (V.b (decide (Cut.wide c < Prod.snd h - Prod.fst h)))] (by kernel_rfl) (by kernel_rfl) True.intro ?_
  refine aops_nil ⟨by kernel_rfl, ?_⟩
  refine xt_n ?_
  refine hK _ ?_
  clear hK K
  refine aw_ret ?_
  refine ret_pure (v' := V.b (decide (Cut.wide c < Prod.snd h - Prod.fst h))) (.inr rfl) (by kernel_rfl) (by kernel_rfl) (by kernel_rfl)
set_option maxRecDepth 100000 in
theorem wide_sn (c : Cut) (l : List Pt) (r per : Int) (b h : Pt) (hh : Ed h) : AC Try.prog 77 [.ptr (trC c l r per), gNearV (some b) h none] (.b (wideB c h)) [] := by
  refine ac_intro hTT hMX (fn := Try.f77) (N := _) ⟨Try.func77, rfl, Try.ntmps77, by kernel_rfl⟩ (by simp) fun C hC hF => ?_
  refine aw_seq_k fun K hK => ?_
  refine w_region (n' := 2) (by kernel_rfl) (by kernel_rfl) ?_
  refine aops_n hTT (M := []) (n := 2) [pv (3 : Nat) (V.ptr [V.ptr [V.i (Prod.fst b), V.i (Prod.snd b)], V.ptr [V.i (Prod.fst h), V.i (Prod.snd h)], V.c (Value.pointer none)]), pv (4 : Nat) (V.b false)] (by kernel_rfl) (by kernel_rfl) True.intro ?_
  refine aops_nil ?_
  refine xt_n ?_
  refine hK _ ?_
  clear hK K
  refine aw_seq_k fun K hK => ?_
  refine w_regionD (n' := 3) (by kernel_rfl) (by kernel_rfl) ?_
  refine aops_n hTT (M := []) (n := 1) [pv (5 : Nat) (V.agg [V.ptr [V.i (Prod.fst b), V.i (Prod.snd b)], V.ptr [V.i (Prod.fst h), V.i (Prod.snd h)], V.c (Value.pointer none)])] (by kernel_rfl) (by kernel_rfl) True.intro ?_
  refine e_call (first := []) (caps := []) (width_ac (some b) h none hh) (by kernel_rfl) (by kernel_rfl) (by kernel_rfl) (by kernel_rfl) (by kernel_rfl) ?_
  refine aops_n hTT (M := []) (n := 7) [pv (7 : Nat) (V.ptr [V.i (Cut.half c), V.i (Cut.gain c), V.i (Cut.thin c), V.i (Cut.wide c), V.i (Cut.slope c), V.i (Cut.jerk c), V.i (Cut.sty c), V.sl (2 : Nat) (List.length l) fun (k : Nat) => [V.i (Prod.fst (gp l k)), V.i (Prod.snd (gp l k))], V.i r, V.i per]), pv (8 : Nat) (V.ptr [V.i (Cut.half c), V.i (Cut.gain c), V.i (Cut.thin c), V.i (Cut.wide c), V.i (Cut.slope c), V.i (Cut.jerk c), V.i (Cut.sty c), V.sl (2 : Nat) (List.length l) fun (k : Nat) => [V.i (Prod.fst (gp l k)), V.i (Prod.snd (gp l k))], V.i r, V.i per]), pv (9 : Nat) (V.ptr [V.i (Cut.half c), V.i (Cut.gain c), V.i (Cut.thin c), V.i (Cut.wide c), V.i (Cut.slope c), V.i (Cut.jerk c), V.i (Cut.sty c), V.sl (2 : Nat) (List.length l) fun (k : Nat) => [V.i (Prod.fst (gp l k)), V.i (Prod.snd (gp l k))], V.i r, V.i per]), pv (10 : Nat) (V.ptr [V.i (Cut.wide c), V.i (Cut.slope c), V.i (Cut.jerk c), V.i (Cut.sty c), V.sl (2 : Nat) (List.length l) fun (k : Nat) => [V.i (Prod.fst (gp l k)), V.i (Prod.snd (gp l k))], V.i r, V.i per]), pv (11 : Nat) (V.i (Cut.wide c)), pv (12 : Nat) (V.b (decide (Cut.wide c < Prod.snd h - Prod.fst h))), pv (4 : Nat) (V.b (decide (Cut.wide c < Prod.snd h - Prod.fst h)))] (by kernel_rfl) (by kernel_rfl) True.intro ?_
  refine aops_nil ⟨by kernel_rfl, ?_⟩
  refine xt_n ?_
  refine hK _ ?_
  clear hK K
  refine aw_ret ?_
  refine ret_pure (v' := V.b (decide (Cut.wide c < Prod.snd h - Prod.fst h))) (.inr rfl) (by kernel_rfl) (by kernel_rfl) (by kernel_rfl)
set_option maxRecDepth 100000 in
theorem wide_ss (c : Cut) (l : List Pt) (r per : Int) (b h a : Pt) (hh : Ed h) : AC Try.prog 77 [.ptr (trC c l r per), gNearV (some b) h (some a)] (.b (wideB c h)) [] := by
  refine ac_intro hTT hMX (fn := Try.f77) (N := _) ⟨Try.func77, rfl, Try.ntmps77, by kernel_rfl⟩ (by simp) fun C hC hF => ?_
  refine aw_seq_k fun K hK => ?_
  refine w_region (n' := 2) (by kernel_rfl) (by kernel_rfl) ?_
  refine aops_n hTT (M := []) (n := 2) [pv (3 : Nat) (V.ptr [V.ptr [V.i (Prod.fst b), V.i (Prod.snd b)], V.ptr [V.i (Prod.fst h), V.i (Prod.snd h)], V.ptr [V.i (Prod.fst a), V.i (Prod.snd a)]]), pv (4 : Nat) (V.b false)] (by kernel_rfl) (by kernel_rfl) True.intro ?_
  refine aops_nil ?_
  refine xt_n ?_
  refine hK _ ?_
  clear hK K
  refine aw_seq_k fun K hK => ?_
  refine w_regionD (n' := 3) (by kernel_rfl) (by kernel_rfl) ?_
  refine aops_n hTT (M := []) (n := 1) [pv (5 : Nat) (V.agg [V.ptr [V.i (Prod.fst b), V.i (Prod.snd b)], V.ptr [V.i (Prod.fst h), V.i (Prod.snd h)], V.ptr [V.i (Prod.fst a), V.i (Prod.snd a)]])] (by kernel_rfl) (by kernel_rfl) True.intro ?_
  refine e_call (first := []) (caps := []) (width_ac (some b) h (some a) hh) (by kernel_rfl) (by kernel_rfl) (by kernel_rfl) (by kernel_rfl) (by kernel_rfl) ?_
  refine aops_n hTT (M := []) (n := 7) [pv (7 : Nat) (V.ptr [V.i (Cut.half c), V.i (Cut.gain c), V.i (Cut.thin c), V.i (Cut.wide c), V.i (Cut.slope c), V.i (Cut.jerk c), V.i (Cut.sty c), V.sl (2 : Nat) (List.length l) fun (k : Nat) => [V.i (Prod.fst (gp l k)), V.i (Prod.snd (gp l k))], V.i r, V.i per]), pv (8 : Nat) (V.ptr [V.i (Cut.half c), V.i (Cut.gain c), V.i (Cut.thin c), V.i (Cut.wide c), V.i (Cut.slope c), V.i (Cut.jerk c), V.i (Cut.sty c), V.sl (2 : Nat) (List.length l) fun (k : Nat) => [V.i (Prod.fst (gp l k)), V.i (Prod.snd (gp l k))], V.i r, V.i per]), pv (9 : Nat) (V.ptr [V.i (Cut.half c), V.i (Cut.gain c), V.i (Cut.thin c), V.i (Cut.wide c), V.i (Cut.slope c), V.i (Cut.jerk c), V.i (Cut.sty c), V.sl (2 : Nat) (List.length l) fun (k : Nat) => [V.i (Prod.fst (gp l k)), V.i (Prod.snd (gp l k))], V.i r, V.i per]), pv (10 : Nat) (V.ptr [V.i (Cut.wide c), V.i (Cut.slope c), V.i (Cut.jerk c), V.i (Cut.sty c), V.sl (2 : Nat) (List.length l) fun (k : Nat) => [V.i (Prod.fst (gp l k)), V.i (Prod.snd (gp l k))], V.i r, V.i per]), pv (11 : Nat) (V.i (Cut.wide c)), pv (12 : Nat) (V.b (decide (Cut.wide c < Prod.snd h - Prod.fst h))), pv (4 : Nat) (V.b (decide (Cut.wide c < Prod.snd h - Prod.fst h)))] (by kernel_rfl) (by kernel_rfl) True.intro ?_
  refine aops_nil ⟨by kernel_rfl, ?_⟩
  refine xt_n ?_
  refine hK _ ?_
  clear hK K
  refine aw_ret ?_
  refine ret_pure (v' := V.b (decide (Cut.wide c < Prod.snd h - Prod.fst h))) (.inr rfl) (by kernel_rfl) (by kernel_rfl) (by kernel_rfl)
theorem wide_ac (c : Cut) (l : List Pt) (r per : Int) (b : Option Pt) (h : Pt) (a : Option Pt) (hh : Ed h) : AC Try.prog 77 [.ptr (trC c l r per), gNearV b h a] (.b (wideB c h)) [] := by
  cases b with
  | none => cases a with
    | none => exact wide_nn c l r per h hh
    | some a => exact wide_ns c l r per h a hh
  | some b => cases a with
    | none => exact wide_sn c l r per b h hh
    | some a => exact wide_ss c l r per b h a hh
set_option maxRecDepth 100000 in
theorem steep_nn (c : Cut) (l : List Pt) (r per : Int) (h : Pt) (hc : cutE c = 0) (hp : Plc r per) (hb : EdO none) (hh : Ed h) : AC Try.prog 78 [.ptr (trC c l r per), gNearV none h none] (.b (steepB c r per none h)) [] := by
  obtain ⟨c1, c2, c3, c4, c5, c6, c7⟩ := cutE_ok.1 hc
  refine ac_intro hTT hMX (fn := Try.f78) (N := _) ⟨Try.func78, rfl, Try.ntmps78, by kernel_rfl⟩ (by simp) fun C hC hF => ?_
  have sb := stepP_bd hb hh
  have m1 := gMul (m := 8388608) (n := 7405568000) (a := stepP none h) (b := 113000 * per) (by omega) (by have := hp.p; omega)
  have m1' : 113000 * per * stepP none h = stepP none h * (113000 * per) := Int.mul_comm _ _
  have m2 := gMul (m := 2977955840) (n := 10000) (a := 710 * r) (b := c.slope) (by have := hp.r; omega) (by omega)
  have hr := hp.r
  have hq := hp.p
  refine aw_seq_k fun K hK => ?_
  refine w_region (n' := 2) (by kernel_rfl) (by kernel_rfl) ?_
  refine aops_n hTT (M := []) (n := 2) [pv (3 : Nat) (V.ptr [V.c (Value.pointer none), V.ptr [V.i (Prod.fst h), V.i (Prod.snd h)], V.c (Value.pointer none)]), pv (4 : Nat) (V.b false)] (by kernel_rfl) (by kernel_rfl) True.intro ?_
  refine aops_nil ?_
  refine xt_n ?_
  refine hK _ ?_
  clear hK K
  refine aw_seq_k fun K hK => ?_
  refine w_regionD (n' := 3) (by kernel_rfl) (by kernel_rfl) ?_
  refine aops_n hTT (M := []) (n := 6) [pv (5 : Nat) (V.ptr [V.i (Cut.half c), V.i (Cut.gain c), V.i (Cut.thin c), V.i (Cut.wide c), V.i (Cut.slope c), V.i (Cut.jerk c), V.i (Cut.sty c), V.sl (2 : Nat) (List.length l) fun (k : Nat) => [V.i (Prod.fst (gp l k)), V.i (Prod.snd (gp l k))], V.i r, V.i per]), pv (6 : Nat) (V.ptr [V.i (Cut.half c), V.i (Cut.gain c), V.i (Cut.thin c), V.i (Cut.wide c), V.i (Cut.slope c), V.i (Cut.jerk c), V.i (Cut.sty c), V.sl (2 : Nat) (List.length l) fun (k : Nat) => [V.i (Prod.fst (gp l k)), V.i (Prod.snd (gp l k))], V.i r, V.i per]), pv (7 : Nat) (V.ptr [V.i per]), pv (8 : Nat) (V.i per), pc (9 : Nat) ((-9223372036854775808 : Int) ≤ (113000 : Int) * per ∧ (113000 : Int) * per ≤ (9223372036854775807 : Int)) (V.i ((113000 : Int) * per)), pv (10 : Nat) (V.agg [V.c (Value.pointer none), V.ptr [V.i (Prod.fst h), V.i (Prod.snd h)], V.c (Value.pointer none)])] (by kernel_rfl) (by kernel_rfl) ⟨(by omega), True.intro⟩ ?_
  refine e_call (first := []) (caps := []) (step_ac none h none hb hh) (by kernel_rfl) (by kernel_rfl) (by kernel_rfl) (by kernel_rfl) (by kernel_rfl) ?_
  refine aops_n hTT (M := []) (n := 14) [pc (12 : Nat) ((-9223372036854775808 : Int) ≤ (113000 : Int) * per * stepP none h ∧ (113000 : Int) * per * stepP none h ≤ (9223372036854775807 : Int)) (V.i ((113000 : Int) * per * stepP none h)), pv (13 : Nat) (V.ptr [V.i (Cut.half c), V.i (Cut.gain c), V.i (Cut.thin c), V.i (Cut.wide c), V.i (Cut.slope c), V.i (Cut.jerk c), V.i (Cut.sty c), V.sl (2 : Nat) (List.length l) fun (k : Nat) => [V.i (Prod.fst (gp l k)), V.i (Prod.snd (gp l k))], V.i r, V.i per]), pv (14 : Nat) (V.ptr [V.i (Cut.half c), V.i (Cut.gain c), V.i (Cut.thin c), V.i (Cut.wide c), V.i (Cut.slope c), V.i (Cut.jerk c), V.i (Cut.sty c), V.sl (2 : Nat) (List.length l) fun (k : Nat) => [V.i (Prod.fst (gp l k)), V.i (Prod.snd (gp l k))], V.i r, V.i per]), pv (15 : Nat) (V.ptr [V.i r, V.i per]), pv (16 : Nat) (V.i r), pc (17 : Nat) ((-9223372036854775808 : Int) ≤ (710 : Int) * r ∧ (710 : Int) * r ≤ (9223372036854775807 : Int)) (V.i ((710 : Int) * r)), pv (18 : Nat) (V.ptr [V.i (Cut.half c), V.i (Cut.gain c), V.i (Cut.thin c), V.i (Cut.wide c), V.i (Cut.slope c), V.i (Cut.jerk c), V.i (Cut.sty c), V.sl (2 : Nat) (List.length l) fun (k : Nat) => [V.i (Prod.fst (gp l k)), V.i (Prod.snd (gp l k))], V.i r, V.i per]), pv (19 : Nat) (V.ptr [V.i (Cut.half c), V.i (Cut.gain c), V.i (Cut.thin c), V.i (Cut.wide c), V.i (Cut.slope c), V.i (Cut.jerk c), V.i (Cut.sty c), V.sl (2 : Nat) (List.length l) fun (k : Nat) => [V.i (Prod.fst (gp l k)), V.i (Prod.snd (gp l k))], V.i r, V.i per]), pv (20 : Nat) (V.ptr [V.i (Cut.half c), V.i (Cut.gain c), V.i (Cut.thin c), V.i (Cut.wide c), V.i (Cut.slope c), V.i (Cut.jerk c), V.i (Cut.sty c), V.sl (2 : Nat) (List.length l) fun (k : Nat) => [V.i (Prod.fst (gp l k)), V.i (Prod.snd (gp l k))], V.i r, V.i per]), pv (21 : Nat) (V.ptr [V.i (Cut.slope c), V.i (Cut.jerk c), V.i (Cut.sty c), V.sl (2 : Nat) (List.length l) fun (k : Nat) => [V.i (Prod.fst (gp l k)), V.i (Prod.snd (gp l k))], V.i r, V.i per]), pv (22 : Nat) (V.i (Cut.slope c)), pc (23 : Nat) ((-9223372036854775808 : Int) ≤ (710 : Int) * r * Cut.slope c ∧ (710 : Int) * r * Cut.slope c ≤ (9223372036854775807 : Int)) (V.i ((710 : Int) * r * Cut.slope c)), pv (24 : Nat) (V.b (decide ((710 : Int) * r * Cut.slope c < (113000 : Int) * per * stepP none h))), pv (4 : Nat) (V.b (decide ((710 : Int) * r * Cut.slope c < (113000 : Int) * per * stepP none h)))] (by kernel_rfl) (by kernel_rfl) ⟨(by omega), (by omega), (by omega), True.intro⟩ ?_
  refine aops_nil ⟨by kernel_rfl, ?_⟩
  refine xt_n ?_
  refine hK _ ?_
  clear hK K
  refine aw_ret ?_
  refine ret_pure (v' := V.b (decide ((710 : Int) * r * Cut.slope c < (113000 : Int) * per * stepP none h))) (.inr rfl) (by kernel_rfl) (by kernel_rfl) (by kernel_rfl)
set_option maxRecDepth 100000 in
theorem steep_ns (c : Cut) (l : List Pt) (r per : Int) (h a : Pt) (hc : cutE c = 0) (hp : Plc r per) (hb : EdO none) (hh : Ed h) : AC Try.prog 78 [.ptr (trC c l r per), gNearV none h (some a)] (.b (steepB c r per none h)) [] := by
  obtain ⟨c1, c2, c3, c4, c5, c6, c7⟩ := cutE_ok.1 hc
  refine ac_intro hTT hMX (fn := Try.f78) (N := _) ⟨Try.func78, rfl, Try.ntmps78, by kernel_rfl⟩ (by simp) fun C hC hF => ?_
  have sb := stepP_bd hb hh
  have m1 := gMul (m := 8388608) (n := 7405568000) (a := stepP none h) (b := 113000 * per) (by omega) (by have := hp.p; omega)
  have m1' : 113000 * per * stepP none h = stepP none h * (113000 * per) := Int.mul_comm _ _
  have m2 := gMul (m := 2977955840) (n := 10000) (a := 710 * r) (b := c.slope) (by have := hp.r; omega) (by omega)
  have hr := hp.r
  have hq := hp.p
  refine aw_seq_k fun K hK => ?_
  refine w_region (n' := 2) (by kernel_rfl) (by kernel_rfl) ?_
  refine aops_n hTT (M := []) (n := 2) [pv (3 : Nat) (V.ptr [V.c (Value.pointer none), V.ptr [V.i (Prod.fst h), V.i (Prod.snd h)], V.ptr [V.i (Prod.fst a), V.i (Prod.snd a)]]), pv (4 : Nat) (V.b false)] (by kernel_rfl) (by kernel_rfl) True.intro ?_
  refine aops_nil ?_
  refine xt_n ?_
  refine hK _ ?_
  clear hK K
  refine aw_seq_k fun K hK => ?_
  refine w_regionD (n' := 3) (by kernel_rfl) (by kernel_rfl) ?_
  refine aops_n hTT (M := []) (n := 6) [pv (5 : Nat) (V.ptr [V.i (Cut.half c), V.i (Cut.gain c), V.i (Cut.thin c), V.i (Cut.wide c), V.i (Cut.slope c), V.i (Cut.jerk c), V.i (Cut.sty c), V.sl (2 : Nat) (List.length l) fun (k : Nat) => [V.i (Prod.fst (gp l k)), V.i (Prod.snd (gp l k))], V.i r, V.i per]), pv (6 : Nat) (V.ptr [V.i (Cut.half c), V.i (Cut.gain c), V.i (Cut.thin c), V.i (Cut.wide c), V.i (Cut.slope c), V.i (Cut.jerk c), V.i (Cut.sty c), V.sl (2 : Nat) (List.length l) fun (k : Nat) => [V.i (Prod.fst (gp l k)), V.i (Prod.snd (gp l k))], V.i r, V.i per]), pv (7 : Nat) (V.ptr [V.i per]), pv (8 : Nat) (V.i per), pc (9 : Nat) ((-9223372036854775808 : Int) ≤ (113000 : Int) * per ∧ (113000 : Int) * per ≤ (9223372036854775807 : Int)) (V.i ((113000 : Int) * per)), pv (10 : Nat) (V.agg [V.c (Value.pointer none), V.ptr [V.i (Prod.fst h), V.i (Prod.snd h)], V.ptr [V.i (Prod.fst a), V.i (Prod.snd a)]])] (by kernel_rfl) (by kernel_rfl) ⟨(by omega), True.intro⟩ ?_
  refine e_call (first := []) (caps := []) (step_ac none h (some a) hb hh) (by kernel_rfl) (by kernel_rfl) (by kernel_rfl) (by kernel_rfl) (by kernel_rfl) ?_
  refine aops_n hTT (M := []) (n := 14) [pc (12 : Nat) ((-9223372036854775808 : Int) ≤ (113000 : Int) * per * stepP none h ∧ (113000 : Int) * per * stepP none h ≤ (9223372036854775807 : Int)) (V.i ((113000 : Int) * per * stepP none h)), pv (13 : Nat) (V.ptr [V.i (Cut.half c), V.i (Cut.gain c), V.i (Cut.thin c), V.i (Cut.wide c), V.i (Cut.slope c), V.i (Cut.jerk c), V.i (Cut.sty c), V.sl (2 : Nat) (List.length l) fun (k : Nat) => [V.i (Prod.fst (gp l k)), V.i (Prod.snd (gp l k))], V.i r, V.i per]), pv (14 : Nat) (V.ptr [V.i (Cut.half c), V.i (Cut.gain c), V.i (Cut.thin c), V.i (Cut.wide c), V.i (Cut.slope c), V.i (Cut.jerk c), V.i (Cut.sty c), V.sl (2 : Nat) (List.length l) fun (k : Nat) => [V.i (Prod.fst (gp l k)), V.i (Prod.snd (gp l k))], V.i r, V.i per]), pv (15 : Nat) (V.ptr [V.i r, V.i per]), pv (16 : Nat) (V.i r), pc (17 : Nat) ((-9223372036854775808 : Int) ≤ (710 : Int) * r ∧ (710 : Int) * r ≤ (9223372036854775807 : Int)) (V.i ((710 : Int) * r)), pv (18 : Nat) (V.ptr [V.i (Cut.half c), V.i (Cut.gain c), V.i (Cut.thin c), V.i (Cut.wide c), V.i (Cut.slope c), V.i (Cut.jerk c), V.i (Cut.sty c), V.sl (2 : Nat) (List.length l) fun (k : Nat) => [V.i (Prod.fst (gp l k)), V.i (Prod.snd (gp l k))], V.i r, V.i per]), pv (19 : Nat) (V.ptr [V.i (Cut.half c), V.i (Cut.gain c), V.i (Cut.thin c), V.i (Cut.wide c), V.i (Cut.slope c), V.i (Cut.jerk c), V.i (Cut.sty c), V.sl (2 : Nat) (List.length l) fun (k : Nat) => [V.i (Prod.fst (gp l k)), V.i (Prod.snd (gp l k))], V.i r, V.i per]), pv (20 : Nat) (V.ptr [V.i (Cut.half c), V.i (Cut.gain c), V.i (Cut.thin c), V.i (Cut.wide c), V.i (Cut.slope c), V.i (Cut.jerk c), V.i (Cut.sty c), V.sl (2 : Nat) (List.length l) fun (k : Nat) => [V.i (Prod.fst (gp l k)), V.i (Prod.snd (gp l k))], V.i r, V.i per]), pv (21 : Nat) (V.ptr [V.i (Cut.slope c), V.i (Cut.jerk c), V.i (Cut.sty c), V.sl (2 : Nat) (List.length l) fun (k : Nat) => [V.i (Prod.fst (gp l k)), V.i (Prod.snd (gp l k))], V.i r, V.i per]), pv (22 : Nat) (V.i (Cut.slope c)), pc (23 : Nat) ((-9223372036854775808 : Int) ≤ (710 : Int) * r * Cut.slope c ∧ (710 : Int) * r * Cut.slope c ≤ (9223372036854775807 : Int)) (V.i ((710 : Int) * r * Cut.slope c)), pv (24 : Nat) (V.b (decide ((710 : Int) * r * Cut.slope c < (113000 : Int) * per * stepP none h))), pv (4 : Nat) (V.b (decide ((710 : Int) * r * Cut.slope c < (113000 : Int) * per * stepP none h)))] (by kernel_rfl) (by kernel_rfl) ⟨(by omega), (by omega), (by omega), True.intro⟩ ?_
  refine aops_nil ⟨by kernel_rfl, ?_⟩
  refine xt_n ?_
  refine hK _ ?_
  clear hK K
  refine aw_ret ?_
  refine ret_pure (v' := V.b (decide ((710 : Int) * r * Cut.slope c < (113000 : Int) * per * stepP none h))) (.inr rfl) (by kernel_rfl) (by kernel_rfl) (by kernel_rfl)
set_option maxRecDepth 100000 in
theorem steep_sn (c : Cut) (l : List Pt) (r per : Int) (b h : Pt) (hc : cutE c = 0) (hp : Plc r per) (hb : EdO (some b)) (hh : Ed h) : AC Try.prog 78 [.ptr (trC c l r per), gNearV (some b) h none] (.b (steepB c r per (some b) h)) [] := by
  obtain ⟨c1, c2, c3, c4, c5, c6, c7⟩ := cutE_ok.1 hc
  refine ac_intro hTT hMX (fn := Try.f78) (N := _) ⟨Try.func78, rfl, Try.ntmps78, by kernel_rfl⟩ (by simp) fun C hC hF => ?_
  have sb := stepP_bd hb hh
  have m1 := gMul (m := 8388608) (n := 7405568000) (a := stepP (some b) h) (b := 113000 * per) (by omega) (by have := hp.p; omega)
  have m1' : 113000 * per * stepP (some b) h = stepP (some b) h * (113000 * per) := Int.mul_comm _ _
  have m2 := gMul (m := 2977955840) (n := 10000) (a := 710 * r) (b := c.slope) (by have := hp.r; omega) (by omega)
  have hr := hp.r
  have hq := hp.p
  refine aw_seq_k fun K hK => ?_
  refine w_region (n' := 2) (by kernel_rfl) (by kernel_rfl) ?_
  refine aops_n hTT (M := []) (n := 2) [pv (3 : Nat) (V.ptr [V.ptr [V.i (Prod.fst b), V.i (Prod.snd b)], V.ptr [V.i (Prod.fst h), V.i (Prod.snd h)], V.c (Value.pointer none)]), pv (4 : Nat) (V.b false)] (by kernel_rfl) (by kernel_rfl) True.intro ?_
  refine aops_nil ?_
  refine xt_n ?_
  refine hK _ ?_
  clear hK K
  refine aw_seq_k fun K hK => ?_
  refine w_regionD (n' := 3) (by kernel_rfl) (by kernel_rfl) ?_
  refine aops_n hTT (M := []) (n := 6) [pv (5 : Nat) (V.ptr [V.i (Cut.half c), V.i (Cut.gain c), V.i (Cut.thin c), V.i (Cut.wide c), V.i (Cut.slope c), V.i (Cut.jerk c), V.i (Cut.sty c), V.sl (2 : Nat) (List.length l) fun (k : Nat) => [V.i (Prod.fst (gp l k)), V.i (Prod.snd (gp l k))], V.i r, V.i per]), pv (6 : Nat) (V.ptr [V.i (Cut.half c), V.i (Cut.gain c), V.i (Cut.thin c), V.i (Cut.wide c), V.i (Cut.slope c), V.i (Cut.jerk c), V.i (Cut.sty c), V.sl (2 : Nat) (List.length l) fun (k : Nat) => [V.i (Prod.fst (gp l k)), V.i (Prod.snd (gp l k))], V.i r, V.i per]), pv (7 : Nat) (V.ptr [V.i per]), pv (8 : Nat) (V.i per), pc (9 : Nat) ((-9223372036854775808 : Int) ≤ (113000 : Int) * per ∧ (113000 : Int) * per ≤ (9223372036854775807 : Int)) (V.i ((113000 : Int) * per)), pv (10 : Nat) (V.agg [V.ptr [V.i (Prod.fst b), V.i (Prod.snd b)], V.ptr [V.i (Prod.fst h), V.i (Prod.snd h)], V.c (Value.pointer none)])] (by kernel_rfl) (by kernel_rfl) ⟨(by omega), True.intro⟩ ?_
  refine e_call (first := []) (caps := []) (step_ac (some b) h none hb hh) (by kernel_rfl) (by kernel_rfl) (by kernel_rfl) (by kernel_rfl) (by kernel_rfl) ?_
  refine aops_n hTT (M := []) (n := 14) [pc (12 : Nat) ((-9223372036854775808 : Int) ≤ (113000 : Int) * per * stepP (some b) h ∧ (113000 : Int) * per * stepP (some b) h ≤ (9223372036854775807 : Int)) (V.i ((113000 : Int) * per * stepP (some b) h)), pv (13 : Nat) (V.ptr [V.i (Cut.half c), V.i (Cut.gain c), V.i (Cut.thin c), V.i (Cut.wide c), V.i (Cut.slope c), V.i (Cut.jerk c), V.i (Cut.sty c), V.sl (2 : Nat) (List.length l) fun (k : Nat) => [V.i (Prod.fst (gp l k)), V.i (Prod.snd (gp l k))], V.i r, V.i per]), pv (14 : Nat) (V.ptr [V.i (Cut.half c), V.i (Cut.gain c), V.i (Cut.thin c), V.i (Cut.wide c), V.i (Cut.slope c), V.i (Cut.jerk c), V.i (Cut.sty c), V.sl (2 : Nat) (List.length l) fun (k : Nat) => [V.i (Prod.fst (gp l k)), V.i (Prod.snd (gp l k))], V.i r, V.i per]), pv (15 : Nat) (V.ptr [V.i r, V.i per]), pv (16 : Nat) (V.i r), pc (17 : Nat) ((-9223372036854775808 : Int) ≤ (710 : Int) * r ∧ (710 : Int) * r ≤ (9223372036854775807 : Int)) (V.i ((710 : Int) * r)), pv (18 : Nat) (V.ptr [V.i (Cut.half c), V.i (Cut.gain c), V.i (Cut.thin c), V.i (Cut.wide c), V.i (Cut.slope c), V.i (Cut.jerk c), V.i (Cut.sty c), V.sl (2 : Nat) (List.length l) fun (k : Nat) => [V.i (Prod.fst (gp l k)), V.i (Prod.snd (gp l k))], V.i r, V.i per]), pv (19 : Nat) (V.ptr [V.i (Cut.half c), V.i (Cut.gain c), V.i (Cut.thin c), V.i (Cut.wide c), V.i (Cut.slope c), V.i (Cut.jerk c), V.i (Cut.sty c), V.sl (2 : Nat) (List.length l) fun (k : Nat) => [V.i (Prod.fst (gp l k)), V.i (Prod.snd (gp l k))], V.i r, V.i per]), pv (20 : Nat) (V.ptr [V.i (Cut.half c), V.i (Cut.gain c), V.i (Cut.thin c), V.i (Cut.wide c), V.i (Cut.slope c), V.i (Cut.jerk c), V.i (Cut.sty c), V.sl (2 : Nat) (List.length l) fun (k : Nat) => [V.i (Prod.fst (gp l k)), V.i (Prod.snd (gp l k))], V.i r, V.i per]), pv (21 : Nat) (V.ptr [V.i (Cut.slope c), V.i (Cut.jerk c), V.i (Cut.sty c), V.sl (2 : Nat) (List.length l) fun (k : Nat) => [V.i (Prod.fst (gp l k)), V.i (Prod.snd (gp l k))], V.i r, V.i per]), pv (22 : Nat) (V.i (Cut.slope c)), pc (23 : Nat) ((-9223372036854775808 : Int) ≤ (710 : Int) * r * Cut.slope c ∧ (710 : Int) * r * Cut.slope c ≤ (9223372036854775807 : Int)) (V.i ((710 : Int) * r * Cut.slope c)), pv (24 : Nat) (V.b (decide ((710 : Int) * r * Cut.slope c < (113000 : Int) * per * stepP (some b) h))), pv (4 : Nat) (V.b (decide ((710 : Int) * r * Cut.slope c < (113000 : Int) * per * stepP (some b) h)))] (by kernel_rfl) (by kernel_rfl) ⟨(by omega), (by omega), (by omega), True.intro⟩ ?_
  refine aops_nil ⟨by kernel_rfl, ?_⟩
  refine xt_n ?_
  refine hK _ ?_
  clear hK K
  refine aw_ret ?_
  refine ret_pure (v' := V.b (decide ((710 : Int) * r * Cut.slope c < (113000 : Int) * per * stepP (some b) h))) (.inr rfl) (by kernel_rfl) (by kernel_rfl) (by kernel_rfl)
set_option maxRecDepth 100000 in
theorem steep_ss (c : Cut) (l : List Pt) (r per : Int) (b h a : Pt) (hc : cutE c = 0) (hp : Plc r per) (hb : EdO (some b)) (hh : Ed h) : AC Try.prog 78 [.ptr (trC c l r per), gNearV (some b) h (some a)] (.b (steepB c r per (some b) h)) [] := by
  obtain ⟨c1, c2, c3, c4, c5, c6, c7⟩ := cutE_ok.1 hc
  refine ac_intro hTT hMX (fn := Try.f78) (N := _) ⟨Try.func78, rfl, Try.ntmps78, by kernel_rfl⟩ (by simp) fun C hC hF => ?_
  have sb := stepP_bd hb hh
  have m1 := gMul (m := 8388608) (n := 7405568000) (a := stepP (some b) h) (b := 113000 * per) (by omega) (by have := hp.p; omega)
  have m1' : 113000 * per * stepP (some b) h = stepP (some b) h * (113000 * per) := Int.mul_comm _ _
  have m2 := gMul (m := 2977955840) (n := 10000) (a := 710 * r) (b := c.slope) (by have := hp.r; omega) (by omega)
  have hr := hp.r
  have hq := hp.p
  refine aw_seq_k fun K hK => ?_
  refine w_region (n' := 2) (by kernel_rfl) (by kernel_rfl) ?_
  refine aops_n hTT (M := []) (n := 2) [pv (3 : Nat) (V.ptr [V.ptr [V.i (Prod.fst b), V.i (Prod.snd b)], V.ptr [V.i (Prod.fst h), V.i (Prod.snd h)], V.ptr [V.i (Prod.fst a), V.i (Prod.snd a)]]), pv (4 : Nat) (V.b false)] (by kernel_rfl) (by kernel_rfl) True.intro ?_
  refine aops_nil ?_
  refine xt_n ?_
  refine hK _ ?_
  clear hK K
  refine aw_seq_k fun K hK => ?_
  refine w_regionD (n' := 3) (by kernel_rfl) (by kernel_rfl) ?_
  refine aops_n hTT (M := []) (n := 6) [pv (5 : Nat) (V.ptr [V.i (Cut.half c), V.i (Cut.gain c), V.i (Cut.thin c), V.i (Cut.wide c), V.i (Cut.slope c), V.i (Cut.jerk c), V.i (Cut.sty c), V.sl (2 : Nat) (List.length l) fun (k : Nat) => [V.i (Prod.fst (gp l k)), V.i (Prod.snd (gp l k))], V.i r, V.i per]), pv (6 : Nat) (V.ptr [V.i (Cut.half c), V.i (Cut.gain c), V.i (Cut.thin c), V.i (Cut.wide c), V.i (Cut.slope c), V.i (Cut.jerk c), V.i (Cut.sty c), V.sl (2 : Nat) (List.length l) fun (k : Nat) => [V.i (Prod.fst (gp l k)), V.i (Prod.snd (gp l k))], V.i r, V.i per]), pv (7 : Nat) (V.ptr [V.i per]), pv (8 : Nat) (V.i per), pc (9 : Nat) ((-9223372036854775808 : Int) ≤ (113000 : Int) * per ∧ (113000 : Int) * per ≤ (9223372036854775807 : Int)) (V.i ((113000 : Int) * per)), pv (10 : Nat) (V.agg [V.ptr [V.i (Prod.fst b), V.i (Prod.snd b)], V.ptr [V.i (Prod.fst h), V.i (Prod.snd h)], V.ptr [V.i (Prod.fst a), V.i (Prod.snd a)]])] (by kernel_rfl) (by kernel_rfl) ⟨(by omega), True.intro⟩ ?_
  refine e_call (first := []) (caps := []) (step_ac (some b) h (some a) hb hh) (by kernel_rfl) (by kernel_rfl) (by kernel_rfl) (by kernel_rfl) (by kernel_rfl) ?_
  refine aops_n hTT (M := []) (n := 14) [pc (12 : Nat) ((-9223372036854775808 : Int) ≤ (113000 : Int) * per * stepP (some b) h ∧ (113000 : Int) * per * stepP (some b) h ≤ (9223372036854775807 : Int)) (V.i ((113000 : Int) * per * stepP (some b) h)), pv (13 : Nat) (V.ptr [V.i (Cut.half c), V.i (Cut.gain c), V.i (Cut.thin c), V.i (Cut.wide c), V.i (Cut.slope c), V.i (Cut.jerk c), V.i (Cut.sty c), V.sl (2 : Nat) (List.length l) fun (k : Nat) => [V.i (Prod.fst (gp l k)), V.i (Prod.snd (gp l k))], V.i r, V.i per]), pv (14 : Nat) (V.ptr [V.i (Cut.half c), V.i (Cut.gain c), V.i (Cut.thin c), V.i (Cut.wide c), V.i (Cut.slope c), V.i (Cut.jerk c), V.i (Cut.sty c), V.sl (2 : Nat) (List.length l) fun (k : Nat) => [V.i (Prod.fst (gp l k)), V.i (Prod.snd (gp l k))], V.i r, V.i per]), pv (15 : Nat) (V.ptr [V.i r, V.i per]), pv (16 : Nat) (V.i r), pc (17 : Nat) ((-9223372036854775808 : Int) ≤ (710 : Int) * r ∧ (710 : Int) * r ≤ (9223372036854775807 : Int)) (V.i ((710 : Int) * r)), pv (18 : Nat) (V.ptr [V.i (Cut.half c), V.i (Cut.gain c), V.i (Cut.thin c), V.i (Cut.wide c), V.i (Cut.slope c), V.i (Cut.jerk c), V.i (Cut.sty c), V.sl (2 : Nat) (List.length l) fun (k : Nat) => [V.i (Prod.fst (gp l k)), V.i (Prod.snd (gp l k))], V.i r, V.i per]), pv (19 : Nat) (V.ptr [V.i (Cut.half c), V.i (Cut.gain c), V.i (Cut.thin c), V.i (Cut.wide c), V.i (Cut.slope c), V.i (Cut.jerk c), V.i (Cut.sty c), V.sl (2 : Nat) (List.length l) fun (k : Nat) => [V.i (Prod.fst (gp l k)), V.i (Prod.snd (gp l k))], V.i r, V.i per]), pv (20 : Nat) (V.ptr [V.i (Cut.half c), V.i (Cut.gain c), V.i (Cut.thin c), V.i (Cut.wide c), V.i (Cut.slope c), V.i (Cut.jerk c), V.i (Cut.sty c), V.sl (2 : Nat) (List.length l) fun (k : Nat) => [V.i (Prod.fst (gp l k)), V.i (Prod.snd (gp l k))], V.i r, V.i per]), pv (21 : Nat) (V.ptr [V.i (Cut.slope c), V.i (Cut.jerk c), V.i (Cut.sty c), V.sl (2 : Nat) (List.length l) fun (k : Nat) => [V.i (Prod.fst (gp l k)), V.i (Prod.snd (gp l k))], V.i r, V.i per]), pv (22 : Nat) (V.i (Cut.slope c)), pc (23 : Nat) ((-9223372036854775808 : Int) ≤ (710 : Int) * r * Cut.slope c ∧ (710 : Int) * r * Cut.slope c ≤ (9223372036854775807 : Int)) (V.i ((710 : Int) * r * Cut.slope c)), pv (24 : Nat) (V.b (decide ((710 : Int) * r * Cut.slope c < (113000 : Int) * per * stepP (some b) h))), pv (4 : Nat) (V.b (decide ((710 : Int) * r * Cut.slope c < (113000 : Int) * per * stepP (some b) h)))] (by kernel_rfl) (by kernel_rfl) ⟨(by omega), (by omega), (by omega), True.intro⟩ ?_
  refine aops_nil ⟨by kernel_rfl, ?_⟩
  refine xt_n ?_
  refine hK _ ?_
  clear hK K
  refine aw_ret ?_
  refine ret_pure (v' := V.b (decide ((710 : Int) * r * Cut.slope c < (113000 : Int) * per * stepP (some b) h))) (.inr rfl) (by kernel_rfl) (by kernel_rfl) (by kernel_rfl)
theorem steep_ac (c : Cut) (l : List Pt) (r per : Int) (b : Option Pt) (h : Pt) (a : Option Pt) (hc : cutE c = 0) (hp : Plc r per) (hb : EdO b) (hh : Ed h) : AC Try.prog 78 [.ptr (trC c l r per), gNearV b h a] (.b (steepB c r per b h)) [] := by
  cases b with
  | none => cases a with
    | none => exact steep_nn c l r per h hc hp hb hh
    | some a => exact steep_ns c l r per h a hc hp hb hh
  | some b => cases a with
    | none => exact steep_sn c l r per b h hc hp hb hh
    | some a => exact steep_ss c l r per b h a hc hp hb hh
set_option maxRecDepth 100000 in
theorem sudden_nn (c : Cut) (l : List Pt) (r per : Int) (h : Pt) (hb : EdO none) (hh : Ed h) (ha : EdO none) : AC Try.prog 79 [.ptr (trC c l r per), gNearV none h none] (.b (suddenB c none h none)) [] := by
  refine ac_intro hTT hMX (fn := Try.f79) (N := _) ⟨Try.func79, rfl, Try.ntmps79, by kernel_rfl⟩ (by simp) fun C hC hF => ?_
  refine aw_seq_k fun K hK => ?_
  refine w_region (n' := 2) (by kernel_rfl) (by kernel_rfl) ?_
  refine aops_n hTT (M := []) (n := 2) [pv (3 : Nat) (V.ptr [V.c (Value.pointer none), V.ptr [V.i (Prod.fst h), V.i (Prod.snd h)], V.c (Value.pointer none)]), pv (4 : Nat) (V.b false)] (by kernel_rfl) (by kernel_rfl) True.intro ?_
  refine aops_nil ?_
  refine xt_n ?_
  refine hK _ ?_
  clear hK K
  refine aw_seq_k fun K hK => ?_
  refine w_regionD (n' := 3) (by kernel_rfl) (by kernel_rfl) ?_
  refine aops_n hTT (M := []) (n := 1) [pv (5 : Nat) (V.agg [V.c (Value.pointer none), V.ptr [V.i (Prod.fst h), V.i (Prod.snd h)], V.c (Value.pointer none)])] (by kernel_rfl) (by kernel_rfl) True.intro ?_
  refine e_call (first := []) (caps := []) (bend_ac none h none hb hh ha) (by kernel_rfl) (by kernel_rfl) (by kernel_rfl) (by kernel_rfl) (by kernel_rfl) ?_
  refine aops_n hTT (M := []) (n := 7) [pv (7 : Nat) (V.ptr [V.i (Cut.half c), V.i (Cut.gain c), V.i (Cut.thin c), V.i (Cut.wide c), V.i (Cut.slope c), V.i (Cut.jerk c), V.i (Cut.sty c), V.sl (2 : Nat) (List.length l) fun (k : Nat) => [V.i (Prod.fst (gp l k)), V.i (Prod.snd (gp l k))], V.i r, V.i per]), pv (8 : Nat) (V.ptr [V.i (Cut.half c), V.i (Cut.gain c), V.i (Cut.thin c), V.i (Cut.wide c), V.i (Cut.slope c), V.i (Cut.jerk c), V.i (Cut.sty c), V.sl (2 : Nat) (List.length l) fun (k : Nat) => [V.i (Prod.fst (gp l k)), V.i (Prod.snd (gp l k))], V.i r, V.i per]), pv (9 : Nat) (V.ptr [V.i (Cut.half c), V.i (Cut.gain c), V.i (Cut.thin c), V.i (Cut.wide c), V.i (Cut.slope c), V.i (Cut.jerk c), V.i (Cut.sty c), V.sl (2 : Nat) (List.length l) fun (k : Nat) => [V.i (Prod.fst (gp l k)), V.i (Prod.snd (gp l k))], V.i r, V.i per]), pv (10 : Nat) (V.ptr [V.i (Cut.jerk c), V.i (Cut.sty c), V.sl (2 : Nat) (List.length l) fun (k : Nat) => [V.i (Prod.fst (gp l k)), V.i (Prod.snd (gp l k))], V.i r, V.i per]), pv (11 : Nat) (V.i (Cut.jerk c)), pv (12 : Nat) (V.b (decide (Cut.jerk c < bendP none h none))), pv (4 : Nat) (V.b (decide (Cut.jerk c < bendP none h none)))] (by kernel_rfl) (by kernel_rfl) True.intro ?_
  refine aops_nil ⟨by kernel_rfl, ?_⟩
  refine xt_n ?_
  refine hK _ ?_
  clear hK K
  refine aw_ret ?_
  refine ret_pure (v' := V.b (decide (Cut.jerk c < bendP none h none))) (.inr rfl) (by kernel_rfl) (by kernel_rfl) (by kernel_rfl)
set_option maxRecDepth 100000 in
theorem sudden_ns (c : Cut) (l : List Pt) (r per : Int) (h a : Pt) (hb : EdO none) (hh : Ed h) (ha : EdO (some a)) : AC Try.prog 79 [.ptr (trC c l r per), gNearV none h (some a)] (.b (suddenB c none h (some a))) [] := by
  refine ac_intro hTT hMX (fn := Try.f79) (N := _) ⟨Try.func79, rfl, Try.ntmps79, by kernel_rfl⟩ (by simp) fun C hC hF => ?_
  refine aw_seq_k fun K hK => ?_
  refine w_region (n' := 2) (by kernel_rfl) (by kernel_rfl) ?_
  refine aops_n hTT (M := []) (n := 2) [pv (3 : Nat) (V.ptr [V.c (Value.pointer none), V.ptr [V.i (Prod.fst h), V.i (Prod.snd h)], V.ptr [V.i (Prod.fst a), V.i (Prod.snd a)]]), pv (4 : Nat) (V.b false)] (by kernel_rfl) (by kernel_rfl) True.intro ?_
  refine aops_nil ?_
  refine xt_n ?_
  refine hK _ ?_
  clear hK K
  refine aw_seq_k fun K hK => ?_
  refine w_regionD (n' := 3) (by kernel_rfl) (by kernel_rfl) ?_
  refine aops_n hTT (M := []) (n := 1) [pv (5 : Nat) (V.agg [V.c (Value.pointer none), V.ptr [V.i (Prod.fst h), V.i (Prod.snd h)], V.ptr [V.i (Prod.fst a), V.i (Prod.snd a)]])] (by kernel_rfl) (by kernel_rfl) True.intro ?_
  refine e_call (first := []) (caps := []) (bend_ac none h (some a) hb hh ha) (by kernel_rfl) (by kernel_rfl) (by kernel_rfl) (by kernel_rfl) (by kernel_rfl) ?_
  refine aops_n hTT (M := []) (n := 7) [pv (7 : Nat) (V.ptr [V.i (Cut.half c), V.i (Cut.gain c), V.i (Cut.thin c), V.i (Cut.wide c), V.i (Cut.slope c), V.i (Cut.jerk c), V.i (Cut.sty c), V.sl (2 : Nat) (List.length l) fun (k : Nat) => [V.i (Prod.fst (gp l k)), V.i (Prod.snd (gp l k))], V.i r, V.i per]), pv (8 : Nat) (V.ptr [V.i (Cut.half c), V.i (Cut.gain c), V.i (Cut.thin c), V.i (Cut.wide c), V.i (Cut.slope c), V.i (Cut.jerk c), V.i (Cut.sty c), V.sl (2 : Nat) (List.length l) fun (k : Nat) => [V.i (Prod.fst (gp l k)), V.i (Prod.snd (gp l k))], V.i r, V.i per]), pv (9 : Nat) (V.ptr [V.i (Cut.half c), V.i (Cut.gain c), V.i (Cut.thin c), V.i (Cut.wide c), V.i (Cut.slope c), V.i (Cut.jerk c), V.i (Cut.sty c), V.sl (2 : Nat) (List.length l) fun (k : Nat) => [V.i (Prod.fst (gp l k)), V.i (Prod.snd (gp l k))], V.i r, V.i per]), pv (10 : Nat) (V.ptr [V.i (Cut.jerk c), V.i (Cut.sty c), V.sl (2 : Nat) (List.length l) fun (k : Nat) => [V.i (Prod.fst (gp l k)), V.i (Prod.snd (gp l k))], V.i r, V.i per]), pv (11 : Nat) (V.i (Cut.jerk c)), pv (12 : Nat) (V.b (decide (Cut.jerk c < bendP none h (some a)))), pv (4 : Nat) (V.b (decide (Cut.jerk c < bendP none h (some a))))] (by kernel_rfl) (by kernel_rfl) True.intro ?_
  refine aops_nil ⟨by kernel_rfl, ?_⟩
  refine xt_n ?_
  refine hK _ ?_
  clear hK K
  refine aw_ret ?_
  refine ret_pure (v' := V.b (decide (Cut.jerk c < bendP none h (some a)))) (.inr rfl) (by kernel_rfl) (by kernel_rfl) (by kernel_rfl)
set_option maxRecDepth 100000 in
theorem sudden_sn (c : Cut) (l : List Pt) (r per : Int) (b h : Pt) (hb : EdO (some b)) (hh : Ed h) (ha : EdO none) : AC Try.prog 79 [.ptr (trC c l r per), gNearV (some b) h none] (.b (suddenB c (some b) h none)) [] := by
  refine ac_intro hTT hMX (fn := Try.f79) (N := _) ⟨Try.func79, rfl, Try.ntmps79, by kernel_rfl⟩ (by simp) fun C hC hF => ?_
  refine aw_seq_k fun K hK => ?_
  refine w_region (n' := 2) (by kernel_rfl) (by kernel_rfl) ?_
  refine aops_n hTT (M := []) (n := 2) [pv (3 : Nat) (V.ptr [V.ptr [V.i (Prod.fst b), V.i (Prod.snd b)], V.ptr [V.i (Prod.fst h), V.i (Prod.snd h)], V.c (Value.pointer none)]), pv (4 : Nat) (V.b false)] (by kernel_rfl) (by kernel_rfl) True.intro ?_
  refine aops_nil ?_
  refine xt_n ?_
  refine hK _ ?_
  clear hK K
  refine aw_seq_k fun K hK => ?_
  refine w_regionD (n' := 3) (by kernel_rfl) (by kernel_rfl) ?_
  refine aops_n hTT (M := []) (n := 1) [pv (5 : Nat) (V.agg [V.ptr [V.i (Prod.fst b), V.i (Prod.snd b)], V.ptr [V.i (Prod.fst h), V.i (Prod.snd h)], V.c (Value.pointer none)])] (by kernel_rfl) (by kernel_rfl) True.intro ?_
  refine e_call (first := []) (caps := []) (bend_ac (some b) h none hb hh ha) (by kernel_rfl) (by kernel_rfl) (by kernel_rfl) (by kernel_rfl) (by kernel_rfl) ?_
  refine aops_n hTT (M := []) (n := 7) [pv (7 : Nat) (V.ptr [V.i (Cut.half c), V.i (Cut.gain c), V.i (Cut.thin c), V.i (Cut.wide c), V.i (Cut.slope c), V.i (Cut.jerk c), V.i (Cut.sty c), V.sl (2 : Nat) (List.length l) fun (k : Nat) => [V.i (Prod.fst (gp l k)), V.i (Prod.snd (gp l k))], V.i r, V.i per]), pv (8 : Nat) (V.ptr [V.i (Cut.half c), V.i (Cut.gain c), V.i (Cut.thin c), V.i (Cut.wide c), V.i (Cut.slope c), V.i (Cut.jerk c), V.i (Cut.sty c), V.sl (2 : Nat) (List.length l) fun (k : Nat) => [V.i (Prod.fst (gp l k)), V.i (Prod.snd (gp l k))], V.i r, V.i per]), pv (9 : Nat) (V.ptr [V.i (Cut.half c), V.i (Cut.gain c), V.i (Cut.thin c), V.i (Cut.wide c), V.i (Cut.slope c), V.i (Cut.jerk c), V.i (Cut.sty c), V.sl (2 : Nat) (List.length l) fun (k : Nat) => [V.i (Prod.fst (gp l k)), V.i (Prod.snd (gp l k))], V.i r, V.i per]), pv (10 : Nat) (V.ptr [V.i (Cut.jerk c), V.i (Cut.sty c), V.sl (2 : Nat) (List.length l) fun (k : Nat) => [V.i (Prod.fst (gp l k)), V.i (Prod.snd (gp l k))], V.i r, V.i per]), pv (11 : Nat) (V.i (Cut.jerk c)), pv (12 : Nat) (V.b (decide (Cut.jerk c < bendP (some b) h none))), pv (4 : Nat) (V.b (decide (Cut.jerk c < bendP (some b) h none)))] (by kernel_rfl) (by kernel_rfl) True.intro ?_
  refine aops_nil ⟨by kernel_rfl, ?_⟩
  refine xt_n ?_
  refine hK _ ?_
  clear hK K
  refine aw_ret ?_
  refine ret_pure (v' := V.b (decide (Cut.jerk c < bendP (some b) h none))) (.inr rfl) (by kernel_rfl) (by kernel_rfl) (by kernel_rfl)
set_option maxRecDepth 100000 in
theorem sudden_ss (c : Cut) (l : List Pt) (r per : Int) (b h a : Pt) (hb : EdO (some b)) (hh : Ed h) (ha : EdO (some a)) : AC Try.prog 79 [.ptr (trC c l r per), gNearV (some b) h (some a)] (.b (suddenB c (some b) h (some a))) [] := by
  refine ac_intro hTT hMX (fn := Try.f79) (N := _) ⟨Try.func79, rfl, Try.ntmps79, by kernel_rfl⟩ (by simp) fun C hC hF => ?_
  refine aw_seq_k fun K hK => ?_
  refine w_region (n' := 2) (by kernel_rfl) (by kernel_rfl) ?_
  refine aops_n hTT (M := []) (n := 2) [pv (3 : Nat) (V.ptr [V.ptr [V.i (Prod.fst b), V.i (Prod.snd b)], V.ptr [V.i (Prod.fst h), V.i (Prod.snd h)], V.ptr [V.i (Prod.fst a), V.i (Prod.snd a)]]), pv (4 : Nat) (V.b false)] (by kernel_rfl) (by kernel_rfl) True.intro ?_
  refine aops_nil ?_
  refine xt_n ?_
  refine hK _ ?_
  clear hK K
  refine aw_seq_k fun K hK => ?_
  refine w_regionD (n' := 3) (by kernel_rfl) (by kernel_rfl) ?_
  refine aops_n hTT (M := []) (n := 1) [pv (5 : Nat) (V.agg [V.ptr [V.i (Prod.fst b), V.i (Prod.snd b)], V.ptr [V.i (Prod.fst h), V.i (Prod.snd h)], V.ptr [V.i (Prod.fst a), V.i (Prod.snd a)]])] (by kernel_rfl) (by kernel_rfl) True.intro ?_
  refine e_call (first := []) (caps := []) (bend_ac (some b) h (some a) hb hh ha) (by kernel_rfl) (by kernel_rfl) (by kernel_rfl) (by kernel_rfl) (by kernel_rfl) ?_
  refine aops_n hTT (M := []) (n := 7) [pv (7 : Nat) (V.ptr [V.i (Cut.half c), V.i (Cut.gain c), V.i (Cut.thin c), V.i (Cut.wide c), V.i (Cut.slope c), V.i (Cut.jerk c), V.i (Cut.sty c), V.sl (2 : Nat) (List.length l) fun (k : Nat) => [V.i (Prod.fst (gp l k)), V.i (Prod.snd (gp l k))], V.i r, V.i per]), pv (8 : Nat) (V.ptr [V.i (Cut.half c), V.i (Cut.gain c), V.i (Cut.thin c), V.i (Cut.wide c), V.i (Cut.slope c), V.i (Cut.jerk c), V.i (Cut.sty c), V.sl (2 : Nat) (List.length l) fun (k : Nat) => [V.i (Prod.fst (gp l k)), V.i (Prod.snd (gp l k))], V.i r, V.i per]), pv (9 : Nat) (V.ptr [V.i (Cut.half c), V.i (Cut.gain c), V.i (Cut.thin c), V.i (Cut.wide c), V.i (Cut.slope c), V.i (Cut.jerk c), V.i (Cut.sty c), V.sl (2 : Nat) (List.length l) fun (k : Nat) => [V.i (Prod.fst (gp l k)), V.i (Prod.snd (gp l k))], V.i r, V.i per]), pv (10 : Nat) (V.ptr [V.i (Cut.jerk c), V.i (Cut.sty c), V.sl (2 : Nat) (List.length l) fun (k : Nat) => [V.i (Prod.fst (gp l k)), V.i (Prod.snd (gp l k))], V.i r, V.i per]), pv (11 : Nat) (V.i (Cut.jerk c)), pv (12 : Nat) (V.b (decide (Cut.jerk c < bendP (some b) h (some a)))), pv (4 : Nat) (V.b (decide (Cut.jerk c < bendP (some b) h (some a))))] (by kernel_rfl) (by kernel_rfl) True.intro ?_
  refine aops_nil ⟨by kernel_rfl, ?_⟩
  refine xt_n ?_
  refine hK _ ?_
  clear hK K
  refine aw_ret ?_
  refine ret_pure (v' := V.b (decide (Cut.jerk c < bendP (some b) h (some a)))) (.inr rfl) (by kernel_rfl) (by kernel_rfl) (by kernel_rfl)
theorem sudden_ac (c : Cut) (l : List Pt) (r per : Int) (b : Option Pt) (h : Pt) (a : Option Pt) (hb : EdO b) (hh : Ed h) (ha : EdO a) : AC Try.prog 79 [.ptr (trC c l r per), gNearV b h a] (.b (suddenB c b h a)) [] := by
  cases b with
  | none => cases a with
    | none => exact sudden_nn c l r per h hb hh ha
    | some a => exact sudden_ns c l r per h a hb hh ha
  | some b => cases a with
    | none => exact sudden_sn c l r per b h hb hh ha
    | some a => exact sudden_ss c l r per b h a hb hh ha
set_option maxRecDepth 100000 in
theorem sharp_nn (c : Cut) (l : List Pt) (r per : Int) (h : Pt) (hc : cutE c = 0) (hp : Plc r per) (hb : EdO none) (hh : Ed h) (ha : EdO none) : AC Try.prog 80 [.ptr (trC c l r per), gNearV none h none] (.b (sharpB c r per none h none)) [] := by
  obtain ⟨c1, c2, c3, c4, c5, c6, c7⟩ := cutE_ok.1 hc
  refine ac_intro hTT hMX (fn := Try.f80) (N := _) ⟨Try.func80, rfl, Try.ntmps80, by kernel_rfl⟩ (by simp) fun C hC hF => ?_
  have sb := bendP_bd hb hh ha
  have m1 := gMul (m := 16777216) (n := 1024) (a := bendP none h none) (b := c.sty) (by omega) (by omega)
  refine aw_seq_k fun K hK => ?_
  refine w_region (n' := 2) (by kernel_rfl) (by kernel_rfl) ?_
  refine aops_n hTT (M := []) (n := 2) [pv (3 : Nat) (V.ptr [V.c (Value.pointer none), V.ptr [V.i (Prod.fst h), V.i (Prod.snd h)], V.c (Value.pointer none)]), pv (4 : Nat) (V.b false)] (by kernel_rfl) (by kernel_rfl) True.intro ?_
  refine aops_nil ?_
  refine xt_n ?_
  refine hK _ ?_
  clear hK K
  refine aw_seq_k fun K hK => ?_
  refine w_regionD (n' := 3) (by kernel_rfl) (by kernel_rfl) ?_
  refine aops_n hTT (M := []) (n := 1) [pv (5 : Nat) (V.agg [V.c (Value.pointer none), V.ptr [V.i (Prod.fst h), V.i (Prod.snd h)], V.c (Value.pointer none)])] (by kernel_rfl) (by kernel_rfl) True.intro ?_
  refine e_call (first := []) (caps := []) (bend_ac none h none hb hh ha) (by kernel_rfl) (by kernel_rfl) (by kernel_rfl) (by kernel_rfl) (by kernel_rfl) ?_
  refine aops_n hTT (M := []) (n := 7) [pv (7 : Nat) (V.ptr [V.i (Cut.half c), V.i (Cut.gain c), V.i (Cut.thin c), V.i (Cut.wide c), V.i (Cut.slope c), V.i (Cut.jerk c), V.i (Cut.sty c), V.sl (2 : Nat) (List.length l) fun (k : Nat) => [V.i (Prod.fst (gp l k)), V.i (Prod.snd (gp l k))], V.i r, V.i per]), pv (8 : Nat) (V.ptr [V.i (Cut.half c), V.i (Cut.gain c), V.i (Cut.thin c), V.i (Cut.wide c), V.i (Cut.slope c), V.i (Cut.jerk c), V.i (Cut.sty c), V.sl (2 : Nat) (List.length l) fun (k : Nat) => [V.i (Prod.fst (gp l k)), V.i (Prod.snd (gp l k))], V.i r, V.i per]), pv (9 : Nat) (V.ptr [V.i (Cut.half c), V.i (Cut.gain c), V.i (Cut.thin c), V.i (Cut.wide c), V.i (Cut.slope c), V.i (Cut.jerk c), V.i (Cut.sty c), V.sl (2 : Nat) (List.length l) fun (k : Nat) => [V.i (Prod.fst (gp l k)), V.i (Prod.snd (gp l k))], V.i r, V.i per]), pv (10 : Nat) (V.ptr [V.i (Cut.sty c), V.sl (2 : Nat) (List.length l) fun (k : Nat) => [V.i (Prod.fst (gp l k)), V.i (Prod.snd (gp l k))], V.i r, V.i per]), pv (11 : Nat) (V.i (Cut.sty c)), pc (12 : Nat) ((-9223372036854775808 : Int) ≤ bendP none h none * Cut.sty c ∧ bendP none h none * Cut.sty c ≤ (9223372036854775807 : Int)) (V.i (bendP none h none * Cut.sty c)), pv (13 : Nat) (V.ptr [V.i (Cut.half c), V.i (Cut.gain c), V.i (Cut.thin c), V.i (Cut.wide c), V.i (Cut.slope c), V.i (Cut.jerk c), V.i (Cut.sty c), V.sl (2 : Nat) (List.length l) fun (k : Nat) => [V.i (Prod.fst (gp l k)), V.i (Prod.snd (gp l k))], V.i r, V.i per])] (by kernel_rfl) (by kernel_rfl) ⟨(by omega), True.intro⟩ ?_
  refine e_call (first := []) (caps := []) (gArc_ac c l r per hp) (by kernel_rfl) (by kernel_rfl) (by kernel_rfl) (by kernel_rfl) (by kernel_rfl) ?_
  refine aops_n hTT (M := []) (n := 2) [pv (15 : Nat) (V.b (decide (gArc r per < bendP none h none * Cut.sty c))), pv (4 : Nat) (V.b (decide (gArc r per < bendP none h none * Cut.sty c)))] (by kernel_rfl) (by kernel_rfl) True.intro ?_
  refine aops_nil ⟨by kernel_rfl, ?_⟩
  refine xt_n ?_
  refine hK _ ?_
  clear hK K
  refine aw_ret ?_
  refine ret_pure (v' := V.b (decide (gArc r per < bendP none h none * Cut.sty c))) (.inr rfl) (by kernel_rfl) (by kernel_rfl) (by kernel_rfl)
set_option maxRecDepth 100000 in
theorem sharp_ns (c : Cut) (l : List Pt) (r per : Int) (h a : Pt) (hc : cutE c = 0) (hp : Plc r per) (hb : EdO none) (hh : Ed h) (ha : EdO (some a)) : AC Try.prog 80 [.ptr (trC c l r per), gNearV none h (some a)] (.b (sharpB c r per none h (some a))) [] := by
  obtain ⟨c1, c2, c3, c4, c5, c6, c7⟩ := cutE_ok.1 hc
  refine ac_intro hTT hMX (fn := Try.f80) (N := _) ⟨Try.func80, rfl, Try.ntmps80, by kernel_rfl⟩ (by simp) fun C hC hF => ?_
  have sb := bendP_bd hb hh ha
  have m1 := gMul (m := 16777216) (n := 1024) (a := bendP none h (some a)) (b := c.sty) (by omega) (by omega)
  refine aw_seq_k fun K hK => ?_
  refine w_region (n' := 2) (by kernel_rfl) (by kernel_rfl) ?_
  refine aops_n hTT (M := []) (n := 2) [pv (3 : Nat) (V.ptr [V.c (Value.pointer none), V.ptr [V.i (Prod.fst h), V.i (Prod.snd h)], V.ptr [V.i (Prod.fst a), V.i (Prod.snd a)]]), pv (4 : Nat) (V.b false)] (by kernel_rfl) (by kernel_rfl) True.intro ?_
  refine aops_nil ?_
  refine xt_n ?_
  refine hK _ ?_
  clear hK K
  refine aw_seq_k fun K hK => ?_
  refine w_regionD (n' := 3) (by kernel_rfl) (by kernel_rfl) ?_
  refine aops_n hTT (M := []) (n := 1) [pv (5 : Nat) (V.agg [V.c (Value.pointer none), V.ptr [V.i (Prod.fst h), V.i (Prod.snd h)], V.ptr [V.i (Prod.fst a), V.i (Prod.snd a)]])] (by kernel_rfl) (by kernel_rfl) True.intro ?_
  refine e_call (first := []) (caps := []) (bend_ac none h (some a) hb hh ha) (by kernel_rfl) (by kernel_rfl) (by kernel_rfl) (by kernel_rfl) (by kernel_rfl) ?_
  refine aops_n hTT (M := []) (n := 7) [pv (7 : Nat) (V.ptr [V.i (Cut.half c), V.i (Cut.gain c), V.i (Cut.thin c), V.i (Cut.wide c), V.i (Cut.slope c), V.i (Cut.jerk c), V.i (Cut.sty c), V.sl (2 : Nat) (List.length l) fun (k : Nat) => [V.i (Prod.fst (gp l k)), V.i (Prod.snd (gp l k))], V.i r, V.i per]), pv (8 : Nat) (V.ptr [V.i (Cut.half c), V.i (Cut.gain c), V.i (Cut.thin c), V.i (Cut.wide c), V.i (Cut.slope c), V.i (Cut.jerk c), V.i (Cut.sty c), V.sl (2 : Nat) (List.length l) fun (k : Nat) => [V.i (Prod.fst (gp l k)), V.i (Prod.snd (gp l k))], V.i r, V.i per]), pv (9 : Nat) (V.ptr [V.i (Cut.half c), V.i (Cut.gain c), V.i (Cut.thin c), V.i (Cut.wide c), V.i (Cut.slope c), V.i (Cut.jerk c), V.i (Cut.sty c), V.sl (2 : Nat) (List.length l) fun (k : Nat) => [V.i (Prod.fst (gp l k)), V.i (Prod.snd (gp l k))], V.i r, V.i per]), pv (10 : Nat) (V.ptr [V.i (Cut.sty c), V.sl (2 : Nat) (List.length l) fun (k : Nat) => [V.i (Prod.fst (gp l k)), V.i (Prod.snd (gp l k))], V.i r, V.i per]), pv (11 : Nat) (V.i (Cut.sty c)), pc (12 : Nat) ((-9223372036854775808 : Int) ≤ bendP none h (some a) * Cut.sty c ∧ bendP none h (some a) * Cut.sty c ≤ (9223372036854775807 : Int)) (V.i (bendP none h (some a) * Cut.sty c)), pv (13 : Nat) (V.ptr [V.i (Cut.half c), V.i (Cut.gain c), V.i (Cut.thin c), V.i (Cut.wide c), V.i (Cut.slope c), V.i (Cut.jerk c), V.i (Cut.sty c), V.sl (2 : Nat) (List.length l) fun (k : Nat) => [V.i (Prod.fst (gp l k)), V.i (Prod.snd (gp l k))], V.i r, V.i per])] (by kernel_rfl) (by kernel_rfl) ⟨(by omega), True.intro⟩ ?_
  refine e_call (first := []) (caps := []) (gArc_ac c l r per hp) (by kernel_rfl) (by kernel_rfl) (by kernel_rfl) (by kernel_rfl) (by kernel_rfl) ?_
  refine aops_n hTT (M := []) (n := 2) [pv (15 : Nat) (V.b (decide (gArc r per < bendP none h (some a) * Cut.sty c))), pv (4 : Nat) (V.b (decide (gArc r per < bendP none h (some a) * Cut.sty c)))] (by kernel_rfl) (by kernel_rfl) True.intro ?_
  refine aops_nil ⟨by kernel_rfl, ?_⟩
  refine xt_n ?_
  refine hK _ ?_
  clear hK K
  refine aw_ret ?_
  refine ret_pure (v' := V.b (decide (gArc r per < bendP none h (some a) * Cut.sty c))) (.inr rfl) (by kernel_rfl) (by kernel_rfl) (by kernel_rfl)
set_option maxRecDepth 100000 in
theorem sharp_sn (c : Cut) (l : List Pt) (r per : Int) (b h : Pt) (hc : cutE c = 0) (hp : Plc r per) (hb : EdO (some b)) (hh : Ed h) (ha : EdO none) : AC Try.prog 80 [.ptr (trC c l r per), gNearV (some b) h none] (.b (sharpB c r per (some b) h none)) [] := by
  obtain ⟨c1, c2, c3, c4, c5, c6, c7⟩ := cutE_ok.1 hc
  refine ac_intro hTT hMX (fn := Try.f80) (N := _) ⟨Try.func80, rfl, Try.ntmps80, by kernel_rfl⟩ (by simp) fun C hC hF => ?_
  have sb := bendP_bd hb hh ha
  have m1 := gMul (m := 16777216) (n := 1024) (a := bendP (some b) h none) (b := c.sty) (by omega) (by omega)
  refine aw_seq_k fun K hK => ?_
  refine w_region (n' := 2) (by kernel_rfl) (by kernel_rfl) ?_
  refine aops_n hTT (M := []) (n := 2) [pv (3 : Nat) (V.ptr [V.ptr [V.i (Prod.fst b), V.i (Prod.snd b)], V.ptr [V.i (Prod.fst h), V.i (Prod.snd h)], V.c (Value.pointer none)]), pv (4 : Nat) (V.b false)] (by kernel_rfl) (by kernel_rfl) True.intro ?_
  refine aops_nil ?_
  refine xt_n ?_
  refine hK _ ?_
  clear hK K
  refine aw_seq_k fun K hK => ?_
  refine w_regionD (n' := 3) (by kernel_rfl) (by kernel_rfl) ?_
  refine aops_n hTT (M := []) (n := 1) [pv (5 : Nat) (V.agg [V.ptr [V.i (Prod.fst b), V.i (Prod.snd b)], V.ptr [V.i (Prod.fst h), V.i (Prod.snd h)], V.c (Value.pointer none)])] (by kernel_rfl) (by kernel_rfl) True.intro ?_
  refine e_call (first := []) (caps := []) (bend_ac (some b) h none hb hh ha) (by kernel_rfl) (by kernel_rfl) (by kernel_rfl) (by kernel_rfl) (by kernel_rfl) ?_
  refine aops_n hTT (M := []) (n := 7) [pv (7 : Nat) (V.ptr [V.i (Cut.half c), V.i (Cut.gain c), V.i (Cut.thin c), V.i (Cut.wide c), V.i (Cut.slope c), V.i (Cut.jerk c), V.i (Cut.sty c), V.sl (2 : Nat) (List.length l) fun (k : Nat) => [V.i (Prod.fst (gp l k)), V.i (Prod.snd (gp l k))], V.i r, V.i per]), pv (8 : Nat) (V.ptr [V.i (Cut.half c), V.i (Cut.gain c), V.i (Cut.thin c), V.i (Cut.wide c), V.i (Cut.slope c), V.i (Cut.jerk c), V.i (Cut.sty c), V.sl (2 : Nat) (List.length l) fun (k : Nat) => [V.i (Prod.fst (gp l k)), V.i (Prod.snd (gp l k))], V.i r, V.i per]), pv (9 : Nat) (V.ptr [V.i (Cut.half c), V.i (Cut.gain c), V.i (Cut.thin c), V.i (Cut.wide c), V.i (Cut.slope c), V.i (Cut.jerk c), V.i (Cut.sty c), V.sl (2 : Nat) (List.length l) fun (k : Nat) => [V.i (Prod.fst (gp l k)), V.i (Prod.snd (gp l k))], V.i r, V.i per]), pv (10 : Nat) (V.ptr [V.i (Cut.sty c), V.sl (2 : Nat) (List.length l) fun (k : Nat) => [V.i (Prod.fst (gp l k)), V.i (Prod.snd (gp l k))], V.i r, V.i per]), pv (11 : Nat) (V.i (Cut.sty c)), pc (12 : Nat) ((-9223372036854775808 : Int) ≤ bendP (some b) h none * Cut.sty c ∧ bendP (some b) h none * Cut.sty c ≤ (9223372036854775807 : Int)) (V.i (bendP (some b) h none * Cut.sty c)), pv (13 : Nat) (V.ptr [V.i (Cut.half c), V.i (Cut.gain c), V.i (Cut.thin c), V.i (Cut.wide c), V.i (Cut.slope c), V.i (Cut.jerk c), V.i (Cut.sty c), V.sl (2 : Nat) (List.length l) fun (k : Nat) => [V.i (Prod.fst (gp l k)), V.i (Prod.snd (gp l k))], V.i r, V.i per])] (by kernel_rfl) (by kernel_rfl) ⟨(by omega), True.intro⟩ ?_
  refine e_call (first := []) (caps := []) (gArc_ac c l r per hp) (by kernel_rfl) (by kernel_rfl) (by kernel_rfl) (by kernel_rfl) (by kernel_rfl) ?_
  refine aops_n hTT (M := []) (n := 2) [pv (15 : Nat) (V.b (decide (gArc r per < bendP (some b) h none * Cut.sty c))), pv (4 : Nat) (V.b (decide (gArc r per < bendP (some b) h none * Cut.sty c)))] (by kernel_rfl) (by kernel_rfl) True.intro ?_
  refine aops_nil ⟨by kernel_rfl, ?_⟩
  refine xt_n ?_
  refine hK _ ?_
  clear hK K
  refine aw_ret ?_
  refine ret_pure (v' := V.b (decide (gArc r per < bendP (some b) h none * Cut.sty c))) (.inr rfl) (by kernel_rfl) (by kernel_rfl) (by kernel_rfl)
set_option maxRecDepth 100000 in
theorem sharp_ss (c : Cut) (l : List Pt) (r per : Int) (b h a : Pt) (hc : cutE c = 0) (hp : Plc r per) (hb : EdO (some b)) (hh : Ed h) (ha : EdO (some a)) : AC Try.prog 80 [.ptr (trC c l r per), gNearV (some b) h (some a)] (.b (sharpB c r per (some b) h (some a))) [] := by
  obtain ⟨c1, c2, c3, c4, c5, c6, c7⟩ := cutE_ok.1 hc
  refine ac_intro hTT hMX (fn := Try.f80) (N := _) ⟨Try.func80, rfl, Try.ntmps80, by kernel_rfl⟩ (by simp) fun C hC hF => ?_
  have sb := bendP_bd hb hh ha
  have m1 := gMul (m := 16777216) (n := 1024) (a := bendP (some b) h (some a)) (b := c.sty) (by omega) (by omega)
  refine aw_seq_k fun K hK => ?_
  refine w_region (n' := 2) (by kernel_rfl) (by kernel_rfl) ?_
  refine aops_n hTT (M := []) (n := 2) [pv (3 : Nat) (V.ptr [V.ptr [V.i (Prod.fst b), V.i (Prod.snd b)], V.ptr [V.i (Prod.fst h), V.i (Prod.snd h)], V.ptr [V.i (Prod.fst a), V.i (Prod.snd a)]]), pv (4 : Nat) (V.b false)] (by kernel_rfl) (by kernel_rfl) True.intro ?_
  refine aops_nil ?_
  refine xt_n ?_
  refine hK _ ?_
  clear hK K
  refine aw_seq_k fun K hK => ?_
  refine w_regionD (n' := 3) (by kernel_rfl) (by kernel_rfl) ?_
  refine aops_n hTT (M := []) (n := 1) [pv (5 : Nat) (V.agg [V.ptr [V.i (Prod.fst b), V.i (Prod.snd b)], V.ptr [V.i (Prod.fst h), V.i (Prod.snd h)], V.ptr [V.i (Prod.fst a), V.i (Prod.snd a)]])] (by kernel_rfl) (by kernel_rfl) True.intro ?_
  refine e_call (first := []) (caps := []) (bend_ac (some b) h (some a) hb hh ha) (by kernel_rfl) (by kernel_rfl) (by kernel_rfl) (by kernel_rfl) (by kernel_rfl) ?_
  refine aops_n hTT (M := []) (n := 7) [pv (7 : Nat) (V.ptr [V.i (Cut.half c), V.i (Cut.gain c), V.i (Cut.thin c), V.i (Cut.wide c), V.i (Cut.slope c), V.i (Cut.jerk c), V.i (Cut.sty c), V.sl (2 : Nat) (List.length l) fun (k : Nat) => [V.i (Prod.fst (gp l k)), V.i (Prod.snd (gp l k))], V.i r, V.i per]), pv (8 : Nat) (V.ptr [V.i (Cut.half c), V.i (Cut.gain c), V.i (Cut.thin c), V.i (Cut.wide c), V.i (Cut.slope c), V.i (Cut.jerk c), V.i (Cut.sty c), V.sl (2 : Nat) (List.length l) fun (k : Nat) => [V.i (Prod.fst (gp l k)), V.i (Prod.snd (gp l k))], V.i r, V.i per]), pv (9 : Nat) (V.ptr [V.i (Cut.half c), V.i (Cut.gain c), V.i (Cut.thin c), V.i (Cut.wide c), V.i (Cut.slope c), V.i (Cut.jerk c), V.i (Cut.sty c), V.sl (2 : Nat) (List.length l) fun (k : Nat) => [V.i (Prod.fst (gp l k)), V.i (Prod.snd (gp l k))], V.i r, V.i per]), pv (10 : Nat) (V.ptr [V.i (Cut.sty c), V.sl (2 : Nat) (List.length l) fun (k : Nat) => [V.i (Prod.fst (gp l k)), V.i (Prod.snd (gp l k))], V.i r, V.i per]), pv (11 : Nat) (V.i (Cut.sty c)), pc (12 : Nat) ((-9223372036854775808 : Int) ≤ bendP (some b) h (some a) * Cut.sty c ∧ bendP (some b) h (some a) * Cut.sty c ≤ (9223372036854775807 : Int)) (V.i (bendP (some b) h (some a) * Cut.sty c)), pv (13 : Nat) (V.ptr [V.i (Cut.half c), V.i (Cut.gain c), V.i (Cut.thin c), V.i (Cut.wide c), V.i (Cut.slope c), V.i (Cut.jerk c), V.i (Cut.sty c), V.sl (2 : Nat) (List.length l) fun (k : Nat) => [V.i (Prod.fst (gp l k)), V.i (Prod.snd (gp l k))], V.i r, V.i per])] (by kernel_rfl) (by kernel_rfl) ⟨(by omega), True.intro⟩ ?_
  refine e_call (first := []) (caps := []) (gArc_ac c l r per hp) (by kernel_rfl) (by kernel_rfl) (by kernel_rfl) (by kernel_rfl) (by kernel_rfl) ?_
  refine aops_n hTT (M := []) (n := 2) [pv (15 : Nat) (V.b (decide (gArc r per < bendP (some b) h (some a) * Cut.sty c))), pv (4 : Nat) (V.b (decide (gArc r per < bendP (some b) h (some a) * Cut.sty c)))] (by kernel_rfl) (by kernel_rfl) True.intro ?_
  refine aops_nil ⟨by kernel_rfl, ?_⟩
  refine xt_n ?_
  refine hK _ ?_
  clear hK K
  refine aw_ret ?_
  refine ret_pure (v' := V.b (decide (gArc r per < bendP (some b) h (some a) * Cut.sty c))) (.inr rfl) (by kernel_rfl) (by kernel_rfl) (by kernel_rfl)
theorem sharp_ac (c : Cut) (l : List Pt) (r per : Int) (b : Option Pt) (h : Pt) (a : Option Pt) (hc : cutE c = 0) (hp : Plc r per) (hb : EdO b) (hh : Ed h) (ha : EdO a) : AC Try.prog 80 [.ptr (trC c l r per), gNearV b h a] (.b (sharpB c r per b h a)) [] := by
  cases b with
  | none => cases a with
    | none => exact sharp_nn c l r per h hc hp hb hh ha
    | some a => exact sharp_ns c l r per h a hc hp hb hh ha
  | some b => cases a with
    | none => exact sharp_sn c l r per b h hc hp hb hh ha
    | some a => exact sharp_ss c l r per b h a hc hp hb hh ha
theorem ruleP_at {c : Cut} {r per : Int} {b : Option Pt} {h : Pt} {a : Option Pt} {j : Nat} (h1 : 1 ≤ j) (h5 : j ≤ 5) (hj : ∀ i, 1 ≤ i → i < j → ruleB c r per b h a i = false) (q : ruleB c r per b h a j = true) : ruleP c r per b h a = (j : Int) := by
  have e1 := fun h => hj 1 (by omega) h
  have e2 := fun h => hj 2 (by omega) h
  have e3 := fun h => hj 3 (by omega) h
  have e4 := fun h => hj 4 (by omega) h
  simp only [ruleB] at e1 e2 e3 e4
  rcases (by omega : j = 1 ∨ j = 2 ∨ j = 3 ∨ j = 4 ∨ j = 5) with rfl | rfl | rfl | rfl | rfl <;> simp only [ruleB] at q <;> simp [ruleP, q, e1, e2, e3, e4]
theorem ruleP_no {c : Cut} {r per : Int} {b : Option Pt} {h : Pt} {a : Option Pt} (hj : ∀ i, 1 ≤ i → i ≤ 5 → ruleB c r per b h a i = false) : ruleP c r per b h a = 0 := by
  have e1 := hj 1 (by omega) (by omega)
  have e2 := hj 2 (by omega) (by omega)
  have e3 := hj 3 (by omega) (by omega)
  have e4 := hj 4 (by omega) (by omega)
  have e5 := hj 5 (by omega) (by omega)
  simp only [ruleB] at e1 e2 e3 e4 e5
  simp [ruleP, e1, e2, e3, e4, e5]
set_option maxRecDepth 100000 in
theorem rule_nn (c : Cut) (l : List Pt) (r per : Int) (h : Pt) (hc : cutE c = 0) (hp : Plc r per) (hb : EdO none) (hh : Ed h) (ha : EdO none) : AC Try.prog 56 [.ptr (trC c l r per), gNearV none h none] (.i (ruleP c r per none h none)) [] := by
  refine ac_intro hTT hMX (fn := Try.f56) (N := _) ⟨Try.func56, rfl, Try.ntmps56, by kernel_rfl⟩ (by simp) fun C hC hF => ?_
  refine aw_seq_k fun K hK => ?_
  refine w_region (n' := 2) (by kernel_rfl) (by kernel_rfl) ?_
  refine aops_n hTT (M := []) (n := 2) [pv (3 : Nat) (V.ptr [V.c (Value.pointer none), V.ptr [V.i (Prod.fst h), V.i (Prod.snd h)], V.c (Value.pointer none)]), pv (4 : Nat) (V.i (0 : Int))] (by kernel_rfl) (by kernel_rfl) True.intro ?_
  refine aops_nil ?_
  refine xt_n ?_
  refine hK _ ?_
  clear hK K
  refine aw_seq_k fun K hK => ?_
  refine w_region (n' := 3) (by kernel_rfl) (by kernel_rfl) ?_
  refine aops_n hTT (M := []) (n := 3) [pv (7 : Nat) (V.agg [V.c Value.nilFunc, V.fn (Fn.func (76 : Nat)) [] [], V.fn (Fn.func (77 : Nat)) [] [], V.fn (Fn.func (78 : Nat)) [] [], V.fn (Fn.func (79 : Nat)) [] [], V.fn (Fn.func (80 : Nat)) [] []]), pn (5 : Nat) (V.ref (200005 : Nat) (0 : Nat)) (200005 : Nat) (Ob.box (105 : Nat) [V.c Value.nilFunc, V.c Value.nilFunc, V.c Value.nilFunc, V.c Value.nilFunc, V.c Value.nilFunc, V.c Value.nilFunc]), pw ((0 : Nat) + (6 : Nat) ≤ (6 : Nat)) (200005 : Nat) (Ob.box (105 : Nat) [V.c Value.nilFunc, V.fn (Fn.func (76 : Nat)) [] [], V.fn (Fn.func (77 : Nat)) [] [], V.fn (Fn.func (78 : Nat)) [] [], V.fn (Fn.func (79 : Nat)) [] [], V.fn (Fn.func (80 : Nat)) [] []])] (by kernel_rfl) (by kernel_rfl) ⟨(by omega), True.intro⟩ ?_
  refine aops_nil ?_
  refine xt_n ?_
  refine hK _ ?_
  clear hK K
  refine aw_seq_k fun K hK => ?_
  refine aw_seq_k fun K hK => ?_
  refine w_region (n' := 4) (by kernel_rfl) (by kernel_rfl) ?_
  refine aops_n hTT (M := []) (n := 1) [pv (6 : Nat) (V.i (1 : Int))] (by kernel_rfl) (by kernel_rfl) True.intro ?_
  refine aops_nil ?_
  refine xt_n ?_
  refine hK _ ?_
  clear hK K
  refine aw_block ?_
  refine w_le (le_freezeBox (t := (105 : Nat)) (cs := [V.c Value.nilFunc, V.fn (Fn.func (76 : Nat)) [] [], V.fn (Fn.func (77 : Nat)) [] [], V.fn (Fn.func (78 : Nat)) [] [], V.fn (Fn.func (79 : Nat)) [] [], V.fn (Fn.func (80 : Nat)) [] []]) 200005 (by kernel_rfl) (by kernel_rfl)) ?_
  refine w_loop (ι := Nat) (fun k => [(0, .ptr (trC c l r per)), (3, .ptr [optP none, .ptr [.i h.1, .i h.2], optP none]), (5, .ptr [.c .nilFunc, .fn (.func 76) [] [], .fn (.func 77) [] [], .fn (.func 78) [] [], .fn (.func 79) [] [], .fn (.func 80) [] []]), (6, .i ((k : Int) + 1))]) (fun _ => []) (fun k => k ≤ 5 ∧ ∀ j, 1 ≤ j → j ≤ k → ruleB c r per none h none j = false) (fun k => 5 - k) 0 ⟨by decide, fun j h1 h2 => by omega⟩ ?_ ?_
  · refine le_ren [] (.cons (by kernel_rfl) (.cons (by kernel_rfl) (.cons (by kernel_rfl) (.cons (by kernel_rfl) .nil)))) .nil (by kernel_rfl) (by kernel_rfl)
  rintro k ⟨hk, hj⟩
  rcases (by omega : k = 0 ∨ k = 1 ∨ k = 2 ∨ k = 3 ∨ k = 4 ∨ k = 5) with rfl | rfl | rfl | rfl | rfl | rfl
  · refine aw_seq_k fun K hK => ?_
    refine aw_seq_k fun K hK => ?_
    refine w_region (n' := 2) (by kernel_rfl) (by kernel_rfl) ?_
    refine aops_n hTT (M := []) (n := 2) [pv (8 : Nat) (V.i ((↑(0 : Nat) : Int) + (1 : Int))), pv (9 : Nat) (V.b true)] (by kernel_rfl) (by kernel_rfl) True.intro ?_
    refine aops_nil ?_
    refine xt_n ?_
    refine hK _ ?_
    clear hK K
    refine w_true (t := true) (by kernel_rfl) rfl ?_
    refine aw_skip ?_
    refine xt_n ?_
    refine hK _ ?_
    clear hK K
    refine aw_seq_k fun K hK => ?_
    refine aw_block ?_
    refine aw_seq_k fun K hK => ?_
    refine w_regionD (n' := 3) (by kernel_rfl) (by kernel_rfl) ?_
    refine aops_n hTT (M := []) (n := 5) [pv (12 : Nat) (V.i ((↑(0 : Nat) : Int) + (1 : Int))), pc (13 : Nat) ((0 : Int) ≤ (↑(0 : Nat) : Int) + (1 : Int) ∧ (↑(0 : Nat) : Int) + (1 : Int) < (↑(6 : Nat) : Int)) (V.ptr [V.fn (Fn.func (76 : Nat)) [] [], V.fn (Fn.func (77 : Nat)) [] [], V.fn (Fn.func (78 : Nat)) [] [], V.fn (Fn.func (79 : Nat)) [] [], V.fn (Fn.func (80 : Nat)) [] []]), pv (14 : Nat) (V.fn (Fn.func (76 : Nat)) [] []), pv (15 : Nat) (V.ptr [V.i (Cut.half c), V.i (Cut.gain c), V.i (Cut.thin c), V.i (Cut.wide c), V.i (Cut.slope c), V.i (Cut.jerk c), V.i (Cut.sty c), V.sl (2 : Nat) (List.length l) fun (k : Nat) => [V.i (Prod.fst (gp l k)), V.i (Prod.snd (gp l k))], V.i r, V.i per]), pv (16 : Nat) (V.agg [V.c (Value.pointer none), V.ptr [V.i (Prod.fst h), V.i (Prod.snd h)], V.c (Value.pointer none)])] (by kernel_rfl) (by kernel_rfl) ⟨(by omega), True.intro⟩ ?_
    refine e_call (first := []) (caps := []) (thin_ac c l r per none h none hh) (by kernel_rfl) (by kernel_rfl) (by kernel_rfl) (by kernel_rfl) (by kernel_rfl) ?_
    refine aops_nil ⟨by kernel_rfl, ?_⟩
    refine xt_n ?_
    refine hK _ ?_
    clear hK K
    refine w_cond (t := thinB c h) (by kernel_rfl) (fun q => ?_) (fun q => ?_)
    · refine aw_seq_k fun K hK => ?_
      refine w_region (n' := 4) (by kernel_rfl) (by kernel_rfl) ?_
      refine aops_n hTT (M := []) (n := 2) [pv (18 : Nat) (V.i ((↑(0 : Nat) : Int) + (1 : Int))), pv (4 : Nat) (V.i ((↑(0 : Nat) : Int) + (1 : Int)))] (by kernel_rfl) (by kernel_rfl) True.intro ?_
      refine aops_nil ?_
      refine xt_n ?_
      refine hK _ ?_
      clear hK K
      refine aw_ret ?_
      refine xb_r ?_
      refine xt_r ?_
      refine xt_r ?_
      refine xb_r ?_
      refine xt_r ?_
      rw [ruleP_at (j := 1) (by decide) (by decide) (fun j h1 h2 => hj j h1 (by omega)) q]
      refine ret_pure (v' := V.i ((↑(0 : Nat) : Int) + (1 : Int))) (.inr rfl) (by kernel_rfl) (by kernel_rfl) (by kernel_rfl)
    · refine aw_skip ?_
      refine xb_n ?_
      refine xt_n ?_
      refine hK _ ?_
      clear hK K
      refine w_region (n' := 4) (by kernel_rfl) (by kernel_rfl) ?_
      refine aops_n hTT (M := []) (n := 3) [pv (10 : Nat) (V.i ((↑(0 : Nat) : Int) + (1 : Int))), pc (11 : Nat) ((-9223372036854775808 : Int) ≤ (↑(0 : Nat) : Int) + (1 : Int) + (1 : Int) ∧ (↑(0 : Nat) : Int) + (1 : Int) + (1 : Int) ≤ (9223372036854775807 : Int)) (V.i ((↑(0 : Nat) : Int) + (1 : Int) + (1 : Int))), pv (6 : Nat) (V.i ((↑(0 : Nat) : Int) + (1 : Int) + (1 : Int)))] (by kernel_rfl) (by kernel_rfl) ⟨(by omega), True.intro⟩ ?_
      refine aops_nil ?_
      refine xt_n ?_
      refine ⟨1, ⟨by decide, fun j h1 h2 => ?_⟩, by refine le_ren [] (.cons (by kernel_rfl) (.cons (by kernel_rfl) (.cons (by kernel_rfl) (.cons (by kernel_rfl) .nil)))) .nil (by kernel_rfl) (by kernel_rfl), by decide⟩
      rcases Nat.lt_or_ge j 1 with h3 | h3
      · exact hj j h1 (by omega)
      · obtain rfl : j = 1 := by omega
        exact q
  · refine aw_seq_k fun K hK => ?_
    refine aw_seq_k fun K hK => ?_
    refine w_region (n' := 2) (by kernel_rfl) (by kernel_rfl) ?_
    refine aops_n hTT (M := []) (n := 2) [pv (8 : Nat) (V.i ((↑(1 : Nat) : Int) + (1 : Int))), pv (9 : Nat) (V.b true)] (by kernel_rfl) (by kernel_rfl) True.intro ?_
    refine aops_nil ?_
    refine xt_n ?_
    refine hK _ ?_
    clear hK K
    refine w_true (t := true) (by kernel_rfl) rfl ?_
    refine aw_skip ?_
    refine xt_n ?_
    refine hK _ ?_
    clear hK K
    refine aw_seq_k fun K hK => ?_
    refine aw_block ?_
    refine aw_seq_k fun K hK => ?_
    refine w_regionD (n' := 3) (by kernel_rfl) (by kernel_rfl) ?_
    refine aops_n hTT (M := []) (n := 5) [pv (12 : Nat) (V.i ((↑(1 : Nat) : Int) + (1 : Int))), pc (13 : Nat) ((0 : Int) ≤ (↑(1 : Nat) : Int) + (1 : Int) ∧ (↑(1 : Nat) : Int) + (1 : Int) < (↑(6 : Nat) : Int)) (V.ptr [V.fn (Fn.func (77 : Nat)) [] [], V.fn (Fn.func (78 : Nat)) [] [], V.fn (Fn.func (79 : Nat)) [] [], V.fn (Fn.func (80 : Nat)) [] []]), pv (14 : Nat) (V.fn (Fn.func (77 : Nat)) [] []), pv (15 : Nat) (V.ptr [V.i (Cut.half c), V.i (Cut.gain c), V.i (Cut.thin c), V.i (Cut.wide c), V.i (Cut.slope c), V.i (Cut.jerk c), V.i (Cut.sty c), V.sl (2 : Nat) (List.length l) fun (k : Nat) => [V.i (Prod.fst (gp l k)), V.i (Prod.snd (gp l k))], V.i r, V.i per]), pv (16 : Nat) (V.agg [V.c (Value.pointer none), V.ptr [V.i (Prod.fst h), V.i (Prod.snd h)], V.c (Value.pointer none)])] (by kernel_rfl) (by kernel_rfl) ⟨(by omega), True.intro⟩ ?_
    refine e_call (first := []) (caps := []) (wide_ac c l r per none h none hh) (by kernel_rfl) (by kernel_rfl) (by kernel_rfl) (by kernel_rfl) (by kernel_rfl) ?_
    refine aops_nil ⟨by kernel_rfl, ?_⟩
    refine xt_n ?_
    refine hK _ ?_
    clear hK K
    refine w_cond (t := wideB c h) (by kernel_rfl) (fun q => ?_) (fun q => ?_)
    · refine aw_seq_k fun K hK => ?_
      refine w_region (n' := 4) (by kernel_rfl) (by kernel_rfl) ?_
      refine aops_n hTT (M := []) (n := 2) [pv (18 : Nat) (V.i ((↑(1 : Nat) : Int) + (1 : Int))), pv (4 : Nat) (V.i ((↑(1 : Nat) : Int) + (1 : Int)))] (by kernel_rfl) (by kernel_rfl) True.intro ?_
      refine aops_nil ?_
      refine xt_n ?_
      refine hK _ ?_
      clear hK K
      refine aw_ret ?_
      refine xb_r ?_
      refine xt_r ?_
      refine xt_r ?_
      refine xb_r ?_
      refine xt_r ?_
      rw [ruleP_at (j := 2) (by decide) (by decide) (fun j h1 h2 => hj j h1 (by omega)) q]
      refine ret_pure (v' := V.i ((↑(1 : Nat) : Int) + (1 : Int))) (.inr rfl) (by kernel_rfl) (by kernel_rfl) (by kernel_rfl)
    · refine aw_skip ?_
      refine xb_n ?_
      refine xt_n ?_
      refine hK _ ?_
      clear hK K
      refine w_region (n' := 4) (by kernel_rfl) (by kernel_rfl) ?_
      refine aops_n hTT (M := []) (n := 3) [pv (10 : Nat) (V.i ((↑(1 : Nat) : Int) + (1 : Int))), pc (11 : Nat) ((-9223372036854775808 : Int) ≤ (↑(1 : Nat) : Int) + (1 : Int) + (1 : Int) ∧ (↑(1 : Nat) : Int) + (1 : Int) + (1 : Int) ≤ (9223372036854775807 : Int)) (V.i ((↑(1 : Nat) : Int) + (1 : Int) + (1 : Int))), pv (6 : Nat) (V.i ((↑(1 : Nat) : Int) + (1 : Int) + (1 : Int)))] (by kernel_rfl) (by kernel_rfl) ⟨(by omega), True.intro⟩ ?_
      refine aops_nil ?_
      refine xt_n ?_
      refine ⟨2, ⟨by decide, fun j h1 h2 => ?_⟩, by refine le_ren [] (.cons (by kernel_rfl) (.cons (by kernel_rfl) (.cons (by kernel_rfl) (.cons (by kernel_rfl) .nil)))) .nil (by kernel_rfl) (by kernel_rfl), by decide⟩
      rcases Nat.lt_or_ge j 2 with h3 | h3
      · exact hj j h1 (by omega)
      · obtain rfl : j = 2 := by omega
        exact q
  · refine aw_seq_k fun K hK => ?_
    refine aw_seq_k fun K hK => ?_
    refine w_region (n' := 2) (by kernel_rfl) (by kernel_rfl) ?_
    refine aops_n hTT (M := []) (n := 2) [pv (8 : Nat) (V.i ((↑(2 : Nat) : Int) + (1 : Int))), pv (9 : Nat) (V.b true)] (by kernel_rfl) (by kernel_rfl) True.intro ?_
    refine aops_nil ?_
    refine xt_n ?_
    refine hK _ ?_
    clear hK K
    refine w_true (t := true) (by kernel_rfl) rfl ?_
    refine aw_skip ?_
    refine xt_n ?_
    refine hK _ ?_
    clear hK K
    refine aw_seq_k fun K hK => ?_
    refine aw_block ?_
    refine aw_seq_k fun K hK => ?_
    refine w_regionD (n' := 3) (by kernel_rfl) (by kernel_rfl) ?_
    refine aops_n hTT (M := []) (n := 5) [pv (12 : Nat) (V.i ((↑(2 : Nat) : Int) + (1 : Int))), pc (13 : Nat) ((0 : Int) ≤ (↑(2 : Nat) : Int) + (1 : Int) ∧ (↑(2 : Nat) : Int) + (1 : Int) < (↑(6 : Nat) : Int)) (V.ptr [V.fn (Fn.func (78 : Nat)) [] [], V.fn (Fn.func (79 : Nat)) [] [], V.fn (Fn.func (80 : Nat)) [] []]), pv (14 : Nat) (V.fn (Fn.func (78 : Nat)) [] []), pv (15 : Nat) (V.ptr [V.i (Cut.half c), V.i (Cut.gain c), V.i (Cut.thin c), V.i (Cut.wide c), V.i (Cut.slope c), V.i (Cut.jerk c), V.i (Cut.sty c), V.sl (2 : Nat) (List.length l) fun (k : Nat) => [V.i (Prod.fst (gp l k)), V.i (Prod.snd (gp l k))], V.i r, V.i per]), pv (16 : Nat) (V.agg [V.c (Value.pointer none), V.ptr [V.i (Prod.fst h), V.i (Prod.snd h)], V.c (Value.pointer none)])] (by kernel_rfl) (by kernel_rfl) ⟨(by omega), True.intro⟩ ?_
    refine e_call (first := []) (caps := []) (steep_ac c l r per none h none hc hp hb hh) (by kernel_rfl) (by kernel_rfl) (by kernel_rfl) (by kernel_rfl) (by kernel_rfl) ?_
    refine aops_nil ⟨by kernel_rfl, ?_⟩
    refine xt_n ?_
    refine hK _ ?_
    clear hK K
    refine w_cond (t := steepB c r per none h) (by kernel_rfl) (fun q => ?_) (fun q => ?_)
    · refine aw_seq_k fun K hK => ?_
      refine w_region (n' := 4) (by kernel_rfl) (by kernel_rfl) ?_
      refine aops_n hTT (M := []) (n := 2) [pv (18 : Nat) (V.i ((↑(2 : Nat) : Int) + (1 : Int))), pv (4 : Nat) (V.i ((↑(2 : Nat) : Int) + (1 : Int)))] (by kernel_rfl) (by kernel_rfl) True.intro ?_
      refine aops_nil ?_
      refine xt_n ?_
      refine hK _ ?_
      clear hK K
      refine aw_ret ?_
      refine xb_r ?_
      refine xt_r ?_
      refine xt_r ?_
      refine xb_r ?_
      refine xt_r ?_
      rw [ruleP_at (j := 3) (by decide) (by decide) (fun j h1 h2 => hj j h1 (by omega)) q]
      refine ret_pure (v' := V.i ((↑(2 : Nat) : Int) + (1 : Int))) (.inr rfl) (by kernel_rfl) (by kernel_rfl) (by kernel_rfl)
    · refine aw_skip ?_
      refine xb_n ?_
      refine xt_n ?_
      refine hK _ ?_
      clear hK K
      refine w_region (n' := 4) (by kernel_rfl) (by kernel_rfl) ?_
      refine aops_n hTT (M := []) (n := 3) [pv (10 : Nat) (V.i ((↑(2 : Nat) : Int) + (1 : Int))), pc (11 : Nat) ((-9223372036854775808 : Int) ≤ (↑(2 : Nat) : Int) + (1 : Int) + (1 : Int) ∧ (↑(2 : Nat) : Int) + (1 : Int) + (1 : Int) ≤ (9223372036854775807 : Int)) (V.i ((↑(2 : Nat) : Int) + (1 : Int) + (1 : Int))), pv (6 : Nat) (V.i ((↑(2 : Nat) : Int) + (1 : Int) + (1 : Int)))] (by kernel_rfl) (by kernel_rfl) ⟨(by omega), True.intro⟩ ?_
      refine aops_nil ?_
      refine xt_n ?_
      refine ⟨3, ⟨by decide, fun j h1 h2 => ?_⟩, by refine le_ren [] (.cons (by kernel_rfl) (.cons (by kernel_rfl) (.cons (by kernel_rfl) (.cons (by kernel_rfl) .nil)))) .nil (by kernel_rfl) (by kernel_rfl), by decide⟩
      rcases Nat.lt_or_ge j 3 with h3 | h3
      · exact hj j h1 (by omega)
      · obtain rfl : j = 3 := by omega
        exact q
  · refine aw_seq_k fun K hK => ?_
    refine aw_seq_k fun K hK => ?_
    refine w_region (n' := 2) (by kernel_rfl) (by kernel_rfl) ?_
    refine aops_n hTT (M := []) (n := 2) [pv (8 : Nat) (V.i ((↑(3 : Nat) : Int) + (1 : Int))), pv (9 : Nat) (V.b true)] (by kernel_rfl) (by kernel_rfl) True.intro ?_
    refine aops_nil ?_
    refine xt_n ?_
    refine hK _ ?_
    clear hK K
    refine w_true (t := true) (by kernel_rfl) rfl ?_
    refine aw_skip ?_
    refine xt_n ?_
    refine hK _ ?_
    clear hK K
    refine aw_seq_k fun K hK => ?_
    refine aw_block ?_
    refine aw_seq_k fun K hK => ?_
    refine w_regionD (n' := 3) (by kernel_rfl) (by kernel_rfl) ?_
    refine aops_n hTT (M := []) (n := 5) [pv (12 : Nat) (V.i ((↑(3 : Nat) : Int) + (1 : Int))), pc (13 : Nat) ((0 : Int) ≤ (↑(3 : Nat) : Int) + (1 : Int) ∧ (↑(3 : Nat) : Int) + (1 : Int) < (↑(6 : Nat) : Int)) (V.ptr [V.fn (Fn.func (79 : Nat)) [] [], V.fn (Fn.func (80 : Nat)) [] []]), pv (14 : Nat) (V.fn (Fn.func (79 : Nat)) [] []), pv (15 : Nat) (V.ptr [V.i (Cut.half c), V.i (Cut.gain c), V.i (Cut.thin c), V.i (Cut.wide c), V.i (Cut.slope c), V.i (Cut.jerk c), V.i (Cut.sty c), V.sl (2 : Nat) (List.length l) fun (k : Nat) => [V.i (Prod.fst (gp l k)), V.i (Prod.snd (gp l k))], V.i r, V.i per]), pv (16 : Nat) (V.agg [V.c (Value.pointer none), V.ptr [V.i (Prod.fst h), V.i (Prod.snd h)], V.c (Value.pointer none)])] (by kernel_rfl) (by kernel_rfl) ⟨(by omega), True.intro⟩ ?_
    refine e_call (first := []) (caps := []) (sudden_ac c l r per none h none hb hh ha) (by kernel_rfl) (by kernel_rfl) (by kernel_rfl) (by kernel_rfl) (by kernel_rfl) ?_
    refine aops_nil ⟨by kernel_rfl, ?_⟩
    refine xt_n ?_
    refine hK _ ?_
    clear hK K
    refine w_cond (t := suddenB c none h none) (by kernel_rfl) (fun q => ?_) (fun q => ?_)
    · refine aw_seq_k fun K hK => ?_
      refine w_region (n' := 4) (by kernel_rfl) (by kernel_rfl) ?_
      refine aops_n hTT (M := []) (n := 2) [pv (18 : Nat) (V.i ((↑(3 : Nat) : Int) + (1 : Int))), pv (4 : Nat) (V.i ((↑(3 : Nat) : Int) + (1 : Int)))] (by kernel_rfl) (by kernel_rfl) True.intro ?_
      refine aops_nil ?_
      refine xt_n ?_
      refine hK _ ?_
      clear hK K
      refine aw_ret ?_
      refine xb_r ?_
      refine xt_r ?_
      refine xt_r ?_
      refine xb_r ?_
      refine xt_r ?_
      rw [ruleP_at (j := 4) (by decide) (by decide) (fun j h1 h2 => hj j h1 (by omega)) q]
      refine ret_pure (v' := V.i ((↑(3 : Nat) : Int) + (1 : Int))) (.inr rfl) (by kernel_rfl) (by kernel_rfl) (by kernel_rfl)
    · refine aw_skip ?_
      refine xb_n ?_
      refine xt_n ?_
      refine hK _ ?_
      clear hK K
      refine w_region (n' := 4) (by kernel_rfl) (by kernel_rfl) ?_
      refine aops_n hTT (M := []) (n := 3) [pv (10 : Nat) (V.i ((↑(3 : Nat) : Int) + (1 : Int))), pc (11 : Nat) ((-9223372036854775808 : Int) ≤ (↑(3 : Nat) : Int) + (1 : Int) + (1 : Int) ∧ (↑(3 : Nat) : Int) + (1 : Int) + (1 : Int) ≤ (9223372036854775807 : Int)) (V.i ((↑(3 : Nat) : Int) + (1 : Int) + (1 : Int))), pv (6 : Nat) (V.i ((↑(3 : Nat) : Int) + (1 : Int) + (1 : Int)))] (by kernel_rfl) (by kernel_rfl) ⟨(by omega), True.intro⟩ ?_
      refine aops_nil ?_
      refine xt_n ?_
      refine ⟨4, ⟨by decide, fun j h1 h2 => ?_⟩, by refine le_ren [] (.cons (by kernel_rfl) (.cons (by kernel_rfl) (.cons (by kernel_rfl) (.cons (by kernel_rfl) .nil)))) .nil (by kernel_rfl) (by kernel_rfl), by decide⟩
      rcases Nat.lt_or_ge j 4 with h3 | h3
      · exact hj j h1 (by omega)
      · obtain rfl : j = 4 := by omega
        exact q
  · refine aw_seq_k fun K hK => ?_
    refine aw_seq_k fun K hK => ?_
    refine w_region (n' := 2) (by kernel_rfl) (by kernel_rfl) ?_
    refine aops_n hTT (M := []) (n := 2) [pv (8 : Nat) (V.i ((↑(4 : Nat) : Int) + (1 : Int))), pv (9 : Nat) (V.b true)] (by kernel_rfl) (by kernel_rfl) True.intro ?_
    refine aops_nil ?_
    refine xt_n ?_
    refine hK _ ?_
    clear hK K
    refine w_true (t := true) (by kernel_rfl) rfl ?_
    refine aw_skip ?_
    refine xt_n ?_
    refine hK _ ?_
    clear hK K
    refine aw_seq_k fun K hK => ?_
    refine aw_block ?_
    refine aw_seq_k fun K hK => ?_
    refine w_regionD (n' := 3) (by kernel_rfl) (by kernel_rfl) ?_
    refine aops_n hTT (M := []) (n := 5) [pv (12 : Nat) (V.i ((↑(4 : Nat) : Int) + (1 : Int))), pc (13 : Nat) ((0 : Int) ≤ (↑(4 : Nat) : Int) + (1 : Int) ∧ (↑(4 : Nat) : Int) + (1 : Int) < (↑(6 : Nat) : Int)) (V.ptr [V.fn (Fn.func (80 : Nat)) [] []]), pv (14 : Nat) (V.fn (Fn.func (80 : Nat)) [] []), pv (15 : Nat) (V.ptr [V.i (Cut.half c), V.i (Cut.gain c), V.i (Cut.thin c), V.i (Cut.wide c), V.i (Cut.slope c), V.i (Cut.jerk c), V.i (Cut.sty c), V.sl (2 : Nat) (List.length l) fun (k : Nat) => [V.i (Prod.fst (gp l k)), V.i (Prod.snd (gp l k))], V.i r, V.i per]), pv (16 : Nat) (V.agg [V.c (Value.pointer none), V.ptr [V.i (Prod.fst h), V.i (Prod.snd h)], V.c (Value.pointer none)])] (by kernel_rfl) (by kernel_rfl) ⟨(by omega), True.intro⟩ ?_
    refine e_call (first := []) (caps := []) (sharp_ac c l r per none h none hc hp hb hh ha) (by kernel_rfl) (by kernel_rfl) (by kernel_rfl) (by kernel_rfl) (by kernel_rfl) ?_
    refine aops_nil ⟨by kernel_rfl, ?_⟩
    refine xt_n ?_
    refine hK _ ?_
    clear hK K
    refine w_cond (t := sharpB c r per none h none) (by kernel_rfl) (fun q => ?_) (fun q => ?_)
    · refine aw_seq_k fun K hK => ?_
      refine w_region (n' := 4) (by kernel_rfl) (by kernel_rfl) ?_
      refine aops_n hTT (M := []) (n := 2) [pv (18 : Nat) (V.i ((↑(4 : Nat) : Int) + (1 : Int))), pv (4 : Nat) (V.i ((↑(4 : Nat) : Int) + (1 : Int)))] (by kernel_rfl) (by kernel_rfl) True.intro ?_
      refine aops_nil ?_
      refine xt_n ?_
      refine hK _ ?_
      clear hK K
      refine aw_ret ?_
      refine xb_r ?_
      refine xt_r ?_
      refine xt_r ?_
      refine xb_r ?_
      refine xt_r ?_
      rw [ruleP_at (j := 5) (by decide) (by decide) (fun j h1 h2 => hj j h1 (by omega)) q]
      refine ret_pure (v' := V.i ((↑(4 : Nat) : Int) + (1 : Int))) (.inr rfl) (by kernel_rfl) (by kernel_rfl) (by kernel_rfl)
    · refine aw_skip ?_
      refine xb_n ?_
      refine xt_n ?_
      refine hK _ ?_
      clear hK K
      refine w_region (n' := 4) (by kernel_rfl) (by kernel_rfl) ?_
      refine aops_n hTT (M := []) (n := 3) [pv (10 : Nat) (V.i ((↑(4 : Nat) : Int) + (1 : Int))), pc (11 : Nat) ((-9223372036854775808 : Int) ≤ (↑(4 : Nat) : Int) + (1 : Int) + (1 : Int) ∧ (↑(4 : Nat) : Int) + (1 : Int) + (1 : Int) ≤ (9223372036854775807 : Int)) (V.i ((↑(4 : Nat) : Int) + (1 : Int) + (1 : Int))), pv (6 : Nat) (V.i ((↑(4 : Nat) : Int) + (1 : Int) + (1 : Int)))] (by kernel_rfl) (by kernel_rfl) ⟨(by omega), True.intro⟩ ?_
      refine aops_nil ?_
      refine xt_n ?_
      refine ⟨5, ⟨by decide, fun j h1 h2 => ?_⟩, by refine le_ren [] (.cons (by kernel_rfl) (.cons (by kernel_rfl) (.cons (by kernel_rfl) (.cons (by kernel_rfl) .nil)))) .nil (by kernel_rfl) (by kernel_rfl), by decide⟩
      rcases Nat.lt_or_ge j 5 with h3 | h3
      · exact hj j h1 (by omega)
      · obtain rfl : j = 5 := by omega
        exact q
  · refine aw_seq_k fun K hK => ?_
    refine aw_seq_k fun K hK => ?_
    refine w_region (n' := 2) (by kernel_rfl) (by kernel_rfl) ?_
    refine aops_n hTT (M := []) (n := 2) [pv (8 : Nat) (V.i ((↑(5 : Nat) : Int) + (1 : Int))), pv (9 : Nat) (V.b false)] (by kernel_rfl) (by kernel_rfl) True.intro ?_
    refine aops_nil ?_
    refine xt_n ?_
    refine hK _ ?_
    clear hK K
    refine w_false (t := false) (by kernel_rfl) rfl ?_
    refine aw_exit ?_
    refine xt_x ?_
    refine xt_x ?_
    refine xb_same ?_
    refine xt_n ?_
    clear hK K
    refine hK _ ?_
    clear hK K
    refine aw_seq_k fun K hK => ?_
    refine w_region (n' := 3) (by kernel_rfl) (by kernel_rfl) ?_
    refine aops_n hTT (M := []) (n := 1) [pv (4 : Nat) (V.i (0 : Int))] (by kernel_rfl) (by kernel_rfl) True.intro ?_
    refine aops_nil ?_
    refine xt_n ?_
    refine hK _ ?_
    clear hK K
    refine aw_ret ?_
    rw [ruleP_no fun j h1 h2 => hj j h1 h2]
    refine ret_pure (v' := V.i (0 : Int)) (.inr rfl) (by kernel_rfl) (by kernel_rfl) (by kernel_rfl)
set_option maxRecDepth 100000 in
theorem rule_ns (c : Cut) (l : List Pt) (r per : Int) (h a : Pt) (hc : cutE c = 0) (hp : Plc r per) (hb : EdO none) (hh : Ed h) (ha : EdO (some a)) : AC Try.prog 56 [.ptr (trC c l r per), gNearV none h (some a)] (.i (ruleP c r per none h (some a))) [] := by
  refine ac_intro hTT hMX (fn := Try.f56) (N := _) ⟨Try.func56, rfl, Try.ntmps56, by kernel_rfl⟩ (by simp) fun C hC hF => ?_
  refine aw_seq_k fun K hK => ?_
  refine w_region (n' := 2) (by kernel_rfl) (by kernel_rfl) ?_
  refine aops_n hTT (M := []) (n := 2) [pv (3 : Nat) (V.ptr [V.c (Value.pointer none), V.ptr [V.i (Prod.fst h), V.i (Prod.snd h)], V.ptr [V.i (Prod.fst a), V.i (Prod.snd a)]]), pv (4 : Nat) (V.i (0 : Int))] (by kernel_rfl) (by kernel_rfl) True.intro ?_
  refine aops_nil ?_
  refine xt_n ?_
  refine hK _ ?_
  clear hK K
  refine aw_seq_k fun K hK => ?_
  refine w_region (n' := 3) (by kernel_rfl) (by kernel_rfl) ?_
  refine aops_n hTT (M := []) (n := 3) [pv (7 : Nat) (V.agg [V.c Value.nilFunc, V.fn (Fn.func (76 : Nat)) [] [], V.fn (Fn.func (77 : Nat)) [] [], V.fn (Fn.func (78 : Nat)) [] [], V.fn (Fn.func (79 : Nat)) [] [], V.fn (Fn.func (80 : Nat)) [] []]), pn (5 : Nat) (V.ref (200005 : Nat) (0 : Nat)) (200005 : Nat) (Ob.box (105 : Nat) [V.c Value.nilFunc, V.c Value.nilFunc, V.c Value.nilFunc, V.c Value.nilFunc, V.c Value.nilFunc, V.c Value.nilFunc]), pw ((0 : Nat) + (6 : Nat) ≤ (6 : Nat)) (200005 : Nat) (Ob.box (105 : Nat) [V.c Value.nilFunc, V.fn (Fn.func (76 : Nat)) [] [], V.fn (Fn.func (77 : Nat)) [] [], V.fn (Fn.func (78 : Nat)) [] [], V.fn (Fn.func (79 : Nat)) [] [], V.fn (Fn.func (80 : Nat)) [] []])] (by kernel_rfl) (by kernel_rfl) ⟨(by omega), True.intro⟩ ?_
  refine aops_nil ?_
  refine xt_n ?_
  refine hK _ ?_
  clear hK K
  refine aw_seq_k fun K hK => ?_
  refine aw_seq_k fun K hK => ?_
  refine w_region (n' := 4) (by kernel_rfl) (by kernel_rfl) ?_
  refine aops_n hTT (M := []) (n := 1) [pv (6 : Nat) (V.i (1 : Int))] (by kernel_rfl) (by kernel_rfl) True.intro ?_
  refine aops_nil ?_
  refine xt_n ?_
  refine hK _ ?_
  clear hK K
  refine aw_block ?_
  refine w_le (le_freezeBox (t := (105 : Nat)) (cs := [V.c Value.nilFunc, V.fn (Fn.func (76 : Nat)) [] [], V.fn (Fn.func (77 : Nat)) [] [], V.fn (Fn.func (78 : Nat)) [] [], V.fn (Fn.func (79 : Nat)) [] [], V.fn (Fn.func (80 : Nat)) [] []]) 200005 (by kernel_rfl) (by kernel_rfl)) ?_
  refine w_loop (ι := Nat) (fun k => [(0, .ptr (trC c l r per)), (3, .ptr [optP none, .ptr [.i h.1, .i h.2], optP (some a)]), (5, .ptr [.c .nilFunc, .fn (.func 76) [] [], .fn (.func 77) [] [], .fn (.func 78) [] [], .fn (.func 79) [] [], .fn (.func 80) [] []]), (6, .i ((k : Int) + 1))]) (fun _ => []) (fun k => k ≤ 5 ∧ ∀ j, 1 ≤ j → j ≤ k → ruleB c r per none h (some a) j = false) (fun k => 5 - k) 0 ⟨by decide, fun j h1 h2 => by omega⟩ ?_ ?_
  · refine le_ren [] (.cons (by kernel_rfl) (.cons (by kernel_rfl) (.cons (by kernel_rfl) (.cons (by kernel_rfl) .nil)))) .nil (by kernel_rfl) (by kernel_rfl)
  rintro k ⟨hk, hj⟩
  rcases (by omega : k = 0 ∨ k = 1 ∨ k = 2 ∨ k = 3 ∨ k = 4 ∨ k = 5) with rfl | rfl | rfl | rfl | rfl | rfl
  · refine aw_seq_k fun K hK => ?_
    refine aw_seq_k fun K hK => ?_
    refine w_region (n' := 2) (by kernel_rfl) (by kernel_rfl) ?_
    refine aops_n hTT (M := []) (n := 2) [pv (8 : Nat) (V.i ((↑(0 : Nat) : Int) + (1 : Int))), pv (9 : Nat) (V.b true)] (by kernel_rfl) (by kernel_rfl) True.intro ?_
    refine aops_nil ?_
    refine xt_n ?_
    refine hK _ ?_
    clear hK K
    refine w_true (t := true) (by kernel_rfl) rfl ?_
    refine aw_skip ?_
    refine xt_n ?_
    refine hK _ ?_
    clear hK K
    refine aw_seq_k fun K hK => ?_
    refine aw_block ?_
    refine aw_seq_k fun K hK => ?_
    refine w_regionD (n' := 3) (by kernel_rfl) (by kernel_rfl) ?_
    refine aops_n hTT (M := []) (n := 5) [pv (12 : Nat) (V.i ((↑(0 : Nat) : Int) + (1 : Int))), pc (13 : Nat) ((0 : Int) ≤ (↑(0 : Nat) : Int) + (1 : Int) ∧ (↑(0 : Nat) : Int) + (1 : Int) < (↑(6 : Nat) : Int)) (V.ptr [V.fn (Fn.func (76 : Nat)) [] [], V.fn (Fn.func (77 : Nat)) [] [], V.fn (Fn.func (78 : Nat)) [] [], V.fn (Fn.func (79 : Nat)) [] [], V.fn (Fn.func (80 : Nat)) [] []]), pv (14 : Nat) (V.fn (Fn.func (76 : Nat)) [] []), pv (15 : Nat) (V.ptr [V.i (Cut.half c), V.i (Cut.gain c), V.i (Cut.thin c), V.i (Cut.wide c), V.i (Cut.slope c), V.i (Cut.jerk c), V.i (Cut.sty c), V.sl (2 : Nat) (List.length l) fun (k : Nat) => [V.i (Prod.fst (gp l k)), V.i (Prod.snd (gp l k))], V.i r, V.i per]), pv (16 : Nat) (V.agg [V.c (Value.pointer none), V.ptr [V.i (Prod.fst h), V.i (Prod.snd h)], V.ptr [V.i (Prod.fst a), V.i (Prod.snd a)]])] (by kernel_rfl) (by kernel_rfl) ⟨(by omega), True.intro⟩ ?_
    refine e_call (first := []) (caps := []) (thin_ac c l r per none h (some a) hh) (by kernel_rfl) (by kernel_rfl) (by kernel_rfl) (by kernel_rfl) (by kernel_rfl) ?_
    refine aops_nil ⟨by kernel_rfl, ?_⟩
    refine xt_n ?_
    refine hK _ ?_
    clear hK K
    refine w_cond (t := thinB c h) (by kernel_rfl) (fun q => ?_) (fun q => ?_)
    · refine aw_seq_k fun K hK => ?_
      refine w_region (n' := 4) (by kernel_rfl) (by kernel_rfl) ?_
      refine aops_n hTT (M := []) (n := 2) [pv (18 : Nat) (V.i ((↑(0 : Nat) : Int) + (1 : Int))), pv (4 : Nat) (V.i ((↑(0 : Nat) : Int) + (1 : Int)))] (by kernel_rfl) (by kernel_rfl) True.intro ?_
      refine aops_nil ?_
      refine xt_n ?_
      refine hK _ ?_
      clear hK K
      refine aw_ret ?_
      refine xb_r ?_
      refine xt_r ?_
      refine xt_r ?_
      refine xb_r ?_
      refine xt_r ?_
      rw [ruleP_at (j := 1) (by decide) (by decide) (fun j h1 h2 => hj j h1 (by omega)) q]
      refine ret_pure (v' := V.i ((↑(0 : Nat) : Int) + (1 : Int))) (.inr rfl) (by kernel_rfl) (by kernel_rfl) (by kernel_rfl)
    · refine aw_skip ?_
      refine xb_n ?_
      refine xt_n ?_
      refine hK _ ?_
      clear hK K
      refine w_region (n' := 4) (by kernel_rfl) (by kernel_rfl) ?_
      refine aops_n hTT (M := []) (n := 3) [pv (10 : Nat) (V.i ((↑(0 : Nat) : Int) + (1 : Int))), pc (11 : Nat) ((-9223372036854775808 : Int) ≤ (↑(0 : Nat) : Int) + (1 : Int) + (1 : Int) ∧ (↑(0 : Nat) : Int) + (1 : Int) + (1 : Int) ≤ (9223372036854775807 : Int)) (V.i ((↑(0 : Nat) : Int) + (1 : Int) + (1 : Int))), pv (6 : Nat) (V.i ((↑(0 : Nat) : Int) + (1 : Int) + (1 : Int)))] (by kernel_rfl) (by kernel_rfl) ⟨(by omega), True.intro⟩ ?_
      refine aops_nil ?_
      refine xt_n ?_
      refine ⟨1, ⟨by decide, fun j h1 h2 => ?_⟩, by refine le_ren [] (.cons (by kernel_rfl) (.cons (by kernel_rfl) (.cons (by kernel_rfl) (.cons (by kernel_rfl) .nil)))) .nil (by kernel_rfl) (by kernel_rfl), by decide⟩
      rcases Nat.lt_or_ge j 1 with h3 | h3
      · exact hj j h1 (by omega)
      · obtain rfl : j = 1 := by omega
        exact q
  · refine aw_seq_k fun K hK => ?_
    refine aw_seq_k fun K hK => ?_
    refine w_region (n' := 2) (by kernel_rfl) (by kernel_rfl) ?_
    refine aops_n hTT (M := []) (n := 2) [pv (8 : Nat) (V.i ((↑(1 : Nat) : Int) + (1 : Int))), pv (9 : Nat) (V.b true)] (by kernel_rfl) (by kernel_rfl) True.intro ?_
    refine aops_nil ?_
    refine xt_n ?_
    refine hK _ ?_
    clear hK K
    refine w_true (t := true) (by kernel_rfl) rfl ?_
    refine aw_skip ?_
    refine xt_n ?_
    refine hK _ ?_
    clear hK K
    refine aw_seq_k fun K hK => ?_
    refine aw_block ?_
    refine aw_seq_k fun K hK => ?_
    refine w_regionD (n' := 3) (by kernel_rfl) (by kernel_rfl) ?_
    refine aops_n hTT (M := []) (n := 5) [pv (12 : Nat) (V.i ((↑(1 : Nat) : Int) + (1 : Int))), pc (13 : Nat) ((0 : Int) ≤ (↑(1 : Nat) : Int) + (1 : Int) ∧ (↑(1 : Nat) : Int) + (1 : Int) < (↑(6 : Nat) : Int)) (V.ptr [V.fn (Fn.func (77 : Nat)) [] [], V.fn (Fn.func (78 : Nat)) [] [], V.fn (Fn.func (79 : Nat)) [] [], V.fn (Fn.func (80 : Nat)) [] []]), pv (14 : Nat) (V.fn (Fn.func (77 : Nat)) [] []), pv (15 : Nat) (V.ptr [V.i (Cut.half c), V.i (Cut.gain c), V.i (Cut.thin c), V.i (Cut.wide c), V.i (Cut.slope c), V.i (Cut.jerk c), V.i (Cut.sty c), V.sl (2 : Nat) (List.length l) fun (k : Nat) => [V.i (Prod.fst (gp l k)), V.i (Prod.snd (gp l k))], V.i r, V.i per]), pv (16 : Nat) (V.agg [V.c (Value.pointer none), V.ptr [V.i (Prod.fst h), V.i (Prod.snd h)], V.ptr [V.i (Prod.fst a), V.i (Prod.snd a)]])] (by kernel_rfl) (by kernel_rfl) ⟨(by omega), True.intro⟩ ?_
    refine e_call (first := []) (caps := []) (wide_ac c l r per none h (some a) hh) (by kernel_rfl) (by kernel_rfl) (by kernel_rfl) (by kernel_rfl) (by kernel_rfl) ?_
    refine aops_nil ⟨by kernel_rfl, ?_⟩
    refine xt_n ?_
    refine hK _ ?_
    clear hK K
    refine w_cond (t := wideB c h) (by kernel_rfl) (fun q => ?_) (fun q => ?_)
    · refine aw_seq_k fun K hK => ?_
      refine w_region (n' := 4) (by kernel_rfl) (by kernel_rfl) ?_
      refine aops_n hTT (M := []) (n := 2) [pv (18 : Nat) (V.i ((↑(1 : Nat) : Int) + (1 : Int))), pv (4 : Nat) (V.i ((↑(1 : Nat) : Int) + (1 : Int)))] (by kernel_rfl) (by kernel_rfl) True.intro ?_
      refine aops_nil ?_
      refine xt_n ?_
      refine hK _ ?_
      clear hK K
      refine aw_ret ?_
      refine xb_r ?_
      refine xt_r ?_
      refine xt_r ?_
      refine xb_r ?_
      refine xt_r ?_
      rw [ruleP_at (j := 2) (by decide) (by decide) (fun j h1 h2 => hj j h1 (by omega)) q]
      refine ret_pure (v' := V.i ((↑(1 : Nat) : Int) + (1 : Int))) (.inr rfl) (by kernel_rfl) (by kernel_rfl) (by kernel_rfl)
    · refine aw_skip ?_
      refine xb_n ?_
      refine xt_n ?_
      refine hK _ ?_
      clear hK K
      refine w_region (n' := 4) (by kernel_rfl) (by kernel_rfl) ?_
      refine aops_n hTT (M := []) (n := 3) [pv (10 : Nat) (V.i ((↑(1 : Nat) : Int) + (1 : Int))), pc (11 : Nat) ((-9223372036854775808 : Int) ≤ (↑(1 : Nat) : Int) + (1 : Int) + (1 : Int) ∧ (↑(1 : Nat) : Int) + (1 : Int) + (1 : Int) ≤ (9223372036854775807 : Int)) (V.i ((↑(1 : Nat) : Int) + (1 : Int) + (1 : Int))), pv (6 : Nat) (V.i ((↑(1 : Nat) : Int) + (1 : Int) + (1 : Int)))] (by kernel_rfl) (by kernel_rfl) ⟨(by omega), True.intro⟩ ?_
      refine aops_nil ?_
      refine xt_n ?_
      refine ⟨2, ⟨by decide, fun j h1 h2 => ?_⟩, by refine le_ren [] (.cons (by kernel_rfl) (.cons (by kernel_rfl) (.cons (by kernel_rfl) (.cons (by kernel_rfl) .nil)))) .nil (by kernel_rfl) (by kernel_rfl), by decide⟩
      rcases Nat.lt_or_ge j 2 with h3 | h3
      · exact hj j h1 (by omega)
      · obtain rfl : j = 2 := by omega
        exact q
  · refine aw_seq_k fun K hK => ?_
    refine aw_seq_k fun K hK => ?_
    refine w_region (n' := 2) (by kernel_rfl) (by kernel_rfl) ?_
    refine aops_n hTT (M := []) (n := 2) [pv (8 : Nat) (V.i ((↑(2 : Nat) : Int) + (1 : Int))), pv (9 : Nat) (V.b true)] (by kernel_rfl) (by kernel_rfl) True.intro ?_
    refine aops_nil ?_
    refine xt_n ?_
    refine hK _ ?_
    clear hK K
    refine w_true (t := true) (by kernel_rfl) rfl ?_
    refine aw_skip ?_
    refine xt_n ?_
    refine hK _ ?_
    clear hK K
    refine aw_seq_k fun K hK => ?_
    refine aw_block ?_
    refine aw_seq_k fun K hK => ?_
    refine w_regionD (n' := 3) (by kernel_rfl) (by kernel_rfl) ?_
    refine aops_n hTT (M := []) (n := 5) [pv (12 : Nat) (V.i ((↑(2 : Nat) : Int) + (1 : Int))), pc (13 : Nat) ((0 : Int) ≤ (↑(2 : Nat) : Int) + (1 : Int) ∧ (↑(2 : Nat) : Int) + (1 : Int) < (↑(6 : Nat) : Int)) (V.ptr [V.fn (Fn.func (78 : Nat)) [] [], V.fn (Fn.func (79 : Nat)) [] [], V.fn (Fn.func (80 : Nat)) [] []]), pv (14 : Nat) (V.fn (Fn.func (78 : Nat)) [] []), pv (15 : Nat) (V.ptr [V.i (Cut.half c), V.i (Cut.gain c), V.i (Cut.thin c), V.i (Cut.wide c), V.i (Cut.slope c), V.i (Cut.jerk c), V.i (Cut.sty c), V.sl (2 : Nat) (List.length l) fun (k : Nat) => [V.i (Prod.fst (gp l k)), V.i (Prod.snd (gp l k))], V.i r, V.i per]), pv (16 : Nat) (V.agg [V.c (Value.pointer none), V.ptr [V.i (Prod.fst h), V.i (Prod.snd h)], V.ptr [V.i (Prod.fst a), V.i (Prod.snd a)]])] (by kernel_rfl) (by kernel_rfl) ⟨(by omega), True.intro⟩ ?_
    refine e_call (first := []) (caps := []) (steep_ac c l r per none h (some a) hc hp hb hh) (by kernel_rfl) (by kernel_rfl) (by kernel_rfl) (by kernel_rfl) (by kernel_rfl) ?_
    refine aops_nil ⟨by kernel_rfl, ?_⟩
    refine xt_n ?_
    refine hK _ ?_
    clear hK K
    refine w_cond (t := steepB c r per none h) (by kernel_rfl) (fun q => ?_) (fun q => ?_)
    · refine aw_seq_k fun K hK => ?_
      refine w_region (n' := 4) (by kernel_rfl) (by kernel_rfl) ?_
      refine aops_n hTT (M := []) (n := 2) [pv (18 : Nat) (V.i ((↑(2 : Nat) : Int) + (1 : Int))), pv (4 : Nat) (V.i ((↑(2 : Nat) : Int) + (1 : Int)))] (by kernel_rfl) (by kernel_rfl) True.intro ?_
      refine aops_nil ?_
      refine xt_n ?_
      refine hK _ ?_
      clear hK K
      refine aw_ret ?_
      refine xb_r ?_
      refine xt_r ?_
      refine xt_r ?_
      refine xb_r ?_
      refine xt_r ?_
      rw [ruleP_at (j := 3) (by decide) (by decide) (fun j h1 h2 => hj j h1 (by omega)) q]
      refine ret_pure (v' := V.i ((↑(2 : Nat) : Int) + (1 : Int))) (.inr rfl) (by kernel_rfl) (by kernel_rfl) (by kernel_rfl)
    · refine aw_skip ?_
      refine xb_n ?_
      refine xt_n ?_
      refine hK _ ?_
      clear hK K
      refine w_region (n' := 4) (by kernel_rfl) (by kernel_rfl) ?_
      refine aops_n hTT (M := []) (n := 3) [pv (10 : Nat) (V.i ((↑(2 : Nat) : Int) + (1 : Int))), pc (11 : Nat) ((-9223372036854775808 : Int) ≤ (↑(2 : Nat) : Int) + (1 : Int) + (1 : Int) ∧ (↑(2 : Nat) : Int) + (1 : Int) + (1 : Int) ≤ (9223372036854775807 : Int)) (V.i ((↑(2 : Nat) : Int) + (1 : Int) + (1 : Int))), pv (6 : Nat) (V.i ((↑(2 : Nat) : Int) + (1 : Int) + (1 : Int)))] (by kernel_rfl) (by kernel_rfl) ⟨(by omega), True.intro⟩ ?_
      refine aops_nil ?_
      refine xt_n ?_
      refine ⟨3, ⟨by decide, fun j h1 h2 => ?_⟩, by refine le_ren [] (.cons (by kernel_rfl) (.cons (by kernel_rfl) (.cons (by kernel_rfl) (.cons (by kernel_rfl) .nil)))) .nil (by kernel_rfl) (by kernel_rfl), by decide⟩
      rcases Nat.lt_or_ge j 3 with h3 | h3
      · exact hj j h1 (by omega)
      · obtain rfl : j = 3 := by omega
        exact q
  · refine aw_seq_k fun K hK => ?_
    refine aw_seq_k fun K hK => ?_
    refine w_region (n' := 2) (by kernel_rfl) (by kernel_rfl) ?_
    refine aops_n hTT (M := []) (n := 2) [pv (8 : Nat) (V.i ((↑(3 : Nat) : Int) + (1 : Int))), pv (9 : Nat) (V.b true)] (by kernel_rfl) (by kernel_rfl) True.intro ?_
    refine aops_nil ?_
    refine xt_n ?_
    refine hK _ ?_
    clear hK K
    refine w_true (t := true) (by kernel_rfl) rfl ?_
    refine aw_skip ?_
    refine xt_n ?_
    refine hK _ ?_
    clear hK K
    refine aw_seq_k fun K hK => ?_
    refine aw_block ?_
    refine aw_seq_k fun K hK => ?_
    refine w_regionD (n' := 3) (by kernel_rfl) (by kernel_rfl) ?_
    refine aops_n hTT (M := []) (n := 5) [pv (12 : Nat) (V.i ((↑(3 : Nat) : Int) + (1 : Int))), pc (13 : Nat) ((0 : Int) ≤ (↑(3 : Nat) : Int) + (1 : Int) ∧ (↑(3 : Nat) : Int) + (1 : Int) < (↑(6 : Nat) : Int)) (V.ptr [V.fn (Fn.func (79 : Nat)) [] [], V.fn (Fn.func (80 : Nat)) [] []]), pv (14 : Nat) (V.fn (Fn.func (79 : Nat)) [] []), pv (15 : Nat) (V.ptr [V.i (Cut.half c), V.i (Cut.gain c), V.i (Cut.thin c), V.i (Cut.wide c), V.i (Cut.slope c), V.i (Cut.jerk c), V.i (Cut.sty c), V.sl (2 : Nat) (List.length l) fun (k : Nat) => [V.i (Prod.fst (gp l k)), V.i (Prod.snd (gp l k))], V.i r, V.i per]), pv (16 : Nat) (V.agg [V.c (Value.pointer none), V.ptr [V.i (Prod.fst h), V.i (Prod.snd h)], V.ptr [V.i (Prod.fst a), V.i (Prod.snd a)]])] (by kernel_rfl) (by kernel_rfl) ⟨(by omega), True.intro⟩ ?_
    refine e_call (first := []) (caps := []) (sudden_ac c l r per none h (some a) hb hh ha) (by kernel_rfl) (by kernel_rfl) (by kernel_rfl) (by kernel_rfl) (by kernel_rfl) ?_
    refine aops_nil ⟨by kernel_rfl, ?_⟩
    refine xt_n ?_
    refine hK _ ?_
    clear hK K
    refine w_cond (t := suddenB c none h (some a)) (by kernel_rfl) (fun q => ?_) (fun q => ?_)
    · refine aw_seq_k fun K hK => ?_
      refine w_region (n' := 4) (by kernel_rfl) (by kernel_rfl) ?_
      refine aops_n hTT (M := []) (n := 2) [pv (18 : Nat) (V.i ((↑(3 : Nat) : Int) + (1 : Int))), pv (4 : Nat) (V.i ((↑(3 : Nat) : Int) + (1 : Int)))] (by kernel_rfl) (by kernel_rfl) True.intro ?_
      refine aops_nil ?_
      refine xt_n ?_
      refine hK _ ?_
      clear hK K
      refine aw_ret ?_
      refine xb_r ?_
      refine xt_r ?_
      refine xt_r ?_
      refine xb_r ?_
      refine xt_r ?_
      rw [ruleP_at (j := 4) (by decide) (by decide) (fun j h1 h2 => hj j h1 (by omega)) q]
      refine ret_pure (v' := V.i ((↑(3 : Nat) : Int) + (1 : Int))) (.inr rfl) (by kernel_rfl) (by kernel_rfl) (by kernel_rfl)
    · refine aw_skip ?_
      refine xb_n ?_
      refine xt_n ?_
      refine hK _ ?_
      clear hK K
      refine w_region (n' := 4) (by kernel_rfl) (by kernel_rfl) ?_
      refine aops_n hTT (M := []) (n := 3) [pv (10 : Nat) (V.i ((↑(3 : Nat) : Int) + (1 : Int))), pc (11 : Nat) ((-9223372036854775808 : Int) ≤ (↑(3 : Nat) : Int) + (1 : Int) + (1 : Int) ∧ (↑(3 : Nat) : Int) + (1 : Int) + (1 : Int) ≤ (9223372036854775807 : Int)) (V.i ((↑(3 : Nat) : Int) + (1 : Int) + (1 : Int))), pv (6 : Nat) (V.i ((↑(3 : Nat) : Int) + (1 : Int) + (1 : Int)))] (by kernel_rfl) (by kernel_rfl) ⟨(by omega), True.intro⟩ ?_
      refine aops_nil ?_
      refine xt_n ?_
      refine ⟨4, ⟨by decide, fun j h1 h2 => ?_⟩, by refine le_ren [] (.cons (by kernel_rfl) (.cons (by kernel_rfl) (.cons (by kernel_rfl) (.cons (by kernel_rfl) .nil)))) .nil (by kernel_rfl) (by kernel_rfl), by decide⟩
      rcases Nat.lt_or_ge j 4 with h3 | h3
      · exact hj j h1 (by omega)
      · obtain rfl : j = 4 := by omega
        exact q
  · refine aw_seq_k fun K hK => ?_
    refine aw_seq_k fun K hK => ?_
    refine w_region (n' := 2) (by kernel_rfl) (by kernel_rfl) ?_
    refine aops_n hTT (M := []) (n := 2) [pv (8 : Nat) (V.i ((↑(4 : Nat) : Int) + (1 : Int))), pv (9 : Nat) (V.b true)] (by kernel_rfl) (by kernel_rfl) True.intro ?_
    refine aops_nil ?_
    refine xt_n ?_
    refine hK _ ?_
    clear hK K
    refine w_true (t := true) (by kernel_rfl) rfl ?_
    refine aw_skip ?_
    refine xt_n ?_
    refine hK _ ?_
    clear hK K
    refine aw_seq_k fun K hK => ?_
    refine aw_block ?_
    refine aw_seq_k fun K hK => ?_
    refine w_regionD (n' := 3) (by kernel_rfl) (by kernel_rfl) ?_
    refine aops_n hTT (M := []) (n := 5) [pv (12 : Nat) (V.i ((↑(4 : Nat) : Int) + (1 : Int))), pc (13 : Nat) ((0 : Int) ≤ (↑(4 : Nat) : Int) + (1 : Int) ∧ (↑(4 : Nat) : Int) + (1 : Int) < (↑(6 : Nat) : Int)) (V.ptr [V.fn (Fn.func (80 : Nat)) [] []]), pv (14 : Nat) (V.fn (Fn.func (80 : Nat)) [] []), pv (15 : Nat) (V.ptr [V.i (Cut.half c), V.i (Cut.gain c), V.i (Cut.thin c), V.i (Cut.wide c), V.i (Cut.slope c), V.i (Cut.jerk c), V.i (Cut.sty c), V.sl (2 : Nat) (List.length l) fun (k : Nat) => [V.i (Prod.fst (gp l k)), V.i (Prod.snd (gp l k))], V.i r, V.i per]), pv (16 : Nat) (V.agg [V.c (Value.pointer none), V.ptr [V.i (Prod.fst h), V.i (Prod.snd h)], V.ptr [V.i (Prod.fst a), V.i (Prod.snd a)]])] (by kernel_rfl) (by kernel_rfl) ⟨(by omega), True.intro⟩ ?_
    refine e_call (first := []) (caps := []) (sharp_ac c l r per none h (some a) hc hp hb hh ha) (by kernel_rfl) (by kernel_rfl) (by kernel_rfl) (by kernel_rfl) (by kernel_rfl) ?_
    refine aops_nil ⟨by kernel_rfl, ?_⟩
    refine xt_n ?_
    refine hK _ ?_
    clear hK K
    refine w_cond (t := sharpB c r per none h (some a)) (by kernel_rfl) (fun q => ?_) (fun q => ?_)
    · refine aw_seq_k fun K hK => ?_
      refine w_region (n' := 4) (by kernel_rfl) (by kernel_rfl) ?_
      refine aops_n hTT (M := []) (n := 2) [pv (18 : Nat) (V.i ((↑(4 : Nat) : Int) + (1 : Int))), pv (4 : Nat) (V.i ((↑(4 : Nat) : Int) + (1 : Int)))] (by kernel_rfl) (by kernel_rfl) True.intro ?_
      refine aops_nil ?_
      refine xt_n ?_
      refine hK _ ?_
      clear hK K
      refine aw_ret ?_
      refine xb_r ?_
      refine xt_r ?_
      refine xt_r ?_
      refine xb_r ?_
      refine xt_r ?_
      rw [ruleP_at (j := 5) (by decide) (by decide) (fun j h1 h2 => hj j h1 (by omega)) q]
      refine ret_pure (v' := V.i ((↑(4 : Nat) : Int) + (1 : Int))) (.inr rfl) (by kernel_rfl) (by kernel_rfl) (by kernel_rfl)
    · refine aw_skip ?_
      refine xb_n ?_
      refine xt_n ?_
      refine hK _ ?_
      clear hK K
      refine w_region (n' := 4) (by kernel_rfl) (by kernel_rfl) ?_
      refine aops_n hTT (M := []) (n := 3) [pv (10 : Nat) (V.i ((↑(4 : Nat) : Int) + (1 : Int))), pc (11 : Nat) ((-9223372036854775808 : Int) ≤ (↑(4 : Nat) : Int) + (1 : Int) + (1 : Int) ∧ (↑(4 : Nat) : Int) + (1 : Int) + (1 : Int) ≤ (9223372036854775807 : Int)) (V.i ((↑(4 : Nat) : Int) + (1 : Int) + (1 : Int))), pv (6 : Nat) (V.i ((↑(4 : Nat) : Int) + (1 : Int) + (1 : Int)))] (by kernel_rfl) (by kernel_rfl) ⟨(by omega), True.intro⟩ ?_
      refine aops_nil ?_
      refine xt_n ?_
      refine ⟨5, ⟨by decide, fun j h1 h2 => ?_⟩, by refine le_ren [] (.cons (by kernel_rfl) (.cons (by kernel_rfl) (.cons (by kernel_rfl) (.cons (by kernel_rfl) .nil)))) .nil (by kernel_rfl) (by kernel_rfl), by decide⟩
      rcases Nat.lt_or_ge j 5 with h3 | h3
      · exact hj j h1 (by omega)
      · obtain rfl : j = 5 := by omega
        exact q
  · refine aw_seq_k fun K hK => ?_
    refine aw_seq_k fun K hK => ?_
    refine w_region (n' := 2) (by kernel_rfl) (by kernel_rfl) ?_
    refine aops_n hTT (M := []) (n := 2) [pv (8 : Nat) (V.i ((↑(5 : Nat) : Int) + (1 : Int))), pv (9 : Nat) (V.b false)] (by kernel_rfl) (by kernel_rfl) True.intro ?_
    refine aops_nil ?_
    refine xt_n ?_
    refine hK _ ?_
    clear hK K
    refine w_false (t := false) (by kernel_rfl) rfl ?_
    refine aw_exit ?_
    refine xt_x ?_
    refine xt_x ?_
    refine xb_same ?_
    refine xt_n ?_
    clear hK K
    refine hK _ ?_
    clear hK K
    refine aw_seq_k fun K hK => ?_
    refine w_region (n' := 3) (by kernel_rfl) (by kernel_rfl) ?_
    refine aops_n hTT (M := []) (n := 1) [pv (4 : Nat) (V.i (0 : Int))] (by kernel_rfl) (by kernel_rfl) True.intro ?_
    refine aops_nil ?_
    refine xt_n ?_
    refine hK _ ?_
    clear hK K
    refine aw_ret ?_
    rw [ruleP_no fun j h1 h2 => hj j h1 h2]
    refine ret_pure (v' := V.i (0 : Int)) (.inr rfl) (by kernel_rfl) (by kernel_rfl) (by kernel_rfl)
set_option maxRecDepth 100000 in
theorem rule_sn (c : Cut) (l : List Pt) (r per : Int) (b h : Pt) (hc : cutE c = 0) (hp : Plc r per) (hb : EdO (some b)) (hh : Ed h) (ha : EdO none) : AC Try.prog 56 [.ptr (trC c l r per), gNearV (some b) h none] (.i (ruleP c r per (some b) h none)) [] := by
  refine ac_intro hTT hMX (fn := Try.f56) (N := _) ⟨Try.func56, rfl, Try.ntmps56, by kernel_rfl⟩ (by simp) fun C hC hF => ?_
  refine aw_seq_k fun K hK => ?_
  refine w_region (n' := 2) (by kernel_rfl) (by kernel_rfl) ?_
  refine aops_n hTT (M := []) (n := 2) [pv (3 : Nat) (V.ptr [V.ptr [V.i (Prod.fst b), V.i (Prod.snd b)], V.ptr [V.i (Prod.fst h), V.i (Prod.snd h)], V.c (Value.pointer none)]), pv (4 : Nat) (V.i (0 : Int))] (by kernel_rfl) (by kernel_rfl) True.intro ?_
  refine aops_nil ?_
  refine xt_n ?_
  refine hK _ ?_
  clear hK K
  refine aw_seq_k fun K hK => ?_
  refine w_region (n' := 3) (by kernel_rfl) (by kernel_rfl) ?_
  refine aops_n hTT (M := []) (n := 3) [pv (7 : Nat) (V.agg [V.c Value.nilFunc, V.fn (Fn.func (76 : Nat)) [] [], V.fn (Fn.func (77 : Nat)) [] [], V.fn (Fn.func (78 : Nat)) [] [], V.fn (Fn.func (79 : Nat)) [] [], V.fn (Fn.func (80 : Nat)) [] []]), pn (5 : Nat) (V.ref (200005 : Nat) (0 : Nat)) (200005 : Nat) (Ob.box (105 : Nat) [V.c Value.nilFunc, V.c Value.nilFunc, V.c Value.nilFunc, V.c Value.nilFunc, V.c Value.nilFunc, V.c Value.nilFunc]), pw ((0 : Nat) + (6 : Nat) ≤ (6 : Nat)) (200005 : Nat) (Ob.box (105 : Nat) [V.c Value.nilFunc, V.fn (Fn.func (76 : Nat)) [] [], V.fn (Fn.func (77 : Nat)) [] [], V.fn (Fn.func (78 : Nat)) [] [], V.fn (Fn.func (79 : Nat)) [] [], V.fn (Fn.func (80 : Nat)) [] []])] (by kernel_rfl) (by kernel_rfl) ⟨(by omega), True.intro⟩ ?_
  refine aops_nil ?_
  refine xt_n ?_
  refine hK _ ?_
  clear hK K
  refine aw_seq_k fun K hK => ?_
  refine aw_seq_k fun K hK => ?_
  refine w_region (n' := 4) (by kernel_rfl) (by kernel_rfl) ?_
  refine aops_n hTT (M := []) (n := 1) [pv (6 : Nat) (V.i (1 : Int))] (by kernel_rfl) (by kernel_rfl) True.intro ?_
  refine aops_nil ?_
  refine xt_n ?_
  refine hK _ ?_
  clear hK K
  refine aw_block ?_
  refine w_le (le_freezeBox (t := (105 : Nat)) (cs := [V.c Value.nilFunc, V.fn (Fn.func (76 : Nat)) [] [], V.fn (Fn.func (77 : Nat)) [] [], V.fn (Fn.func (78 : Nat)) [] [], V.fn (Fn.func (79 : Nat)) [] [], V.fn (Fn.func (80 : Nat)) [] []]) 200005 (by kernel_rfl) (by kernel_rfl)) ?_
  refine w_loop (ι := Nat) (fun k => [(0, .ptr (trC c l r per)), (3, .ptr [optP (some b), .ptr [.i h.1, .i h.2], optP none]), (5, .ptr [.c .nilFunc, .fn (.func 76) [] [], .fn (.func 77) [] [], .fn (.func 78) [] [], .fn (.func 79) [] [], .fn (.func 80) [] []]), (6, .i ((k : Int) + 1))]) (fun _ => []) (fun k => k ≤ 5 ∧ ∀ j, 1 ≤ j → j ≤ k → ruleB c r per (some b) h none j = false) (fun k => 5 - k) 0 ⟨by decide, fun j h1 h2 => by omega⟩ ?_ ?_
  · refine le_ren [] (.cons (by kernel_rfl) (.cons (by kernel_rfl) (.cons (by kernel_rfl) (.cons (by kernel_rfl) .nil)))) .nil (by kernel_rfl) (by kernel_rfl)
  rintro k ⟨hk, hj⟩
  rcases (by omega : k = 0 ∨ k = 1 ∨ k = 2 ∨ k = 3 ∨ k = 4 ∨ k = 5) with rfl | rfl | rfl | rfl | rfl | rfl
  · refine aw_seq_k fun K hK => ?_
    refine aw_seq_k fun K hK => ?_
    refine w_region (n' := 2) (by kernel_rfl) (by kernel_rfl) ?_
    refine aops_n hTT (M := []) (n := 2) [pv (8 : Nat) (V.i ((↑(0 : Nat) : Int) + (1 : Int))), pv (9 : Nat) (V.b true)] (by kernel_rfl) (by kernel_rfl) True.intro ?_
    refine aops_nil ?_
    refine xt_n ?_
    refine hK _ ?_
    clear hK K
    refine w_true (t := true) (by kernel_rfl) rfl ?_
    refine aw_skip ?_
    refine xt_n ?_
    refine hK _ ?_
    clear hK K
    refine aw_seq_k fun K hK => ?_
    refine aw_block ?_
    refine aw_seq_k fun K hK => ?_
    refine w_regionD (n' := 3) (by kernel_rfl) (by kernel_rfl) ?_
    refine aops_n hTT (M := []) (n := 5) [pv (12 : Nat) (V.i ((↑(0 : Nat) : Int) + (1 : Int))), pc (13 : Nat) ((0 : Int) ≤ (↑(0 : Nat) : Int) + (1 : Int) ∧ (↑(0 : Nat) : Int) + (1 : Int) < (↑(6 : Nat) : Int)) (V.ptr [V.fn (Fn.func (76 : Nat)) [] [], V.fn (Fn.func (77 : Nat)) [] [], V.fn (Fn.func (78 : Nat)) [] [], V.fn (Fn.func (79 : Nat)) [] [], V.fn (Fn.func (80 : Nat)) [] []]), pv (14 : Nat) (V.fn (Fn.func (76 : Nat)) [] []), pv (15 : Nat) (V.ptr [V.i (Cut.half c), V.i (Cut.gain c), V.i (Cut.thin c), V.i (Cut.wide c), V.i (Cut.slope c), V.i (Cut.jerk c), V.i (Cut.sty c), V.sl (2 : Nat) (List.length l) fun (k : Nat) => [V.i (Prod.fst (gp l k)), V.i (Prod.snd (gp l k))], V.i r, V.i per]), pv (16 : Nat) (V.agg [V.ptr [V.i (Prod.fst b), V.i (Prod.snd b)], V.ptr [V.i (Prod.fst h), V.i (Prod.snd h)], V.c (Value.pointer none)])] (by kernel_rfl) (by kernel_rfl) ⟨(by omega), True.intro⟩ ?_
    refine e_call (first := []) (caps := []) (thin_ac c l r per (some b) h none hh) (by kernel_rfl) (by kernel_rfl) (by kernel_rfl) (by kernel_rfl) (by kernel_rfl) ?_
    refine aops_nil ⟨by kernel_rfl, ?_⟩
    refine xt_n ?_
    refine hK _ ?_
    clear hK K
    refine w_cond (t := thinB c h) (by kernel_rfl) (fun q => ?_) (fun q => ?_)
    · refine aw_seq_k fun K hK => ?_
      refine w_region (n' := 4) (by kernel_rfl) (by kernel_rfl) ?_
      refine aops_n hTT (M := []) (n := 2) [pv (18 : Nat) (V.i ((↑(0 : Nat) : Int) + (1 : Int))), pv (4 : Nat) (V.i ((↑(0 : Nat) : Int) + (1 : Int)))] (by kernel_rfl) (by kernel_rfl) True.intro ?_
      refine aops_nil ?_
      refine xt_n ?_
      refine hK _ ?_
      clear hK K
      refine aw_ret ?_
      refine xb_r ?_
      refine xt_r ?_
      refine xt_r ?_
      refine xb_r ?_
      refine xt_r ?_
      rw [ruleP_at (j := 1) (by decide) (by decide) (fun j h1 h2 => hj j h1 (by omega)) q]
      refine ret_pure (v' := V.i ((↑(0 : Nat) : Int) + (1 : Int))) (.inr rfl) (by kernel_rfl) (by kernel_rfl) (by kernel_rfl)
    · refine aw_skip ?_
      refine xb_n ?_
      refine xt_n ?_
      refine hK _ ?_
      clear hK K
      refine w_region (n' := 4) (by kernel_rfl) (by kernel_rfl) ?_
      refine aops_n hTT (M := []) (n := 3) [pv (10 : Nat) (V.i ((↑(0 : Nat) : Int) + (1 : Int))), pc (11 : Nat) ((-9223372036854775808 : Int) ≤ (↑(0 : Nat) : Int) + (1 : Int) + (1 : Int) ∧ (↑(0 : Nat) : Int) + (1 : Int) + (1 : Int) ≤ (9223372036854775807 : Int)) (V.i ((↑(0 : Nat) : Int) + (1 : Int) + (1 : Int))), pv (6 : Nat) (V.i ((↑(0 : Nat) : Int) + (1 : Int) + (1 : Int)))] (by kernel_rfl) (by kernel_rfl) ⟨(by omega), True.intro⟩ ?_
      refine aops_nil ?_
      refine xt_n ?_
      refine ⟨1, ⟨by decide, fun j h1 h2 => ?_⟩, by refine le_ren [] (.cons (by kernel_rfl) (.cons (by kernel_rfl) (.cons (by kernel_rfl) (.cons (by kernel_rfl) .nil)))) .nil (by kernel_rfl) (by kernel_rfl), by decide⟩
      rcases Nat.lt_or_ge j 1 with h3 | h3
      · exact hj j h1 (by omega)
      · obtain rfl : j = 1 := by omega
        exact q
  · refine aw_seq_k fun K hK => ?_
    refine aw_seq_k fun K hK => ?_
    refine w_region (n' := 2) (by kernel_rfl) (by kernel_rfl) ?_
    refine aops_n hTT (M := []) (n := 2) [pv (8 : Nat) (V.i ((↑(1 : Nat) : Int) + (1 : Int))), pv (9 : Nat) (V.b true)] (by kernel_rfl) (by kernel_rfl) True.intro ?_
    refine aops_nil ?_
    refine xt_n ?_
    refine hK _ ?_
    clear hK K
    refine w_true (t := true) (by kernel_rfl) rfl ?_
    refine aw_skip ?_
    refine xt_n ?_
    refine hK _ ?_
    clear hK K
    refine aw_seq_k fun K hK => ?_
    refine aw_block ?_
    refine aw_seq_k fun K hK => ?_
    refine w_regionD (n' := 3) (by kernel_rfl) (by kernel_rfl) ?_
    refine aops_n hTT (M := []) (n := 5) [pv (12 : Nat) (V.i ((↑(1 : Nat) : Int) + (1 : Int))), pc (13 : Nat) ((0 : Int) ≤ (↑(1 : Nat) : Int) + (1 : Int) ∧ (↑(1 : Nat) : Int) + (1 : Int) < (↑(6 : Nat) : Int)) (V.ptr [V.fn (Fn.func (77 : Nat)) [] [], V.fn (Fn.func (78 : Nat)) [] [], V.fn (Fn.func (79 : Nat)) [] [], V.fn (Fn.func (80 : Nat)) [] []]), pv (14 : Nat) (V.fn (Fn.func (77 : Nat)) [] []), pv (15 : Nat) (V.ptr [V.i (Cut.half c), V.i (Cut.gain c), V.i (Cut.thin c), V.i (Cut.wide c), V.i (Cut.slope c), V.i (Cut.jerk c), V.i (Cut.sty c), V.sl (2 : Nat) (List.length l) fun (k : Nat) => [V.i (Prod.fst (gp l k)), V.i (Prod.snd (gp l k))], V.i r, V.i per]), pv (16 : Nat) (V.agg [V.ptr [V.i (Prod.fst b), V.i (Prod.snd b)], V.ptr [V.i (Prod.fst h), V.i (Prod.snd h)], V.c (Value.pointer none)])] (by kernel_rfl) (by kernel_rfl) ⟨(by omega), True.intro⟩ ?_
    refine e_call (first := []) (caps := []) (wide_ac c l r per (some b) h none hh) (by kernel_rfl) (by kernel_rfl) (by kernel_rfl) (by kernel_rfl) (by kernel_rfl) ?_
    refine aops_nil ⟨by kernel_rfl, ?_⟩
    refine xt_n ?_
    refine hK _ ?_
    clear hK K
    refine w_cond (t := wideB c h) (by kernel_rfl) (fun q => ?_) (fun q => ?_)
    · refine aw_seq_k fun K hK => ?_
      refine w_region (n' := 4) (by kernel_rfl) (by kernel_rfl) ?_
      refine aops_n hTT (M := []) (n := 2) [pv (18 : Nat) (V.i ((↑(1 : Nat) : Int) + (1 : Int))), pv (4 : Nat) (V.i ((↑(1 : Nat) : Int) + (1 : Int)))] (by kernel_rfl) (by kernel_rfl) True.intro ?_
      refine aops_nil ?_
      refine xt_n ?_
      refine hK _ ?_
      clear hK K
      refine aw_ret ?_
      refine xb_r ?_
      refine xt_r ?_
      refine xt_r ?_
      refine xb_r ?_
      refine xt_r ?_
      rw [ruleP_at (j := 2) (by decide) (by decide) (fun j h1 h2 => hj j h1 (by omega)) q]
      refine ret_pure (v' := V.i ((↑(1 : Nat) : Int) + (1 : Int))) (.inr rfl) (by kernel_rfl) (by kernel_rfl) (by kernel_rfl)
    · refine aw_skip ?_
      refine xb_n ?_
      refine xt_n ?_
      refine hK _ ?_
      clear hK K
      refine w_region (n' := 4) (by kernel_rfl) (by kernel_rfl) ?_
      refine aops_n hTT (M := []) (n := 3) [pv (10 : Nat) (V.i ((↑(1 : Nat) : Int) + (1 : Int))), pc (11 : Nat) ((-9223372036854775808 : Int) ≤ (↑(1 : Nat) : Int) + (1 : Int) + (1 : Int) ∧ (↑(1 : Nat) : Int) + (1 : Int) + (1 : Int) ≤ (9223372036854775807 : Int)) (V.i ((↑(1 : Nat) : Int) + (1 : Int) + (1 : Int))), pv (6 : Nat) (V.i ((↑(1 : Nat) : Int) + (1 : Int) + (1 : Int)))] (by kernel_rfl) (by kernel_rfl) ⟨(by omega), True.intro⟩ ?_
      refine aops_nil ?_
      refine xt_n ?_
      refine ⟨2, ⟨by decide, fun j h1 h2 => ?_⟩, by refine le_ren [] (.cons (by kernel_rfl) (.cons (by kernel_rfl) (.cons (by kernel_rfl) (.cons (by kernel_rfl) .nil)))) .nil (by kernel_rfl) (by kernel_rfl), by decide⟩
      rcases Nat.lt_or_ge j 2 with h3 | h3
      · exact hj j h1 (by omega)
      · obtain rfl : j = 2 := by omega
        exact q
  · refine aw_seq_k fun K hK => ?_
    refine aw_seq_k fun K hK => ?_
    refine w_region (n' := 2) (by kernel_rfl) (by kernel_rfl) ?_
    refine aops_n hTT (M := []) (n := 2) [pv (8 : Nat) (V.i ((↑(2 : Nat) : Int) + (1 : Int))), pv (9 : Nat) (V.b true)] (by kernel_rfl) (by kernel_rfl) True.intro ?_
    refine aops_nil ?_
    refine xt_n ?_
    refine hK _ ?_
    clear hK K
    refine w_true (t := true) (by kernel_rfl) rfl ?_
    refine aw_skip ?_
    refine xt_n ?_
    refine hK _ ?_
    clear hK K
    refine aw_seq_k fun K hK => ?_
    refine aw_block ?_
    refine aw_seq_k fun K hK => ?_
    refine w_regionD (n' := 3) (by kernel_rfl) (by kernel_rfl) ?_
    refine aops_n hTT (M := []) (n := 5) [pv (12 : Nat) (V.i ((↑(2 : Nat) : Int) + (1 : Int))), pc (13 : Nat) ((0 : Int) ≤ (↑(2 : Nat) : Int) + (1 : Int) ∧ (↑(2 : Nat) : Int) + (1 : Int) < (↑(6 : Nat) : Int)) (V.ptr [V.fn (Fn.func (78 : Nat)) [] [], V.fn (Fn.func (79 : Nat)) [] [], V.fn (Fn.func (80 : Nat)) [] []]), pv (14 : Nat) (V.fn (Fn.func (78 : Nat)) [] []), pv (15 : Nat) (V.ptr [V.i (Cut.half c), V.i (Cut.gain c), V.i (Cut.thin c), V.i (Cut.wide c), V.i (Cut.slope c), V.i (Cut.jerk c), V.i (Cut.sty c), V.sl (2 : Nat) (List.length l) fun (k : Nat) => [V.i (Prod.fst (gp l k)), V.i (Prod.snd (gp l k))], V.i r, V.i per]), pv (16 : Nat) (V.agg [V.ptr [V.i (Prod.fst b), V.i (Prod.snd b)], V.ptr [V.i (Prod.fst h), V.i (Prod.snd h)], V.c (Value.pointer none)])] (by kernel_rfl) (by kernel_rfl) ⟨(by omega), True.intro⟩ ?_
    refine e_call (first := []) (caps := []) (steep_ac c l r per (some b) h none hc hp hb hh) (by kernel_rfl) (by kernel_rfl) (by kernel_rfl) (by kernel_rfl) (by kernel_rfl) ?_
    refine aops_nil ⟨by kernel_rfl, ?_⟩
    refine xt_n ?_
    refine hK _ ?_
    clear hK K
    refine w_cond (t := steepB c r per (some b) h) (by kernel_rfl) (fun q => ?_) (fun q => ?_)
    · refine aw_seq_k fun K hK => ?_
      refine w_region (n' := 4) (by kernel_rfl) (by kernel_rfl) ?_
      refine aops_n hTT (M := []) (n := 2) [pv (18 : Nat) (V.i ((↑(2 : Nat) : Int) + (1 : Int))), pv (4 : Nat) (V.i ((↑(2 : Nat) : Int) + (1 : Int)))] (by kernel_rfl) (by kernel_rfl) True.intro ?_
      refine aops_nil ?_
      refine xt_n ?_
      refine hK _ ?_
      clear hK K
      refine aw_ret ?_
      refine xb_r ?_
      refine xt_r ?_
      refine xt_r ?_
      refine xb_r ?_
      refine xt_r ?_
      rw [ruleP_at (j := 3) (by decide) (by decide) (fun j h1 h2 => hj j h1 (by omega)) q]
      refine ret_pure (v' := V.i ((↑(2 : Nat) : Int) + (1 : Int))) (.inr rfl) (by kernel_rfl) (by kernel_rfl) (by kernel_rfl)
    · refine aw_skip ?_
      refine xb_n ?_
      refine xt_n ?_
      refine hK _ ?_
      clear hK K
      refine w_region (n' := 4) (by kernel_rfl) (by kernel_rfl) ?_
      refine aops_n hTT (M := []) (n := 3) [pv (10 : Nat) (V.i ((↑(2 : Nat) : Int) + (1 : Int))), pc (11 : Nat) ((-9223372036854775808 : Int) ≤ (↑(2 : Nat) : Int) + (1 : Int) + (1 : Int) ∧ (↑(2 : Nat) : Int) + (1 : Int) + (1 : Int) ≤ (9223372036854775807 : Int)) (V.i ((↑(2 : Nat) : Int) + (1 : Int) + (1 : Int))), pv (6 : Nat) (V.i ((↑(2 : Nat) : Int) + (1 : Int) + (1 : Int)))] (by kernel_rfl) (by kernel_rfl) ⟨(by omega), True.intro⟩ ?_
      refine aops_nil ?_
      refine xt_n ?_
      refine ⟨3, ⟨by decide, fun j h1 h2 => ?_⟩, by refine le_ren [] (.cons (by kernel_rfl) (.cons (by kernel_rfl) (.cons (by kernel_rfl) (.cons (by kernel_rfl) .nil)))) .nil (by kernel_rfl) (by kernel_rfl), by decide⟩
      rcases Nat.lt_or_ge j 3 with h3 | h3
      · exact hj j h1 (by omega)
      · obtain rfl : j = 3 := by omega
        exact q
  · refine aw_seq_k fun K hK => ?_
    refine aw_seq_k fun K hK => ?_
    refine w_region (n' := 2) (by kernel_rfl) (by kernel_rfl) ?_
    refine aops_n hTT (M := []) (n := 2) [pv (8 : Nat) (V.i ((↑(3 : Nat) : Int) + (1 : Int))), pv (9 : Nat) (V.b true)] (by kernel_rfl) (by kernel_rfl) True.intro ?_
    refine aops_nil ?_
    refine xt_n ?_
    refine hK _ ?_
    clear hK K
    refine w_true (t := true) (by kernel_rfl) rfl ?_
    refine aw_skip ?_
    refine xt_n ?_
    refine hK _ ?_
    clear hK K
    refine aw_seq_k fun K hK => ?_
    refine aw_block ?_
    refine aw_seq_k fun K hK => ?_
    refine w_regionD (n' := 3) (by kernel_rfl) (by kernel_rfl) ?_
    refine aops_n hTT (M := []) (n := 5) [pv (12 : Nat) (V.i ((↑(3 : Nat) : Int) + (1 : Int))), pc (13 : Nat) ((0 : Int) ≤ (↑(3 : Nat) : Int) + (1 : Int) ∧ (↑(3 : Nat) : Int) + (1 : Int) < (↑(6 : Nat) : Int)) (V.ptr [V.fn (Fn.func (79 : Nat)) [] [], V.fn (Fn.func (80 : Nat)) [] []]), pv (14 : Nat) (V.fn (Fn.func (79 : Nat)) [] []), pv (15 : Nat) (V.ptr [V.i (Cut.half c), V.i (Cut.gain c), V.i (Cut.thin c), V.i (Cut.wide c), V.i (Cut.slope c), V.i (Cut.jerk c), V.i (Cut.sty c), V.sl (2 : Nat) (List.length l) fun (k : Nat) => [V.i (Prod.fst (gp l k)), V.i (Prod.snd (gp l k))], V.i r, V.i per]), pv (16 : Nat) (V.agg [V.ptr [V.i (Prod.fst b), V.i (Prod.snd b)], V.ptr [V.i (Prod.fst h), V.i (Prod.snd h)], V.c (Value.pointer none)])] (by kernel_rfl) (by kernel_rfl) ⟨(by omega), True.intro⟩ ?_
    refine e_call (first := []) (caps := []) (sudden_ac c l r per (some b) h none hb hh ha) (by kernel_rfl) (by kernel_rfl) (by kernel_rfl) (by kernel_rfl) (by kernel_rfl) ?_
    refine aops_nil ⟨by kernel_rfl, ?_⟩
    refine xt_n ?_
    refine hK _ ?_
    clear hK K
    refine w_cond (t := suddenB c (some b) h none) (by kernel_rfl) (fun q => ?_) (fun q => ?_)
    · refine aw_seq_k fun K hK => ?_
      refine w_region (n' := 4) (by kernel_rfl) (by kernel_rfl) ?_
      refine aops_n hTT (M := []) (n := 2) [pv (18 : Nat) (V.i ((↑(3 : Nat) : Int) + (1 : Int))), pv (4 : Nat) (V.i ((↑(3 : Nat) : Int) + (1 : Int)))] (by kernel_rfl) (by kernel_rfl) True.intro ?_
      refine aops_nil ?_
      refine xt_n ?_
      refine hK _ ?_
      clear hK K
      refine aw_ret ?_
      refine xb_r ?_
      refine xt_r ?_
      refine xt_r ?_
      refine xb_r ?_
      refine xt_r ?_
      rw [ruleP_at (j := 4) (by decide) (by decide) (fun j h1 h2 => hj j h1 (by omega)) q]
      refine ret_pure (v' := V.i ((↑(3 : Nat) : Int) + (1 : Int))) (.inr rfl) (by kernel_rfl) (by kernel_rfl) (by kernel_rfl)
    · refine aw_skip ?_
      refine xb_n ?_
      refine xt_n ?_
      refine hK _ ?_
      clear hK K
      refine w_region (n' := 4) (by kernel_rfl) (by kernel_rfl) ?_
      refine aops_n hTT (M := []) (n := 3) [pv (10 : Nat) (V.i ((↑(3 : Nat) : Int) + (1 : Int))), pc (11 : Nat) ((-9223372036854775808 : Int) ≤ (↑(3 : Nat) : Int) + (1 : Int) + (1 : Int) ∧ (↑(3 : Nat) : Int) + (1 : Int) + (1 : Int) ≤ (9223372036854775807 : Int)) (V.i ((↑(3 : Nat) : Int) + (1 : Int) + (1 : Int))), pv (6 : Nat) (V.i ((↑(3 : Nat) : Int) + (1 : Int) + (1 : Int)))] (by kernel_rfl) (by kernel_rfl) ⟨(by omega), True.intro⟩ ?_
      refine aops_nil ?_
      refine xt_n ?_
      refine ⟨4, ⟨by decide, fun j h1 h2 => ?_⟩, by refine le_ren [] (.cons (by kernel_rfl) (.cons (by kernel_rfl) (.cons (by kernel_rfl) (.cons (by kernel_rfl) .nil)))) .nil (by kernel_rfl) (by kernel_rfl), by decide⟩
      rcases Nat.lt_or_ge j 4 with h3 | h3
      · exact hj j h1 (by omega)
      · obtain rfl : j = 4 := by omega
        exact q
  · refine aw_seq_k fun K hK => ?_
    refine aw_seq_k fun K hK => ?_
    refine w_region (n' := 2) (by kernel_rfl) (by kernel_rfl) ?_
    refine aops_n hTT (M := []) (n := 2) [pv (8 : Nat) (V.i ((↑(4 : Nat) : Int) + (1 : Int))), pv (9 : Nat) (V.b true)] (by kernel_rfl) (by kernel_rfl) True.intro ?_
    refine aops_nil ?_
    refine xt_n ?_
    refine hK _ ?_
    clear hK K
    refine w_true (t := true) (by kernel_rfl) rfl ?_
    refine aw_skip ?_
    refine xt_n ?_
    refine hK _ ?_
    clear hK K
    refine aw_seq_k fun K hK => ?_
    refine aw_block ?_
    refine aw_seq_k fun K hK => ?_
    refine w_regionD (n' := 3) (by kernel_rfl) (by kernel_rfl) ?_
    refine aops_n hTT (M := []) (n := 5) [pv (12 : Nat) (V.i ((↑(4 : Nat) : Int) + (1 : Int))), pc (13 : Nat) ((0 : Int) ≤ (↑(4 : Nat) : Int) + (1 : Int) ∧ (↑(4 : Nat) : Int) + (1 : Int) < (↑(6 : Nat) : Int)) (V.ptr [V.fn (Fn.func (80 : Nat)) [] []]), pv (14 : Nat) (V.fn (Fn.func (80 : Nat)) [] []), pv (15 : Nat) (V.ptr [V.i (Cut.half c), V.i (Cut.gain c), V.i (Cut.thin c), V.i (Cut.wide c), V.i (Cut.slope c), V.i (Cut.jerk c), V.i (Cut.sty c), V.sl (2 : Nat) (List.length l) fun (k : Nat) => [V.i (Prod.fst (gp l k)), V.i (Prod.snd (gp l k))], V.i r, V.i per]), pv (16 : Nat) (V.agg [V.ptr [V.i (Prod.fst b), V.i (Prod.snd b)], V.ptr [V.i (Prod.fst h), V.i (Prod.snd h)], V.c (Value.pointer none)])] (by kernel_rfl) (by kernel_rfl) ⟨(by omega), True.intro⟩ ?_
    refine e_call (first := []) (caps := []) (sharp_ac c l r per (some b) h none hc hp hb hh ha) (by kernel_rfl) (by kernel_rfl) (by kernel_rfl) (by kernel_rfl) (by kernel_rfl) ?_
    refine aops_nil ⟨by kernel_rfl, ?_⟩
    refine xt_n ?_
    refine hK _ ?_
    clear hK K
    refine w_cond (t := sharpB c r per (some b) h none) (by kernel_rfl) (fun q => ?_) (fun q => ?_)
    · refine aw_seq_k fun K hK => ?_
      refine w_region (n' := 4) (by kernel_rfl) (by kernel_rfl) ?_
      refine aops_n hTT (M := []) (n := 2) [pv (18 : Nat) (V.i ((↑(4 : Nat) : Int) + (1 : Int))), pv (4 : Nat) (V.i ((↑(4 : Nat) : Int) + (1 : Int)))] (by kernel_rfl) (by kernel_rfl) True.intro ?_
      refine aops_nil ?_
      refine xt_n ?_
      refine hK _ ?_
      clear hK K
      refine aw_ret ?_
      refine xb_r ?_
      refine xt_r ?_
      refine xt_r ?_
      refine xb_r ?_
      refine xt_r ?_
      rw [ruleP_at (j := 5) (by decide) (by decide) (fun j h1 h2 => hj j h1 (by omega)) q]
      refine ret_pure (v' := V.i ((↑(4 : Nat) : Int) + (1 : Int))) (.inr rfl) (by kernel_rfl) (by kernel_rfl) (by kernel_rfl)
    · refine aw_skip ?_
      refine xb_n ?_
      refine xt_n ?_
      refine hK _ ?_
      clear hK K
      refine w_region (n' := 4) (by kernel_rfl) (by kernel_rfl) ?_
      refine aops_n hTT (M := []) (n := 3) [pv (10 : Nat) (V.i ((↑(4 : Nat) : Int) + (1 : Int))), pc (11 : Nat) ((-9223372036854775808 : Int) ≤ (↑(4 : Nat) : Int) + (1 : Int) + (1 : Int) ∧ (↑(4 : Nat) : Int) + (1 : Int) + (1 : Int) ≤ (9223372036854775807 : Int)) (V.i ((↑(4 : Nat) : Int) + (1 : Int) + (1 : Int))), pv (6 : Nat) (V.i ((↑(4 : Nat) : Int) + (1 : Int) + (1 : Int)))] (by kernel_rfl) (by kernel_rfl) ⟨(by omega), True.intro⟩ ?_
      refine aops_nil ?_
      refine xt_n ?_
      refine ⟨5, ⟨by decide, fun j h1 h2 => ?_⟩, by refine le_ren [] (.cons (by kernel_rfl) (.cons (by kernel_rfl) (.cons (by kernel_rfl) (.cons (by kernel_rfl) .nil)))) .nil (by kernel_rfl) (by kernel_rfl), by decide⟩
      rcases Nat.lt_or_ge j 5 with h3 | h3
      · exact hj j h1 (by omega)
      · obtain rfl : j = 5 := by omega
        exact q
  · refine aw_seq_k fun K hK => ?_
    refine aw_seq_k fun K hK => ?_
    refine w_region (n' := 2) (by kernel_rfl) (by kernel_rfl) ?_
    refine aops_n hTT (M := []) (n := 2) [pv (8 : Nat) (V.i ((↑(5 : Nat) : Int) + (1 : Int))), pv (9 : Nat) (V.b false)] (by kernel_rfl) (by kernel_rfl) True.intro ?_
    refine aops_nil ?_
    refine xt_n ?_
    refine hK _ ?_
    clear hK K
    refine w_false (t := false) (by kernel_rfl) rfl ?_
    refine aw_exit ?_
    refine xt_x ?_
    refine xt_x ?_
    refine xb_same ?_
    refine xt_n ?_
    clear hK K
    refine hK _ ?_
    clear hK K
    refine aw_seq_k fun K hK => ?_
    refine w_region (n' := 3) (by kernel_rfl) (by kernel_rfl) ?_
    refine aops_n hTT (M := []) (n := 1) [pv (4 : Nat) (V.i (0 : Int))] (by kernel_rfl) (by kernel_rfl) True.intro ?_
    refine aops_nil ?_
    refine xt_n ?_
    refine hK _ ?_
    clear hK K
    refine aw_ret ?_
    rw [ruleP_no fun j h1 h2 => hj j h1 h2]
    refine ret_pure (v' := V.i (0 : Int)) (.inr rfl) (by kernel_rfl) (by kernel_rfl) (by kernel_rfl)
set_option maxRecDepth 100000 in
theorem rule_ss (c : Cut) (l : List Pt) (r per : Int) (b h a : Pt) (hc : cutE c = 0) (hp : Plc r per) (hb : EdO (some b)) (hh : Ed h) (ha : EdO (some a)) : AC Try.prog 56 [.ptr (trC c l r per), gNearV (some b) h (some a)] (.i (ruleP c r per (some b) h (some a))) [] := by
  refine ac_intro hTT hMX (fn := Try.f56) (N := _) ⟨Try.func56, rfl, Try.ntmps56, by kernel_rfl⟩ (by simp) fun C hC hF => ?_
  refine aw_seq_k fun K hK => ?_
  refine w_region (n' := 2) (by kernel_rfl) (by kernel_rfl) ?_
  refine aops_n hTT (M := []) (n := 2) [pv (3 : Nat) (V.ptr [V.ptr [V.i (Prod.fst b), V.i (Prod.snd b)], V.ptr [V.i (Prod.fst h), V.i (Prod.snd h)], V.ptr [V.i (Prod.fst a), V.i (Prod.snd a)]]), pv (4 : Nat) (V.i (0 : Int))] (by kernel_rfl) (by kernel_rfl) True.intro ?_
  refine aops_nil ?_
  refine xt_n ?_
  refine hK _ ?_
  clear hK K
  refine aw_seq_k fun K hK => ?_
  refine w_region (n' := 3) (by kernel_rfl) (by kernel_rfl) ?_
  refine aops_n hTT (M := []) (n := 3) [pv (7 : Nat) (V.agg [V.c Value.nilFunc, V.fn (Fn.func (76 : Nat)) [] [], V.fn (Fn.func (77 : Nat)) [] [], V.fn (Fn.func (78 : Nat)) [] [], V.fn (Fn.func (79 : Nat)) [] [], V.fn (Fn.func (80 : Nat)) [] []]), pn (5 : Nat) (V.ref (200005 : Nat) (0 : Nat)) (200005 : Nat) (Ob.box (105 : Nat) [V.c Value.nilFunc, V.c Value.nilFunc, V.c Value.nilFunc, V.c Value.nilFunc, V.c Value.nilFunc, V.c Value.nilFunc]), pw ((0 : Nat) + (6 : Nat) ≤ (6 : Nat)) (200005 : Nat) (Ob.box (105 : Nat) [V.c Value.nilFunc, V.fn (Fn.func (76 : Nat)) [] [], V.fn (Fn.func (77 : Nat)) [] [], V.fn (Fn.func (78 : Nat)) [] [], V.fn (Fn.func (79 : Nat)) [] [], V.fn (Fn.func (80 : Nat)) [] []])] (by kernel_rfl) (by kernel_rfl) ⟨(by omega), True.intro⟩ ?_
  refine aops_nil ?_
  refine xt_n ?_
  refine hK _ ?_
  clear hK K
  refine aw_seq_k fun K hK => ?_
  refine aw_seq_k fun K hK => ?_
  refine w_region (n' := 4) (by kernel_rfl) (by kernel_rfl) ?_
  refine aops_n hTT (M := []) (n := 1) [pv (6 : Nat) (V.i (1 : Int))] (by kernel_rfl) (by kernel_rfl) True.intro ?_
  refine aops_nil ?_
  refine xt_n ?_
  refine hK _ ?_
  clear hK K
  refine aw_block ?_
  refine w_le (le_freezeBox (t := (105 : Nat)) (cs := [V.c Value.nilFunc, V.fn (Fn.func (76 : Nat)) [] [], V.fn (Fn.func (77 : Nat)) [] [], V.fn (Fn.func (78 : Nat)) [] [], V.fn (Fn.func (79 : Nat)) [] [], V.fn (Fn.func (80 : Nat)) [] []]) 200005 (by kernel_rfl) (by kernel_rfl)) ?_
  refine w_loop (ι := Nat) (fun k => [(0, .ptr (trC c l r per)), (3, .ptr [optP (some b), .ptr [.i h.1, .i h.2], optP (some a)]), (5, .ptr [.c .nilFunc, .fn (.func 76) [] [], .fn (.func 77) [] [], .fn (.func 78) [] [], .fn (.func 79) [] [], .fn (.func 80) [] []]), (6, .i ((k : Int) + 1))]) (fun _ => []) (fun k => k ≤ 5 ∧ ∀ j, 1 ≤ j → j ≤ k → ruleB c r per (some b) h (some a) j = false) (fun k => 5 - k) 0 ⟨by decide, fun j h1 h2 => by omega⟩ ?_ ?_
  · refine le_ren [] (.cons (by kernel_rfl) (.cons (by kernel_rfl) (.cons (by kernel_rfl) (.cons (by kernel_rfl) .nil)))) .nil (by kernel_rfl) (by kernel_rfl)
  rintro k ⟨hk, hj⟩
  rcases (by omega : k = 0 ∨ k = 1 ∨ k = 2 ∨ k = 3 ∨ k = 4 ∨ k = 5) with rfl | rfl | rfl | rfl | rfl | rfl
  · refine aw_seq_k fun K hK => ?_
    refine aw_seq_k fun K hK => ?_
    refine w_region (n' := 2) (by kernel_rfl) (by kernel_rfl) ?_
    refine aops_n hTT (M := []) (n := 2) [pv (8 : Nat) (V.i ((↑(0 : Nat) : Int) + (1 : Int))), pv (9 : Nat) (V.b true)] (by kernel_rfl) (by kernel_rfl) True.intro ?_
    refine aops_nil ?_
    refine xt_n ?_
    refine hK _ ?_
    clear hK K
    refine w_true (t := true) (by kernel_rfl) rfl ?_
    refine aw_skip ?_
    refine xt_n ?_
    refine hK _ ?_
    clear hK K
    refine aw_seq_k fun K hK => ?_
    refine aw_block ?_
    refine aw_seq_k fun K hK => ?_
    refine w_regionD (n' := 3) (by kernel_rfl) (by kernel_rfl) ?_
    refine aops_n hTT (M := []) (n := 5) [pv (12 : Nat) (V.i ((↑(0 : Nat) : Int) + (1 : Int))), pc (13 : Nat) ((0 : Int) ≤ (↑(0 : Nat) : Int) + (1 : Int) ∧ (↑(0 : Nat) : Int) + (1 : Int) < (↑(6 : Nat) : Int)) (V.ptr [V.fn (Fn.func (76 : Nat)) [] [], V.fn (Fn.func (77 : Nat)) [] [], V.fn (Fn.func (78 : Nat)) [] [], V.fn (Fn.func (79 : Nat)) [] [], V.fn (Fn.func (80 : Nat)) [] []]), pv (14 : Nat) (V.fn (Fn.func (76 : Nat)) [] []), pv (15 : Nat) (V.ptr [V.i (Cut.half c), V.i (Cut.gain c), V.i (Cut.thin c), V.i (Cut.wide c), V.i (Cut.slope c), V.i (Cut.jerk c), V.i (Cut.sty c), V.sl (2 : Nat) (List.length l) fun (k : Nat) => [V.i (Prod.fst (gp l k)), V.i (Prod.snd (gp l k))], V.i r, V.i per]), pv (16 : Nat) (V.agg [V.ptr [V.i (Prod.fst b), V.i (Prod.snd b)], V.ptr [V.i (Prod.fst h), V.i (Prod.snd h)], V.ptr [V.i (Prod.fst a), V.i (Prod.snd a)]])] (by kernel_rfl) (by kernel_rfl) ⟨(by omega), True.intro⟩ ?_
    refine e_call (first := []) (caps := []) (thin_ac c l r per (some b) h (some a) hh) (by kernel_rfl) (by kernel_rfl) (by kernel_rfl) (by kernel_rfl) (by kernel_rfl) ?_
    refine aops_nil ⟨by kernel_rfl, ?_⟩
    refine xt_n ?_
    refine hK _ ?_
    clear hK K
    refine w_cond (t := thinB c h) (by kernel_rfl) (fun q => ?_) (fun q => ?_)
    · refine aw_seq_k fun K hK => ?_
      refine w_region (n' := 4) (by kernel_rfl) (by kernel_rfl) ?_
      refine aops_n hTT (M := []) (n := 2) [pv (18 : Nat) (V.i ((↑(0 : Nat) : Int) + (1 : Int))), pv (4 : Nat) (V.i ((↑(0 : Nat) : Int) + (1 : Int)))] (by kernel_rfl) (by kernel_rfl) True.intro ?_
      refine aops_nil ?_
      refine xt_n ?_
      refine hK _ ?_
      clear hK K
      refine aw_ret ?_
      refine xb_r ?_
      refine xt_r ?_
      refine xt_r ?_
      refine xb_r ?_
      refine xt_r ?_
      rw [ruleP_at (j := 1) (by decide) (by decide) (fun j h1 h2 => hj j h1 (by omega)) q]
      refine ret_pure (v' := V.i ((↑(0 : Nat) : Int) + (1 : Int))) (.inr rfl) (by kernel_rfl) (by kernel_rfl) (by kernel_rfl)
    · refine aw_skip ?_
      refine xb_n ?_
      refine xt_n ?_
      refine hK _ ?_
      clear hK K
      refine w_region (n' := 4) (by kernel_rfl) (by kernel_rfl) ?_
      refine aops_n hTT (M := []) (n := 3) [pv (10 : Nat) (V.i ((↑(0 : Nat) : Int) + (1 : Int))), pc (11 : Nat) ((-9223372036854775808 : Int) ≤ (↑(0 : Nat) : Int) + (1 : Int) + (1 : Int) ∧ (↑(0 : Nat) : Int) + (1 : Int) + (1 : Int) ≤ (9223372036854775807 : Int)) (V.i ((↑(0 : Nat) : Int) + (1 : Int) + (1 : Int))), pv (6 : Nat) (V.i ((↑(0 : Nat) : Int) + (1 : Int) + (1 : Int)))] (by kernel_rfl) (by kernel_rfl) ⟨(by omega), True.intro⟩ ?_
      refine aops_nil ?_
      refine xt_n ?_
      refine ⟨1, ⟨by decide, fun j h1 h2 => ?_⟩, by refine le_ren [] (.cons (by kernel_rfl) (.cons (by kernel_rfl) (.cons (by kernel_rfl) (.cons (by kernel_rfl) .nil)))) .nil (by kernel_rfl) (by kernel_rfl), by decide⟩
      rcases Nat.lt_or_ge j 1 with h3 | h3
      · exact hj j h1 (by omega)
      · obtain rfl : j = 1 := by omega
        exact q
  · refine aw_seq_k fun K hK => ?_
    refine aw_seq_k fun K hK => ?_
    refine w_region (n' := 2) (by kernel_rfl) (by kernel_rfl) ?_
    refine aops_n hTT (M := []) (n := 2) [pv (8 : Nat) (V.i ((↑(1 : Nat) : Int) + (1 : Int))), pv (9 : Nat) (V.b true)] (by kernel_rfl) (by kernel_rfl) True.intro ?_
    refine aops_nil ?_
    refine xt_n ?_
    refine hK _ ?_
    clear hK K
    refine w_true (t := true) (by kernel_rfl) rfl ?_
    refine aw_skip ?_
    refine xt_n ?_
    refine hK _ ?_
    clear hK K
    refine aw_seq_k fun K hK => ?_
    refine aw_block ?_
    refine aw_seq_k fun K hK => ?_
    refine w_regionD (n' := 3) (by kernel_rfl) (by kernel_rfl) ?_
    refine aops_n hTT (M := []) (n := 5) [pv (12 : Nat) (V.i ((↑(1 : Nat) : Int) + (1 : Int))), pc (13 : Nat) ((0 : Int) ≤ (↑(1 : Nat) : Int) + (1 : Int) ∧ (↑(1 : Nat) : Int) + (1 : Int) < (↑(6 : Nat) : Int)) (V.ptr [V.fn (Fn.func (77 : Nat)) [] [], V.fn (Fn.func (78 : Nat)) [] [], V.fn (Fn.func (79 : Nat)) [] [], V.fn (Fn.func (80 : Nat)) [] []]), pv (14 : Nat) (V.fn (Fn.func (77 : Nat)) [] []), pv (15 : Nat) (V.ptr [V.i (Cut.half c), V.i (Cut.gain c), V.i (Cut.thin c), V.i (Cut.wide c), V.i (Cut.slope c), V.i (Cut.jerk c), V.i (Cut.sty c), V.sl (2 : Nat) (List.length l) fun (k : Nat) => [V.i (Prod.fst (gp l k)), V.i (Prod.snd (gp l k))], V.i r, V.i per]), pv (16 : Nat) (V.agg [V.ptr [V.i (Prod.fst b), V.i (Prod.snd b)], V.ptr [V.i (Prod.fst h), V.i (Prod.snd h)], V.ptr [V.i (Prod.fst a), V.i (Prod.snd a)]])] (by kernel_rfl) (by kernel_rfl) ⟨(by omega), True.intro⟩ ?_
    refine e_call (first := []) (caps := []) (wide_ac c l r per (some b) h (some a) hh) (by kernel_rfl) (by kernel_rfl) (by kernel_rfl) (by kernel_rfl) (by kernel_rfl) ?_
    refine aops_nil ⟨by kernel_rfl, ?_⟩
    refine xt_n ?_
    refine hK _ ?_
    clear hK K
    refine w_cond (t := wideB c h) (by kernel_rfl) (fun q => ?_) (fun q => ?_)
    · refine aw_seq_k fun K hK => ?_
      refine w_region (n' := 4) (by kernel_rfl) (by kernel_rfl) ?_
      refine aops_n hTT (M := []) (n := 2) [pv (18 : Nat) (V.i ((↑(1 : Nat) : Int) + (1 : Int))), pv (4 : Nat) (V.i ((↑(1 : Nat) : Int) + (1 : Int)))] (by kernel_rfl) (by kernel_rfl) True.intro ?_
      refine aops_nil ?_
      refine xt_n ?_
      refine hK _ ?_
      clear hK K
      refine aw_ret ?_
      refine xb_r ?_
      refine xt_r ?_
      refine xt_r ?_
      refine xb_r ?_
      refine xt_r ?_
      rw [ruleP_at (j := 2) (by decide) (by decide) (fun j h1 h2 => hj j h1 (by omega)) q]
      refine ret_pure (v' := V.i ((↑(1 : Nat) : Int) + (1 : Int))) (.inr rfl) (by kernel_rfl) (by kernel_rfl) (by kernel_rfl)
    · refine aw_skip ?_
      refine xb_n ?_
      refine xt_n ?_
      refine hK _ ?_
      clear hK K
      refine w_region (n' := 4) (by kernel_rfl) (by kernel_rfl) ?_
      refine aops_n hTT (M := []) (n := 3) [pv (10 : Nat) (V.i ((↑(1 : Nat) : Int) + (1 : Int))), pc (11 : Nat) ((-9223372036854775808 : Int) ≤ (↑(1 : Nat) : Int) + (1 : Int) + (1 : Int) ∧ (↑(1 : Nat) : Int) + (1 : Int) + (1 : Int) ≤ (9223372036854775807 : Int)) (V.i ((↑(1 : Nat) : Int) + (1 : Int) + (1 : Int))), pv (6 : Nat) (V.i ((↑(1 : Nat) : Int) + (1 : Int) + (1 : Int)))] (by kernel_rfl) (by kernel_rfl) ⟨(by omega), True.intro⟩ ?_
      refine aops_nil ?_
      refine xt_n ?_
      refine ⟨2, ⟨by decide, fun j h1 h2 => ?_⟩, by refine le_ren [] (.cons (by kernel_rfl) (.cons (by kernel_rfl) (.cons (by kernel_rfl) (.cons (by kernel_rfl) .nil)))) .nil (by kernel_rfl) (by kernel_rfl), by decide⟩
      rcases Nat.lt_or_ge j 2 with h3 | h3
      · exact hj j h1 (by omega)
      · obtain rfl : j = 2 := by omega
        exact q
  · refine aw_seq_k fun K hK => ?_
    refine aw_seq_k fun K hK => ?_
    refine w_region (n' := 2) (by kernel_rfl) (by kernel_rfl) ?_
    refine aops_n hTT (M := []) (n := 2) [pv (8 : Nat) (V.i ((↑(2 : Nat) : Int) + (1 : Int))), pv (9 : Nat) (V.b true)] (by kernel_rfl) (by kernel_rfl) True.intro ?_
    refine aops_nil ?_
    refine xt_n ?_
    refine hK _ ?_
    clear hK K
    refine w_true (t := true) (by kernel_rfl) rfl ?_
    refine aw_skip ?_
    refine xt_n ?_
    refine hK _ ?_
    clear hK K
    refine aw_seq_k fun K hK => ?_
    refine aw_block ?_
    refine aw_seq_k fun K hK => ?_
    refine w_regionD (n' := 3) (by kernel_rfl) (by kernel_rfl) ?_
    refine aops_n hTT (M := []) (n := 5) [pv (12 : Nat) (V.i ((↑(2 : Nat) : Int) + (1 : Int))), pc (13 : Nat) ((0 : Int) ≤ (↑(2 : Nat) : Int) + (1 : Int) ∧ (↑(2 : Nat) : Int) + (1 : Int) < (↑(6 : Nat) : Int)) (V.ptr [V.fn (Fn.func (78 : Nat)) [] [], V.fn (Fn.func (79 : Nat)) [] [], V.fn (Fn.func (80 : Nat)) [] []]), pv (14 : Nat) (V.fn (Fn.func (78 : Nat)) [] []), pv (15 : Nat) (V.ptr [V.i (Cut.half c), V.i (Cut.gain c), V.i (Cut.thin c), V.i (Cut.wide c), V.i (Cut.slope c), V.i (Cut.jerk c), V.i (Cut.sty c), V.sl (2 : Nat) (List.length l) fun (k : Nat) => [V.i (Prod.fst (gp l k)), V.i (Prod.snd (gp l k))], V.i r, V.i per]), pv (16 : Nat) (V.agg [V.ptr [V.i (Prod.fst b), V.i (Prod.snd b)], V.ptr [V.i (Prod.fst h), V.i (Prod.snd h)], V.ptr [V.i (Prod.fst a), V.i (Prod.snd a)]])] (by kernel_rfl) (by kernel_rfl) ⟨(by omega), True.intro⟩ ?_
    refine e_call (first := []) (caps := []) (steep_ac c l r per (some b) h (some a) hc hp hb hh) (by kernel_rfl) (by kernel_rfl) (by kernel_rfl) (by kernel_rfl) (by kernel_rfl) ?_
    refine aops_nil ⟨by kernel_rfl, ?_⟩
    refine xt_n ?_
    refine hK _ ?_
    clear hK K
    refine w_cond (t := steepB c r per (some b) h) (by kernel_rfl) (fun q => ?_) (fun q => ?_)
    · refine aw_seq_k fun K hK => ?_
      refine w_region (n' := 4) (by kernel_rfl) (by kernel_rfl) ?_
      refine aops_n hTT (M := []) (n := 2) [pv (18 : Nat) (V.i ((↑(2 : Nat) : Int) + (1 : Int))), pv (4 : Nat) (V.i ((↑(2 : Nat) : Int) + (1 : Int)))] (by kernel_rfl) (by kernel_rfl) True.intro ?_
      refine aops_nil ?_
      refine xt_n ?_
      refine hK _ ?_
      clear hK K
      refine aw_ret ?_
      refine xb_r ?_
      refine xt_r ?_
      refine xt_r ?_
      refine xb_r ?_
      refine xt_r ?_
      rw [ruleP_at (j := 3) (by decide) (by decide) (fun j h1 h2 => hj j h1 (by omega)) q]
      refine ret_pure (v' := V.i ((↑(2 : Nat) : Int) + (1 : Int))) (.inr rfl) (by kernel_rfl) (by kernel_rfl) (by kernel_rfl)
    · refine aw_skip ?_
      refine xb_n ?_
      refine xt_n ?_
      refine hK _ ?_
      clear hK K
      refine w_region (n' := 4) (by kernel_rfl) (by kernel_rfl) ?_
      refine aops_n hTT (M := []) (n := 3) [pv (10 : Nat) (V.i ((↑(2 : Nat) : Int) + (1 : Int))), pc (11 : Nat) ((-9223372036854775808 : Int) ≤ (↑(2 : Nat) : Int) + (1 : Int) + (1 : Int) ∧ (↑(2 : Nat) : Int) + (1 : Int) + (1 : Int) ≤ (9223372036854775807 : Int)) (V.i ((↑(2 : Nat) : Int) + (1 : Int) + (1 : Int))), pv (6 : Nat) (V.i ((↑(2 : Nat) : Int) + (1 : Int) + (1 : Int)))] (by kernel_rfl) (by kernel_rfl) ⟨(by omega), True.intro⟩ ?_
      refine aops_nil ?_
      refine xt_n ?_
      refine ⟨3, ⟨by decide, fun j h1 h2 => ?_⟩, by refine le_ren [] (.cons (by kernel_rfl) (.cons (by kernel_rfl) (.cons (by kernel_rfl) (.cons (by kernel_rfl) .nil)))) .nil (by kernel_rfl) (by kernel_rfl), by decide⟩
      rcases Nat.lt_or_ge j 3 with h3 | h3
      · exact hj j h1 (by omega)
      · obtain rfl : j = 3 := by omega
        exact q
  · refine aw_seq_k fun K hK => ?_
    refine aw_seq_k fun K hK => ?_
    refine w_region (n' := 2) (by kernel_rfl) (by kernel_rfl) ?_
    refine aops_n hTT (M := []) (n := 2) [pv (8 : Nat) (V.i ((↑(3 : Nat) : Int) + (1 : Int))), pv (9 : Nat) (V.b true)] (by kernel_rfl) (by kernel_rfl) True.intro ?_
    refine aops_nil ?_
    refine xt_n ?_
    refine hK _ ?_
    clear hK K
    refine w_true (t := true) (by kernel_rfl) rfl ?_
    refine aw_skip ?_
    refine xt_n ?_
    refine hK _ ?_
    clear hK K
    refine aw_seq_k fun K hK => ?_
    refine aw_block ?_
    refine aw_seq_k fun K hK => ?_
    refine w_regionD (n' := 3) (by kernel_rfl) (by kernel_rfl) ?_
    refine aops_n hTT (M := []) (n := 5) [pv (12 : Nat) (V.i ((↑(3 : Nat) : Int) + (1 : Int))), pc (13 : Nat) ((0 : Int) ≤ (↑(3 : Nat) : Int) + (1 : Int) ∧ (↑(3 : Nat) : Int) + (1 : Int) < (↑(6 : Nat) : Int)) (V.ptr [V.fn (Fn.func (79 : Nat)) [] [], V.fn (Fn.func (80 : Nat)) [] []]), pv (14 : Nat) (V.fn (Fn.func (79 : Nat)) [] []), pv (15 : Nat) (V.ptr [V.i (Cut.half c), V.i (Cut.gain c), V.i (Cut.thin c), V.i (Cut.wide c), V.i (Cut.slope c), V.i (Cut.jerk c), V.i (Cut.sty c), V.sl (2 : Nat) (List.length l) fun (k : Nat) => [V.i (Prod.fst (gp l k)), V.i (Prod.snd (gp l k))], V.i r, V.i per]), pv (16 : Nat) (V.agg [V.ptr [V.i (Prod.fst b), V.i (Prod.snd b)], V.ptr [V.i (Prod.fst h), V.i (Prod.snd h)], V.ptr [V.i (Prod.fst a), V.i (Prod.snd a)]])] (by kernel_rfl) (by kernel_rfl) ⟨(by omega), True.intro⟩ ?_
    refine e_call (first := []) (caps := []) (sudden_ac c l r per (some b) h (some a) hb hh ha) (by kernel_rfl) (by kernel_rfl) (by kernel_rfl) (by kernel_rfl) (by kernel_rfl) ?_
    refine aops_nil ⟨by kernel_rfl, ?_⟩
    refine xt_n ?_
    refine hK _ ?_
    clear hK K
    refine w_cond (t := suddenB c (some b) h (some a)) (by kernel_rfl) (fun q => ?_) (fun q => ?_)
    · refine aw_seq_k fun K hK => ?_
      refine w_region (n' := 4) (by kernel_rfl) (by kernel_rfl) ?_
      refine aops_n hTT (M := []) (n := 2) [pv (18 : Nat) (V.i ((↑(3 : Nat) : Int) + (1 : Int))), pv (4 : Nat) (V.i ((↑(3 : Nat) : Int) + (1 : Int)))] (by kernel_rfl) (by kernel_rfl) True.intro ?_
      refine aops_nil ?_
      refine xt_n ?_
      refine hK _ ?_
      clear hK K
      refine aw_ret ?_
      refine xb_r ?_
      refine xt_r ?_
      refine xt_r ?_
      refine xb_r ?_
      refine xt_r ?_
      rw [ruleP_at (j := 4) (by decide) (by decide) (fun j h1 h2 => hj j h1 (by omega)) q]
      refine ret_pure (v' := V.i ((↑(3 : Nat) : Int) + (1 : Int))) (.inr rfl) (by kernel_rfl) (by kernel_rfl) (by kernel_rfl)
    · refine aw_skip ?_
      refine xb_n ?_
      refine xt_n ?_
      refine hK _ ?_
      clear hK K
      refine w_region (n' := 4) (by kernel_rfl) (by kernel_rfl) ?_
      refine aops_n hTT (M := []) (n := 3) [pv (10 : Nat) (V.i ((↑(3 : Nat) : Int) + (1 : Int))), pc (11 : Nat) ((-9223372036854775808 : Int) ≤ (↑(3 : Nat) : Int) + (1 : Int) + (1 : Int) ∧ (↑(3 : Nat) : Int) + (1 : Int) + (1 : Int) ≤ (9223372036854775807 : Int)) (V.i ((↑(3 : Nat) : Int) + (1 : Int) + (1 : Int))), pv (6 : Nat) (V.i ((↑(3 : Nat) : Int) + (1 : Int) + (1 : Int)))] (by kernel_rfl) (by kernel_rfl) ⟨(by omega), True.intro⟩ ?_
      refine aops_nil ?_
      refine xt_n ?_
      refine ⟨4, ⟨by decide, fun j h1 h2 => ?_⟩, by refine le_ren [] (.cons (by kernel_rfl) (.cons (by kernel_rfl) (.cons (by kernel_rfl) (.cons (by kernel_rfl) .nil)))) .nil (by kernel_rfl) (by kernel_rfl), by decide⟩
      rcases Nat.lt_or_ge j 4 with h3 | h3
      · exact hj j h1 (by omega)
      · obtain rfl : j = 4 := by omega
        exact q
  · refine aw_seq_k fun K hK => ?_
    refine aw_seq_k fun K hK => ?_
    refine w_region (n' := 2) (by kernel_rfl) (by kernel_rfl) ?_
    refine aops_n hTT (M := []) (n := 2) [pv (8 : Nat) (V.i ((↑(4 : Nat) : Int) + (1 : Int))), pv (9 : Nat) (V.b true)] (by kernel_rfl) (by kernel_rfl) True.intro ?_
    refine aops_nil ?_
    refine xt_n ?_
    refine hK _ ?_
    clear hK K
    refine w_true (t := true) (by kernel_rfl) rfl ?_
    refine aw_skip ?_
    refine xt_n ?_
    refine hK _ ?_
    clear hK K
    refine aw_seq_k fun K hK => ?_
    refine aw_block ?_
    refine aw_seq_k fun K hK => ?_
    refine w_regionD (n' := 3) (by kernel_rfl) (by kernel_rfl) ?_
    refine aops_n hTT (M := []) (n := 5) [pv (12 : Nat) (V.i ((↑(4 : Nat) : Int) + (1 : Int))), pc (13 : Nat) ((0 : Int) ≤ (↑(4 : Nat) : Int) + (1 : Int) ∧ (↑(4 : Nat) : Int) + (1 : Int) < (↑(6 : Nat) : Int)) (V.ptr [V.fn (Fn.func (80 : Nat)) [] []]), pv (14 : Nat) (V.fn (Fn.func (80 : Nat)) [] []), pv (15 : Nat) (V.ptr [V.i (Cut.half c), V.i (Cut.gain c), V.i (Cut.thin c), V.i (Cut.wide c), V.i (Cut.slope c), V.i (Cut.jerk c), V.i (Cut.sty c), V.sl (2 : Nat) (List.length l) fun (k : Nat) => [V.i (Prod.fst (gp l k)), V.i (Prod.snd (gp l k))], V.i r, V.i per]), pv (16 : Nat) (V.agg [V.ptr [V.i (Prod.fst b), V.i (Prod.snd b)], V.ptr [V.i (Prod.fst h), V.i (Prod.snd h)], V.ptr [V.i (Prod.fst a), V.i (Prod.snd a)]])] (by kernel_rfl) (by kernel_rfl) ⟨(by omega), True.intro⟩ ?_
    refine e_call (first := []) (caps := []) (sharp_ac c l r per (some b) h (some a) hc hp hb hh ha) (by kernel_rfl) (by kernel_rfl) (by kernel_rfl) (by kernel_rfl) (by kernel_rfl) ?_
    refine aops_nil ⟨by kernel_rfl, ?_⟩
    refine xt_n ?_
    refine hK _ ?_
    clear hK K
    refine w_cond (t := sharpB c r per (some b) h (some a)) (by kernel_rfl) (fun q => ?_) (fun q => ?_)
    · refine aw_seq_k fun K hK => ?_
      refine w_region (n' := 4) (by kernel_rfl) (by kernel_rfl) ?_
      refine aops_n hTT (M := []) (n := 2) [pv (18 : Nat) (V.i ((↑(4 : Nat) : Int) + (1 : Int))), pv (4 : Nat) (V.i ((↑(4 : Nat) : Int) + (1 : Int)))] (by kernel_rfl) (by kernel_rfl) True.intro ?_
      refine aops_nil ?_
      refine xt_n ?_
      refine hK _ ?_
      clear hK K
      refine aw_ret ?_
      refine xb_r ?_
      refine xt_r ?_
      refine xt_r ?_
      refine xb_r ?_
      refine xt_r ?_
      rw [ruleP_at (j := 5) (by decide) (by decide) (fun j h1 h2 => hj j h1 (by omega)) q]
      refine ret_pure (v' := V.i ((↑(4 : Nat) : Int) + (1 : Int))) (.inr rfl) (by kernel_rfl) (by kernel_rfl) (by kernel_rfl)
    · refine aw_skip ?_
      refine xb_n ?_
      refine xt_n ?_
      refine hK _ ?_
      clear hK K
      refine w_region (n' := 4) (by kernel_rfl) (by kernel_rfl) ?_
      refine aops_n hTT (M := []) (n := 3) [pv (10 : Nat) (V.i ((↑(4 : Nat) : Int) + (1 : Int))), pc (11 : Nat) ((-9223372036854775808 : Int) ≤ (↑(4 : Nat) : Int) + (1 : Int) + (1 : Int) ∧ (↑(4 : Nat) : Int) + (1 : Int) + (1 : Int) ≤ (9223372036854775807 : Int)) (V.i ((↑(4 : Nat) : Int) + (1 : Int) + (1 : Int))), pv (6 : Nat) (V.i ((↑(4 : Nat) : Int) + (1 : Int) + (1 : Int)))] (by kernel_rfl) (by kernel_rfl) ⟨(by omega), True.intro⟩ ?_
      refine aops_nil ?_
      refine xt_n ?_
      refine ⟨5, ⟨by decide, fun j h1 h2 => ?_⟩, by refine le_ren [] (.cons (by kernel_rfl) (.cons (by kernel_rfl) (.cons (by kernel_rfl) (.cons (by kernel_rfl) .nil)))) .nil (by kernel_rfl) (by kernel_rfl), by decide⟩
      rcases Nat.lt_or_ge j 5 with h3 | h3
      · exact hj j h1 (by omega)
      · obtain rfl : j = 5 := by omega
        exact q
  · refine aw_seq_k fun K hK => ?_
    refine aw_seq_k fun K hK => ?_
    refine w_region (n' := 2) (by kernel_rfl) (by kernel_rfl) ?_
    refine aops_n hTT (M := []) (n := 2) [pv (8 : Nat) (V.i ((↑(5 : Nat) : Int) + (1 : Int))), pv (9 : Nat) (V.b false)] (by kernel_rfl) (by kernel_rfl) True.intro ?_
    refine aops_nil ?_
    refine xt_n ?_
    refine hK _ ?_
    clear hK K
    refine w_false (t := false) (by kernel_rfl) rfl ?_
    refine aw_exit ?_
    refine xt_x ?_
    refine xt_x ?_
    refine xb_same ?_
    refine xt_n ?_
    clear hK K
    refine hK _ ?_
    clear hK K
    refine aw_seq_k fun K hK => ?_
    refine w_region (n' := 3) (by kernel_rfl) (by kernel_rfl) ?_
    refine aops_n hTT (M := []) (n := 1) [pv (4 : Nat) (V.i (0 : Int))] (by kernel_rfl) (by kernel_rfl) True.intro ?_
    refine aops_nil ?_
    refine xt_n ?_
    refine hK _ ?_
    clear hK K
    refine aw_ret ?_
    rw [ruleP_no fun j h1 h2 => hj j h1 h2]
    refine ret_pure (v' := V.i (0 : Int)) (.inr rfl) (by kernel_rfl) (by kernel_rfl) (by kernel_rfl)
theorem rule_ac (c : Cut) (l : List Pt) (r per : Int) (b : Option Pt) (h : Pt) (a : Option Pt) (hc : cutE c = 0) (hp : Plc r per) (hb : EdO b) (hh : Ed h) (ha : EdO a) : AC Try.prog 56 [.ptr (trC c l r per), gNearV b h a] (.i (ruleP c r per b h a)) [] := by
  cases b with
  | none => cases a with
    | none => exact rule_nn c l r per h hc hp hb hh ha
    | some a => exact rule_ns c l r per h a hc hp hb hh ha
  | some b => cases a with
    | none => exact rule_sn c l r per b h hc hp hb hh ha
    | some a => exact rule_ss c l r per b h a hc hp hb hh ha
end Go.Proofs.Ytjjlgegccfolpaa
