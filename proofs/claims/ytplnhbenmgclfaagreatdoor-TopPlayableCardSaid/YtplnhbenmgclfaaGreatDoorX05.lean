/-
  Several texts in one: The rules of grooves at a point: the walks of the program. Conditions: edges in range, a valid cutter, a radius and a turn in range. .. What an index of a groove needs: the walks of both copies. Conditions: told in each theorem.
-/
import Derived.Test.YtplnhbenmgclfaaGreatDoorAbs42
import Derived.Test.YtplnhbenmgclfaaGreatDoorX04
import Derived.Test.YtplnhbenmgclfaaGreatDoorX01
namespace Go.Proofs.YtplnhbenmgclfaaGreatDoor
open Go.Ab Go.RowKit Go.Dw Go.Shelf
theorem gLit2 {row : Nat → List V} {x y : Int} (h0 : row 0 = [.i x]) (h1 : row 1 = [.i y]) : RImp (.sl 1 2 row) (V.ints [x, y]) := by
 refine RImp.rows rfl fun i hi => ?_
 rcases (by omega : i = 0 ∨ i = 1) with rfl | rfl
 ·
  exact h0
 ·
  exact h1
set_option maxRecDepth 100000 in
theorem gMost_ac (x y : Int) : AC Tryz.prog 180 [V.ints [x, y]] (.i (max x y)) [] := by
 refine acI hTT hMX Tryz.func180 Tryz.ntmps180 fun C hC hF => ?_
 refine aw_seq_k fun K hK => wR 2 ?_; refine aX hTT 1 [] tI ?_; refine aops_nil (xt_n (hK _ ?_)); clear hK K; refine aw_seq_k fun K hK => wR 3 ?_; refine aX hTT 4 [(1, .c ((0 : Int) ≤ (0 : Int) ∧ (0 : Int) < (↑(2 : Nat) : Int)))] ⟨oM, tI⟩ ?_; refine aops_nil (xt_n (hK _ ?_)); clear hK K; refine aw_seq_k fun K hK => ?_; refine aw_seq_k fun K hK => wR 4 ?_; refine aX hTT 4 [(1, .c ((0 : Int) ≤ (1 : Int) ∧ (1 : Int) ≤ (↑(2 : Nat) : Int) ∧ (↑(2 : Nat) : Int) ≤ (↑(2 : Nat) : Int)))] ⟨⟨oM, oM⟩, tI⟩ ?_; refine aops_nil (xt_n (hK _ ?_)); clear hK K
 refine aw_block ?_
 refine w_loop (ι := Nat) (fun k => [(3, .i (if k = 0 then x else max x y)), (10, .sl 1 1 fun i => [.i (gi [x, y] (i + 1))]), (11, .i 1), (12, .i k)]) (fun _ => []) (fun k => k ≤ 1) (fun k => 1 - k) 0 (Nat.zero_le _) ?_ ?_
 ·
  refine le_ren [] (.cons kR (.cons kR (.cons kR (.cons kR .nil)))) .nil kR kR
 intro k hk
 rcases (by omega : k = 0 ∨ k = 1) with rfl | rfl
 ·
  refine aw_seq_k fun K hK => ?_
  refine wR 2 ?_; refine aX hTT 1 [] tI ?_; refine aops_nil (xt_n (hK _ ?_)); clear hK K; refine aw_seq_k fun K hK => ?_; refine w_true (t := true) kR rfl ?_
  refine aw_skip ?_
  refine xt_n (hK _ ?_); clear hK K; refine aw_seq_k fun K hK => ?_
  refine aw_block ?_
  refine aw_seq_k fun K hK => wR 3 ?_; refine aX hTT 3 [(0, .c ((0 : Int) ≤ (↑(0 : Nat) : Int) ∧ (↑(0 : Nat) : Int) < (↑(1 : Nat) : Int)))] ⟨oM, tI⟩ ?_; refine aops_nil (xt_n (hK _ ?_)); clear hK K; refine wR 4 ?_; refine aX hTT 4 [] tI ?_; refine aops_nil ?_; refine xb_n ?_; refine xt_n (hK _ ?_); clear hK K; refine wR 5 ?_; refine aX hTT 2 [(0, .i ((↑(0 : Nat) : Int) + (1 : Int)))] ⟨oM, tI⟩ ?_; refine aops_nil ?_; refine xt_n ?_
  refine ⟨1, by omega, ?_, by omega⟩
  refine le_ren [] (.cons kR (.cons kR (.cons kR (.cons kR .nil)))) .nil kR kR
 ·
  refine aw_seq_k fun K hK => ?_
  refine wR 2 ?_; refine aX hTT 1 [] tI ?_; refine aops_nil (xt_n (hK _ ?_)); clear hK K; refine aw_seq_k fun K hK => ?_; refine w_false (t := false) kR rfl ?_
  refine aw_exit ?_
  refine xt_x ?_; refine xt_x ?_
  refine xb_same ?_
  refine xt_n ?_; clear hK K; refine hK _ ?_; clear hK K; refine aw_seq_k fun K hK => wR 3 ?_; refine aX hTT 2 [] tI ?_; refine aops_nil (xt_n (hK _ ?_)); clear hK K
  refine aw_ret ?_
  refine rP (V.i (if (1 : Nat) = (0 : Nat) then x else max x y))
def trC (c : Cut) (l : List Pt) (r per : Int) : List V := [.i c.half, .i c.gain, .i c.thin, .i c.wide, .i c.slope, .i c.jerk, .i c.sty, V.pts l, .i r, .i per]
def gNearV (b : Option Pt) (h : Pt) (a : Option Pt) : V := .agg [optP b, .ptr [.i h.1, .i h.2], optP a]
theorem EdO.some {p : Pt} (h : EdO (some p)) : Ed p := h
set_option maxRecDepth 100000 in
theorem width_nn (h : Pt) (hh : Ed h) : AC Tryz.prog 167 [gNearV none h none] (.i (h.2 - h.1)) [] := by
 unfold Ed at hh
 refine acI hTT hMX Tryz.func167 Tryz.ntmps167 fun C hC hF => ?_
 refine aw_seq_k fun K hK => wR 2 ?_; refine aX hTT 2 [] tI ?_; refine aops_nil (xt_n (hK _ ?_)); clear hK K; refine aw_seq_k fun K hK => wD 3 ?_; refine aX hTT 12 [(10, .i (Prod.snd h - Prod.fst h))] ⟨oM, tI⟩ ?_; refine aops_nil ⟨kR, ?_⟩; refine xt_n (hK _ ?_); clear hK K
 refine aw_ret ?_
 refine rP (V.i (Prod.snd h - Prod.fst h))
set_option maxRecDepth 100000 in
theorem width_ns (h a : Pt) (hh : Ed h) : AC Tryz.prog 167 [gNearV none h (some a)] (.i (h.2 - h.1)) [] := by
 unfold Ed at hh
 refine acI hTT hMX Tryz.func167 Tryz.ntmps167 fun C hC hF => ?_
 refine aw_seq_k fun K hK => wR 2 ?_; refine aX hTT 2 [] tI ?_; refine aops_nil (xt_n (hK _ ?_)); clear hK K; refine aw_seq_k fun K hK => wD 3 ?_; refine aX hTT 12 [(10, .i (Prod.snd h - Prod.fst h))] ⟨oM, tI⟩ ?_; refine aops_nil ⟨kR, ?_⟩; refine xt_n (hK _ ?_); clear hK K
 refine aw_ret ?_
 refine rP (V.i (Prod.snd h - Prod.fst h))
set_option maxRecDepth 100000 in
theorem width_sn (b h : Pt) (hh : Ed h) : AC Tryz.prog 167 [gNearV (some b) h none] (.i (h.2 - h.1)) [] := by
 unfold Ed at hh
 refine acI hTT hMX Tryz.func167 Tryz.ntmps167 fun C hC hF => ?_
 refine aw_seq_k fun K hK => wR 2 ?_; refine aX hTT 2 [] tI ?_; refine aops_nil (xt_n (hK _ ?_)); clear hK K; refine aw_seq_k fun K hK => wD 3 ?_; refine aX hTT 12 [(10, .i (Prod.snd h - Prod.fst h))] ⟨oM, tI⟩ ?_; refine aops_nil ⟨kR, ?_⟩; refine xt_n (hK _ ?_); clear hK K
 refine aw_ret ?_
 refine rP (V.i (Prod.snd h - Prod.fst h))
set_option maxRecDepth 100000 in
theorem width_ss (b h a : Pt) (hh : Ed h) : AC Tryz.prog 167 [gNearV (some b) h (some a)] (.i (h.2 - h.1)) [] := by
 unfold Ed at hh
 refine acI hTT hMX Tryz.func167 Tryz.ntmps167 fun C hC hF => ?_
 refine aw_seq_k fun K hK => wR 2 ?_; refine aX hTT 2 [] tI ?_; refine aops_nil (xt_n (hK _ ?_)); clear hK K; refine aw_seq_k fun K hK => wD 3 ?_; refine aX hTT 12 [(10, .i (Prod.snd h - Prod.fst h))] ⟨oM, tI⟩ ?_; refine aops_nil ⟨kR, ?_⟩; refine xt_n (hK _ ?_); clear hK K
 refine aw_ret ?_
 refine rP (V.i (Prod.snd h - Prod.fst h))
theorem width_ac (b : Option Pt) (h : Pt) (a : Option Pt) (hh : Ed h) : AC Tryz.prog 167 [gNearV b h a] (.i (h.2 - h.1)) [] := by
 cases b with
 | none => cases a with
  | none => exact width_nn  h hh
  | some a => exact width_ns  h a hh
 | some b => cases a with
  | none => exact width_sn  b h hh
  | some a => exact width_ss  b h a hh
set_option maxRecDepth 100000 in
theorem step_nn (h : Pt) (hb : EdO none) (hh : Ed h) : AC Tryz.prog 168 [gNearV none h none] (.i (stepP none h)) [] := by
 unfold Ed at hh
 refine acI hTT hMX Tryz.func168 Tryz.ntmps168 fun C hC hF => ?_
 refine aw_seq_k fun K hK => wR 2 ?_; refine aX hTT 2 [] tI ?_; refine aops_nil (xt_n (hK _ ?_)); clear hK K; refine aw_seq_k fun K hK => ?_; refine aw_seq_k fun K hK => wR 3 ?_; refine aX hTT 3 [] tI ?_; refine aops_nil (xt_n (hK _ ?_)); clear hK K; refine w_true (t := true) kR rfl ?_; refine aw_seq_k fun K hK => wR 4 ?_; refine aX hTT 1 [] tI ?_; refine aops_nil (xt_n (hK _ ?_)); clear hK K
 refine aw_ret ?_
 refine xt_r ?_
 refine rP (V.i 0)
set_option maxRecDepth 100000 in
theorem step_ns (h a : Pt) (hb : EdO none) (hh : Ed h) : AC Tryz.prog 168 [gNearV none h (some a)] (.i (stepP none h)) [] := by
 unfold Ed at hh
 refine acI hTT hMX Tryz.func168 Tryz.ntmps168 fun C hC hF => ?_
 refine aw_seq_k fun K hK => wR 2 ?_; refine aX hTT 2 [] tI ?_; refine aops_nil (xt_n (hK _ ?_)); clear hK K; refine aw_seq_k fun K hK => ?_; refine aw_seq_k fun K hK => wR 3 ?_; refine aX hTT 3 [] tI ?_; refine aops_nil (xt_n (hK _ ?_)); clear hK K; refine w_true (t := true) kR rfl ?_; refine aw_seq_k fun K hK => wR 4 ?_; refine aX hTT 1 [] tI ?_; refine aops_nil (xt_n (hK _ ?_)); clear hK K
 refine aw_ret ?_
 refine xt_r ?_
 refine rP (V.i 0)
set_option maxRecDepth 100000 in
theorem step_sn (b h : Pt) (hb : EdO (some b)) (hh : Ed h) : AC Tryz.prog 168 [gNearV (some b) h none] (.i (stepP (some b) h)) [] := by
 unfold Ed at hh
 have hb2 := hb.some
 unfold Ed at hb2
 refine acI hTT hMX Tryz.func168 Tryz.ntmps168 fun C hC hF => ?_
 refine aw_seq_k fun K hK => wR 2 ?_; refine aX hTT 2 [] tI ?_; refine aops_nil (xt_n (hK _ ?_)); clear hK K; refine aw_seq_k fun K hK => ?_; refine aw_seq_k fun K hK => wR 3 ?_; refine aX hTT 3 [] tI ?_; refine aops_nil (xt_n (hK _ ?_)); clear hK K; refine w_false (t := false) kR rfl ?_
 refine aw_skip ?_
 refine xt_n (hK _ ?_); clear hK K; refine aw_seq_k fun K hK => wD 4 ?_; refine aX hTT 11 [(10, .i (Prod.fst h - Prod.fst b))] ⟨oM, tI⟩ ?_
 refine eC (gAmount_ac (h.1 - b.1) oM) ?_
 refine aX hTT 11 [(10, .i (Prod.snd h - Prod.snd b))] ⟨oM, tI⟩ ?_
 refine eC (gAmount_ac (h.2 - b.2) oM) ?_
 refine aX hTT 1 [] tI ?_
 refine eC (AC.conv (gMost_ac (gAmt (h.1 - b.1)) (gAmt (h.2 - b.2))) (args' := [V.sl 1 2 fun (i : Nat) => List.take (1 : Nat) (List.drop (i * (1 : Nat)) [V.i (gAmt (Prod.fst h - Prod.fst b)), V.i (gAmt (Prod.snd h - Prod.snd b))])]) ⟨?_, trivial⟩) ?_
 ·
  exact gLit2 rfl rfl
 refine aX hTT 1 [] tI ?_; refine aops_nil ⟨kR, ?_⟩; refine xt_n (hK _ ?_); clear hK K
 refine aw_ret ?_
 refine rP (V.i (max (gAmt (Prod.fst h - Prod.fst b)) (gAmt (Prod.snd h - Prod.snd b))))
set_option maxRecDepth 100000 in
theorem step_ss (b h a : Pt) (hb : EdO (some b)) (hh : Ed h) : AC Tryz.prog 168 [gNearV (some b) h (some a)] (.i (stepP (some b) h)) [] := by
 unfold Ed at hh
 have hb2 := hb.some
 unfold Ed at hb2
 refine acI hTT hMX Tryz.func168 Tryz.ntmps168 fun C hC hF => ?_
 refine aw_seq_k fun K hK => wR 2 ?_; refine aX hTT 2 [] tI ?_; refine aops_nil (xt_n (hK _ ?_)); clear hK K; refine aw_seq_k fun K hK => ?_; refine aw_seq_k fun K hK => wR 3 ?_; refine aX hTT 3 [] tI ?_; refine aops_nil (xt_n (hK _ ?_)); clear hK K; refine w_false (t := false) kR rfl ?_
 refine aw_skip ?_
 refine xt_n (hK _ ?_); clear hK K; refine aw_seq_k fun K hK => wD 4 ?_; refine aX hTT 11 [(10, .i (Prod.fst h - Prod.fst b))] ⟨oM, tI⟩ ?_
 refine eC (gAmount_ac (h.1 - b.1) oM) ?_
 refine aX hTT 11 [(10, .i (Prod.snd h - Prod.snd b))] ⟨oM, tI⟩ ?_
 refine eC (gAmount_ac (h.2 - b.2) oM) ?_
 refine aX hTT 1 [] tI ?_
 refine eC (AC.conv (gMost_ac (gAmt (h.1 - b.1)) (gAmt (h.2 - b.2))) (args' := [V.sl 1 2 fun (i : Nat) => List.take (1 : Nat) (List.drop (i * (1 : Nat)) [V.i (gAmt (Prod.fst h - Prod.fst b)), V.i (gAmt (Prod.snd h - Prod.snd b))])]) ⟨?_, trivial⟩) ?_
 ·
  exact gLit2 rfl rfl
 refine aX hTT 1 [] tI ?_; refine aops_nil ⟨kR, ?_⟩; refine xt_n (hK _ ?_); clear hK K
 refine aw_ret ?_
 refine rP (V.i (max (gAmt (Prod.fst h - Prod.fst b)) (gAmt (Prod.snd h - Prod.snd b))))
theorem step_ac (b : Option Pt) (h : Pt) (a : Option Pt) (hb : EdO b) (hh : Ed h) : AC Tryz.prog 168 [gNearV b h a] (.i (stepP b h)) [] := by
 cases b with
 | none => cases a with
  | none => exact step_nn  h hb hh
  | some a => exact step_ns  h a hb hh
 | some b => cases a with
  | none => exact step_sn  b h hb hh
  | some a => exact step_ss  b h a hb hh
set_option maxRecDepth 100000 in
theorem bend_nn (h : Pt) (hb : EdO none) (hh : Ed h) (ha : EdO none) : AC Tryz.prog 169 [gNearV none h none] (.i (bendP none h none)) [] := by
 unfold Ed at hh
 refine acI hTT hMX Tryz.func169 Tryz.ntmps169 fun C hC hF => ?_
 refine aw_seq_k fun K hK => wR 2 ?_; refine aX hTT 2 [] tI ?_; refine aops_nil (xt_n (hK _ ?_)); clear hK K; refine aw_seq_k fun K hK => ?_; refine aw_seq_k fun K hK => wR 3 ?_; refine aX hTT 8 [(4, .c (gA (true == false) True)), (5, .c (gB (true == false) True)), (6, .c (gD (true == false) True)), (7, .c (True ∧ (true = false → (true == false) = true)))] ⟨⟨⟨tI, tI⟩, (fun _ => tI)⟩, ⟨⟨(by (exact fun h => h)), tI⟩, (fun _ => tI)⟩, ⟨⟨(by (exact fun h => h)), ⟨tI, tI⟩⟩, (fun _ => tI)⟩, ⟨tI, (by (intro h; simp at h; done))⟩, tI⟩ ?_; refine aops_nil (xt_n (hK _ ?_)); clear hK K; refine w_true (t := true) kR rfl ?_; refine aw_seq_k fun K hK => wR 4 ?_; refine aX hTT 1 [] tI ?_; refine aops_nil (xt_n (hK _ ?_)); clear hK K
 refine aw_ret ?_
 refine xt_r ?_
 refine rP (V.i 0)
set_option maxRecDepth 100000 in
theorem bend_ns (h a : Pt) (hb : EdO none) (hh : Ed h) (ha : EdO (some a)) : AC Tryz.prog 169 [gNearV none h (some a)] (.i (bendP none h (some a))) [] := by
 unfold Ed at hh
 have ha2 := ha.some
 unfold Ed at ha2
 refine acI hTT hMX Tryz.func169 Tryz.ntmps169 fun C hC hF => ?_
 refine aw_seq_k fun K hK => wR 2 ?_; refine aX hTT 2 [] tI ?_; refine aops_nil (xt_n (hK _ ?_)); clear hK K; refine aw_seq_k fun K hK => ?_; refine aw_seq_k fun K hK => wR 3 ?_; refine aX hTT 8 [(4, .c (gA (true == false) True)), (5, .c (gB (true == false) True)), (6, .c (gD (true == false) True)), (7, .c (True ∧ (true = false → (true == false) = true)))] ⟨⟨⟨tI, tI⟩, (fun _ => tI)⟩, ⟨⟨(by (exact fun h => h)), tI⟩, (fun _ => tI)⟩, ⟨⟨(by (exact fun h => h)), ⟨tI, tI⟩⟩, (fun _ => tI)⟩, ⟨tI, (by (intro h; simp at h; done))⟩, tI⟩ ?_; refine aops_nil (xt_n (hK _ ?_)); clear hK K; refine w_true (t := true) kR rfl ?_; refine aw_seq_k fun K hK => wR 4 ?_; refine aX hTT 1 [] tI ?_; refine aops_nil (xt_n (hK _ ?_)); clear hK K
 refine aw_ret ?_
 refine xt_r ?_
 refine rP (V.i 0)
set_option maxRecDepth 100000 in
theorem bend_sn (b h : Pt) (hb : EdO (some b)) (hh : Ed h) (ha : EdO none) : AC Tryz.prog 169 [gNearV (some b) h none] (.i (bendP (some b) h none)) [] := by
 unfold Ed at hh
 have hb2 := hb.some
 unfold Ed at hb2
 refine acI hTT hMX Tryz.func169 Tryz.ntmps169 fun C hC hF => ?_
 refine aw_seq_k fun K hK => wR 2 ?_; refine aX hTT 2 [] tI ?_; refine aops_nil (xt_n (hK _ ?_)); clear hK K; refine aw_seq_k fun K hK => ?_; refine aw_seq_k fun K hK => wR 3 ?_; refine aX hTT 8 [(4, .c (gA (false == false) True)), (5, .c (gB (false == false) True)), (6, .c (gD (false == false) True)), (7, .c (True ∧ (false = false → (false == false) = true)))] ⟨⟨⟨tI, tI⟩, (fun _ => tI)⟩, ⟨⟨(by (exact fun h => h)), tI⟩, (fun _ => tI)⟩, ⟨⟨(by (exact fun h => h)), ⟨tI, tI⟩⟩, (fun _ => tI)⟩, ⟨tI, (by (intro h; rw [h]; rfl))⟩, tI⟩ ?_; refine aops_nil (xt_n (hK _ ?_)); clear hK K; refine w_true (t := true) kR rfl ?_; refine aw_seq_k fun K hK => wR 4 ?_; refine aX hTT 1 [] tI ?_; refine aops_nil (xt_n (hK _ ?_)); clear hK K
 refine aw_ret ?_
 refine xt_r ?_
 refine rP (V.i 0)
set_option maxRecDepth 100000 in
theorem bend_ss (b h a : Pt) (hb : EdO (some b)) (hh : Ed h) (ha : EdO (some a)) : AC Tryz.prog 169 [gNearV (some b) h (some a)] (.i (bendP (some b) h (some a))) [] := by
 unfold Ed at hh
 have hb2 := hb.some
 unfold Ed at hb2
 have ha2 := ha.some
 unfold Ed at ha2
 refine acI hTT hMX Tryz.func169 Tryz.ntmps169 fun C hC hF => ?_
 refine aw_seq_k fun K hK => wR 2 ?_; refine aX hTT 2 [] tI ?_; refine aops_nil (xt_n (hK _ ?_)); clear hK K; refine aw_seq_k fun K hK => ?_; refine aw_seq_k fun K hK => wR 3 ?_; refine aX hTT 8 [(4, .c (gA (false == false) True)), (5, .c (gB (false == false) True)), (6, .c (gD (false == false) True)), (7, .c (True ∧ (false = false → (false == false) = true)))] ⟨⟨⟨tI, tI⟩, (fun _ => tI)⟩, ⟨⟨(by (exact fun h => h)), tI⟩, (fun _ => tI)⟩, ⟨⟨(by (exact fun h => h)), ⟨tI, tI⟩⟩, (fun _ => tI)⟩, ⟨tI, (by (intro h; rw [h]; rfl))⟩, tI⟩ ?_; refine aops_nil (xt_n (hK _ ?_)); clear hK K; refine w_false (t := false) kR rfl ?_
 refine aw_skip ?_
 refine xt_n (hK _ ?_); clear hK K; refine aw_seq_k fun K hK => wD 4 ?_; refine aX hTT 18 [(10, .i (Prod.fst b + Prod.fst a)), (16, .i ((2 : Int) * Prod.fst h)), (17, .i (Prod.fst b + Prod.fst a - (2 : Int) * Prod.fst h))] ⟨oM, oM, oM, tI⟩ ?_
 refine eC (gAmount_ac (b.1 + a.1 - 2 * h.1) oM) ?_
 refine aX hTT 18 [(10, .i (Prod.snd b + Prod.snd a)), (16, .i ((2 : Int) * Prod.snd h)), (17, .i (Prod.snd b + Prod.snd a - (2 : Int) * Prod.snd h))] ⟨oM, oM, oM, tI⟩ ?_
 refine eC (gAmount_ac (b.2 + a.2 - 2 * h.2) oM) ?_
 refine aX hTT 1 [] tI ?_
 refine eC (AC.conv (gMost_ac (gAmt (b.1 + a.1 - 2 * h.1)) (gAmt (b.2 + a.2 - 2 * h.2))) (args' := [V.sl 1 2 fun (i : Nat) => List.take (1 : Nat) (List.drop (i * (1 : Nat)) [V.i (gAmt (Prod.fst b + Prod.fst a - (2 : Int) * Prod.fst h)), V.i (gAmt (Prod.snd b + Prod.snd a - (2 : Int) * Prod.snd h))])]) ⟨?_, trivial⟩) ?_
 ·
  exact gLit2 rfl rfl
 refine aX hTT 1 [] tI ?_; refine aops_nil ⟨kR, ?_⟩; refine xt_n (hK _ ?_); clear hK K
 refine aw_ret ?_
 refine rP (V.i (max (gAmt (Prod.fst b + Prod.fst a - (2 : Int) * Prod.fst h)) (gAmt (Prod.snd b + Prod.snd a - (2 : Int) * Prod.snd h))))
theorem bend_ac (b : Option Pt) (h : Pt) (a : Option Pt) (hb : EdO b) (hh : Ed h) (ha : EdO a) : AC Tryz.prog 169 [gNearV b h a] (.i (bendP b h a)) [] := by
 cases b with
 | none => cases a with
  | none => exact bend_nn  h hb hh ha
  | some a => exact bend_ns  h a hb hh ha
 | some b => cases a with
  | none => exact bend_sn  b h hb hh ha
  | some a => exact bend_ss  b h a hb hh ha
set_option maxRecDepth 100000 in
theorem gArc_ac (c : Cut) (l : List Pt) (r per : Int) (hp : Plc r per) : AC Tryz.prog 170 [.ptr (trC c l r per)] (.i (gArc r per)) [] := by
 obtain ⟨w1, w2, w3, w4⟩ := way_bd hp
 obtain ⟨hr, hq⟩ := hp
 refine acI hTT hMX Tryz.func170 Tryz.ntmps170 fun C hC hF => ?_
 refine aw_seq_k fun K hK => wR 2 ?_; refine aX hTT 1 [] tI ?_; refine aops_nil (xt_n (hK _ ?_)); clear hK K; refine aw_seq_k fun K hK => wD 3 ?_; refine aX hTT 12 [(4, .i ((710 : Int) * r)), (9, .i ((113 : Int) * per))] ⟨oM, oM, tI⟩ ?_; refine aops_nil ⟨kR, ?_⟩; refine xt_n (hK _ ?_); clear hK K; refine aw_seq_k fun K hK => wR 4 ?_; refine aX hTT 8 [(2, .i ((710 : Int) * r * ((710 : Int) * r))), (5, .i ((113 : Int) * per * ((113 : Int) * per))), (6, .c ((0 : Int) < (113 : Int) * per * ((113 : Int) * per) ∧ (-9223372036854775808 : Int) ≤ (710 : Int) * r * ((710 : Int) * r) ∧ (710 : Int) * r * ((710 : Int) * r) ≤ (9223372036854775807 : Int)))] ⟨oM, oM, ⟨oM, oM⟩, tI⟩ ?_; refine aops_nil (xt_n (hK _ ?_)); clear hK K
 refine aw_ret ?_
 refine rP (V.i (Int.tdiv ((710 : Int) * r * ((710 : Int) * r)) ((113 : Int) * per * ((113 : Int) * per))))
set_option maxRecDepth 100000 in
theorem thin_nn (c : Cut) (l : List Pt) (r per : Int) (h : Pt) (hh : Ed h) : AC Tryz.prog 142 [.ptr (trC c l r per), gNearV none h none] (.b (thinB c h)) [] := by
 refine acI hTT hMX Tryz.func142 Tryz.ntmps142 fun C hC hF => ?_
 refine aw_seq_k fun K hK => wR 2 ?_; refine aX hTT 2 [] tI ?_; refine aops_nil (xt_n (hK _ ?_)); clear hK K; refine aw_seq_k fun K hK => wD 3 ?_; refine aX hTT 1 [] tI ?_
 refine eC (width_ac none h none hh) ?_
 refine aX hTT 7 [] tI ?_; refine aops_nil ⟨kR, ?_⟩; refine xt_n (hK _ ?_); clear hK K
 refine aw_ret ?_
 refine rP (V.b (decide (Prod.snd h - Prod.fst h < Cut.thin c)))
set_option maxRecDepth 100000 in
theorem thin_ns (c : Cut) (l : List Pt) (r per : Int) (h a : Pt) (hh : Ed h) : AC Tryz.prog 142 [.ptr (trC c l r per), gNearV none h (some a)] (.b (thinB c h)) [] := by
 refine acI hTT hMX Tryz.func142 Tryz.ntmps142 fun C hC hF => ?_
 refine aw_seq_k fun K hK => wR 2 ?_; refine aX hTT 2 [] tI ?_; refine aops_nil (xt_n (hK _ ?_)); clear hK K; refine aw_seq_k fun K hK => wD 3 ?_; refine aX hTT 1 [] tI ?_
 refine eC (width_ac none h (some a) hh) ?_
 refine aX hTT 7 [] tI ?_; refine aops_nil ⟨kR, ?_⟩; refine xt_n (hK _ ?_); clear hK K
 refine aw_ret ?_
 refine rP (V.b (decide (Prod.snd h - Prod.fst h < Cut.thin c)))
set_option maxRecDepth 100000 in
theorem thin_sn (c : Cut) (l : List Pt) (r per : Int) (b h : Pt) (hh : Ed h) : AC Tryz.prog 142 [.ptr (trC c l r per), gNearV (some b) h none] (.b (thinB c h)) [] := by
 refine acI hTT hMX Tryz.func142 Tryz.ntmps142 fun C hC hF => ?_
 refine aw_seq_k fun K hK => wR 2 ?_; refine aX hTT 2 [] tI ?_; refine aops_nil (xt_n (hK _ ?_)); clear hK K; refine aw_seq_k fun K hK => wD 3 ?_; refine aX hTT 1 [] tI ?_
 refine eC (width_ac (some b) h none hh) ?_
 refine aX hTT 7 [] tI ?_; refine aops_nil ⟨kR, ?_⟩; refine xt_n (hK _ ?_); clear hK K
 refine aw_ret ?_
 refine rP (V.b (decide (Prod.snd h - Prod.fst h < Cut.thin c)))
set_option maxRecDepth 100000 in
theorem thin_ss (c : Cut) (l : List Pt) (r per : Int) (b h a : Pt) (hh : Ed h) : AC Tryz.prog 142 [.ptr (trC c l r per), gNearV (some b) h (some a)] (.b (thinB c h)) [] := by
 refine acI hTT hMX Tryz.func142 Tryz.ntmps142 fun C hC hF => ?_
 refine aw_seq_k fun K hK => wR 2 ?_; refine aX hTT 2 [] tI ?_; refine aops_nil (xt_n (hK _ ?_)); clear hK K; refine aw_seq_k fun K hK => wD 3 ?_; refine aX hTT 1 [] tI ?_
 refine eC (width_ac (some b) h (some a) hh) ?_
 refine aX hTT 7 [] tI ?_; refine aops_nil ⟨kR, ?_⟩; refine xt_n (hK _ ?_); clear hK K
 refine aw_ret ?_
 refine rP (V.b (decide (Prod.snd h - Prod.fst h < Cut.thin c)))
theorem thin_ac (c : Cut) (l : List Pt) (r per : Int) (b : Option Pt) (h : Pt) (a : Option Pt) (hh : Ed h) : AC Tryz.prog 142 [.ptr (trC c l r per), gNearV b h a] (.b (thinB c h)) [] := by
 cases b with
 | none => cases a with
  | none => exact thin_nn c l r per h hh
  | some a => exact thin_ns c l r per h a hh
 | some b => cases a with
  | none => exact thin_sn c l r per b h hh
  | some a => exact thin_ss c l r per b h a hh
set_option maxRecDepth 100000 in
theorem wide_nn (c : Cut) (l : List Pt) (r per : Int) (h : Pt) (hh : Ed h) : AC Tryz.prog 143 [.ptr (trC c l r per), gNearV none h none] (.b (wideB c h)) [] := by
 refine acI hTT hMX Tryz.func143 Tryz.ntmps143 fun C hC hF => ?_
 refine aw_seq_k fun K hK => wR 2 ?_; refine aX hTT 2 [] tI ?_; refine aops_nil (xt_n (hK _ ?_)); clear hK K; refine aw_seq_k fun K hK => wD 3 ?_; refine aX hTT 1 [] tI ?_
 refine eC (width_ac none h none hh) ?_
 refine aX hTT 7 [] tI ?_; refine aops_nil ⟨kR, ?_⟩; refine xt_n (hK _ ?_); clear hK K
 refine aw_ret ?_
 refine rP (V.b (decide (Cut.wide c < Prod.snd h - Prod.fst h)))
set_option maxRecDepth 100000 in
theorem wide_ns (c : Cut) (l : List Pt) (r per : Int) (h a : Pt) (hh : Ed h) : AC Tryz.prog 143 [.ptr (trC c l r per), gNearV none h (some a)] (.b (wideB c h)) [] := by
 refine acI hTT hMX Tryz.func143 Tryz.ntmps143 fun C hC hF => ?_
 refine aw_seq_k fun K hK => wR 2 ?_; refine aX hTT 2 [] tI ?_; refine aops_nil (xt_n (hK _ ?_)); clear hK K; refine aw_seq_k fun K hK => wD 3 ?_; refine aX hTT 1 [] tI ?_
 refine eC (width_ac none h (some a) hh) ?_
 refine aX hTT 7 [] tI ?_; refine aops_nil ⟨kR, ?_⟩; refine xt_n (hK _ ?_); clear hK K
 refine aw_ret ?_
 refine rP (V.b (decide (Cut.wide c < Prod.snd h - Prod.fst h)))
set_option maxRecDepth 100000 in
theorem wide_sn (c : Cut) (l : List Pt) (r per : Int) (b h : Pt) (hh : Ed h) : AC Tryz.prog 143 [.ptr (trC c l r per), gNearV (some b) h none] (.b (wideB c h)) [] := by
 refine acI hTT hMX Tryz.func143 Tryz.ntmps143 fun C hC hF => ?_
 refine aw_seq_k fun K hK => wR 2 ?_; refine aX hTT 2 [] tI ?_; refine aops_nil (xt_n (hK _ ?_)); clear hK K; refine aw_seq_k fun K hK => wD 3 ?_; refine aX hTT 1 [] tI ?_
 refine eC (width_ac (some b) h none hh) ?_
 refine aX hTT 7 [] tI ?_; refine aops_nil ⟨kR, ?_⟩; refine xt_n (hK _ ?_); clear hK K
 refine aw_ret ?_
 refine rP (V.b (decide (Cut.wide c < Prod.snd h - Prod.fst h)))
set_option maxRecDepth 100000 in
theorem wide_ss (c : Cut) (l : List Pt) (r per : Int) (b h a : Pt) (hh : Ed h) : AC Tryz.prog 143 [.ptr (trC c l r per), gNearV (some b) h (some a)] (.b (wideB c h)) [] := by
 refine acI hTT hMX Tryz.func143 Tryz.ntmps143 fun C hC hF => ?_
 refine aw_seq_k fun K hK => wR 2 ?_; refine aX hTT 2 [] tI ?_; refine aops_nil (xt_n (hK _ ?_)); clear hK K; refine aw_seq_k fun K hK => wD 3 ?_; refine aX hTT 1 [] tI ?_
 refine eC (width_ac (some b) h (some a) hh) ?_
 refine aX hTT 7 [] tI ?_; refine aops_nil ⟨kR, ?_⟩; refine xt_n (hK _ ?_); clear hK K
 refine aw_ret ?_
 refine rP (V.b (decide (Cut.wide c < Prod.snd h - Prod.fst h)))
theorem wide_ac (c : Cut) (l : List Pt) (r per : Int) (b : Option Pt) (h : Pt) (a : Option Pt) (hh : Ed h) : AC Tryz.prog 143 [.ptr (trC c l r per), gNearV b h a] (.b (wideB c h)) [] := by
 cases b with
 | none => cases a with
  | none => exact wide_nn c l r per h hh
  | some a => exact wide_ns c l r per h a hh
 | some b => cases a with
  | none => exact wide_sn c l r per b h hh
  | some a => exact wide_ss c l r per b h a hh
set_option maxRecDepth 100000 in
theorem steep_nn (c : Cut) (l : List Pt) (r per : Int) (h : Pt) (hc : cutE c = 0) (hp : Plc r per) (hb : EdO none) (hh : Ed h) : AC Tryz.prog 144 [.ptr (trC c l r per), gNearV none h none] (.b (steepB c r per none h)) [] := by
 obtain ⟨c1, c2, c3, c4, c5, c6, c7⟩ := cutE_ok.1 hc
 refine acI hTT hMX Tryz.func144 Tryz.ntmps144 fun C hC hF => ?_
 have sb := stepP_bd hb hh
 have m1 := gMul (m := 8388608) (n := 7405568000) (a := stepP none h) (b := 113000 * per) oM (by have := hp.p; omega)
 have m1' : 113000 * per * stepP none h = stepP none h * (113000 * per) := Int.mul_comm _ _
 have m2 := gMul (m := 2977955840) (n := 10000) (a := 710 * r) (b := c.slope) (by have := hp.r; omega) oM
 have hr := hp.r
 have hq := hp.p
 refine aw_seq_k fun K hK => wR 2 ?_; refine aX hTT 2 [] tI ?_; refine aops_nil (xt_n (hK _ ?_)); clear hK K; refine aw_seq_k fun K hK => wD 3 ?_; refine aX hTT 6 [(4, .i ((113000 : Int) * per))] ⟨oM, tI⟩ ?_
 refine eC (step_ac none h none hb hh) ?_
 refine aX hTT 14 [(0, .i ((113000 : Int) * per * stepP none h)), (5, .i ((710 : Int) * r)), (11, .i ((710 : Int) * r * Cut.slope c))] ⟨oM, oM, oM, tI⟩ ?_; refine aops_nil ⟨kR, ?_⟩; refine xt_n (hK _ ?_); clear hK K
 refine aw_ret ?_
 refine rP (V.b (decide ((710 : Int) * r * Cut.slope c < (113000 : Int) * per * stepP none h)))
set_option maxRecDepth 100000 in
theorem steep_ns (c : Cut) (l : List Pt) (r per : Int) (h a : Pt) (hc : cutE c = 0) (hp : Plc r per) (hb : EdO none) (hh : Ed h) : AC Tryz.prog 144 [.ptr (trC c l r per), gNearV none h (some a)] (.b (steepB c r per none h)) [] := by
 obtain ⟨c1, c2, c3, c4, c5, c6, c7⟩ := cutE_ok.1 hc
 refine acI hTT hMX Tryz.func144 Tryz.ntmps144 fun C hC hF => ?_
 have sb := stepP_bd hb hh
 have m1 := gMul (m := 8388608) (n := 7405568000) (a := stepP none h) (b := 113000 * per) oM (by have := hp.p; omega)
 have m1' : 113000 * per * stepP none h = stepP none h * (113000 * per) := Int.mul_comm _ _
 have m2 := gMul (m := 2977955840) (n := 10000) (a := 710 * r) (b := c.slope) (by have := hp.r; omega) oM
 have hr := hp.r
 have hq := hp.p
 refine aw_seq_k fun K hK => wR 2 ?_; refine aX hTT 2 [] tI ?_; refine aops_nil (xt_n (hK _ ?_)); clear hK K; refine aw_seq_k fun K hK => wD 3 ?_; refine aX hTT 6 [(4, .i ((113000 : Int) * per))] ⟨oM, tI⟩ ?_
 refine eC (step_ac none h (some a) hb hh) ?_
 refine aX hTT 14 [(0, .i ((113000 : Int) * per * stepP none h)), (5, .i ((710 : Int) * r)), (11, .i ((710 : Int) * r * Cut.slope c))] ⟨oM, oM, oM, tI⟩ ?_; refine aops_nil ⟨kR, ?_⟩; refine xt_n (hK _ ?_); clear hK K
 refine aw_ret ?_
 refine rP (V.b (decide ((710 : Int) * r * Cut.slope c < (113000 : Int) * per * stepP none h)))
set_option maxRecDepth 100000 in
theorem steep_sn (c : Cut) (l : List Pt) (r per : Int) (b h : Pt) (hc : cutE c = 0) (hp : Plc r per) (hb : EdO (some b)) (hh : Ed h) : AC Tryz.prog 144 [.ptr (trC c l r per), gNearV (some b) h none] (.b (steepB c r per (some b) h)) [] := by
 obtain ⟨c1, c2, c3, c4, c5, c6, c7⟩ := cutE_ok.1 hc
 refine acI hTT hMX Tryz.func144 Tryz.ntmps144 fun C hC hF => ?_
 have sb := stepP_bd hb hh
 have m1 := gMul (m := 8388608) (n := 7405568000) (a := stepP (some b) h) (b := 113000 * per) oM (by have := hp.p; omega)
 have m1' : 113000 * per * stepP (some b) h = stepP (some b) h * (113000 * per) := Int.mul_comm _ _
 have m2 := gMul (m := 2977955840) (n := 10000) (a := 710 * r) (b := c.slope) (by have := hp.r; omega) oM
 have hr := hp.r
 have hq := hp.p
 refine aw_seq_k fun K hK => wR 2 ?_; refine aX hTT 2 [] tI ?_; refine aops_nil (xt_n (hK _ ?_)); clear hK K; refine aw_seq_k fun K hK => wD 3 ?_; refine aX hTT 6 [(4, .i ((113000 : Int) * per))] ⟨oM, tI⟩ ?_
 refine eC (step_ac (some b) h none hb hh) ?_
 refine aX hTT 14 [(0, .i ((113000 : Int) * per * stepP (some b) h)), (5, .i ((710 : Int) * r)), (11, .i ((710 : Int) * r * Cut.slope c))] ⟨oM, oM, oM, tI⟩ ?_; refine aops_nil ⟨kR, ?_⟩; refine xt_n (hK _ ?_); clear hK K
 refine aw_ret ?_
 refine rP (V.b (decide ((710 : Int) * r * Cut.slope c < (113000 : Int) * per * stepP (some b) h)))
set_option maxRecDepth 100000 in
theorem steep_ss (c : Cut) (l : List Pt) (r per : Int) (b h a : Pt) (hc : cutE c = 0) (hp : Plc r per) (hb : EdO (some b)) (hh : Ed h) : AC Tryz.prog 144 [.ptr (trC c l r per), gNearV (some b) h (some a)] (.b (steepB c r per (some b) h)) [] := by
 obtain ⟨c1, c2, c3, c4, c5, c6, c7⟩ := cutE_ok.1 hc
 refine acI hTT hMX Tryz.func144 Tryz.ntmps144 fun C hC hF => ?_
 have sb := stepP_bd hb hh
 have m1 := gMul (m := 8388608) (n := 7405568000) (a := stepP (some b) h) (b := 113000 * per) oM (by have := hp.p; omega)
 have m1' : 113000 * per * stepP (some b) h = stepP (some b) h * (113000 * per) := Int.mul_comm _ _
 have m2 := gMul (m := 2977955840) (n := 10000) (a := 710 * r) (b := c.slope) (by have := hp.r; omega) oM
 have hr := hp.r
 have hq := hp.p
 refine aw_seq_k fun K hK => wR 2 ?_; refine aX hTT 2 [] tI ?_; refine aops_nil (xt_n (hK _ ?_)); clear hK K; refine aw_seq_k fun K hK => wD 3 ?_; refine aX hTT 6 [(4, .i ((113000 : Int) * per))] ⟨oM, tI⟩ ?_
 refine eC (step_ac (some b) h (some a) hb hh) ?_
 refine aX hTT 14 [(0, .i ((113000 : Int) * per * stepP (some b) h)), (5, .i ((710 : Int) * r)), (11, .i ((710 : Int) * r * Cut.slope c))] ⟨oM, oM, oM, tI⟩ ?_; refine aops_nil ⟨kR, ?_⟩; refine xt_n (hK _ ?_); clear hK K
 refine aw_ret ?_
 refine rP (V.b (decide ((710 : Int) * r * Cut.slope c < (113000 : Int) * per * stepP (some b) h)))
theorem steep_ac (c : Cut) (l : List Pt) (r per : Int) (b : Option Pt) (h : Pt) (a : Option Pt) (hc : cutE c = 0) (hp : Plc r per) (hb : EdO b) (hh : Ed h) : AC Tryz.prog 144 [.ptr (trC c l r per), gNearV b h a] (.b (steepB c r per b h)) [] := by
 cases b with
 | none => cases a with
  | none => exact steep_nn c l r per h hc hp hb hh
  | some a => exact steep_ns c l r per h a hc hp hb hh
 | some b => cases a with
  | none => exact steep_sn c l r per b h hc hp hb hh
  | some a => exact steep_ss c l r per b h a hc hp hb hh
set_option maxRecDepth 100000 in
theorem sudden_nn (c : Cut) (l : List Pt) (r per : Int) (h : Pt) (hb : EdO none) (hh : Ed h) (ha : EdO none) : AC Tryz.prog 145 [.ptr (trC c l r per), gNearV none h none] (.b (suddenB c none h none)) [] := by
 refine acI hTT hMX Tryz.func145 Tryz.ntmps145 fun C hC hF => ?_
 refine aw_seq_k fun K hK => wR 2 ?_; refine aX hTT 2 [] tI ?_; refine aops_nil (xt_n (hK _ ?_)); clear hK K; refine aw_seq_k fun K hK => wD 3 ?_; refine aX hTT 1 [] tI ?_
 refine eC (bend_ac none h none hb hh ha) ?_
 refine aX hTT 7 [] tI ?_; refine aops_nil ⟨kR, ?_⟩; refine xt_n (hK _ ?_); clear hK K
 refine aw_ret ?_
 refine rP (V.b (decide (Cut.jerk c < bendP none h none)))
set_option maxRecDepth 100000 in
theorem sudden_ns (c : Cut) (l : List Pt) (r per : Int) (h a : Pt) (hb : EdO none) (hh : Ed h) (ha : EdO (some a)) : AC Tryz.prog 145 [.ptr (trC c l r per), gNearV none h (some a)] (.b (suddenB c none h (some a))) [] := by
 refine acI hTT hMX Tryz.func145 Tryz.ntmps145 fun C hC hF => ?_
 refine aw_seq_k fun K hK => wR 2 ?_; refine aX hTT 2 [] tI ?_; refine aops_nil (xt_n (hK _ ?_)); clear hK K; refine aw_seq_k fun K hK => wD 3 ?_; refine aX hTT 1 [] tI ?_
 refine eC (bend_ac none h (some a) hb hh ha) ?_
 refine aX hTT 7 [] tI ?_; refine aops_nil ⟨kR, ?_⟩; refine xt_n (hK _ ?_); clear hK K
 refine aw_ret ?_
 refine rP (V.b (decide (Cut.jerk c < bendP none h (some a))))
set_option maxRecDepth 100000 in
theorem sudden_sn (c : Cut) (l : List Pt) (r per : Int) (b h : Pt) (hb : EdO (some b)) (hh : Ed h) (ha : EdO none) : AC Tryz.prog 145 [.ptr (trC c l r per), gNearV (some b) h none] (.b (suddenB c (some b) h none)) [] := by
 refine acI hTT hMX Tryz.func145 Tryz.ntmps145 fun C hC hF => ?_
 refine aw_seq_k fun K hK => wR 2 ?_; refine aX hTT 2 [] tI ?_; refine aops_nil (xt_n (hK _ ?_)); clear hK K; refine aw_seq_k fun K hK => wD 3 ?_; refine aX hTT 1 [] tI ?_
 refine eC (bend_ac (some b) h none hb hh ha) ?_
 refine aX hTT 7 [] tI ?_; refine aops_nil ⟨kR, ?_⟩; refine xt_n (hK _ ?_); clear hK K
 refine aw_ret ?_
 refine rP (V.b (decide (Cut.jerk c < bendP (some b) h none)))
set_option maxRecDepth 100000 in
theorem sudden_ss (c : Cut) (l : List Pt) (r per : Int) (b h a : Pt) (hb : EdO (some b)) (hh : Ed h) (ha : EdO (some a)) : AC Tryz.prog 145 [.ptr (trC c l r per), gNearV (some b) h (some a)] (.b (suddenB c (some b) h (some a))) [] := by
 refine acI hTT hMX Tryz.func145 Tryz.ntmps145 fun C hC hF => ?_
 refine aw_seq_k fun K hK => wR 2 ?_; refine aX hTT 2 [] tI ?_; refine aops_nil (xt_n (hK _ ?_)); clear hK K; refine aw_seq_k fun K hK => wD 3 ?_; refine aX hTT 1 [] tI ?_
 refine eC (bend_ac (some b) h (some a) hb hh ha) ?_
 refine aX hTT 7 [] tI ?_; refine aops_nil ⟨kR, ?_⟩; refine xt_n (hK _ ?_); clear hK K
 refine aw_ret ?_
 refine rP (V.b (decide (Cut.jerk c < bendP (some b) h (some a))))
theorem sudden_ac (c : Cut) (l : List Pt) (r per : Int) (b : Option Pt) (h : Pt) (a : Option Pt) (hb : EdO b) (hh : Ed h) (ha : EdO a) : AC Tryz.prog 145 [.ptr (trC c l r per), gNearV b h a] (.b (suddenB c b h a)) [] := by
 cases b with
 | none => cases a with
  | none => exact sudden_nn c l r per h hb hh ha
  | some a => exact sudden_ns c l r per h a hb hh ha
 | some b => cases a with
  | none => exact sudden_sn c l r per b h hb hh ha
  | some a => exact sudden_ss c l r per b h a hb hh ha
set_option maxRecDepth 100000 in
theorem sharp_nn (c : Cut) (l : List Pt) (r per : Int) (h : Pt) (hc : cutE c = 0) (hp : Plc r per) (hb : EdO none) (hh : Ed h) (ha : EdO none) : AC Tryz.prog 146 [.ptr (trC c l r per), gNearV none h none] (.b (sharpB c r per none h none)) [] := by
 obtain ⟨c1, c2, c3, c4, c5, c6, c7⟩ := cutE_ok.1 hc
 refine acI hTT hMX Tryz.func146 Tryz.ntmps146 fun C hC hF => ?_
 have sb := bendP_bd hb hh ha
 have m1 := gMul (m := 16777216) (n := 1024) (a := bendP none h none) (b := c.sty) oM oM
 refine aw_seq_k fun K hK => wR 2 ?_; refine aX hTT 2 [] tI ?_; refine aops_nil (xt_n (hK _ ?_)); clear hK K; refine aw_seq_k fun K hK => wD 3 ?_; refine aX hTT 1 [] tI ?_
 refine eC (bend_ac none h none hb hh ha) ?_
 refine aX hTT 7 [(5, .i (bendP none h none * Cut.sty c))] ⟨oM, tI⟩ ?_
 refine eC (gArc_ac c l r per hp) ?_
 refine aX hTT 2 [] tI ?_; refine aops_nil ⟨kR, ?_⟩; refine xt_n (hK _ ?_); clear hK K
 refine aw_ret ?_
 refine rP (V.b (decide (gArc r per < bendP none h none * Cut.sty c)))
set_option maxRecDepth 100000 in
theorem sharp_ns (c : Cut) (l : List Pt) (r per : Int) (h a : Pt) (hc : cutE c = 0) (hp : Plc r per) (hb : EdO none) (hh : Ed h) (ha : EdO (some a)) : AC Tryz.prog 146 [.ptr (trC c l r per), gNearV none h (some a)] (.b (sharpB c r per none h (some a))) [] := by
 obtain ⟨c1, c2, c3, c4, c5, c6, c7⟩ := cutE_ok.1 hc
 refine acI hTT hMX Tryz.func146 Tryz.ntmps146 fun C hC hF => ?_
 have sb := bendP_bd hb hh ha
 have m1 := gMul (m := 16777216) (n := 1024) (a := bendP none h (some a)) (b := c.sty) oM oM
 refine aw_seq_k fun K hK => wR 2 ?_; refine aX hTT 2 [] tI ?_; refine aops_nil (xt_n (hK _ ?_)); clear hK K; refine aw_seq_k fun K hK => wD 3 ?_; refine aX hTT 1 [] tI ?_
 refine eC (bend_ac none h (some a) hb hh ha) ?_
 refine aX hTT 7 [(5, .i (bendP none h (some a) * Cut.sty c))] ⟨oM, tI⟩ ?_
 refine eC (gArc_ac c l r per hp) ?_
 refine aX hTT 2 [] tI ?_; refine aops_nil ⟨kR, ?_⟩; refine xt_n (hK _ ?_); clear hK K
 refine aw_ret ?_
 refine rP (V.b (decide (gArc r per < bendP none h (some a) * Cut.sty c)))
set_option maxRecDepth 100000 in
theorem sharp_sn (c : Cut) (l : List Pt) (r per : Int) (b h : Pt) (hc : cutE c = 0) (hp : Plc r per) (hb : EdO (some b)) (hh : Ed h) (ha : EdO none) : AC Tryz.prog 146 [.ptr (trC c l r per), gNearV (some b) h none] (.b (sharpB c r per (some b) h none)) [] := by
 obtain ⟨c1, c2, c3, c4, c5, c6, c7⟩ := cutE_ok.1 hc
 refine acI hTT hMX Tryz.func146 Tryz.ntmps146 fun C hC hF => ?_
 have sb := bendP_bd hb hh ha
 have m1 := gMul (m := 16777216) (n := 1024) (a := bendP (some b) h none) (b := c.sty) oM oM
 refine aw_seq_k fun K hK => wR 2 ?_; refine aX hTT 2 [] tI ?_; refine aops_nil (xt_n (hK _ ?_)); clear hK K; refine aw_seq_k fun K hK => wD 3 ?_; refine aX hTT 1 [] tI ?_
 refine eC (bend_ac (some b) h none hb hh ha) ?_
 refine aX hTT 7 [(5, .i (bendP (some b) h none * Cut.sty c))] ⟨oM, tI⟩ ?_
 refine eC (gArc_ac c l r per hp) ?_
 refine aX hTT 2 [] tI ?_; refine aops_nil ⟨kR, ?_⟩; refine xt_n (hK _ ?_); clear hK K
 refine aw_ret ?_
 refine rP (V.b (decide (gArc r per < bendP (some b) h none * Cut.sty c)))
set_option maxRecDepth 100000 in
theorem sharp_ss (c : Cut) (l : List Pt) (r per : Int) (b h a : Pt) (hc : cutE c = 0) (hp : Plc r per) (hb : EdO (some b)) (hh : Ed h) (ha : EdO (some a)) : AC Tryz.prog 146 [.ptr (trC c l r per), gNearV (some b) h (some a)] (.b (sharpB c r per (some b) h (some a))) [] := by
 obtain ⟨c1, c2, c3, c4, c5, c6, c7⟩ := cutE_ok.1 hc
 refine acI hTT hMX Tryz.func146 Tryz.ntmps146 fun C hC hF => ?_
 have sb := bendP_bd hb hh ha
 have m1 := gMul (m := 16777216) (n := 1024) (a := bendP (some b) h (some a)) (b := c.sty) oM oM
 refine aw_seq_k fun K hK => wR 2 ?_; refine aX hTT 2 [] tI ?_; refine aops_nil (xt_n (hK _ ?_)); clear hK K; refine aw_seq_k fun K hK => wD 3 ?_; refine aX hTT 1 [] tI ?_
 refine eC (bend_ac (some b) h (some a) hb hh ha) ?_
 refine aX hTT 7 [(5, .i (bendP (some b) h (some a) * Cut.sty c))] ⟨oM, tI⟩ ?_
 refine eC (gArc_ac c l r per hp) ?_
 refine aX hTT 2 [] tI ?_; refine aops_nil ⟨kR, ?_⟩; refine xt_n (hK _ ?_); clear hK K
 refine aw_ret ?_
 refine rP (V.b (decide (gArc r per < bendP (some b) h (some a) * Cut.sty c)))
theorem sharp_ac (c : Cut) (l : List Pt) (r per : Int) (b : Option Pt) (h : Pt) (a : Option Pt) (hc : cutE c = 0) (hp : Plc r per) (hb : EdO b) (hh : Ed h) (ha : EdO a) : AC Tryz.prog 146 [.ptr (trC c l r per), gNearV b h a] (.b (sharpB c r per b h a)) [] := by
 cases b with
 | none => cases a with
  | none => exact sharp_nn c l r per h hc hp hb hh ha
  | some a => exact sharp_ns c l r per h a hc hp hb hh ha
 | some b => cases a with
  | none => exact sharp_sn c l r per b h hc hp hb hh ha
  | some a => exact sharp_ss c l r per b h a hc hp hb hh ha
theorem ruleP_at {c : Cut} {r per : Int} {b : Option Pt} {h : Pt} {a : Option Pt} {j : Nat} (h1 : 1 ≤ j) (h5 : j ≤ 5) (hj : ∀ i, 1 ≤ i → i < j → ruleB c r per b h a i = false) (q : ruleB c r per b h a j = true) : ruleP c r per b h a = (j : Int) := by
 have e1 := fun h => hj 1 oM h
 have e2 := fun h => hj 2 oM h
 have e3 := fun h => hj 3 oM h
 have e4 := fun h => hj 4 oM h
 simp only [ruleB] at e1 e2 e3 e4
 rcases (by omega : j = 1 ∨ j = 2 ∨ j = 3 ∨ j = 4 ∨ j = 5) with rfl | rfl | rfl | rfl | rfl <;> simp only [ruleB] at q <;> simp [ruleP, q, e1, e2, e3, e4]
theorem ruleP_no {c : Cut} {r per : Int} {b : Option Pt} {h : Pt} {a : Option Pt} (hj : ∀ i, 1 ≤ i → i ≤ 5 → ruleB c r per b h a i = false) : ruleP c r per b h a = 0 := by
 have e1 := hj 1 oM oM
 have e2 := hj 2 oM oM
 have e3 := hj 3 oM oM
 have e4 := hj 4 oM oM
 have e5 := hj 5 oM oM
 simp only [ruleB] at e1 e2 e3 e4 e5
 simp [ruleP, e1, e2, e3, e4, e5]
abbrev qGA30 : Prop := (0 : Int) ≤ (1 : Int) ∧ (1 : Int) < (↑(6 : Nat) : Int)
theorem qGA30_ : qGA30 := oM
abbrev qGA31 : Prop := (0 : Int) ≤ (2 : Int) ∧ (2 : Int) < (↑(6 : Nat) : Int)
theorem qGA31_ : qGA31 := oM
abbrev qGA32 : Prop := (0 : Int) ≤ (3 : Int) ∧ (3 : Int) < (↑(6 : Nat) : Int)
theorem qGA32_ : qGA32 := oM
abbrev qGA33 : Prop := (0 : Int) ≤ (4 : Int) ∧ (4 : Int) < (↑(6 : Nat) : Int)
theorem qGA33_ : qGA33 := oM
abbrev qGA34 : Prop := (0 : Int) ≤ (5 : Int) ∧ (5 : Int) < (↑(6 : Nat) : Int)
theorem qGA34_ : qGA34 := oM
abbrev yyGA30 : List V := [V.c Value.nilFunc, V.fn (Fn.func (142 : Nat)) [] [], V.fn (Fn.func (143 : Nat)) [] [], V.fn (Fn.func (144 : Nat)) [] [], V.fn (Fn.func (145 : Nat)) [] [], V.fn (Fn.func (146 : Nat)) [] []]
set_option maxRecDepth 100000 in
theorem rule_nn (c : Cut) (l : List Pt) (r per : Int) (h : Pt) (hc : cutE c = 0) (hp : Plc r per) (hb : EdO none) (hh : Ed h) (ha : EdO none) : AC Tryz.prog 112 [.ptr (trC c l r per), gNearV none h none] (.i (ruleP c r per none h none)) [] := by
 refine acI hTT hMX Tryz.func112 Tryz.ntmps112 fun C hC hF => ?_
 refine aw_seq_k fun K hK => wR 2 ?_; refine aX hTT 2 [] tI ?_; refine aops_nil (xt_n (hK _ ?_)); clear hK K; refine aw_seq_k fun K hK => wR 3 ?_; refine aX hTT 3 [(1, .r (pn 5 (V.ref 200005 0) (200005 : Nat) (Ob.box 261 [V.c Value.nilFunc, V.c Value.nilFunc, V.c Value.nilFunc, V.c Value.nilFunc, V.c Value.nilFunc, V.c Value.nilFunc]))), (2, .r (pw ((0 : Nat) + (6 : Nat) ≤ (6 : Nat)) (200005 : Nat) (Ob.box 261 yyGA30)))] ⟨oM, tI⟩ ?_; refine aops_nil (xt_n (hK _ ?_)); clear hK K; refine aw_seq_k fun K hK => ?_; refine aw_seq_k fun K hK => wR 4 ?_; refine aX hTT 1 [] tI ?_; refine aops_nil (xt_n (hK _ ?_)); clear hK K
 refine aw_block ?_
 refine w_le (le_freezeBox (t := (261 : Nat)) (cs := yyGA30) 200005 kR kR) ?_
 refine w_loop (ι := Nat) (fun k => [(0, .ptr (trC c l r per)), (3, .ptr [optP none, .ptr [.i h.1, .i h.2], optP none]), (5, .ptr [.c .nilFunc, .fn (.func 142) [] [], .fn (.func 143) [] [], .fn (.func 144) [] [], .fn (.func 145) [] [], .fn (.func 146) [] []]), (6, .i ((k : Int) + 1))]) (fun _ => []) (fun k => k ≤ 5 ∧ ∀ j, 1 ≤ j → j ≤ k → ruleB c r per none h none j = false) (fun k => 5 - k) 0 ⟨by decide, fun j h1 h2 => by omega⟩ ?_ ?_
 ·
  refine le_ren [] (.cons kR (.cons kR (.cons kR (.cons kR .nil)))) .nil kR kR
 rintro k ⟨hk, hj⟩
 rcases (by omega : k = 0 ∨ k = 1 ∨ k = 2 ∨ k = 3 ∨ k = 4 ∨ k = 5) with rfl | rfl | rfl | rfl | rfl | rfl
 ·
  refine aw_seq_k fun K hK => ?_
  refine aw_seq_k fun K hK => wR 2 ?_; refine aX hTT 2 [] tI ?_; refine aops_nil (xt_n (hK _ ?_)); clear hK K; refine w_true (t := true) kR rfl ?_
  refine aw_skip ?_
  refine xt_n (hK _ ?_); clear hK K; refine aw_seq_k fun K hK => ?_
  refine aw_block ?_
  refine aw_seq_k fun K hK => wD 3 ?_; refine aX hTT 5 [(1, .c qGA30)] ⟨qGA30_, tI⟩ ?_
  refine eC (thin_ac c l r per none h none hh) ?_
  refine aops_nil ⟨kR, ?_⟩; refine xt_n (hK _ ?_); clear hK K
  refine w_cond (t := thinB c h) kR (fun q => ?_) (fun q => ?_)
  ·
   refine aw_seq_k fun K hK => ?_
   refine wR 4 ?_; refine aX hTT 2 [] tI ?_; refine aops_nil (xt_n (hK _ ?_)); clear hK K
   refine aw_ret ?_
   refine xb_r ?_
   refine xt_r ?_; refine xt_r ?_
   refine xb_r ?_
   refine xt_r ?_
   rw [ruleP_at (j := 1) (by decide) (by decide) (fun j h1 h2 => hj j h1 oM) q]
   refine rP (V.i 1)
  ·
   refine aw_skip ?_
   refine xb_n ?_; refine xt_n (hK _ ?_); clear hK K; refine wR 4 ?_; refine aX hTT 3 [(1, .i ((1 : Int) + (1 : Int)))] ⟨oM, tI⟩ ?_; refine aops_nil ?_; refine xt_n ?_
   refine ⟨1, ⟨by decide, fun j h1 h2 => ?_⟩, by refine le_ren [] (.cons kR (.cons kR (.cons kR (.cons kR .nil)))) .nil kR kR, by decide⟩
   rcases Nat.lt_or_ge j 1 with h3 | h3
   ·
    exact hj j h1 oM
   ·
    obtain rfl : j = 1 := by omega
    exact q
 ·
  refine aw_seq_k fun K hK => ?_
  refine aw_seq_k fun K hK => wR 2 ?_; refine aX hTT 2 [] tI ?_; refine aops_nil (xt_n (hK _ ?_)); clear hK K; refine w_true (t := true) kR rfl ?_
  refine aw_skip ?_
  refine xt_n (hK _ ?_); clear hK K; refine aw_seq_k fun K hK => ?_
  refine aw_block ?_
  refine aw_seq_k fun K hK => wD 3 ?_; refine aX hTT 5 [(1, .c qGA31)] ⟨qGA31_, tI⟩ ?_
  refine eC (wide_ac c l r per none h none hh) ?_
  refine aops_nil ⟨kR, ?_⟩; refine xt_n (hK _ ?_); clear hK K
  refine w_cond (t := wideB c h) kR (fun q => ?_) (fun q => ?_)
  ·
   refine aw_seq_k fun K hK => ?_
   refine wR 4 ?_; refine aX hTT 2 [] tI ?_; refine aops_nil (xt_n (hK _ ?_)); clear hK K
   refine aw_ret ?_
   refine xb_r ?_
   refine xt_r ?_; refine xt_r ?_
   refine xb_r ?_
   refine xt_r ?_
   rw [ruleP_at (j := 2) (by decide) (by decide) (fun j h1 h2 => hj j h1 oM) q]
   refine rP (V.i 2)
  ·
   refine aw_skip ?_
   refine xb_n ?_; refine xt_n (hK _ ?_); clear hK K; refine wR 4 ?_; refine aX hTT 3 [(1, .i ((2 : Int) + (1 : Int)))] ⟨oM, tI⟩ ?_; refine aops_nil ?_; refine xt_n ?_
   refine ⟨2, ⟨by decide, fun j h1 h2 => ?_⟩, by refine le_ren [] (.cons kR (.cons kR (.cons kR (.cons kR .nil)))) .nil kR kR, by decide⟩
   rcases Nat.lt_or_ge j 2 with h3 | h3
   ·
    exact hj j h1 oM
   ·
    obtain rfl : j = 2 := by omega
    exact q
 ·
  refine aw_seq_k fun K hK => ?_
  refine aw_seq_k fun K hK => wR 2 ?_; refine aX hTT 2 [] tI ?_; refine aops_nil (xt_n (hK _ ?_)); clear hK K; refine w_true (t := true) kR rfl ?_
  refine aw_skip ?_
  refine xt_n (hK _ ?_); clear hK K; refine aw_seq_k fun K hK => ?_
  refine aw_block ?_
  refine aw_seq_k fun K hK => wD 3 ?_; refine aX hTT 5 [(1, .c qGA32)] ⟨qGA32_, tI⟩ ?_
  refine eC (steep_ac c l r per none h none hc hp hb hh) ?_
  refine aops_nil ⟨kR, ?_⟩; refine xt_n (hK _ ?_); clear hK K
  refine w_cond (t := steepB c r per none h) kR (fun q => ?_) (fun q => ?_)
  ·
   refine aw_seq_k fun K hK => ?_
   refine wR 4 ?_; refine aX hTT 2 [] tI ?_; refine aops_nil (xt_n (hK _ ?_)); clear hK K
   refine aw_ret ?_
   refine xb_r ?_
   refine xt_r ?_; refine xt_r ?_
   refine xb_r ?_
   refine xt_r ?_
   rw [ruleP_at (j := 3) (by decide) (by decide) (fun j h1 h2 => hj j h1 oM) q]
   refine rP (V.i 3)
  ·
   refine aw_skip ?_
   refine xb_n ?_; refine xt_n (hK _ ?_); clear hK K; refine wR 4 ?_; refine aX hTT 3 [(1, .i ((3 : Int) + (1 : Int)))] ⟨oM, tI⟩ ?_; refine aops_nil ?_; refine xt_n ?_
   refine ⟨3, ⟨by decide, fun j h1 h2 => ?_⟩, by refine le_ren [] (.cons kR (.cons kR (.cons kR (.cons kR .nil)))) .nil kR kR, by decide⟩
   rcases Nat.lt_or_ge j 3 with h3 | h3
   ·
    exact hj j h1 oM
   ·
    obtain rfl : j = 3 := by omega
    exact q
 ·
  refine aw_seq_k fun K hK => ?_
  refine aw_seq_k fun K hK => wR 2 ?_; refine aX hTT 2 [] tI ?_; refine aops_nil (xt_n (hK _ ?_)); clear hK K; refine w_true (t := true) kR rfl ?_
  refine aw_skip ?_
  refine xt_n (hK _ ?_); clear hK K; refine aw_seq_k fun K hK => ?_
  refine aw_block ?_
  refine aw_seq_k fun K hK => wD 3 ?_; refine aX hTT 5 [(1, .c qGA33)] ⟨qGA33_, tI⟩ ?_
  refine eC (sudden_ac c l r per none h none hb hh ha) ?_
  refine aops_nil ⟨kR, ?_⟩; refine xt_n (hK _ ?_); clear hK K
  refine w_cond (t := suddenB c none h none) kR (fun q => ?_) (fun q => ?_)
  ·
   refine aw_seq_k fun K hK => ?_
   refine wR 4 ?_; refine aX hTT 2 [] tI ?_; refine aops_nil (xt_n (hK _ ?_)); clear hK K
   refine aw_ret ?_
   refine xb_r ?_
   refine xt_r ?_; refine xt_r ?_
   refine xb_r ?_
   refine xt_r ?_
   rw [ruleP_at (j := 4) (by decide) (by decide) (fun j h1 h2 => hj j h1 oM) q]
   refine rP (V.i 4)
  ·
   refine aw_skip ?_
   refine xb_n ?_; refine xt_n (hK _ ?_); clear hK K; refine wR 4 ?_; refine aX hTT 3 [(1, .i ((4 : Int) + (1 : Int)))] ⟨oM, tI⟩ ?_; refine aops_nil ?_; refine xt_n ?_
   refine ⟨4, ⟨by decide, fun j h1 h2 => ?_⟩, by refine le_ren [] (.cons kR (.cons kR (.cons kR (.cons kR .nil)))) .nil kR kR, by decide⟩
   rcases Nat.lt_or_ge j 4 with h3 | h3
   ·
    exact hj j h1 oM
   ·
    obtain rfl : j = 4 := by omega
    exact q
 ·
  refine aw_seq_k fun K hK => ?_
  refine aw_seq_k fun K hK => wR 2 ?_; refine aX hTT 2 [] tI ?_; refine aops_nil (xt_n (hK _ ?_)); clear hK K; refine w_true (t := true) kR rfl ?_
  refine aw_skip ?_
  refine xt_n (hK _ ?_); clear hK K; refine aw_seq_k fun K hK => ?_
  refine aw_block ?_
  refine aw_seq_k fun K hK => wD 3 ?_; refine aX hTT 5 [(1, .c qGA34)] ⟨qGA34_, tI⟩ ?_
  refine eC (sharp_ac c l r per none h none hc hp hb hh ha) ?_
  refine aops_nil ⟨kR, ?_⟩; refine xt_n (hK _ ?_); clear hK K
  refine w_cond (t := sharpB c r per none h none) kR (fun q => ?_) (fun q => ?_)
  ·
   refine aw_seq_k fun K hK => ?_
   refine wR 4 ?_; refine aX hTT 2 [] tI ?_; refine aops_nil (xt_n (hK _ ?_)); clear hK K
   refine aw_ret ?_
   refine xb_r ?_
   refine xt_r ?_; refine xt_r ?_
   refine xb_r ?_
   refine xt_r ?_
   rw [ruleP_at (j := 5) (by decide) (by decide) (fun j h1 h2 => hj j h1 oM) q]
   refine rP (V.i 5)
  ·
   refine aw_skip ?_
   refine xb_n ?_; refine xt_n (hK _ ?_); clear hK K; refine wR 4 ?_; refine aX hTT 3 [(1, .i ((5 : Int) + (1 : Int)))] ⟨oM, tI⟩ ?_; refine aops_nil ?_; refine xt_n ?_
   refine ⟨5, ⟨by decide, fun j h1 h2 => ?_⟩, by refine le_ren [] (.cons kR (.cons kR (.cons kR (.cons kR .nil)))) .nil kR kR, by decide⟩
   rcases Nat.lt_or_ge j 5 with h3 | h3
   ·
    exact hj j h1 oM
   ·
    obtain rfl : j = 5 := by omega
    exact q
 ·
  refine aw_seq_k fun K hK => ?_
  refine aw_seq_k fun K hK => wR 2 ?_; refine aX hTT 2 [] tI ?_; refine aops_nil (xt_n (hK _ ?_)); clear hK K; refine w_false (t := false) kR rfl ?_
  refine aw_exit ?_
  refine xt_x ?_; refine xt_x ?_
  refine xb_same ?_
  refine xt_n ?_; clear hK K; refine hK _ ?_; clear hK K; refine aw_seq_k fun K hK => wR 3 ?_; refine aX hTT 1 [] tI ?_; refine aops_nil (xt_n (hK _ ?_)); clear hK K
  refine aw_ret ?_
  rw [ruleP_no fun j h1 h2 => hj j h1 h2]
  refine rP (V.i 0)
set_option maxRecDepth 100000 in
theorem rule_ns (c : Cut) (l : List Pt) (r per : Int) (h a : Pt) (hc : cutE c = 0) (hp : Plc r per) (hb : EdO none) (hh : Ed h) (ha : EdO (some a)) : AC Tryz.prog 112 [.ptr (trC c l r per), gNearV none h (some a)] (.i (ruleP c r per none h (some a))) [] := by
 refine acI hTT hMX Tryz.func112 Tryz.ntmps112 fun C hC hF => ?_
 refine aw_seq_k fun K hK => wR 2 ?_; refine aX hTT 2 [] tI ?_; refine aops_nil (xt_n (hK _ ?_)); clear hK K; refine aw_seq_k fun K hK => wR 3 ?_; refine aX hTT 3 [(1, .r (pn 5 (V.ref 200005 0) (200005 : Nat) (Ob.box 261 [V.c Value.nilFunc, V.c Value.nilFunc, V.c Value.nilFunc, V.c Value.nilFunc, V.c Value.nilFunc, V.c Value.nilFunc]))), (2, .r (pw ((0 : Nat) + (6 : Nat) ≤ (6 : Nat)) (200005 : Nat) (Ob.box 261 yyGA30)))] ⟨oM, tI⟩ ?_; refine aops_nil (xt_n (hK _ ?_)); clear hK K; refine aw_seq_k fun K hK => ?_; refine aw_seq_k fun K hK => wR 4 ?_; refine aX hTT 1 [] tI ?_; refine aops_nil (xt_n (hK _ ?_)); clear hK K
 refine aw_block ?_
 refine w_le (le_freezeBox (t := (261 : Nat)) (cs := yyGA30) 200005 kR kR) ?_
 refine w_loop (ι := Nat) (fun k => [(0, .ptr (trC c l r per)), (3, .ptr [optP none, .ptr [.i h.1, .i h.2], optP (some a)]), (5, .ptr [.c .nilFunc, .fn (.func 142) [] [], .fn (.func 143) [] [], .fn (.func 144) [] [], .fn (.func 145) [] [], .fn (.func 146) [] []]), (6, .i ((k : Int) + 1))]) (fun _ => []) (fun k => k ≤ 5 ∧ ∀ j, 1 ≤ j → j ≤ k → ruleB c r per none h (some a) j = false) (fun k => 5 - k) 0 ⟨by decide, fun j h1 h2 => by omega⟩ ?_ ?_
 ·
  refine le_ren [] (.cons kR (.cons kR (.cons kR (.cons kR .nil)))) .nil kR kR
 rintro k ⟨hk, hj⟩
 rcases (by omega : k = 0 ∨ k = 1 ∨ k = 2 ∨ k = 3 ∨ k = 4 ∨ k = 5) with rfl | rfl | rfl | rfl | rfl | rfl
 ·
  refine aw_seq_k fun K hK => ?_
  refine aw_seq_k fun K hK => wR 2 ?_; refine aX hTT 2 [] tI ?_; refine aops_nil (xt_n (hK _ ?_)); clear hK K; refine w_true (t := true) kR rfl ?_
  refine aw_skip ?_
  refine xt_n (hK _ ?_); clear hK K; refine aw_seq_k fun K hK => ?_
  refine aw_block ?_
  refine aw_seq_k fun K hK => wD 3 ?_; refine aX hTT 5 [(1, .c qGA30)] ⟨qGA30_, tI⟩ ?_
  refine eC (thin_ac c l r per none h (some a) hh) ?_
  refine aops_nil ⟨kR, ?_⟩; refine xt_n (hK _ ?_); clear hK K
  refine w_cond (t := thinB c h) kR (fun q => ?_) (fun q => ?_)
  ·
   refine aw_seq_k fun K hK => ?_
   refine wR 4 ?_; refine aX hTT 2 [] tI ?_; refine aops_nil (xt_n (hK _ ?_)); clear hK K
   refine aw_ret ?_
   refine xb_r ?_
   refine xt_r ?_; refine xt_r ?_
   refine xb_r ?_
   refine xt_r ?_
   rw [ruleP_at (j := 1) (by decide) (by decide) (fun j h1 h2 => hj j h1 oM) q]
   refine rP (V.i 1)
  ·
   refine aw_skip ?_
   refine xb_n ?_; refine xt_n (hK _ ?_); clear hK K; refine wR 4 ?_; refine aX hTT 3 [(1, .i ((1 : Int) + (1 : Int)))] ⟨oM, tI⟩ ?_; refine aops_nil ?_; refine xt_n ?_
   refine ⟨1, ⟨by decide, fun j h1 h2 => ?_⟩, by refine le_ren [] (.cons kR (.cons kR (.cons kR (.cons kR .nil)))) .nil kR kR, by decide⟩
   rcases Nat.lt_or_ge j 1 with h3 | h3
   ·
    exact hj j h1 oM
   ·
    obtain rfl : j = 1 := by omega
    exact q
 ·
  refine aw_seq_k fun K hK => ?_
  refine aw_seq_k fun K hK => wR 2 ?_; refine aX hTT 2 [] tI ?_; refine aops_nil (xt_n (hK _ ?_)); clear hK K; refine w_true (t := true) kR rfl ?_
  refine aw_skip ?_
  refine xt_n (hK _ ?_); clear hK K; refine aw_seq_k fun K hK => ?_
  refine aw_block ?_
  refine aw_seq_k fun K hK => wD 3 ?_; refine aX hTT 5 [(1, .c qGA31)] ⟨qGA31_, tI⟩ ?_
  refine eC (wide_ac c l r per none h (some a) hh) ?_
  refine aops_nil ⟨kR, ?_⟩; refine xt_n (hK _ ?_); clear hK K
  refine w_cond (t := wideB c h) kR (fun q => ?_) (fun q => ?_)
  ·
   refine aw_seq_k fun K hK => ?_
   refine wR 4 ?_; refine aX hTT 2 [] tI ?_; refine aops_nil (xt_n (hK _ ?_)); clear hK K
   refine aw_ret ?_
   refine xb_r ?_
   refine xt_r ?_; refine xt_r ?_
   refine xb_r ?_
   refine xt_r ?_
   rw [ruleP_at (j := 2) (by decide) (by decide) (fun j h1 h2 => hj j h1 oM) q]
   refine rP (V.i 2)
  ·
   refine aw_skip ?_
   refine xb_n ?_; refine xt_n (hK _ ?_); clear hK K; refine wR 4 ?_; refine aX hTT 3 [(1, .i ((2 : Int) + (1 : Int)))] ⟨oM, tI⟩ ?_; refine aops_nil ?_; refine xt_n ?_
   refine ⟨2, ⟨by decide, fun j h1 h2 => ?_⟩, by refine le_ren [] (.cons kR (.cons kR (.cons kR (.cons kR .nil)))) .nil kR kR, by decide⟩
   rcases Nat.lt_or_ge j 2 with h3 | h3
   ·
    exact hj j h1 oM
   ·
    obtain rfl : j = 2 := by omega
    exact q
 ·
  refine aw_seq_k fun K hK => ?_
  refine aw_seq_k fun K hK => wR 2 ?_; refine aX hTT 2 [] tI ?_; refine aops_nil (xt_n (hK _ ?_)); clear hK K; refine w_true (t := true) kR rfl ?_
  refine aw_skip ?_
  refine xt_n (hK _ ?_); clear hK K; refine aw_seq_k fun K hK => ?_
  refine aw_block ?_
  refine aw_seq_k fun K hK => wD 3 ?_; refine aX hTT 5 [(1, .c qGA32)] ⟨qGA32_, tI⟩ ?_
  refine eC (steep_ac c l r per none h (some a) hc hp hb hh) ?_
  refine aops_nil ⟨kR, ?_⟩; refine xt_n (hK _ ?_); clear hK K
  refine w_cond (t := steepB c r per none h) kR (fun q => ?_) (fun q => ?_)
  ·
   refine aw_seq_k fun K hK => ?_
   refine wR 4 ?_; refine aX hTT 2 [] tI ?_; refine aops_nil (xt_n (hK _ ?_)); clear hK K
   refine aw_ret ?_
   refine xb_r ?_
   refine xt_r ?_; refine xt_r ?_
   refine xb_r ?_
   refine xt_r ?_
   rw [ruleP_at (j := 3) (by decide) (by decide) (fun j h1 h2 => hj j h1 oM) q]
   refine rP (V.i 3)
  ·
   refine aw_skip ?_
   refine xb_n ?_; refine xt_n (hK _ ?_); clear hK K; refine wR 4 ?_; refine aX hTT 3 [(1, .i ((3 : Int) + (1 : Int)))] ⟨oM, tI⟩ ?_; refine aops_nil ?_; refine xt_n ?_
   refine ⟨3, ⟨by decide, fun j h1 h2 => ?_⟩, by refine le_ren [] (.cons kR (.cons kR (.cons kR (.cons kR .nil)))) .nil kR kR, by decide⟩
   rcases Nat.lt_or_ge j 3 with h3 | h3
   ·
    exact hj j h1 oM
   ·
    obtain rfl : j = 3 := by omega
    exact q
 ·
  refine aw_seq_k fun K hK => ?_
  refine aw_seq_k fun K hK => wR 2 ?_; refine aX hTT 2 [] tI ?_; refine aops_nil (xt_n (hK _ ?_)); clear hK K; refine w_true (t := true) kR rfl ?_
  refine aw_skip ?_
  refine xt_n (hK _ ?_); clear hK K; refine aw_seq_k fun K hK => ?_
  refine aw_block ?_
  refine aw_seq_k fun K hK => wD 3 ?_; refine aX hTT 5 [(1, .c qGA33)] ⟨qGA33_, tI⟩ ?_
  refine eC (sudden_ac c l r per none h (some a) hb hh ha) ?_
  refine aops_nil ⟨kR, ?_⟩; refine xt_n (hK _ ?_); clear hK K
  refine w_cond (t := suddenB c none h (some a)) kR (fun q => ?_) (fun q => ?_)
  ·
   refine aw_seq_k fun K hK => ?_
   refine wR 4 ?_; refine aX hTT 2 [] tI ?_; refine aops_nil (xt_n (hK _ ?_)); clear hK K
   refine aw_ret ?_
   refine xb_r ?_
   refine xt_r ?_; refine xt_r ?_
   refine xb_r ?_
   refine xt_r ?_
   rw [ruleP_at (j := 4) (by decide) (by decide) (fun j h1 h2 => hj j h1 oM) q]
   refine rP (V.i 4)
  ·
   refine aw_skip ?_
   refine xb_n ?_; refine xt_n (hK _ ?_); clear hK K; refine wR 4 ?_; refine aX hTT 3 [(1, .i ((4 : Int) + (1 : Int)))] ⟨oM, tI⟩ ?_; refine aops_nil ?_; refine xt_n ?_
   refine ⟨4, ⟨by decide, fun j h1 h2 => ?_⟩, by refine le_ren [] (.cons kR (.cons kR (.cons kR (.cons kR .nil)))) .nil kR kR, by decide⟩
   rcases Nat.lt_or_ge j 4 with h3 | h3
   ·
    exact hj j h1 oM
   ·
    obtain rfl : j = 4 := by omega
    exact q
 ·
  refine aw_seq_k fun K hK => ?_
  refine aw_seq_k fun K hK => wR 2 ?_; refine aX hTT 2 [] tI ?_; refine aops_nil (xt_n (hK _ ?_)); clear hK K; refine w_true (t := true) kR rfl ?_
  refine aw_skip ?_
  refine xt_n (hK _ ?_); clear hK K; refine aw_seq_k fun K hK => ?_
  refine aw_block ?_
  refine aw_seq_k fun K hK => wD 3 ?_; refine aX hTT 5 [(1, .c qGA34)] ⟨qGA34_, tI⟩ ?_
  refine eC (sharp_ac c l r per none h (some a) hc hp hb hh ha) ?_
  refine aops_nil ⟨kR, ?_⟩; refine xt_n (hK _ ?_); clear hK K
  refine w_cond (t := sharpB c r per none h (some a)) kR (fun q => ?_) (fun q => ?_)
  ·
   refine aw_seq_k fun K hK => ?_
   refine wR 4 ?_; refine aX hTT 2 [] tI ?_; refine aops_nil (xt_n (hK _ ?_)); clear hK K
   refine aw_ret ?_
   refine xb_r ?_
   refine xt_r ?_; refine xt_r ?_
   refine xb_r ?_
   refine xt_r ?_
   rw [ruleP_at (j := 5) (by decide) (by decide) (fun j h1 h2 => hj j h1 oM) q]
   refine rP (V.i 5)
  ·
   refine aw_skip ?_
   refine xb_n ?_; refine xt_n (hK _ ?_); clear hK K; refine wR 4 ?_; refine aX hTT 3 [(1, .i ((5 : Int) + (1 : Int)))] ⟨oM, tI⟩ ?_; refine aops_nil ?_; refine xt_n ?_
   refine ⟨5, ⟨by decide, fun j h1 h2 => ?_⟩, by refine le_ren [] (.cons kR (.cons kR (.cons kR (.cons kR .nil)))) .nil kR kR, by decide⟩
   rcases Nat.lt_or_ge j 5 with h3 | h3
   ·
    exact hj j h1 oM
   ·
    obtain rfl : j = 5 := by omega
    exact q
 ·
  refine aw_seq_k fun K hK => ?_
  refine aw_seq_k fun K hK => wR 2 ?_; refine aX hTT 2 [] tI ?_; refine aops_nil (xt_n (hK _ ?_)); clear hK K; refine w_false (t := false) kR rfl ?_
  refine aw_exit ?_
  refine xt_x ?_; refine xt_x ?_
  refine xb_same ?_
  refine xt_n ?_; clear hK K; refine hK _ ?_; clear hK K; refine aw_seq_k fun K hK => wR 3 ?_; refine aX hTT 1 [] tI ?_; refine aops_nil (xt_n (hK _ ?_)); clear hK K
  refine aw_ret ?_
  rw [ruleP_no fun j h1 h2 => hj j h1 h2]
  refine rP (V.i 0)
set_option maxRecDepth 100000 in
theorem rule_sn (c : Cut) (l : List Pt) (r per : Int) (b h : Pt) (hc : cutE c = 0) (hp : Plc r per) (hb : EdO (some b)) (hh : Ed h) (ha : EdO none) : AC Tryz.prog 112 [.ptr (trC c l r per), gNearV (some b) h none] (.i (ruleP c r per (some b) h none)) [] := by
 refine acI hTT hMX Tryz.func112 Tryz.ntmps112 fun C hC hF => ?_
 refine aw_seq_k fun K hK => wR 2 ?_; refine aX hTT 2 [] tI ?_; refine aops_nil (xt_n (hK _ ?_)); clear hK K; refine aw_seq_k fun K hK => wR 3 ?_; refine aX hTT 3 [(1, .r (pn 5 (V.ref 200005 0) (200005 : Nat) (Ob.box 261 [V.c Value.nilFunc, V.c Value.nilFunc, V.c Value.nilFunc, V.c Value.nilFunc, V.c Value.nilFunc, V.c Value.nilFunc]))), (2, .r (pw ((0 : Nat) + (6 : Nat) ≤ (6 : Nat)) (200005 : Nat) (Ob.box 261 yyGA30)))] ⟨oM, tI⟩ ?_; refine aops_nil (xt_n (hK _ ?_)); clear hK K; refine aw_seq_k fun K hK => ?_; refine aw_seq_k fun K hK => wR 4 ?_; refine aX hTT 1 [] tI ?_; refine aops_nil (xt_n (hK _ ?_)); clear hK K
 refine aw_block ?_
 refine w_le (le_freezeBox (t := (261 : Nat)) (cs := yyGA30) 200005 kR kR) ?_
 refine w_loop (ι := Nat) (fun k => [(0, .ptr (trC c l r per)), (3, .ptr [optP (some b), .ptr [.i h.1, .i h.2], optP none]), (5, .ptr [.c .nilFunc, .fn (.func 142) [] [], .fn (.func 143) [] [], .fn (.func 144) [] [], .fn (.func 145) [] [], .fn (.func 146) [] []]), (6, .i ((k : Int) + 1))]) (fun _ => []) (fun k => k ≤ 5 ∧ ∀ j, 1 ≤ j → j ≤ k → ruleB c r per (some b) h none j = false) (fun k => 5 - k) 0 ⟨by decide, fun j h1 h2 => by omega⟩ ?_ ?_
 ·
  refine le_ren [] (.cons kR (.cons kR (.cons kR (.cons kR .nil)))) .nil kR kR
 rintro k ⟨hk, hj⟩
 rcases (by omega : k = 0 ∨ k = 1 ∨ k = 2 ∨ k = 3 ∨ k = 4 ∨ k = 5) with rfl | rfl | rfl | rfl | rfl | rfl
 ·
  refine aw_seq_k fun K hK => ?_
  refine aw_seq_k fun K hK => wR 2 ?_; refine aX hTT 2 [] tI ?_; refine aops_nil (xt_n (hK _ ?_)); clear hK K; refine w_true (t := true) kR rfl ?_
  refine aw_skip ?_
  refine xt_n (hK _ ?_); clear hK K; refine aw_seq_k fun K hK => ?_
  refine aw_block ?_
  refine aw_seq_k fun K hK => wD 3 ?_; refine aX hTT 5 [(1, .c qGA30)] ⟨qGA30_, tI⟩ ?_
  refine eC (thin_ac c l r per (some b) h none hh) ?_
  refine aops_nil ⟨kR, ?_⟩; refine xt_n (hK _ ?_); clear hK K
  refine w_cond (t := thinB c h) kR (fun q => ?_) (fun q => ?_)
  ·
   refine aw_seq_k fun K hK => ?_
   refine wR 4 ?_; refine aX hTT 2 [] tI ?_; refine aops_nil (xt_n (hK _ ?_)); clear hK K
   refine aw_ret ?_
   refine xb_r ?_
   refine xt_r ?_; refine xt_r ?_
   refine xb_r ?_
   refine xt_r ?_
   rw [ruleP_at (j := 1) (by decide) (by decide) (fun j h1 h2 => hj j h1 oM) q]
   refine rP (V.i 1)
  ·
   refine aw_skip ?_
   refine xb_n ?_; refine xt_n (hK _ ?_); clear hK K; refine wR 4 ?_; refine aX hTT 3 [(1, .i ((1 : Int) + (1 : Int)))] ⟨oM, tI⟩ ?_; refine aops_nil ?_; refine xt_n ?_
   refine ⟨1, ⟨by decide, fun j h1 h2 => ?_⟩, by refine le_ren [] (.cons kR (.cons kR (.cons kR (.cons kR .nil)))) .nil kR kR, by decide⟩
   rcases Nat.lt_or_ge j 1 with h3 | h3
   ·
    exact hj j h1 oM
   ·
    obtain rfl : j = 1 := by omega
    exact q
 ·
  refine aw_seq_k fun K hK => ?_
  refine aw_seq_k fun K hK => wR 2 ?_; refine aX hTT 2 [] tI ?_; refine aops_nil (xt_n (hK _ ?_)); clear hK K; refine w_true (t := true) kR rfl ?_
  refine aw_skip ?_
  refine xt_n (hK _ ?_); clear hK K; refine aw_seq_k fun K hK => ?_
  refine aw_block ?_
  refine aw_seq_k fun K hK => wD 3 ?_; refine aX hTT 5 [(1, .c qGA31)] ⟨qGA31_, tI⟩ ?_
  refine eC (wide_ac c l r per (some b) h none hh) ?_
  refine aops_nil ⟨kR, ?_⟩; refine xt_n (hK _ ?_); clear hK K
  refine w_cond (t := wideB c h) kR (fun q => ?_) (fun q => ?_)
  ·
   refine aw_seq_k fun K hK => ?_
   refine wR 4 ?_; refine aX hTT 2 [] tI ?_; refine aops_nil (xt_n (hK _ ?_)); clear hK K
   refine aw_ret ?_
   refine xb_r ?_
   refine xt_r ?_; refine xt_r ?_
   refine xb_r ?_
   refine xt_r ?_
   rw [ruleP_at (j := 2) (by decide) (by decide) (fun j h1 h2 => hj j h1 oM) q]
   refine rP (V.i 2)
  ·
   refine aw_skip ?_
   refine xb_n ?_; refine xt_n (hK _ ?_); clear hK K; refine wR 4 ?_; refine aX hTT 3 [(1, .i ((2 : Int) + (1 : Int)))] ⟨oM, tI⟩ ?_; refine aops_nil ?_; refine xt_n ?_
   refine ⟨2, ⟨by decide, fun j h1 h2 => ?_⟩, by refine le_ren [] (.cons kR (.cons kR (.cons kR (.cons kR .nil)))) .nil kR kR, by decide⟩
   rcases Nat.lt_or_ge j 2 with h3 | h3
   ·
    exact hj j h1 oM
   ·
    obtain rfl : j = 2 := by omega
    exact q
 ·
  refine aw_seq_k fun K hK => ?_
  refine aw_seq_k fun K hK => wR 2 ?_; refine aX hTT 2 [] tI ?_; refine aops_nil (xt_n (hK _ ?_)); clear hK K; refine w_true (t := true) kR rfl ?_
  refine aw_skip ?_
  refine xt_n (hK _ ?_); clear hK K; refine aw_seq_k fun K hK => ?_
  refine aw_block ?_
  refine aw_seq_k fun K hK => wD 3 ?_; refine aX hTT 5 [(1, .c qGA32)] ⟨qGA32_, tI⟩ ?_
  refine eC (steep_ac c l r per (some b) h none hc hp hb hh) ?_
  refine aops_nil ⟨kR, ?_⟩; refine xt_n (hK _ ?_); clear hK K
  refine w_cond (t := steepB c r per (some b) h) kR (fun q => ?_) (fun q => ?_)
  ·
   refine aw_seq_k fun K hK => ?_
   refine wR 4 ?_; refine aX hTT 2 [] tI ?_; refine aops_nil (xt_n (hK _ ?_)); clear hK K
   refine aw_ret ?_
   refine xb_r ?_
   refine xt_r ?_; refine xt_r ?_
   refine xb_r ?_
   refine xt_r ?_
   rw [ruleP_at (j := 3) (by decide) (by decide) (fun j h1 h2 => hj j h1 oM) q]
   refine rP (V.i 3)
  ·
   refine aw_skip ?_
   refine xb_n ?_; refine xt_n (hK _ ?_); clear hK K; refine wR 4 ?_; refine aX hTT 3 [(1, .i ((3 : Int) + (1 : Int)))] ⟨oM, tI⟩ ?_; refine aops_nil ?_; refine xt_n ?_
   refine ⟨3, ⟨by decide, fun j h1 h2 => ?_⟩, by refine le_ren [] (.cons kR (.cons kR (.cons kR (.cons kR .nil)))) .nil kR kR, by decide⟩
   rcases Nat.lt_or_ge j 3 with h3 | h3
   ·
    exact hj j h1 oM
   ·
    obtain rfl : j = 3 := by omega
    exact q
 ·
  refine aw_seq_k fun K hK => ?_
  refine aw_seq_k fun K hK => wR 2 ?_; refine aX hTT 2 [] tI ?_; refine aops_nil (xt_n (hK _ ?_)); clear hK K; refine w_true (t := true) kR rfl ?_
  refine aw_skip ?_
  refine xt_n (hK _ ?_); clear hK K; refine aw_seq_k fun K hK => ?_
  refine aw_block ?_
  refine aw_seq_k fun K hK => wD 3 ?_; refine aX hTT 5 [(1, .c qGA33)] ⟨qGA33_, tI⟩ ?_
  refine eC (sudden_ac c l r per (some b) h none hb hh ha) ?_
  refine aops_nil ⟨kR, ?_⟩; refine xt_n (hK _ ?_); clear hK K
  refine w_cond (t := suddenB c (some b) h none) kR (fun q => ?_) (fun q => ?_)
  ·
   refine aw_seq_k fun K hK => ?_
   refine wR 4 ?_; refine aX hTT 2 [] tI ?_; refine aops_nil (xt_n (hK _ ?_)); clear hK K
   refine aw_ret ?_
   refine xb_r ?_
   refine xt_r ?_; refine xt_r ?_
   refine xb_r ?_
   refine xt_r ?_
   rw [ruleP_at (j := 4) (by decide) (by decide) (fun j h1 h2 => hj j h1 oM) q]
   refine rP (V.i 4)
  ·
   refine aw_skip ?_
   refine xb_n ?_; refine xt_n (hK _ ?_); clear hK K; refine wR 4 ?_; refine aX hTT 3 [(1, .i ((4 : Int) + (1 : Int)))] ⟨oM, tI⟩ ?_; refine aops_nil ?_; refine xt_n ?_
   refine ⟨4, ⟨by decide, fun j h1 h2 => ?_⟩, by refine le_ren [] (.cons kR (.cons kR (.cons kR (.cons kR .nil)))) .nil kR kR, by decide⟩
   rcases Nat.lt_or_ge j 4 with h3 | h3
   ·
    exact hj j h1 oM
   ·
    obtain rfl : j = 4 := by omega
    exact q
 ·
  refine aw_seq_k fun K hK => ?_
  refine aw_seq_k fun K hK => wR 2 ?_; refine aX hTT 2 [] tI ?_; refine aops_nil (xt_n (hK _ ?_)); clear hK K; refine w_true (t := true) kR rfl ?_
  refine aw_skip ?_
  refine xt_n (hK _ ?_); clear hK K; refine aw_seq_k fun K hK => ?_
  refine aw_block ?_
  refine aw_seq_k fun K hK => wD 3 ?_; refine aX hTT 5 [(1, .c qGA34)] ⟨qGA34_, tI⟩ ?_
  refine eC (sharp_ac c l r per (some b) h none hc hp hb hh ha) ?_
  refine aops_nil ⟨kR, ?_⟩; refine xt_n (hK _ ?_); clear hK K
  refine w_cond (t := sharpB c r per (some b) h none) kR (fun q => ?_) (fun q => ?_)
  ·
   refine aw_seq_k fun K hK => ?_
   refine wR 4 ?_; refine aX hTT 2 [] tI ?_; refine aops_nil (xt_n (hK _ ?_)); clear hK K
   refine aw_ret ?_
   refine xb_r ?_
   refine xt_r ?_; refine xt_r ?_
   refine xb_r ?_
   refine xt_r ?_
   rw [ruleP_at (j := 5) (by decide) (by decide) (fun j h1 h2 => hj j h1 oM) q]
   refine rP (V.i 5)
  ·
   refine aw_skip ?_
   refine xb_n ?_; refine xt_n (hK _ ?_); clear hK K; refine wR 4 ?_; refine aX hTT 3 [(1, .i ((5 : Int) + (1 : Int)))] ⟨oM, tI⟩ ?_; refine aops_nil ?_; refine xt_n ?_
   refine ⟨5, ⟨by decide, fun j h1 h2 => ?_⟩, by refine le_ren [] (.cons kR (.cons kR (.cons kR (.cons kR .nil)))) .nil kR kR, by decide⟩
   rcases Nat.lt_or_ge j 5 with h3 | h3
   ·
    exact hj j h1 oM
   ·
    obtain rfl : j = 5 := by omega
    exact q
 ·
  refine aw_seq_k fun K hK => ?_
  refine aw_seq_k fun K hK => wR 2 ?_; refine aX hTT 2 [] tI ?_; refine aops_nil (xt_n (hK _ ?_)); clear hK K; refine w_false (t := false) kR rfl ?_
  refine aw_exit ?_
  refine xt_x ?_; refine xt_x ?_
  refine xb_same ?_
  refine xt_n ?_; clear hK K; refine hK _ ?_; clear hK K; refine aw_seq_k fun K hK => wR 3 ?_; refine aX hTT 1 [] tI ?_; refine aops_nil (xt_n (hK _ ?_)); clear hK K
  refine aw_ret ?_
  rw [ruleP_no fun j h1 h2 => hj j h1 h2]
  refine rP (V.i 0)
set_option maxRecDepth 100000 in
theorem rule_ss (c : Cut) (l : List Pt) (r per : Int) (b h a : Pt) (hc : cutE c = 0) (hp : Plc r per) (hb : EdO (some b)) (hh : Ed h) (ha : EdO (some a)) : AC Tryz.prog 112 [.ptr (trC c l r per), gNearV (some b) h (some a)] (.i (ruleP c r per (some b) h (some a))) [] := by
 refine acI hTT hMX Tryz.func112 Tryz.ntmps112 fun C hC hF => ?_
 refine aw_seq_k fun K hK => wR 2 ?_; refine aX hTT 2 [] tI ?_; refine aops_nil (xt_n (hK _ ?_)); clear hK K; refine aw_seq_k fun K hK => wR 3 ?_; refine aX hTT 3 [(1, .r (pn 5 (V.ref 200005 0) (200005 : Nat) (Ob.box 261 [V.c Value.nilFunc, V.c Value.nilFunc, V.c Value.nilFunc, V.c Value.nilFunc, V.c Value.nilFunc, V.c Value.nilFunc]))), (2, .r (pw ((0 : Nat) + (6 : Nat) ≤ (6 : Nat)) (200005 : Nat) (Ob.box 261 yyGA30)))] ⟨oM, tI⟩ ?_; refine aops_nil (xt_n (hK _ ?_)); clear hK K; refine aw_seq_k fun K hK => ?_; refine aw_seq_k fun K hK => wR 4 ?_; refine aX hTT 1 [] tI ?_; refine aops_nil (xt_n (hK _ ?_)); clear hK K
 refine aw_block ?_
 refine w_le (le_freezeBox (t := (261 : Nat)) (cs := yyGA30) 200005 kR kR) ?_
 refine w_loop (ι := Nat) (fun k => [(0, .ptr (trC c l r per)), (3, .ptr [optP (some b), .ptr [.i h.1, .i h.2], optP (some a)]), (5, .ptr [.c .nilFunc, .fn (.func 142) [] [], .fn (.func 143) [] [], .fn (.func 144) [] [], .fn (.func 145) [] [], .fn (.func 146) [] []]), (6, .i ((k : Int) + 1))]) (fun _ => []) (fun k => k ≤ 5 ∧ ∀ j, 1 ≤ j → j ≤ k → ruleB c r per (some b) h (some a) j = false) (fun k => 5 - k) 0 ⟨by decide, fun j h1 h2 => by omega⟩ ?_ ?_
 ·
  refine le_ren [] (.cons kR (.cons kR (.cons kR (.cons kR .nil)))) .nil kR kR
 rintro k ⟨hk, hj⟩
 rcases (by omega : k = 0 ∨ k = 1 ∨ k = 2 ∨ k = 3 ∨ k = 4 ∨ k = 5) with rfl | rfl | rfl | rfl | rfl | rfl
 ·
  refine aw_seq_k fun K hK => ?_
  refine aw_seq_k fun K hK => wR 2 ?_; refine aX hTT 2 [] tI ?_; refine aops_nil (xt_n (hK _ ?_)); clear hK K; refine w_true (t := true) kR rfl ?_
  refine aw_skip ?_
  refine xt_n (hK _ ?_); clear hK K; refine aw_seq_k fun K hK => ?_
  refine aw_block ?_
  refine aw_seq_k fun K hK => wD 3 ?_; refine aX hTT 5 [(1, .c qGA30)] ⟨qGA30_, tI⟩ ?_
  refine eC (thin_ac c l r per (some b) h (some a) hh) ?_
  refine aops_nil ⟨kR, ?_⟩; refine xt_n (hK _ ?_); clear hK K
  refine w_cond (t := thinB c h) kR (fun q => ?_) (fun q => ?_)
  ·
   refine aw_seq_k fun K hK => ?_
   refine wR 4 ?_; refine aX hTT 2 [] tI ?_; refine aops_nil (xt_n (hK _ ?_)); clear hK K
   refine aw_ret ?_
   refine xb_r ?_
   refine xt_r ?_; refine xt_r ?_
   refine xb_r ?_
   refine xt_r ?_
   rw [ruleP_at (j := 1) (by decide) (by decide) (fun j h1 h2 => hj j h1 oM) q]
   refine rP (V.i 1)
  ·
   refine aw_skip ?_
   refine xb_n ?_; refine xt_n (hK _ ?_); clear hK K; refine wR 4 ?_; refine aX hTT 3 [(1, .i ((1 : Int) + (1 : Int)))] ⟨oM, tI⟩ ?_; refine aops_nil ?_; refine xt_n ?_
   refine ⟨1, ⟨by decide, fun j h1 h2 => ?_⟩, by refine le_ren [] (.cons kR (.cons kR (.cons kR (.cons kR .nil)))) .nil kR kR, by decide⟩
   rcases Nat.lt_or_ge j 1 with h3 | h3
   ·
    exact hj j h1 oM
   ·
    obtain rfl : j = 1 := by omega
    exact q
 ·
  refine aw_seq_k fun K hK => ?_
  refine aw_seq_k fun K hK => wR 2 ?_; refine aX hTT 2 [] tI ?_; refine aops_nil (xt_n (hK _ ?_)); clear hK K; refine w_true (t := true) kR rfl ?_
  refine aw_skip ?_
  refine xt_n (hK _ ?_); clear hK K; refine aw_seq_k fun K hK => ?_
  refine aw_block ?_
  refine aw_seq_k fun K hK => wD 3 ?_; refine aX hTT 5 [(1, .c qGA31)] ⟨qGA31_, tI⟩ ?_
  refine eC (wide_ac c l r per (some b) h (some a) hh) ?_
  refine aops_nil ⟨kR, ?_⟩; refine xt_n (hK _ ?_); clear hK K
  refine w_cond (t := wideB c h) kR (fun q => ?_) (fun q => ?_)
  ·
   refine aw_seq_k fun K hK => ?_
   refine wR 4 ?_; refine aX hTT 2 [] tI ?_; refine aops_nil (xt_n (hK _ ?_)); clear hK K
   refine aw_ret ?_
   refine xb_r ?_
   refine xt_r ?_; refine xt_r ?_
   refine xb_r ?_
   refine xt_r ?_
   rw [ruleP_at (j := 2) (by decide) (by decide) (fun j h1 h2 => hj j h1 oM) q]
   refine rP (V.i 2)
  ·
   refine aw_skip ?_
   refine xb_n ?_; refine xt_n (hK _ ?_); clear hK K; refine wR 4 ?_; refine aX hTT 3 [(1, .i ((2 : Int) + (1 : Int)))] ⟨oM, tI⟩ ?_; refine aops_nil ?_; refine xt_n ?_
   refine ⟨2, ⟨by decide, fun j h1 h2 => ?_⟩, by refine le_ren [] (.cons kR (.cons kR (.cons kR (.cons kR .nil)))) .nil kR kR, by decide⟩
   rcases Nat.lt_or_ge j 2 with h3 | h3
   ·
    exact hj j h1 oM
   ·
    obtain rfl : j = 2 := by omega
    exact q
 ·
  refine aw_seq_k fun K hK => ?_
  refine aw_seq_k fun K hK => wR 2 ?_; refine aX hTT 2 [] tI ?_; refine aops_nil (xt_n (hK _ ?_)); clear hK K; refine w_true (t := true) kR rfl ?_
  refine aw_skip ?_
  refine xt_n (hK _ ?_); clear hK K; refine aw_seq_k fun K hK => ?_
  refine aw_block ?_
  refine aw_seq_k fun K hK => wD 3 ?_; refine aX hTT 5 [(1, .c qGA32)] ⟨qGA32_, tI⟩ ?_
  refine eC (steep_ac c l r per (some b) h (some a) hc hp hb hh) ?_
  refine aops_nil ⟨kR, ?_⟩; refine xt_n (hK _ ?_); clear hK K
  refine w_cond (t := steepB c r per (some b) h) kR (fun q => ?_) (fun q => ?_)
  ·
   refine aw_seq_k fun K hK => ?_
   refine wR 4 ?_; refine aX hTT 2 [] tI ?_; refine aops_nil (xt_n (hK _ ?_)); clear hK K
   refine aw_ret ?_
   refine xb_r ?_
   refine xt_r ?_; refine xt_r ?_
   refine xb_r ?_
   refine xt_r ?_
   rw [ruleP_at (j := 3) (by decide) (by decide) (fun j h1 h2 => hj j h1 oM) q]
   refine rP (V.i 3)
  ·
   refine aw_skip ?_
   refine xb_n ?_; refine xt_n (hK _ ?_); clear hK K; refine wR 4 ?_; refine aX hTT 3 [(1, .i ((3 : Int) + (1 : Int)))] ⟨oM, tI⟩ ?_; refine aops_nil ?_; refine xt_n ?_
   refine ⟨3, ⟨by decide, fun j h1 h2 => ?_⟩, by refine le_ren [] (.cons kR (.cons kR (.cons kR (.cons kR .nil)))) .nil kR kR, by decide⟩
   rcases Nat.lt_or_ge j 3 with h3 | h3
   ·
    exact hj j h1 oM
   ·
    obtain rfl : j = 3 := by omega
    exact q
 ·
  refine aw_seq_k fun K hK => ?_
  refine aw_seq_k fun K hK => wR 2 ?_; refine aX hTT 2 [] tI ?_; refine aops_nil (xt_n (hK _ ?_)); clear hK K; refine w_true (t := true) kR rfl ?_
  refine aw_skip ?_
  refine xt_n (hK _ ?_); clear hK K; refine aw_seq_k fun K hK => ?_
  refine aw_block ?_
  refine aw_seq_k fun K hK => wD 3 ?_; refine aX hTT 5 [(1, .c qGA33)] ⟨qGA33_, tI⟩ ?_
  refine eC (sudden_ac c l r per (some b) h (some a) hb hh ha) ?_
  refine aops_nil ⟨kR, ?_⟩; refine xt_n (hK _ ?_); clear hK K
  refine w_cond (t := suddenB c (some b) h (some a)) kR (fun q => ?_) (fun q => ?_)
  ·
   refine aw_seq_k fun K hK => ?_
   refine wR 4 ?_; refine aX hTT 2 [] tI ?_; refine aops_nil (xt_n (hK _ ?_)); clear hK K
   refine aw_ret ?_
   refine xb_r ?_
   refine xt_r ?_; refine xt_r ?_
   refine xb_r ?_
   refine xt_r ?_
   rw [ruleP_at (j := 4) (by decide) (by decide) (fun j h1 h2 => hj j h1 oM) q]
   refine rP (V.i 4)
  ·
   refine aw_skip ?_
   refine xb_n ?_; refine xt_n (hK _ ?_); clear hK K; refine wR 4 ?_; refine aX hTT 3 [(1, .i ((4 : Int) + (1 : Int)))] ⟨oM, tI⟩ ?_; refine aops_nil ?_; refine xt_n ?_
   refine ⟨4, ⟨by decide, fun j h1 h2 => ?_⟩, by refine le_ren [] (.cons kR (.cons kR (.cons kR (.cons kR .nil)))) .nil kR kR, by decide⟩
   rcases Nat.lt_or_ge j 4 with h3 | h3
   ·
    exact hj j h1 oM
   ·
    obtain rfl : j = 4 := by omega
    exact q
 ·
  refine aw_seq_k fun K hK => ?_
  refine aw_seq_k fun K hK => wR 2 ?_; refine aX hTT 2 [] tI ?_; refine aops_nil (xt_n (hK _ ?_)); clear hK K; refine w_true (t := true) kR rfl ?_
  refine aw_skip ?_
  refine xt_n (hK _ ?_); clear hK K; refine aw_seq_k fun K hK => ?_
  refine aw_block ?_
  refine aw_seq_k fun K hK => wD 3 ?_; refine aX hTT 5 [(1, .c qGA34)] ⟨qGA34_, tI⟩ ?_
  refine eC (sharp_ac c l r per (some b) h (some a) hc hp hb hh ha) ?_
  refine aops_nil ⟨kR, ?_⟩; refine xt_n (hK _ ?_); clear hK K
  refine w_cond (t := sharpB c r per (some b) h (some a)) kR (fun q => ?_) (fun q => ?_)
  ·
   refine aw_seq_k fun K hK => ?_
   refine wR 4 ?_; refine aX hTT 2 [] tI ?_; refine aops_nil (xt_n (hK _ ?_)); clear hK K
   refine aw_ret ?_
   refine xb_r ?_
   refine xt_r ?_; refine xt_r ?_
   refine xb_r ?_
   refine xt_r ?_
   rw [ruleP_at (j := 5) (by decide) (by decide) (fun j h1 h2 => hj j h1 oM) q]
   refine rP (V.i 5)
  ·
   refine aw_skip ?_
   refine xb_n ?_; refine xt_n (hK _ ?_); clear hK K; refine wR 4 ?_; refine aX hTT 3 [(1, .i ((5 : Int) + (1 : Int)))] ⟨oM, tI⟩ ?_; refine aops_nil ?_; refine xt_n ?_
   refine ⟨5, ⟨by decide, fun j h1 h2 => ?_⟩, by refine le_ren [] (.cons kR (.cons kR (.cons kR (.cons kR .nil)))) .nil kR kR, by decide⟩
   rcases Nat.lt_or_ge j 5 with h3 | h3
   ·
    exact hj j h1 oM
   ·
    obtain rfl : j = 5 := by omega
    exact q
 ·
  refine aw_seq_k fun K hK => ?_
  refine aw_seq_k fun K hK => wR 2 ?_; refine aX hTT 2 [] tI ?_; refine aops_nil (xt_n (hK _ ?_)); clear hK K; refine w_false (t := false) kR rfl ?_
  refine aw_exit ?_
  refine xt_x ?_; refine xt_x ?_
  refine xb_same ?_
  refine xt_n ?_; clear hK K; refine hK _ ?_; clear hK K; refine aw_seq_k fun K hK => wR 3 ?_; refine aX hTT 1 [] tI ?_; refine aops_nil (xt_n (hK _ ?_)); clear hK K
  refine aw_ret ?_
  rw [ruleP_no fun j h1 h2 => hj j h1 h2]
  refine rP (V.i 0)
theorem rule_ac (c : Cut) (l : List Pt) (r per : Int) (b : Option Pt) (h : Pt) (a : Option Pt) (hc : cutE c = 0) (hp : Plc r per) (hb : EdO b) (hh : Ed h) (ha : EdO a) : AC Tryz.prog 112 [.ptr (trC c l r per), gNearV b h a] (.i (ruleP c r per b h a)) [] := by
 cases b with
 | none => cases a with
  | none => exact rule_nn c l r per h hc hp hb hh ha
  | some a => exact rule_ns c l r per h a hc hp hb hh ha
 | some b => cases a with
  | none => exact rule_sn c l r per b h hc hp hb hh ha
  | some a => exact rule_ss c l r per b h a hc hp hb hh ha
end Go.Proofs.YtplnhbenmgclfaaGreatDoor

namespace Go.Proofs.YtplnhbenmgclfaaGreatDoor
open Go.Ab Go.RowKit Go.Dw Go.Shelf
def nb (l : List Pt) (i : Nat) : Option Pt := if 0 < i then some (gp l (i - 1)) else none
def na (l : List Pt) (i : Nat) : Option Pt := if i + 1 < l.length then some (gp l (i + 1)) else none
def nearI (l : List Pt) (i : Nat) : V := gNearV (nb l i) (gp l i) (na l i)
abbrev qGA40 : Prop := (0 : Nat) ≤ (3 : Nat)
theorem qGA40_ : qGA40 := oM
abbrev yyGA42 (l : List Pt) (i : Nat) : List V := [V.i (Prod.fst (gp l (Int.toNat ((↑i : Int) - (1 : Int))))), V.i (Prod.snd (gp l (Int.toNat ((↑i : Int) - (1 : Int)))))]
abbrev yyGA44 (l : List Pt) (i : Nat) : V := V.ptr [V.i (Prod.fst (gp l i)), V.i (Prod.snd (gp l i))]
abbrev yyGA43 (l : List Pt) (i : Nat) : V := V.ptr [V.i (Prod.fst (gp l (i + (1 : Nat)))), V.i (Prod.snd (gp l (i + (1 : Nat))))]
abbrev yyGA41 (l : List Pt) (i : Nat) : List V := [V.ptr (yyGA42 l i), (yyGA44 l i), (yyGA43 l i)]
abbrev yyGA40 (l : List Pt) (i : Nat) : Ob := Ob.box 226 (yyGA41 l i)
set_option maxRecDepth 100000 in
theorem at_ac (c : Cut) (l : List Pt) (r per : Int) (i : Nat) (hi : i < l.length) (hl : l.length ≤ 4096) : AC Tryz.prog 141 [.ptr (trC c l r per), .i i] (nearI l i) [] := by
 have e0 : 0 < i → ((i : Int) - 1).toNat = i - 1 := fun _ => by omega
 refine acI hTT hMX Tryz.func141 Tryz.ntmps141 fun C hC hF => ?_
 refine aw_seq_k fun K hK => wR 2 ?_; refine aX hTT 1 [(0, .r (pn 4 (V.ref 100004 0) (100004 : Nat) (Ob.box 226 [V.c (Value.pointer none), V.c (Value.pointer none), V.c (Value.pointer none)])))] tI ?_; refine aops_nil (xt_n (hK _ ?_)); clear hK K; refine aw_seq_k fun K hK => wR 3 ?_; refine aX hTT 9 [(5, .c ((0 : Int) ≤ (↑i : Int) ∧ (↑i : Int) < (↑(List.length l) : Int))), (7, .r (pn 5 (V.ref 200005 0) (200005 : Nat) (Ob.box 226 [V.c (Value.pointer none), V.c (Value.pointer none), V.c (Value.pointer none)]))), (8, .r (pw ((0 : Nat) + (3 : Nat) ≤ (3 : Nat)) (200005 : Nat) (Ob.box 226 [V.c (Value.pointer none), (yyGA44 l i), V.c (Value.pointer none)])))] ⟨oM, oM, tI⟩ ?_; refine aops_nil (xt_n (hK _ ?_)); clear hK K; refine aw_seq_k fun K hK => ?_; refine aw_seq_k fun K hK => wR 4 ?_; refine aX hTT 2 [] tI ?_; refine aops_nil (xt_n (hK _ ?_)); clear hK K
 refine w_cond (t := decide ((0 : Int) < (↑i : Int))) kR (fun c1 => ?_) (fun c1 => ?_)
 ·
  have h1 : 0 < i := by simpa using c1
  refine wR 5 ?_; refine aX hTT 9 [(5, .i ((↑i : Int) - (1 : Int))), (6, .c ((0 : Int) ≤ (↑i : Int) - (1 : Int) ∧ (↑i : Int) - (1 : Int) < (↑(List.length l) : Int))), (8, .r (pw ((0 : Nat) + (1 : Nat) ≤ (3 : Nat)) (200005 : Nat) (Ob.box 226 [V.ptr (yyGA42 l i), (yyGA44 l i), V.c (Value.pointer none)])))] ⟨oM, oM, oM, tI⟩ ?_; refine aops_nil (xt_n (hK _ ?_)); clear hK K; refine aw_seq_k fun K hK => ?_; refine aw_seq_k fun K hK => wR 6 ?_; refine aX hTT 8 [(1, .i ((↑i : Int) + (1 : Int)))] ⟨oM, tI⟩ ?_; refine aops_nil (xt_n (hK _ ?_)); clear hK K
  refine w_cond (t := decide ((↑i : Int) + (1 : Int) < (↑(List.length l) : Int))) kR (fun c2 => ?_) (fun c2 => ?_)
  ·
   have h2 : i + 1 < l.length := by simp at c2; omega
   refine wR 7 ?_; refine aX hTT 9 [(5, .i ((↑i : Int) + (1 : Int))), (6, .c ((0 : Int) ≤ (↑i : Int) + (1 : Int) ∧ (↑i : Int) + (1 : Int) < (↑(List.length l) : Int))), (8, .r (pw ((2 : Nat) + (1 : Nat) ≤ (3 : Nat)) (200005 : Nat) ((yyGA40 l i))))] ⟨oM, oM, oM, tI⟩ ?_; refine aops_nil (xt_n (hK _ ?_)); clear hK K; refine aw_seq_k fun K hK => wR 8 ?_; refine aX hTT 2 [(0, .c qGA40), (1, .r (pw ((0 : Nat) + (3 : Nat) ≤ (3 : Nat)) (100004 : Nat) ((yyGA40 l i))))] ⟨qGA40_, oM, tI⟩ ?_; refine aops_nil (xt_n (hK _ ?_)); clear hK K
   refine aw_ret ?_
   refine ret_of_le (le_freezeBox (t := (226 : Nat)) (cs := (yyGA41 l i)) 200005 kR kR) ?_
   refine ret_of_le (le_freezeBox (t := (226 : Nat)) (cs := (yyGA41 l i)) 100004 kR kR) ?_
   rw [nearI, nb, na, if_pos h1, if_pos h2, ← e0 h1]
   refine rP (V.agg (yyGA41 l i))
  ·
   have h2 : ¬ i + 1 < l.length := by simp at c2; omega
   refine aw_skip ?_
   refine xt_n (hK _ ?_); clear hK K; refine aw_seq_k fun K hK => wR 7 ?_; refine aX hTT 2 [(0, .c qGA40), (1, .r (pw ((0 : Nat) + (3 : Nat) ≤ (3 : Nat)) (100004 : Nat) (Ob.box 226 [V.ptr (yyGA42 l i), (yyGA44 l i), V.c (Value.pointer none)])))] ⟨qGA40_, oM, tI⟩ ?_; refine aops_nil (xt_n (hK _ ?_)); clear hK K
   refine aw_ret ?_
   refine ret_of_le (le_freezeBox (t := (226 : Nat)) (cs := [V.ptr (yyGA42 l i), (yyGA44 l i), V.c (Value.pointer none)]) 200005 kR kR) ?_
   refine ret_of_le (le_freezeBox (t := (226 : Nat)) (cs := [V.ptr (yyGA42 l i), (yyGA44 l i), V.c (Value.pointer none)]) 100004 kR kR) ?_
   rw [nearI, nb, na, if_pos h1, if_neg h2, ← e0 h1]
   refine rP (V.agg [V.ptr (yyGA42 l i), (yyGA44 l i), V.c (Value.pointer none)])
 ·
  have h1 : ¬ 0 < i := by simpa using c1
  refine aw_skip ?_
  refine xt_n (hK _ ?_); clear hK K; refine aw_seq_k fun K hK => ?_; refine aw_seq_k fun K hK => wR 5 ?_; refine aX hTT 8 [(1, .i ((↑i : Int) + (1 : Int)))] ⟨oM, tI⟩ ?_; refine aops_nil (xt_n (hK _ ?_)); clear hK K
  refine w_cond (t := decide ((↑i : Int) + (1 : Int) < (↑(List.length l) : Int))) kR (fun c2 => ?_) (fun c2 => ?_)
  ·
   have h2 : i + 1 < l.length := by simp at c2; omega
   refine wR 6 ?_; refine aX hTT 9 [(5, .i ((↑i : Int) + (1 : Int))), (6, .c ((0 : Int) ≤ (↑i : Int) + (1 : Int) ∧ (↑i : Int) + (1 : Int) < (↑(List.length l) : Int))), (8, .r (pw ((2 : Nat) + (1 : Nat) ≤ (3 : Nat)) (200005 : Nat) (Ob.box 226 [V.c (Value.pointer none), (yyGA44 l i), (yyGA43 l i)])))] ⟨oM, oM, oM, tI⟩ ?_; refine aops_nil (xt_n (hK _ ?_)); clear hK K; refine aw_seq_k fun K hK => wR 7 ?_; refine aX hTT 2 [(0, .c qGA40), (1, .r (pw ((0 : Nat) + (3 : Nat) ≤ (3 : Nat)) (100004 : Nat) (Ob.box 226 [V.c (Value.pointer none), (yyGA44 l i), (yyGA43 l i)])))] ⟨qGA40_, oM, tI⟩ ?_; refine aops_nil (xt_n (hK _ ?_)); clear hK K
   refine aw_ret ?_
   refine ret_of_le (le_freezeBox (t := (226 : Nat)) (cs := [V.c (Value.pointer none), (yyGA44 l i), (yyGA43 l i)]) 200005 kR kR) ?_
   refine ret_of_le (le_freezeBox (t := (226 : Nat)) (cs := [V.c (Value.pointer none), (yyGA44 l i), (yyGA43 l i)]) 100004 kR kR) ?_
   rw [nearI, nb, na, if_neg h1, if_pos h2]
   refine rP (V.agg [V.c (Value.pointer none), (yyGA44 l i), (yyGA43 l i)])
  ·
   have h2 : ¬ i + 1 < l.length := by simp at c2; omega
   refine aw_skip ?_
   refine xt_n (hK _ ?_); clear hK K; refine aw_seq_k fun K hK => wR 6 ?_; refine aX hTT 2 [(0, .c qGA40), (1, .r (pw ((0 : Nat) + (3 : Nat) ≤ (3 : Nat)) (100004 : Nat) (Ob.box 226 [V.c (Value.pointer none), (yyGA44 l i), V.c (Value.pointer none)])))] ⟨qGA40_, oM, tI⟩ ?_; refine aops_nil (xt_n (hK _ ?_)); clear hK K
   refine aw_ret ?_
   refine ret_of_le (le_freezeBox (t := (226 : Nat)) (cs := [V.c (Value.pointer none), (yyGA44 l i), V.c (Value.pointer none)]) 200005 kR kR) ?_
   refine ret_of_le (le_freezeBox (t := (226 : Nat)) (cs := [V.c (Value.pointer none), (yyGA44 l i), V.c (Value.pointer none)]) 100004 kR kR) ?_
   rw [nearI, nb, na, if_neg h1, if_neg h2]
   refine rP (V.agg [V.c (Value.pointer none), (yyGA44 l i), V.c (Value.pointer none)])
abbrev TrO (c : Cut) (l : List Pt) (r per : Int) : Ob := .box 158 (trC c l r per)
def allV (l : List Pt) : List (List V) := (List.range l.length).map fun i : Nat => [V.i i, nearI l i]
theorem allV_get {l : List Pt} {k : Nat} (h : k < l.length) : (allV l)[k]? = some [V.i k, nearI l k] := by simp [allV, h]
theorem allV_len (l : List Pt) : (allV l).length = l.length := by simp [allV]
theorem near_idf (b : Option Pt) (h : Pt) (a : Option Pt) (n : Int) : V.idfL [V.i n, gNearV b h a] = true := by cases b <;> cases a <;> rfl
theorem nearI_idf (l : List Pt) (i : Nat) : V.idf (nearI l i) = true := by
 unfold nearI
 cases nb l i <;> cases na l i <;> rfl
set_option maxRecDepth 100000 in
theorem all_it (c : Cut) (l : List Pt) (r per : Int) (hl : l.length ≤ 4096) : AIt Tryz.prog 140 [.ptr [.ptr (trC c l r per)]] (allV l) := by
 refine ait_intro hTT hMX (fn := Tryz.f140) (N := _) ⟨Tryz.func140, rfl, Tryz.ntmps140, kR⟩ rfl (by simp) fun C Y hC => ?_
 rw [allV_len]
 refine awj_seq_a hC fun K hK => ?_
 refine wR 2 ?_; refine aX hTT 6 [] tI ?_; refine aops_nil (xt_n (hK _ ?_)); clear hK K
 refine awj_block ?_
 refine awj_loop (ι := Nat) (fun k => ⟨mkT [(0, .c (.func (.yield Y.l) #[] #[])), (1, .ptr [.ptr (trC c l r per)]), (8, .i l.length), (9, .i k)], mkS [], 1⟩) (fun k => k) (fun k => k ≤ l.length) (fun k => l.length - k) 0 (Nat.zero_le _) ?_ rfl ?_
 ·
  refine le_ren [] (.cons kR (.cons kR (.cons kR (.cons kR .nil)))) .nil kR kR
 intro k hk
 refine awj_seq_a hC fun K hK => ?_
 refine wR 2 ?_; refine aX hTT 1 [] tI ?_; refine aops_nil (xt_n (hK _ ?_)); clear hK K
 refine awj_seq_a hC fun K hK => ?_
 refine w_cond (t := decide ((↑k : Int) < (↑(List.length l) : Int))) kR (fun c1 => ?_) (fun c1 => ?_)
 ·
  have h1 : k < l.length := by simpa using c1
  refine aw_skip ?_
  refine xt_n (hK _ ?_); clear hK K
  refine awj_seq ?_
  refine awj_block ?_
  refine awj_seq_a hC fun K hK => ?_
  refine wR 3 ?_; refine aX hTT 2 [] tI ?_; refine aops_nil (xt_n (hK _ ?_)); clear hK K
  refine awj_seq (awj_yield hC 5 kR rfl ?_)
  refine aX hTT 4 [] tI ?_
  refine e_call (first := []) (caps := []) (at_ac c l r per k h1 hl) kR kR kR ?_ kR ?_
  ·
   exact nearI_idf l k
  refine aops_nil ?_
  refine ⟨kR, ⟨_, allV_get h1, RImp.refl _, RImp.refl _, trivial⟩, near_idf _ _ _ _, ?_, ?_⟩
  ·
   refine aX hTT 1 [] tI ?_
   refine aops_nil ?_
   refine xjt_n ?_
   refine awj_cond (t := false) kR (fun h => by cases h) (fun _ => ?_)
   refine awj_skip ?_
   refine xjb_n ?_
   refine xjt_n ?_
   refine awj_aw hC ?_
   refine wR 5 ?_; refine aX hTT 2 [(0, .i ((↑k : Int) + (1 : Int)))] ⟨oM, tI⟩ ?_; refine aops_nil ?_
   refine xjt_n ?_
   refine ⟨rfl, k + 1, by omega, ?_, rfl, by omega⟩
   refine le_ren [] (.cons kR (.cons kR (.cons kR (.cons kR .nil)))) .nil kR kR
  ·
   refine aX hTT 1 [] tI ?_
   refine aops_nil ?_
   refine xjt_n ?_
   refine awj_cond (t := true) kR (fun _ => ?_) (fun h => by cases h)
   refine awj_ret ?_
   refine xjb_r ?_
   refine xjt_r ?_
   refine xjt_r ?_
   refine xjb_r ?_
   exact ⟨.inr rfl, fun h => (by cases h), fun _ => h1⟩
 ·
  have h1 : k = l.length := by simp at c1; omega
  refine aw_exit ?_
  refine xt_x ?_
  refine xjt_x ?_
  refine xjb_same ?_
  exact ⟨.inl rfl, fun _ => h1, fun h => by cases h⟩
end Go.Proofs.YtplnhbenmgclfaaGreatDoor

namespace Go.Proofs.YtplnhbenmgclfaaGreatDoor
open Go.Ab Go.RowKit Go.Dw Go.Shelf
theorem nearT_idf (u : V) (b : Option Pt) (h : Pt) (a : Option Pt) (hu : u.idf = true) : V.idfL [u, gNearV b h a] = true := by
 cases b <;> cases a <;> simp [V.idfL, V.idf, gNearV, optP, hu]
def gRule (c : Cut) (l : List Pt) (r per : Int) (i : Nat) : Int := ruleP c r per (nb l i) (gp l i) (na l i)
theorem ruleP_bd (c : Cut) (r per : Int) (b : Option Pt) (h : Pt) (a : Option Pt) : 0 ≤ ruleP c r per b h a ∧ ruleP c r per b h a ≤ 5 := by
 unfold ruleP
 split
 ·
  omega
 split
 ·
  omega
 split
 ·
  omega
 split
 ·
  omega
 split <;> omega
theorem gRule_bd (c : Cut) (l : List Pt) (r per : Int) (i : Nat) : 0 ≤ gRule c l r per i ∧ gRule c l r per i ≤ 5 := ruleP_bd _ _ _ _ _ _
def faultN (c : Cut) (l : List Pt) (r per : Int) : Option Nat := (List.range l.length).find? fun i => decide (0 < gRule c l r per i)
def faultR (c : Cut) (l : List Pt) (r per : Int) : Int × Int := match faultN c l r per with
 | some i => ((i : Int), gRule c l r per i)
 | none => (0, 0)
theorem faultN_none {c : Cut} {l : List Pt} {r per : Int} : faultN c l r per = none ↔ ∀ i, i < l.length → gRule c l r per i = 0 := by
 unfold faultN
 rw [List.find?_eq_none]
 constructor
 ·
  intro h i hi
  have := h i (by simpa using hi)
  have := (gRule_bd c l r per i).1
  simp at *
  omega
 ·
  intro h i hi
  rw [h i (by simpa using hi)]
  decide
theorem faultN_some {c : Cut} {l : List Pt} {r per : Int} {i : Nat} : faultN c l r per = some i ↔ i < l.length ∧ 0 < gRule c l r per i ∧ ∀ j, j < i → gRule c l r per j = 0 := by
 unfold faultN
 rw [List.find?_range_eq_some]
 constructor
 ·
  rintro ⟨h1, h2, h3⟩
  refine ⟨by simpa using h2, by simpa using h1, fun j hj => ?_⟩
  have := h3 j hj
  have := (gRule_bd c l r per j).1
  simp at *
  omega
 ·
  rintro ⟨h1, h2, h3⟩
  exact ⟨by simpa using h2, by simpa using h1, fun j hj => by rw [h3 j hj]; decide⟩
theorem faultR_none {c : Cut} {l : List Pt} {r per : Int} (h : ∀ i, i < l.length → gRule c l r per i = 0) : faultR c l r per = (0, 0) := by rw [faultR, faultN_none.2 h]
theorem faultR_some {c : Cut} {l : List Pt} {r per : Int} {i : Nat} (h1 : i < l.length) (h2 : 0 < gRule c l r per i) (h3 : ∀ j, j < i → gRule c l r per j = 0) : faultR c l r per = ((i : Int), gRule c l r per i) := by rw [faultR, faultN_some.2 ⟨h1, h2, h3⟩]
theorem nb_Ed {l : List Pt} (hl : ∀ k, k < l.length → gE (gp l k) = true) (i : Nat) : EdO (nb l i) := by
 unfold nb
 split
 ·
  by_cases h : i - 1 < l.length
  ·
   exact gE_iff.1 (hl _ h)
  ·
   rw [gp_out oM]; show Ed (0, 0); unfold Ed; simp
 ·
  trivial
theorem na_Ed {l : List Pt} (hl : ∀ k, k < l.length → gE (gp l k) = true) (i : Nat) : EdO (na l i) := by
 unfold na
 split
 ·
  exact gE_iff.1 (hl _ (by assumption))
 ·
  trivial
set_option maxRecDepth 100000 in
theorem all_ac (u : List V) (hu : V.idfL u = true) : AC Tryz.prog 111 [.ptr u] (.fn (.func 140) [] [.ptr [.ptr u]]) [] := by
 refine acI hTT hMX Tryz.func111 Tryz.ntmps111 fun C hC hF => ?_
 refine aw_seq_k fun K hK => wR 2 ?_; refine aX hTT 2 [] tI ?_; refine aops_nil (xt_n (hK _ ?_)); clear hK K; refine aw_seq_k fun K hK => wR 3 ?_; refine aX hTT 2 [] tI ?_; refine aops_nil (xt_n (hK _ ?_)); clear hK K
 refine aw_ret ?_
 refine rP (V.fn (Fn.func (140 : Nat)) [] [V.ptr [V.ptr u]])
set_option maxRecDepth 100000 in
theorem fault_ac (c : Cut) (l : List Pt) (r per : Int) (hc : cutE c = 0) (hl : gChk l = 0) (hp : Plc r per) : AC Tryz.prog 62 [.ptr (trC c l r per)] (.tup [.i (faultR c l r per).1, .i (faultR c l r per).2]) [] := by
 obtain ⟨l1, l2⟩ := gChk_ok.1 hl
 refine acI hTT hMX Tryz.func62 Tryz.ntmps62 fun C hC hF => ?_
 refine aw_seq_k fun K hK => wR 2 ?_; refine aX hTT 3 [(1, .r (pn 2 (V.ref 100002 0) (100002 : Nat) (Ob.box 3 [V.i 0]))), (2, .r (pn 3 (V.ref 100003 0) (100003 : Nat) (Ob.box 3 [V.i 0])))] tI ?_; refine aops_nil (xt_n (hK _ ?_)); clear hK K; refine aw_seq_k fun K hK => ?_; refine aw_seq_k fun K hK => wR 3 ?_; refine aX hTT 1 [] tI ?_
 refine eC (all_ac (trC c l r per) kR) ?_
 refine aops_nil (xt_n (hK _ ?_)); clear hK K
 refine aw_block ?_
 refine w_rangeI (caps := [V.ptr [V.ptr [V.i (Cut.half c), V.i (Cut.gain c), V.i (Cut.thin c), V.i (Cut.wide c), V.i (Cut.slope c), V.i (Cut.jerk c), V.i (Cut.sty c), V.sl 2 (List.length l) fun (k : Nat) => [V.i (Prod.fst (gp l k)), V.i (Prod.snd (gp l k))], V.i r, V.i per]]]) hF hC ((all_it c l r per l1)) kR kR ?_ kR [500, 501] [(500, 100002), (501, 100003)] [(1, .ptr [.ptr (trC c l r per)]), (2, .ref 500 0), (3, .ref 501 0)] (fun k => ∀ j, j < k → gRule c l r per j = 0) (fun _ => [.box 3 [.i 0], .box 3 [.i 0]]) (fun k e sx => e = .ret ∧ sx = [.box 3 [.i k], .box 3 [.i (gRule c l r per k)]] ∧ 0 < gRule c l r per k ∧ ∀ j, j < k → gRule c l r per j = 0) ?_ kR kR kR (.cons kR (.cons kR (.cons kR .nil))) (.cons ⟨Ob.box 3 [V.i 0], kR, .box kR⟩ (.cons ⟨Ob.box 3 [V.i 0], kR, .box kR⟩ .nil)) kR ?_ ?_ ?_ ?_ ?_
 ·
  intro x hx
  simp only [allV, List.mem_map] at hx
  obtain ⟨j, _, rfl⟩ := hx
  rfl
 ·
  intro j hj
  omega
 ·
  intro j o ho
  simp at ho
  rcases ho with rfl | rfl <;> rfl
 ·
  rintro k e sx ⟨_, rfl, _⟩ o ho
  simp at ho
  rcases ho with rfl | rfl <;> rfl
 ·
  rintro C' ⟨lx, hF'⟩ k x hx hok
  have hk : k < l.length := by have := (List.getElem?_eq_some_iff.1 hx).1; rwa [allV_len] at this
  rw [allV_get hk] at hx
  injection hx with hx
  subst hx
  refine aw_seq_k fun K hK => wR 2 ?_; refine aX hTT 1 [] tI ?_; refine aops_nil (xt_n (hK _ ?_)); clear hK K; refine wR 3 ?_; refine aX hTT 2 [(0, .r (pn 5 (V.ref 200005 0) (200005 : Nat) (Ob.box 226 [V.c (Value.pointer none), V.c (Value.pointer none), V.c (Value.pointer none)]))), (1, .r (pw ((0 : Nat) + (3 : Nat) ≤ (3 : Nat)) (200005 : Nat) (Ob.box 226 [optP (nb l k), V.ptr [V.i (Prod.fst (gp l k)), V.i (Prod.snd (gp l k))], optP (na l k)])))] ⟨oM, tI⟩ ?_; refine aops_nil ?_; refine xt_n ?_
  refine aw_block ?_
  refine aw_seq_k fun K hK => wR 4 ?_; refine aX hTT 2 [(1, .c ((0 : Nat) ≤ (3 : Nat)))] ⟨oM, tI⟩ ?_
  refine e_call (first := []) (caps := []) (rule_ac c l r per (nb l k) (gp l k) (na l k) hc hp (nb_Ed l2 k) (gE_iff.1 (l2 k hk)) (na_Ed l2 k)) kR kR ?_ kR kR ?_
  ·
   exact nearT_idf _ _ _ _ kR
  refine aX hTT 1 [] tI ?_; refine aops_nil (xt_n (hK _ ?_)); clear hK K; refine aw_seq_k fun K hK => wR 5 ?_; refine aX hTT 2 [] tI ?_; refine aops_nil (xt_n (hK _ ?_)); clear hK K
  refine w_cond (t := decide ((0 : Int) < ruleP c r per (nb l k) (gp l k) (na l k))) kR (fun c1 => ?_) (fun c1 => ?_)
  ·
   have h1 : 0 < gRule c l r per k := by simp at c1; exact c1
   refine aw_seq_k fun K hK => wR 6 ?_; refine aX hTT 4 [(2, .r (pw ((0 : Nat) + (1 : Nat) ≤ (1 : Nat)) (500 : Nat) (Ob.box 3 [V.i (↑k : Int)]))), (3, .r (pw ((0 : Nat) + (1 : Nat) ≤ (1 : Nat)) (501 : Nat) (Ob.box 3 [V.i (ruleP c r per (nb l k) (gp l k) (na l k))])))] ⟨oM, oM, tI⟩ ?_; refine aops_nil (xt_n (hK _ ?_)); clear hK K
   refine aw_ret ?_
   refine xb_r ?_
   refine ⟨_, ⟨rfl, rfl, h1, hok⟩, ?_⟩
   refine le_ren (sl := [(500, Ob.box 3 [V.i (↑k : Int)]), (501, Ob.box 3 [V.i (gRule c l r per k)])]) [] .nil (.cons ⟨Ob.box 3 [V.i (↑k : Int)], kR, .box kR⟩ (.cons ⟨Ob.box 3 [V.i (ruleP c r per (nb l k) (gp l k) (na l k))], kR, .box kR⟩ .nil)) kR kR
  ·
   have h1 : gRule c l r per k ≤ 0 := by simp at c1; exact c1
   have h2 := (gRule_bd c l r per k).1
   refine aw_skip ?_
   refine xb_n ?_
   refine ⟨fun j hj => ?_, ?_⟩
   ·
    rcases Nat.lt_or_ge j k with h | h
    ·
     exact hok j h
    ·
     obtain rfl : j = k := by omega
     omega
   ·
    refine le_ren (sl := [(500, Ob.box 3 [V.i 0]), (501, Ob.box 3 [V.i 0])]) [] .nil (.cons ⟨Ob.box 3 [V.i 0], kR, .box kR⟩ (.cons ⟨Ob.box 3 [V.i 0], kR, .box kR⟩ .nil)) kR kR
 ·
  intro hok
  rw [allV_len] at hok
  refine xb_n ?_; refine xt_n (hK _ ?_); clear hK K; refine aw_seq_k fun K hK => wR 2 ?_; refine aX hTT 2 [(0, .r (pw ((0 : Nat) + (1 : Nat) ≤ (1 : Nat)) (500 : Nat) (Ob.box 3 [V.i 0]))), (1, .r (pw ((0 : Nat) + (1 : Nat) ≤ (1 : Nat)) (501 : Nat) (Ob.box 3 [V.i 0])))] ⟨oM, oM, tI⟩ ?_; refine aops_nil (xt_n (hK _ ?_)); clear hK K
  refine aw_ret ?_
  refine ret_of_le (le_freezeBox (t := (3 : Nat)) (cs := [V.i 0]) 500 kR kR) ?_
  refine ret_of_le (le_freezeBox (t := (3 : Nat)) (cs := [V.i 0]) 501 kR kR) ?_
  rw [faultR_none hok]
  refine rP (V.tup [V.i 0, V.i 0])
 ·
  rintro k e sx hk ⟨rfl, rfl, h1, h2⟩
  rw [allV_len] at hk
  refine aw_ret ?_
  refine xb_r ?_
  refine xt_r ?_
  refine ret_of_le (le_freezeBox (t := (3 : Nat)) (cs := [V.i (↑k : Int)]) 500 kR kR) ?_
  refine ret_of_le (le_freezeBox (t := (3 : Nat)) (cs := [V.i (gRule c l r per k)]) 501 kR kR) ?_
  rw [faultR_some hk h1 h2]
  refine rP (V.tup [V.i (↑k : Int), V.i (gRule c l r per k)])
def plcE (r per : Int) : Int := if betB r 0 4194304 && betB per 1 65536 then 0 else 3
theorem plcE_ok {r per : Int} : plcE r per = 0 ↔ Plc r per := by
 unfold plcE
 by_cases h : (betB r 0 4194304 && betB per 1 65536) = true
 ·
  rw [if_pos h]
  simp [betB] at h
  exact ⟨fun _ => ⟨by omega, by omega⟩, fun _ => rfl⟩
 ·
  rw [if_neg h]
  refine ⟨fun e => (by cases e), fun hp => ?_⟩
  obtain ⟨h1, h2⟩ := hp
  exact absurd (by simp [betB]; omega) h
set_option maxRecDepth 100000 in
theorem checkPlace_ac (r per : Int) : AC Tryz.prog 59 [.i r, .i per] (.i (plcE r per)) [] := by
 refine acI hTT hMX Tryz.func59 Tryz.ntmps59 fun C hC hF => ?_
 refine aw_seq_k fun K hK => wR 2 ?_; refine aX hTT 1 [] tI ?_; refine aops_nil (xt_n (hK _ ?_)); clear hK K; refine aw_seq_k fun K hK => ?_; refine aw_seq_k fun K hK => wR 3 ?_; refine aX hTT 1 [] tI ?_
 refine eC (between_ac r 0 4194304) ?_
 refine aX hTT 3 [(2, .c (gA ((!betB r (0 : Int) (4194304 : Int)) == false) True))] ⟨⟨⟨tI, tI⟩, (fun _ => tI)⟩, tI⟩ ?_
 refine eG 1 (g := (!betB r (0 : Int) (4194304 : Int)) == false) (fun h => between_ac per 1 65536) ?_
 refine aX hTT 2 [(0, .c (gB ((!betB r (0 : Int) (4194304 : Int)) == false) True)), (1, .c (True ∧ ((!betB r (0 : Int) (4194304 : Int)) = false → ((!betB r (0 : Int) (4194304 : Int)) == false) = true)))] ⟨⟨⟨(by (exact fun h => h)), tI⟩, (fun _ => tI)⟩, ⟨tI, (by (intro h; rw [h]; rfl))⟩, tI⟩ ?_; refine aops_nil (xt_n (hK _ ?_)); clear hK K
 refine w_cond (t := !betB r (0 : Int) (4194304 : Int) || !betB per (1 : Int) (65536 : Int)) kR (fun c1 => ?_) (fun c1 => ?_)
 ·
  have e : plcE r per = 3 := by
   cases h1 : betB r 0 4194304 <;> cases h2 : betB per 1 65536 <;> simp [plcE, h1, h2] at c1 ⊢
  refine aw_seq_k fun K hK => wR 4 ?_; refine aX hTT 1 [] tI ?_; refine aops_nil (xt_n (hK _ ?_)); clear hK K
  refine aw_ret ?_
  refine xt_r ?_
  rw [e]
  refine rP (V.i 3)
 ·
  have e : plcE r per = 0 := by
   cases h1 : betB r 0 4194304 <;> cases h2 : betB per 1 65536 <;> simp [plcE, h1, h2] at c1 ⊢
  refine aw_skip ?_
  refine xt_n (hK _ ?_); clear hK K; refine aw_seq_k fun K hK => wR 4 ?_; refine aX hTT 1 [] tI ?_; refine aops_nil (xt_n (hK _ ?_)); clear hK K
  refine aw_ret ?_
  rw [e]
  refine rP (V.i 0)
def gErr (c : Cut) (l : List Pt) : Int := if cutE c = 0 then gChk l else cutE c
theorem gErr_1 {c : Cut} {l : List Pt} (h : ¬ cutE c = 0) : gErr c l = cutE c := by rw [gErr, if_neg h]
theorem gErr_2 {c : Cut} {l : List Pt} (h : cutE c = 0) : gErr c l = gChk l := by rw [gErr, if_pos h]
theorem gErr_ok {c : Cut} {l : List Pt} (h : gErr c l = 0) : cutE c = 0 ∧ gChk l = 0 := by
 by_cases hc : cutE c = 0
 ·
  rw [gErr_2 hc] at h; exact ⟨hc, h⟩
 ·
  rw [gErr_1 hc] at h; exact absurd h hc
abbrev yyGA50 (c : Cut) (l : List Pt) : Ob := Ob.box 158 [V.i (Cut.half c), V.i (Cut.gain c), V.i (Cut.thin c), V.i (Cut.wide c), V.i (Cut.slope c), V.i (Cut.jerk c), V.i (Cut.sty c), V.sl 2 (List.length l) fun (k : Nat) => [V.i (Prod.fst (gp l k)), V.i (Prod.snd (gp l k))], V.i 0, V.i 0]
set_option maxRecDepth 100000 in
theorem newTrack_ok (c : Cut) (l : List Pt) (hl : l.length ≤ 4611686018427387904) (h : gErr c l = 0) : AC Tryz.prog 58 [c.v, V.pts l] (.tup [.ref 0 0, .i 0]) [TrO c l 0 0] := by
 obtain ⟨h1, h2⟩ := gErr_ok h
 have A1 := cutCheck_ac c
 have A2 := gCheckPoints_ac l hl
 rw [h1] at A1
 rw [h2] at A2
 refine acI hTT hMX Tryz.func58 Tryz.ntmps58 fun C hC hF => ?_
 refine aw_seq_k fun K hK => wR 2 ?_; refine aX hTT 3 [] tI ?_; refine aops_nil (xt_n (hK _ ?_)); clear hK K; refine aw_seq_k fun K hK => ?_; refine aw_seq_k fun K hK => wR 3 ?_; refine aX hTT 1 [] tI ?_
 refine eC (A1) ?_
 refine aX hTT 1 [] tI ?_; refine aops_nil (xt_n (hK _ ?_)); clear hK K; refine aw_seq_k fun K hK => wR 4 ?_; refine aX hTT 2 [] tI ?_; refine aops_nil (xt_n (hK _ ?_)); clear hK K; refine w_false (t := false) kR rfl ?_
 refine aw_skip ?_
 refine xt_n (hK _ ?_); clear hK K; refine aw_seq_k fun K hK => ?_; refine aw_seq_k fun K hK => wR 5 ?_; refine aX hTT 1 [] tI ?_
 refine eC (A2) ?_
 refine aops_x (M := [21]) hTT 1 [] tI ?_
 refine aops_nil (xt_n (hK _ ?_)); clear hK K; refine aw_seq_k fun K hK => wR 6 ?_
 refine aops_x (M := [21]) hTT 2 [] tI ?_
 refine aops_nil (xt_n (hK _ ?_)); clear hK K; refine w_false (t := false) kR rfl ?_
 refine aw_skip ?_
 refine xt_n (hK _ ?_); clear hK K; refine aw_seq_k fun K hK => wR 7 ?_
 refine aops_x (M := [21]) hTT 6 [(3, .r (pn 21 (V.ref 600021 0) (600021 : Nat) ((yyGA50 c l))))] tI ?_
 refine aops_nil (xt_n (hK _ ?_)); clear hK K
 refine aw_ret ?_
 refine ret_own [(0, 600021)] [(4, V.ref 0 0), (5, V.i 0)] (.inr rfl) (.cons kR (.cons kR .nil)) (.cons ⟨(yyGA50 c l), kR, .box kR⟩ .nil) kR kR kR kR
set_option maxRecDepth 100000 in
theorem newTrack_no (c : Cut) (l : List Pt) (hl : l.length ≤ 4611686018427387904) (h : ¬ gErr c l = 0) : AC Tryz.prog 58 [c.v, V.pts l] (.tup [.c (.pointer none), .i (gErr c l)]) [] := by
 refine acI hTT hMX Tryz.func58 Tryz.ntmps58 fun C hC hF => ?_
 refine aw_seq_k fun K hK => wR 2 ?_; refine aX hTT 3 [] tI ?_; refine aops_nil (xt_n (hK _ ?_)); clear hK K; refine aw_seq_k fun K hK => ?_; refine aw_seq_k fun K hK => wR 3 ?_; refine aX hTT 1 [] tI ?_
 refine eC (cutCheck_ac c) ?_
 refine aX hTT 1 [] tI ?_; refine aops_nil (xt_n (hK _ ?_)); clear hK K; refine aw_seq_k fun K hK => wR 4 ?_; refine aX hTT 2 [] tI ?_; refine aops_nil (xt_n (hK _ ?_)); clear hK K
 refine w_cond (t := !decide (cutE c = (0 : Int))) kR (fun c1 => ?_) (fun c1 => ?_)
 ·
  simp at c1
  refine aw_seq_k fun K hK => wR 5 ?_; refine aX hTT 3 [] tI ?_; refine aops_nil (xt_n (hK _ ?_)); clear hK K
  refine aw_ret ?_
  refine xt_r ?_
  rw [gErr_1 c1]
  refine rP (V.tup [V.c (Value.pointer none), V.i (cutE c)])
 simp at c1
 refine aw_skip ?_
 refine xt_n (hK _ ?_); clear hK K; refine aw_seq_k fun K hK => ?_; refine aw_seq_k fun K hK => wR 5 ?_; refine aX hTT 1 [] tI ?_
 refine eC (gCheckPoints_ac l hl) ?_
 refine aX hTT 1 [] tI ?_; refine aops_nil (xt_n (hK _ ?_)); clear hK K; refine aw_seq_k fun K hK => wR 6 ?_; refine aX hTT 2 [] tI ?_; refine aops_nil (xt_n (hK _ ?_)); clear hK K
 refine w_cond (t := !decide (gChk l = (0 : Int))) kR (fun c2 => ?_) (fun c2 => ?_)
 ·
  refine aw_seq_k fun K hK => ?_
  refine wR 7 ?_; refine aX hTT 3 [] tI ?_; refine aops_nil (xt_n (hK _ ?_)); clear hK K
  refine aw_ret ?_
  refine xt_r ?_
  rw [gErr_2 c1]
  refine rP (V.tup [V.c (Value.pointer none), V.i (gChk l)])
 ·
  simp at c2
  rw [gErr_2 c1] at h
  exact absurd c2 h
def FaultV (c : Cut) (l : List Pt) (r per : Int) : Int × Int × Int :=
 if gErr c l = 0 then (if plcE r per = 0 then (if (faultR c l r per).2 = 0 then (0, 0, 5) else ((faultR c l r per).1, (faultR c l r per).2, 0)) else (0, 0, plcE r per)) else (0, 0, gErr c l)
theorem FaultV_1 {c : Cut} {l : List Pt} {r per : Int} (h : ¬ gErr c l = 0) : FaultV c l r per = (0, 0, gErr c l) := by rw [FaultV, if_neg h]
theorem FaultV_2 {c : Cut} {l : List Pt} {r per : Int} (h : gErr c l = 0) (h2 : ¬ plcE r per = 0) : FaultV c l r per = (0, 0, plcE r per) := by rw [FaultV, if_pos h, if_neg h2]
theorem FaultV_3 {c : Cut} {l : List Pt} {r per : Int} (h : gErr c l = 0) (h2 : plcE r per = 0) (h3 : (faultR c l r per).2 = 0) : FaultV c l r per = (0, 0, 5) := by rw [FaultV, if_pos h, if_pos h2, if_pos h3]
theorem FaultV_4 {c : Cut} {l : List Pt} {r per : Int} (h : gErr c l = 0) (h2 : plcE r per = 0) (h3 : ¬ (faultR c l r per).2 = 0) : FaultV c l r per = ((faultR c l r per).1, (faultR c l r per).2, 0) := by rw [FaultV, if_pos h, if_pos h2, if_neg h3]
def FaultT (c : Cut) (l : List Pt) (r per : Int) : V := .tup [.i (FaultV c l r per).1, .i (FaultV c l r per).2.1, .i (FaultV c l r per).2.2]
abbrev yyGA52 (l : List Pt) : V := V.sl 2 (List.length l) fun (k : Nat) => [V.i (Prod.fst (gp l k)), V.i (Prod.snd (gp l k))]
abbrev yyGA51 (c : Cut) (l : List Pt) (r : Int) (per : Int) : List V := [V.i (Cut.half c), V.i (Cut.gain c), V.i (Cut.thin c), V.i (Cut.wide c), V.i (Cut.slope c), V.i (Cut.jerk c), V.i (Cut.sty c), (yyGA52 l), V.i r, V.i per]
set_option maxRecDepth 100000 in
theorem Fault_ac (c : Cut) (l : List Pt) (r per : Int) (hl : l.length ≤ 4611686018427387904) : AC Tryz.prog 23 [c.v, V.pts l, .i r, .i per] (FaultT c l r per) [] := by
 refine acI hTT hMX Tryz.func23 Tryz.ntmps23 fun C hC hF => ?_
 unfold FaultT
 by_cases h : gErr c l = 0
 ·
  refine aw_seq_k fun K hK => ?_
  refine wR 2 ?_; refine aX hTT 4 [] tI ?_; refine aops_nil (xt_n (hK _ ?_)); clear hK K; refine aw_seq_k fun K hK => wR 3 ?_; refine aX hTT 2 [] tI ?_
  refine e_callO (first := []) (caps := []) (k := 200018) (v' := V.tup [V.ref 200018 0, V.i 0]) (ob' := Ob.box 158 [V.i (Cut.half c), V.i (Cut.gain c), V.i (Cut.thin c), V.i (Cut.wide c), V.i (Cut.slope c), V.i (Cut.jerk c), V.i (Cut.sty c), (yyGA52 l), V.i 0, V.i 0]) (newTrack_ok c l hl h) kR kR kR kR kR kR kR ?_
  refine aX hTT 5 [] tI ?_; refine aops_nil (xt_n (hK _ ?_)); clear hK K; refine aw_seq_k fun K hK => ?_; refine aw_seq_k fun K hK => wR 4 ?_; refine aX hTT 2 [] tI ?_; refine aops_nil (xt_n (hK _ ?_)); clear hK K; refine w_true (t := true) kR rfl ?_; refine wR 5 ?_; refine aX hTT 2 [] tI ?_
  refine eC (checkPlace_ac r per) ?_
  refine aX hTT 1 [] tI ?_; refine aops_nil (xt_n (hK _ ?_)); clear hK K; refine aw_seq_k fun K hK => ?_; refine aw_seq_k fun K hK => wR 6 ?_; refine aX hTT 2 [] tI ?_; refine aops_nil (xt_n (hK _ ?_)); clear hK K
  refine w_cond (t := !decide (plcE r per = (0 : Int))) kR (fun c1 => ?_) (fun c1 => ?_)
  ·
   have h2 : ¬ plcE r per = 0 := by simpa using c1
   refine aw_seq_k fun K hK => wR 7 ?_; refine aX hTT 4 [] tI ?_; refine aops_nil (xt_n (hK _ ?_)); clear hK K
   refine aw_ret ?_
   refine xt_r ?_
   rw [FaultV_2 h h2]
   refine rP (V.tup [V.i 0, V.i 0, V.i (plcE r per)])
  ·
   have h2 : plcE r per = 0 := by simpa using c1
   obtain ⟨q1, q2⟩ := gErr_ok h
   refine aw_skip ?_
   refine xt_n (hK _ ?_); clear hK K; refine aw_seq_k fun K hK => wR 7 ?_; refine aX hTT 10 [(6, .r (pw ((8 : Nat) + (1 : Nat) ≤ (10 : Nat)) (200018 : Nat) (Ob.box 158 [V.i (Cut.half c), V.i (Cut.gain c), V.i (Cut.thin c), V.i (Cut.wide c), V.i (Cut.slope c), V.i (Cut.jerk c), V.i (Cut.sty c), (yyGA52 l), V.i r, V.i 0]))), (9, .r (pw ((9 : Nat) + (1 : Nat) ≤ (10 : Nat)) (200018 : Nat) (Ob.box 158 (yyGA51 c l r per))))] ⟨oM, oM, tI⟩ ?_; refine aops_nil (xt_n (hK _ ?_)); clear hK K; refine aw_seq_k fun K hK => ?_
   refine w_le (le_freezeBox (t := (158 : Nat)) (cs := (yyGA51 c l r per)) 200018 kR kR) ?_
   refine wR 8 ?_; refine aX hTT 1 [] tI ?_
   refine eC (fault_ac c l r per q1 q2 (plcE_ok.1 h2)) ?_
   refine aops_n hTT (M := []) (n := 5) [pv 37 (V.tup [V.i (Prod.fst (faultR c l r per)), V.i (Prod.snd (faultR c l r per))]), pv 40 (V.i (Prod.fst (faultR c l r per))), pv 41 (V.i (Prod.snd (faultR c l r per))), pv 13 (V.i (Prod.fst (faultR c l r per))), pv 14 (V.i (Prod.snd (faultR c l r per)))] kR kR tI ?_
   refine aops_nil (xt_n (hK _ ?_)); clear hK K; refine aw_seq_k fun K hK => ?_; refine aw_seq_k fun K hK => wR 9 ?_
   refine aops_n hTT (M := []) (n := 2) [pv 42 (V.i (Prod.snd (faultR c l r per))), pv 43 (V.b (decide (Prod.snd (faultR c l r per) = (0 : Int))))] kR kR tI ?_
   refine aops_nil (xt_n (hK _ ?_)); clear hK K
   refine w_cond (t := decide (Prod.snd (faultR c l r per) = (0 : Int))) kR (fun c2 => ?_) (fun c2 => ?_)
   ·
    have h3 : (faultR c l r per).2 = 0 := by simpa using c2
    refine aw_seq_k fun K hK => wR 10 ?_
    refine aops_n hTT (M := []) (n := 3) [pv 8 (V.i 0), pv 9 (V.i 0), pv 10 (V.i 5)] kR kR tI ?_
    refine aops_nil (xt_n (hK _ ?_)); clear hK K
    refine aw_ret ?_
    refine xt_r ?_
    rw [FaultV_3 h h2 h3]
    refine rP (V.tup [V.i 0, V.i 0, V.i 5])
   ·
    have h3 : ¬ (faultR c l r per).2 = 0 := by simpa using c2
    refine aw_skip ?_
    refine xt_n (hK _ ?_); clear hK K; refine aw_seq_k fun K hK => wR 10 ?_
    refine aops_n hTT (M := []) (n := 5) [pv 44 (V.i (Prod.fst (faultR c l r per))), pv 45 (V.i (Prod.snd (faultR c l r per))), pv 8 (V.i (Prod.fst (faultR c l r per))), pv 9 (V.i (Prod.snd (faultR c l r per))), pv 10 (V.i 0)] kR kR tI ?_
    refine aops_nil (xt_n (hK _ ?_)); clear hK K
    refine aw_ret ?_
    rw [FaultV_4 h h2 h3]
    refine rP (V.tup [V.i (Prod.fst (faultR c l r per)), V.i (Prod.snd (faultR c l r per)), V.i 0])
 ·
  refine aw_seq_k fun K hK => ?_
  refine wR 2 ?_; refine aX hTT 4 [] tI ?_; refine aops_nil (xt_n (hK _ ?_)); clear hK K; refine aw_seq_k fun K hK => wR 3 ?_; refine aX hTT 2 [] tI ?_
  refine eC (newTrack_no c l hl h) ?_
  refine aX hTT 5 [] tI ?_; refine aops_nil (xt_n (hK _ ?_)); clear hK K; refine aw_seq_k fun K hK => ?_; refine aw_seq_k fun K hK => wR 4 ?_; refine aX hTT 2 [] tI ?_; refine aops_nil (xt_n (hK _ ?_)); clear hK K
  refine w_cond (t := decide (gErr c l = (0 : Int))) kR (fun c1 => ?_) (fun c1 => ?_)
  ·
   simp at c1
   exact absurd c1 h
  refine aw_skip ?_
  refine xt_n (hK _ ?_); clear hK K; refine aw_seq_k fun K hK => ?_; refine aw_seq_k fun K hK => wR 5 ?_; refine aX hTT 2 [] tI ?_; refine aops_nil (xt_n (hK _ ?_)); clear hK K
  refine w_cond (t := !decide (gErr c l = (0 : Int))) kR (fun c1 => ?_) (fun c1 => ?_)
  ·
   refine aw_seq_k fun K hK => ?_
   refine wR 6 ?_; refine aX hTT 4 [] tI ?_; refine aops_nil (xt_n (hK _ ?_)); clear hK K
   refine aw_ret ?_
   refine xt_r ?_
   rw [FaultV_1 h]
   refine rP (V.tup [V.i 0, V.i 0, V.i (gErr c l)])
  ·
   simp at c1
   exact absurd c1 h
end Go.Proofs.YtplnhbenmgclfaaGreatDoor

namespace Go.Proofs.YtplnhbenmgclfaaGreatDoor
open Go.Ab Go.RowKit Go.Dw Go.Shelf
theorem RImp.int {a b : Int} (h : a = b) : RImp (V.i a) (V.i b) := by subst h; exact RImp.refl _
theorem bend_out {l : List Pt} {i : Nat} (h : ¬ (0 < i ∧ i + 1 < l.length)) : bendP (nb l i) (gp l i) (na l i) = 0 := by
 by_cases h1 : 0 < i
 ·
  rw [na, if_neg fun h2 => h ⟨h1, h2⟩]
  cases nb l i <;> rfl
 ·
  rw [nb, if_neg h1]
  rfl
end Go.Proofs.YtplnhbenmgclfaaGreatDoor

namespace Go.Proofs.YtplnhbenmgclfaaGreatDoor
open Go.Ab Go.RowKit Go.Dw Go.Shelf
def turnE (per : Int) : Int := if betB per 1 65536 then 0 else 3
theorem turnE_ok {per : Int} : turnE per = 0 ↔ 1 ≤ per ∧ per ≤ 65536 := by
 unfold turnE
 cases h : betB per 1 65536 <;> simp [betB] at h ⊢ <;> omega
theorem turnE_or (per : Int) : turnE per = 0 ∨ turnE per = 3 := by unfold turnE; split <;> simp
theorem plcE_turn {r per : Int} : plcE r per = if betB r 0 4194304 then turnE per else 3 := by
 unfold plcE turnE
 cases betB r 0 4194304 <;> simp
structure IsFst (p : Int → Bool) (M F : Int) : Prop where
 b : 0 ≤ F ∧ F ≤ M
 lo : ∀ n, 0 ≤ n → n < F → p n = false
 hi : ∀ n, F ≤ n → n < M → p n = true
theorem fst_exists {p : Int → Bool} {M : Int} (hM : 0 ≤ M) (hm : ∀ m n, 0 ≤ m → m ≤ n → n < M → p m = true → p n = true) : ∃ F, IsFst p M F := by
 have key : ∀ k : Nat, (k : Int) ≤ M → ∃ F, (0 ≤ F ∧ F ≤ (k : Int)) ∧ (∀ n, 0 ≤ n → n < F → p n = false) ∧ ∀ n, F ≤ n → n < (k : Int) → p n = true := by
  intro k
  induction k with
  | zero => exact fun _ => ⟨0, by omega, fun n h1 h2 => by omega, fun n h1 h2 => by omega⟩
  | succ k ih =>
   intro hk
   obtain ⟨F, h1, h2, h3⟩ := ih oM
   cases hp : p k with
   | true =>
    refine ⟨F, by omega, h2, fun n a b => ?_⟩
    by_cases he : n = k
    ·
     subst he; exact hp
    ·
     exact h3 n a oM
   | false =>
    refine ⟨(k : Int) + 1, by omega, fun n a b => ?_, fun n a b => by omega⟩
    cases hn : p n with
    | false => rfl
    | true =>
     have := hm n k a oM oM hn
     rw [hp] at this; cases this
 obtain ⟨F, h1, h2, h3⟩ := key M.toNat oM
 exact ⟨F, by omega, h2, fun n a b => h3 n a oM⟩
theorem IsFst.eq {p : Int → Bool} {M F G : Int} (h : IsFst p M F) (k : IsFst p M G) : F = G := by
 rcases Int.lt_trichotomy F G with hl | hl | hl
 ·
  have a := h.hi F (Int.le_refl _) (by have := k.b; omega)
  have b := k.lo F h.b.1 hl
  rw [a] at b; cases b
 ·
  exact hl
 ·
  have a := k.hi G (Int.le_refl _) (by have := h.b; omega)
  have b := h.lo G k.b.1 hl
  rw [a] at b; cases b
theorem IsFst.iff {p : Int → Bool} {M F n : Int} (h : IsFst p M F) (h0 : 0 ≤ n) (hM : n < M) : p n = true ↔ F ≤ n := by
 constructor
 ·
  intro hp
  refine Int.not_lt.1 fun hl => ?_
  rw [h.lo n h0 hl] at hp; cases hp
 ·
  exact fun hl => h.hi n hl hM
end Go.Proofs.YtplnhbenmgclfaaGreatDoor

namespace Go.Proofs.YtplnhbenmgclfaaGreatDoor
open Go.Ab Go.RowKit Go.Dw Go.Shelf
def fitB (c : Cut) (l : List Pt) (per r : Int) : Bool := decide ((faultR c l r per).2 = 0)
def needB (c : Cut) (l : List Pt) (per : Int) (i : Nat) (r : Int) : Bool := decide (gRule c l r per i = 0)
abbrev TB (k : Nat) : Ob := .box 141 [.ref k 0]
theorem fault_am (c : Cut) (l : List Pt) (r per : Int) (hc : cutE c = 0) (hl : gChk l = 0) (hp : Plc r per) : AM Tryz.prog 62 [.ref 500 0] [TrO c l r per] (.tup [.i (faultR c l r per).1, .i (faultR c l r per).2]) [some (TrO c l r per)] [] :=
 AC.box (P := Tryz.prog) (fault_ac c l r per hc hl hp) 158 kR kR kR kR
abbrev RBL (k : Nat) : Ob := .box 31 [.fn (.func 61) [] [.ref k 0]]
abbrev HBL (a b : Nat) : Ob := .box 132 [.fn (.func 110) [] [.ref a 0, .ref b 0]]
abbrev zzGA80 : V := V.fn (Fn.func (110 : Nat)) [] [V.ref 501 0, V.ref 502 0]
abbrev zzGA81 : V := V.fn (Fn.func (110 : Nat)) [] [V.ref 500 0, V.ref 501 0]
abbrev qGA80 : Prop := (0 : Nat) ≤ (1 : Nat)
theorem qGA80_ : qGA80 := oM
abbrev yyGA80 (c : Cut) (l : List Pt) (r : Int) (per : Int) : Ob := Ob.box 158 [V.i (Cut.half c), V.i (Cut.gain c), V.i (Cut.thin c), V.i (Cut.wide c), V.i (Cut.slope c), V.i (Cut.jerk c), V.i (Cut.sty c), V.sl 2 (List.length l) fun (k : Nat) => [V.i (Prod.fst (gp l k)), V.i (Prod.snd (gp l k))], V.i r, V.i per]
set_option maxRecDepth 100000 in
theorem rightL_am (c : Cut) (l : List Pt) (r per : Int) (hc : cutE c = 0) (hl : gChk l = 0) (hp : Plc r per) :
  AM Tryz.prog 61 [.ref 500 0] [TB 501, TrO c l r per] (.b (fitB c l per r)) [some (TB 501), some (TrO c l r per)] [] := by
 refine am_intro hTT hMX (fn := Tryz.f61) (N := _) ⟨Tryz.func61, rfl, Tryz.ntmps61, kR⟩ (by simp) rfl (by simp) (by simp) fun C hF => ?_
 refine aw_seq_k fun K hK => wR 2 ?_; refine aX hTT 1 [] tI ?_; refine aops_nil (xt_n (hK _ ?_)); clear hK K; refine aw_seq_k fun K hK => wR 3 ?_; refine aX hTT 1 [(0, .c qGA80)] ⟨qGA80_, tI⟩ ?_
 refine aops_callR [501] (first := []) (caps := []) (ins' := [(yyGA80 c l r per)]) (v' := V.tup [V.i (Prod.fst (faultR c l r per)), V.i (Prod.snd (faultR c l r per))]) (δ := []) (kp := [501]) (fault_am c l r per hc hl hp) kR kR kR kR kR kR kR rfl kR kR ⟨kR, tI⟩ kR kR kR ?_
 refine aX hTT 5 [] tI ?_; refine aops_nil (xt_n (hK _ ?_)); clear hK K; refine aw_seq_k fun K hK => wR 4 ?_; refine aX hTT 3 [] tI ?_; refine aops_nil (xt_n (hK _ ?_)); clear hK K
 refine aw_ret ?_
 refine retM (v' := V.b (decide (Prod.snd (faultR c l r per) = (0 : Int)))) [] [(1, V.b (decide (Prod.snd (faultR c l r per) = (0 : Int))))] (.inr rfl) (.cons kR .nil) (.cons ⟨Ob.box 141 [V.ref 501 0], kR, .box kR⟩ (.cons ⟨(yyGA80 c l r per), kR, .box kR⟩ .nil)) kR kR kR kR kR kR kR
abbrev yyGA81 (c : Cut) (l : List Pt) (r' : Int) (per : Int) : Ob := Ob.box 158 [V.i (Cut.half c), V.i (Cut.gain c), V.i (Cut.thin c), V.i (Cut.wide c), V.i (Cut.slope c), V.i (Cut.jerk c), V.i (Cut.sty c), V.sl 2 (List.length l) fun (k : Nat) => [V.i (Prod.fst (gp l k)), V.i (Prod.snd (gp l k))], V.i r', V.i per]
set_option maxRecDepth 100000 in
theorem least1L_am (c : Cut) (l : List Pt) (r r' per : Int) (hc : cutE c = 0) (hl : gChk l = 0) (hp : Plc r' per) :
  AM Tryz.prog 110 [.i r', .ref 500 0, .ref 501 0] [TB 502, RBL 503, TrO c l r per, TB 502] (.b (fitB c l per r')) [some (TB 502), some (RBL 503), some (TrO c l r' per), some (TB 502)] [] := by
 refine am_intro hTT hMX (fn := Tryz.f110) (N := _) ⟨Tryz.func110, rfl, Tryz.ntmps110, kR⟩ (by simp) rfl (by simp) (by simp) fun C hF => ?_
 refine aw_seq_k fun K hK => wR 2 ?_; refine aX hTT 1 [] tI ?_; refine aops_nil (xt_n (hK _ ?_)); clear hK K; refine aw_seq_k fun K hK => wR 3 ?_; refine aX hTT 5 [(0, .c qGA80), (4, .r (pw ((8 : Nat) + (1 : Nat) ≤ (10 : Nat)) (502 : Nat) ((yyGA81 c l r' per))))] ⟨qGA80_, oM, tI⟩ ?_; refine aops_nil (xt_n (hK _ ?_)); clear hK K; refine aw_seq_k fun K hK => wR 4 ?_; refine aX hTT 1 [(0, .c qGA80)] ⟨qGA80_, tI⟩ ?_
 refine aops_callR [503, 502] (first := []) (caps := [V.ref 503 0]) (ins' := [Ob.box 141 [V.ref 502 0], (yyGA81 c l r' per)]) (v' := V.b (fitB c l per r')) (δ := []) (kp := [503, 502]) (rightL_am c l r' per hc hl hp) kR kR kR kR kR kR kR rfl kR kR ⟨kR, ⟨kR, tI⟩⟩ kR kR kR ?_
 refine aX hTT 1 [] tI ?_; refine aops_nil (xt_n (hK _ ?_)); clear hK K
 refine aw_ret ?_
 refine retM (v' := V.b (fitB c l per r')) [] [(4, V.b (fitB c l per r'))] (.inr rfl) (.cons kR .nil) (.cons ⟨Ob.box 141 [V.ref 502 0], kR, .box kR⟩ (.cons ⟨Ob.box 31 [V.fn (Fn.func (61 : Nat)) [] [V.ref 503 0]], kR, .box kR⟩ (.cons ⟨(yyGA81 c l r' per), kR, .box kR⟩ (.cons ⟨Ob.box 141 [V.ref 502 0], kR, .box kR⟩ .nil)))) kR kR kR kR kR kR kR
abbrev yyGA82 : Ob := Ob.box 31 [V.fn (Fn.func (61 : Nat)) [] [V.ref 504 0]]
set_option maxRecDepth 100000 in
theorem first1L_am (c : Cut) (l : List Pt) (r r' per : Int) (hc : cutE c = 0) (hl : gChk l = 0) (hp : Plc r' per) :
  AM Tryz.prog 104 [.i r', .ref 500 0] [HBL 501 502, TB 503, RBL 504, TrO c l r per, TB 503] (.b (fitB c l per r')) [some (HBL 501 502), some (TB 503), some (RBL 504), some (TrO c l r' per), some (TB 503)] [] := by
 refine am_intro hTT hMX (fn := Tryz.f104) (N := _) ⟨Tryz.func104, rfl, Tryz.ntmps104, kR⟩ (by simp) rfl (by simp) (by simp) fun C hF => ?_
 refine aw_seq_k fun K hK => wR 2 ?_; refine aX hTT 1 [] tI ?_; refine aops_nil (xt_n (hK _ ?_)); clear hK K; refine aw_seq_k fun K hK => wR 3 ?_; refine aX hTT 2 [(0, .c qGA80)] ⟨qGA80_, tI⟩ ?_
 refine aops_callM [501, 502, 503, 504] (first := []) (caps := [V.ref 501 0, V.ref 502 0]) (ins' := [Ob.box 141 [V.ref 503 0], yyGA82, Ob.box 158 [V.i (Cut.half c), V.i (Cut.gain c), V.i (Cut.thin c), V.i (Cut.wide c), V.i (Cut.slope c), V.i (Cut.jerk c), V.i (Cut.sty c), V.sl 2 (List.length l) fun (k : Nat) => [V.i (Prod.fst (gp l k)), V.i (Prod.snd (gp l k))], V.i r, V.i per], Ob.box 141 [V.ref 503 0]]) (v' := V.b (fitB c l per r')) (δ := [(501, Option.some (Ob.box 141 [V.ref 503 0])), (502, Option.some (yyGA82)), (503, Option.some ((yyGA81 c l r' per))), (504, Option.some (Ob.box 141 [V.ref 503 0]))]) (kp := [501, 502, 503, 504]) (least1L_am c l r r' per hc hl hp) kR kR kR kR kR kR rfl rfl kR (.box kR kR (.box kR kR (.box kR kR (.box kR kR .nil)))) kR kR kR ?_
 refine aX hTT 1 [] tI ?_; refine aops_nil (xt_n (hK _ ?_)); clear hK K
 refine aw_ret ?_
 refine retM (v' := V.b (fitB c l per r')) [] [(3, V.b (fitB c l per r'))] (.inr rfl) (.cons kR .nil) (.cons ⟨Ob.box 132 [zzGA80], kR, .box kR⟩ (.cons ⟨Ob.box 141 [V.ref 503 0], kR, .box kR⟩ (.cons ⟨yyGA82, kR, .box kR⟩ (.cons ⟨(yyGA81 c l r' per), kR, .box kR⟩ (.cons ⟨Ob.box 141 [V.ref 503 0], kR, .box kR⟩ .nil))))) kR kR kR kR kR kR kR
abbrev yyGA83 (l : List Pt) : V := V.sl 2 (List.length l) fun (k : Nat) => [V.i (Prod.fst (gp l k)), V.i (Prod.snd (gp l k))]
abbrev yyGA84 := (502, yyGA82)
set_option maxRecDepth 100000 in
theorem searchL_am (c : Cut) (l : List Pt) (r0 per F : Int) (hc : cutE c = 0) (hl : gChk l = 0) (hp : 1 ≤ per ∧ per ≤ 65536) (hF' : IsFst (fitB c l per) 4194305 F) :
  AM Tryz.prog 42 [.i 4194305, .fn (.func 104) [] [.ref 500 0]] [HBL 501 502, TB 503, RBL 504, TrO c l r0 per, TB 503] (.i F) [none, none, none, none, none] [] := by
 have hFb := hF'.b
 refine am_intro hTT hMX (fn := Tryz.f42) (N := _) ⟨Tryz.func42, rfl, Tryz.ntmps42, kR⟩ (by simp) rfl (by simp) (by simp) fun C hF => ?_
 refine aw_seq_k fun K hK => wR 2 ?_
 refine aops_n hTT (M := []) (n := 1) [pv 4 (V.i 0)] kR kR tI ?_
 refine aops_nil (xt_n (hK _ ?_)); clear hK K; refine aw_seq_k fun K hK => wR 3 ?_
 refine aops_n hTT (M := []) (n := 3) [pv 8 (V.i 4194305), pv 5 (V.i 0), pv 6 (V.i 4194305)] kR kR tI ?_
 refine aops_nil (xt_n (hK _ ?_)); clear hK K; refine aw_seq_k fun K hK => ?_
 refine aw_block ?_
 refine w_loop (ι := Int × Int × Int) (fun s => [(0, .i 4194305), (1, .fn (.func 104) [] [.ref 500 0]), (5, .i s.1), (6, .i s.2.1)]) (fun s => [(500, HBL 501 502), (501, TB 503), (502, RBL 504), (503, TrO c l s.2.2 per), (504, TB 503)])
  (fun s => 0 ≤ s.1 ∧ s.1 ≤ F ∧ F ≤ s.2.1 ∧ s.2.1 ≤ 4194305) (fun s => (s.2.1 - s.1).toNat) (0, 4194305, r0) ⟨Int.le_refl _, hFb.1, hFb.2, Int.le_refl _⟩ ?_ ?_
 ·
  refine le_ren (sl := [(500, Ob.box 132 [zzGA80]), (501, Ob.box 141 [V.ref 503 0]), yyGA84, (503, Ob.box 158 [V.i (Cut.half c), V.i (Cut.gain c), V.i (Cut.thin c), V.i (Cut.wide c), V.i (Cut.slope c), V.i (Cut.jerk c), V.i (Cut.sty c), (yyGA83 l), V.i (Prod.snd ((4194305 : Int), r0)), V.i per]), (504, Ob.box 141 [V.ref 503 0])]) [] (.cons kR (.cons kR (.cons kR (.cons kR .nil)))) (.cons ⟨Ob.box 132 [zzGA80], kR, .box kR⟩ (.cons ⟨Ob.box 141 [V.ref 503 0], kR, .box kR⟩ (.cons ⟨yyGA82, kR, .box kR⟩ (.cons ⟨Ob.box 158 [V.i (Cut.half c), V.i (Cut.gain c), V.i (Cut.thin c), V.i (Cut.wide c), V.i (Cut.slope c), V.i (Cut.jerk c), V.i (Cut.sty c), (yyGA83 l), V.i r0, V.i per], kR, .box kR⟩ (.cons ⟨Ob.box 141 [V.ref 503 0], kR, .box kR⟩ .nil))))) kR kR
 rintro ⟨i, j, r⟩ ⟨h1, h2, h3, h4⟩
 simp only at h1 h2 h3 h4
 refine aw_seq_k fun K hK => ?_; refine aw_seq_k fun K hK => wR 2 ?_
 refine aops_n hTT (M := []) (n := 3) [pv 9 (V.i i), pv 10 (V.i (Prod.fst (j, r))), pv 11 (V.b (decide (i < j)))] kR kR tI ?_
 refine aops_nil (xt_n (hK _ ?_)); clear hK K
 refine w_cond (t := decide (i < j)) kR (fun c1 => ?_) (fun c1 => ?_)
 ·
  have c1 : i < j := by simpa using c1
  obtain ⟨m, hm⟩ : ∃ m : Int, (i + j).fdiv ((2 : Int) ^ min (1 : Nat) (IntKind.bits IntKind.u64)) = m := ⟨_, rfl⟩
  have m1 : i ≤ m ∧ m < j := by
   have : (i + j).fdiv ((2 : Int) ^ min (1 : Nat) (IntKind.bits IntKind.u64)) = (i + j) / 2 := by
    rw [Int.fdiv_eq_ediv_of_nonneg _ (by decide)]; rfl
   omega
  refine aw_skip ?_
  refine xt_n (hK _ ?_); clear hK K
  refine aw_block ?_
  refine aw_seq_k fun K hK => wR 3 ?_
  refine aops_n hTT (M := []) (n := 7) [pv 12 (V.i i), pv 13 (V.i (Prod.fst (j, r))), pc 14 ((-9223372036854775808 : Int) ≤ i + j ∧ i + j ≤ (9223372036854775807 : Int)) (V.i (i + j)), pc 15 ((0 : Int) ≤ i + j ∧ i + j ≤ (18446744073709551615 : Int)) (V.c (Value.int IntKind.u64 (i + j))), pc 16 ((0 : Int) ≤ (1 : Int)) (V.c (Value.int IntKind.u64 (Int.fdiv (i + j) ((2 : Int) ^ min (1 : Nat) (IntKind.bits IntKind.u64))))), pc 17 ((-9223372036854775808 : Int) ≤ Int.fdiv (i + j) ((2 : Int) ^ min (1 : Nat) (IntKind.bits IntKind.u64)) ∧ Int.fdiv (i + j) ((2 : Int) ^ min (1 : Nat) (IntKind.bits IntKind.u64)) ≤ (9223372036854775807 : Int)) (V.i (Int.fdiv (i + j) ((2 : Int) ^ min (1 : Nat) (IntKind.bits IntKind.u64)))), pv 7 (V.i (Int.fdiv (i + j) ((2 : Int) ^ min (1 : Nat) (IntKind.bits IntKind.u64))))] kR kR ⟨oM, oM, oM, oM, tI⟩ ?_
  refine aops_nil (xt_n (hK _ ?_)); clear hK K; refine aw_seq_k fun K hK => ?_
  rw [hm]
  refine wR 4 ?_
  refine aops_n hTT (M := []) (n := 2) [pv 18 (V.fn (Fn.func (104 : Nat)) [] [V.ref 500 0]), pv 19 (V.i m)] kR kR tI ?_
  refine aops_callM [500, 501, 502, 503, 504] (first := []) (caps := [V.ref 500 0]) (ins' := [Ob.box 132 [zzGA80], Ob.box 141 [V.ref 503 0], yyGA82, Ob.box 158 [V.i (Cut.half c), V.i (Cut.gain c), V.i (Cut.thin c), V.i (Cut.wide c), V.i (Cut.slope c), V.i (Cut.jerk c), V.i (Cut.sty c), (yyGA83 l), V.i (Prod.snd (j, r)), V.i per], Ob.box 141 [V.ref 503 0]]) (v' := V.b (fitB c l per m)) (δ := [(500, Option.some (Ob.box 132 [zzGA80])), (501, Option.some (Ob.box 141 [V.ref 503 0])), (502, Option.some (yyGA82)), (503, Option.some (Ob.box 158 [V.i (Cut.half c), V.i (Cut.gain c), V.i (Cut.thin c), V.i (Cut.wide c), V.i (Cut.slope c), V.i (Cut.jerk c), V.i (Cut.sty c), (yyGA83 l), V.i m, V.i per])), (504, Option.some (Ob.box 141 [V.ref 503 0]))]) (kp := [500, 501, 502, 503, 504]) (first1L_am c l r m per hc hl ⟨by omega, hp⟩) kR kR kR kR kR kR rfl rfl kR (.box kR kR (.box kR kR (.box kR kR (.box kR kR (.box kR kR .nil))))) kR kR kR ?_
  refine aops_n hTT (M := []) (n := 1) [pv 21 (V.b !fitB c l per m)] kR kR tI ?_
  refine aops_nil (xt_n (hK _ ?_)); clear hK K
  refine w_cond (t := !fitB c l per m) kR (fun c2 => ?_) (fun c2 => ?_)
  ·
   have q : fitB c l per m = false := by simpa using c2
   have m2 : m < F := by
    refine Int.not_le.1 fun h => ?_
    rw [hF'.hi m h oM] at q; cases q
   refine wR 5 ?_
   refine aops_n hTT (M := []) (n := 3) [pv 22 (V.i m), pc 23 ((-9223372036854775808 : Int) ≤ m + (1 : Int) ∧ m + (1 : Int) ≤ (9223372036854775807 : Int)) (V.i (m + (1 : Int))), pv 5 (V.i (m + (1 : Int)))] kR kR ⟨oM, tI⟩ ?_
   refine aops_nil ?_; refine xb_n ?_; refine xt_n ?_
   refine ⟨(m + 1, j, m), ⟨by show 0 ≤ m + 1; omega, by show m + 1 ≤ F; omega, h3, h4⟩, ?_, by show (j - (m + 1)).toNat < (j - i).toNat; omega⟩
   refine le_ren (sl := [(500, Ob.box 132 [zzGA80]), (501, Ob.box 141 [V.ref 503 0]), yyGA84, (503, Ob.box 158 [V.i (Cut.half c), V.i (Cut.gain c), V.i (Cut.thin c), V.i (Cut.wide c), V.i (Cut.slope c), V.i (Cut.jerk c), V.i (Cut.sty c), (yyGA83 l), V.i (Prod.snd (j, m)), V.i per]), (504, Ob.box 141 [V.ref 503 0])]) [] (.cons kR (.cons kR (.cons kR (.cons kR .nil)))) (.cons ⟨Ob.box 132 [zzGA80], kR, .box kR⟩ (.cons ⟨Ob.box 141 [V.ref 503 0], kR, .box kR⟩ (.cons ⟨yyGA82, kR, .box kR⟩ (.cons ⟨Ob.box 158 [V.i (Cut.half c), V.i (Cut.gain c), V.i (Cut.thin c), V.i (Cut.wide c), V.i (Cut.slope c), V.i (Cut.jerk c), V.i (Cut.sty c), (yyGA83 l), V.i m, V.i per], kR, .box kR⟩ (.cons ⟨Ob.box 141 [V.ref 503 0], kR, .box kR⟩ .nil))))) kR kR
  ·
   have q : fitB c l per m = true := by simpa using c2
   have m2 : F ≤ m := by
    refine Int.not_lt.1 fun h => ?_
    rw [hF'.lo m oM h] at q; cases q
   refine wR 5 ?_
   refine aops_n hTT (M := []) (n := 2) [pv 24 (V.i m), pv 6 (V.i m)] kR kR tI ?_
   refine aops_nil ?_; refine xb_n ?_; refine xt_n ?_
   refine ⟨(i, m, m), ⟨h1, h2, m2, by show m ≤ 4194305; omega⟩, ?_, by show (m - i).toNat < (j - i).toNat; omega⟩
   refine le_ren (sl := [(500, Ob.box 132 [zzGA80]), (501, Ob.box 141 [V.ref 503 0]), yyGA84, (503, Ob.box 158 [V.i (Cut.half c), V.i (Cut.gain c), V.i (Cut.thin c), V.i (Cut.wide c), V.i (Cut.slope c), V.i (Cut.jerk c), V.i (Cut.sty c), (yyGA83 l), V.i (Prod.snd (m, m)), V.i per]), (504, Ob.box 141 [V.ref 503 0])]) [] (.cons kR (.cons kR (.cons kR (.cons kR .nil)))) (.cons ⟨Ob.box 132 [zzGA80], kR, .box kR⟩ (.cons ⟨Ob.box 141 [V.ref 503 0], kR, .box kR⟩ (.cons ⟨yyGA82, kR, .box kR⟩ (.cons ⟨Ob.box 158 [V.i (Cut.half c), V.i (Cut.gain c), V.i (Cut.thin c), V.i (Cut.wide c), V.i (Cut.slope c), V.i (Cut.jerk c), V.i (Cut.sty c), (yyGA83 l), V.i m, V.i per], kR, .box kR⟩ (.cons ⟨Ob.box 141 [V.ref 503 0], kR, .box kR⟩ .nil))))) kR kR
 ·
  have c1 : j ≤ i := by simpa using c1
  obtain rfl : i = F := by omega
  refine aw_exit ?_
  refine xt_x ?_; refine xt_x ?_
  refine xb_same ?_
  refine xt_n ?_; clear hK K; refine hK _ ?_; clear hK K; refine aw_seq_k fun K hK => wR 3 ?_
  refine aops_n hTT (M := []) (n := 2) [pv 25 (V.i i), pv 4 (V.i i)] kR kR tI ?_
  refine aops_nil (xt_n (hK _ ?_)); clear hK K
  refine aw_ret ?_
  refine retM (v' := V.i i) [] [(4, V.i i)] (.inr rfl) (.cons kR .nil) .nil kR kR kR kR kR kR kR
set_option maxRecDepth 100000 in
theorem firstL_am (c : Cut) (l : List Pt) (r0 per F : Int) (hc : cutE c = 0) (hl : gChk l = 0) (hp : 1 ≤ per ∧ per ≤ 65536) (hF' : IsFst (fitB c l per) 4194305 F) :
  AM Tryz.prog 53 [.i 4194304, .fn (.func 110) [] [.ref 500 0, .ref 501 0]] [TB 502, RBL 503, TrO c l r0 per, TB 502] (.i F) [none, none, none, none] [] := by
 have hFb := hF'.b
 refine am_intro hTT hMX (fn := Tryz.f53) (N := _) ⟨Tryz.func53, rfl, Tryz.ntmps53, kR⟩ (by simp) rfl (by simp) (by simp) fun C hF => ?_
 refine aw_seq_k fun K hK => wR 2 ?_
 refine aops_x (M := [3]) hTT 2 [(0, .r (pn 3 (V.ref 100003 0) (100003 : Nat) (Ob.box 132 [zzGA81])))] tI ?_
 refine aops_nil (xt_n (hK _ ?_)); clear hK K; refine aw_seq_k fun K hK => wR 3 ?_
 refine aops_x (M := [3]) hTT 3 [(1, .i ((4194304 : Int) + (1 : Int)))] ⟨oM, tI⟩ ?_
 refine aops_callM [100003, 500, 501, 502, 503] (first := []) (caps := []) (ins' := [Ob.box 132 [zzGA81], Ob.box 141 [V.ref 502 0], Ob.box 31 [V.fn (Fn.func (61 : Nat)) [] [V.ref 503 0]], Ob.box 158 [V.i (Cut.half c), V.i (Cut.gain c), V.i (Cut.thin c), V.i (Cut.wide c), V.i (Cut.slope c), V.i (Cut.jerk c), V.i (Cut.sty c), V.sl 2 (List.length l) fun (k : Nat) => [V.i (Prod.fst (gp l k)), V.i (Prod.snd (gp l k))], V.i r0, V.i per], Ob.box 141 [V.ref 502 0]]) (v' := V.i F) (δ := [(100003, Option.none), (500, Option.none), (501, Option.none), (502, Option.none), (503, Option.none)]) (kp := [100003, 500, 501, 502, 503]) (searchL_am c l r0 per F hc hl hp hF') kR kR kR kR kR kR rfl rfl kR (.box kR kR (.box kR kR (.box kR kR (.box kR kR (.box kR kR .nil))))) kR kR kR ?_
 refine aX hTT 1 [] tI ?_; refine aops_nil (xt_n (hK _ ?_)); clear hK K
 refine aw_ret ?_
 refine retM (v' := V.i F) [] [(4, V.i F)] (.inr rfl) (.cons kR .nil) .nil kR kR kR kR kR kR kR
abbrev yyGA85 (c : Cut) (l : List Pt) (r0 : Int) (per : Int) : Ob := Ob.box 158 [V.i (Cut.half c), V.i (Cut.gain c), V.i (Cut.thin c), V.i (Cut.wide c), V.i (Cut.slope c), V.i (Cut.jerk c), V.i (Cut.sty c), (yyGA83 l), V.i r0, V.i per]
set_option maxRecDepth 100000 in
theorem leastIL_am (c : Cut) (l : List Pt) (r0 p0 per F : Int) (hc : cutE c = 0) (hl : gChk l = 0) (hp : 1 ≤ per ∧ per ≤ 65536) (hF' : IsFst (fitB c l per) 4194305 F) :
  AM Tryz.prog 60 [.ref 500 0, .i per, .fn (.func 61) [] [.ref 501 0]] [TrO c l r0 p0, TB 500] (.tup [.i (if F ≤ 4194304 then F else 0), .i (if F ≤ 4194304 then 0 else 14)]) [none, none] [] := by
 have hFb := hF'.b
 refine am_intro hTT hMX (fn := Tryz.f60) (N := _) ⟨Tryz.func60, rfl, Tryz.ntmps60, kR⟩ (by simp) rfl (by simp) (by simp) fun C hF => ?_
 refine aw_seq_k fun K hK => wR 2 ?_
 refine aops_x (M := [3, 5]) hTT 4 [(0, .r (pn 3 (V.ref 100003 0) (100003 : Nat) (Ob.box 141 [V.ref 500 0]))), (1, .r (pn 5 (V.ref 100005 0) (100005 : Nat) (Ob.box 31 [V.fn (Fn.func (61 : Nat)) [] [V.ref 501 0]])))] tI ?_
 refine aops_nil (xt_n (hK _ ?_)); clear hK K; refine aw_seq_k fun K hK => wR 3 ?_
 refine aops_x (M := [3, 5]) hTT 5 [(0, .c qGA80), (4, .r (pw ((9 : Nat) + (1 : Nat) ≤ (10 : Nat)) (500 : Nat) ((yyGA85 c l r0 per))))] ⟨qGA80_, oM, tI⟩ ?_
 refine aops_nil (xt_n (hK _ ?_)); clear hK K; refine aw_seq_k fun K hK => wR 4 ?_
 refine aops_x (M := [3, 5]) hTT 1 [] tI ?_
 refine aops_callM [100003, 100005, 500, 501] (first := []) (caps := []) (ins' := [Ob.box 141 [V.ref 500 0], Ob.box 31 [V.fn (Fn.func (61 : Nat)) [] [V.ref 501 0]], (yyGA85 c l r0 per), Ob.box 141 [V.ref 500 0]]) (v' := V.i F) (δ := [(100003, Option.none), (100005, Option.none), (500, Option.none), (501, Option.none)]) (kp := [100003, 100005, 500, 501]) (firstL_am c l r0 per F hc hl hp hF') kR kR kR kR kR kR rfl rfl kR (.box kR kR (.box kR kR (.box kR kR (.box kR kR .nil)))) kR kR kR ?_
 refine aX hTT 1 [] tI ?_; refine aops_nil (xt_n (hK _ ?_)); clear hK K; refine aw_seq_k fun K hK => ?_; refine aw_seq_k fun K hK => wR 5 ?_; refine aX hTT 2 [] tI ?_; refine aops_nil (xt_n (hK _ ?_)); clear hK K
 refine w_cond (t := decide ((4194304 : Int) < F)) kR (fun c1 => ?_) (fun c1 => ?_)
 ·
  refine aw_seq_k fun K hK => ?_
  refine wR 6 ?_; refine aX hTT 2 [] tI ?_; refine aops_nil (xt_n (hK _ ?_)); clear hK K
  refine aw_ret ?_
  refine xt_r ?_
  rw [if_neg (by simp at c1; omega), if_neg (by simp at c1; omega)]
  refine retM (v' := V.tup [V.i 0, V.i 14]) [] [(6, V.i 0), (7, V.i 14)] (.inr rfl) (.cons kR (.cons kR .nil)) .nil kR kR kR kR kR kR kR
 ·
  refine aw_skip ?_
  refine xt_n (hK _ ?_); clear hK K; refine aw_seq_k fun K hK => wR 6 ?_; refine aX hTT 3 [] tI ?_; refine aops_nil (xt_n (hK _ ?_)); clear hK K
  refine aw_ret ?_
  rw [if_pos (by simp at c1; omega), if_pos (by simp at c1; omega)]
  refine retM (v' := V.tup [V.i F, V.i 0]) [] [(6, V.i F), (7, V.i 0)] (.inr rfl) (.cons kR (.cons kR .nil)) .nil kR kR kR kR kR kR kR
end Go.Proofs.YtplnhbenmgclfaaGreatDoor

namespace Go.Proofs.YtplnhbenmgclfaaGreatDoor
open Go.Ab Go.RowKit Go.Dw Go.Shelf
theorem gRule_zero {c : Cut} {l : List Pt} {r per : Int} {i : Nat} : gRule c l r per i = 0 ↔ ∀ k, 1 ≤ k → k ≤ 5 → ruleB c r per (nb l i) (gp l i) (na l i) k = false := by
 constructor
 ·
  intro h k h1 h5
  cases hk : ruleB c r per (nb l i) (gp l i) (na l i) k with
  | false => rfl
  | true =>
   exfalso
   obtain ⟨m, ⟨m1, m2⟩, m3, m4⟩ : ∃ m : Nat, (1 ≤ m ∧ m ≤ 5) ∧ ruleB c r per (nb l i) (gp l i) (na l i) m = true ∧ ∀ j, 1 ≤ j → j < m → ruleB c r per (nb l i) (gp l i) (na l i) j = false := by
    have ex : ∃ m : Nat, (1 ≤ m ∧ m ≤ 5) ∧ ruleB c r per (nb l i) (gp l i) (na l i) m = true := ⟨k, ⟨h1, h5⟩, hk⟩
    obtain ⟨m, hm, hl⟩ := least _ ex
    refine ⟨m, hm.1, hm.2, fun j a b => ?_⟩
    cases hj : ruleB c r per (nb l i) (gp l i) (na l i) j with
    | false => rfl
    | true => have := hl j ⟨⟨a, by omega⟩, hj⟩; omega
   rw [gRule, ruleP_at m1 m2 m4 m3] at h
   omega
 ·
  intro h
  exact ruleP_no h
theorem gArc_mono {r r' per : Int} (hr : 0 ≤ r) (h : r ≤ r') (hp : 1 ≤ per) : gArc r per ≤ gArc r' per := by
 unfold gArc
 have h1 : 0 ≤ 710 * r * (710 * r) := Int.mul_nonneg oM oM
 have h2 : 710 * r * (710 * r) ≤ 710 * r' * (710 * r') := Int.mul_le_mul oM oM oM oM
 rw [Int.tdiv_eq_ediv_of_nonneg h1, Int.tdiv_eq_ediv_of_nonneg oM]
 have h3 : 0 < 113 * per * (113 * per) := Int.mul_pos oM oM
 exact Int.ediv_le_ediv h3 h2
theorem ruleB_mono {c : Cut} {r r' per : Int} {b : Option Pt} {h : Pt} {a : Option Pt} {k : Nat} (hc : cutE c = 0) (hr : 0 ≤ r) (hrr : r ≤ r') (hp : 1 ≤ per) (h1 : ruleB c r per b h a k = false) : ruleB c r' per b h a k = false := by
 obtain ⟨c1, c2, c3, c4, c5, c6, c7⟩ := cutE_ok.1 hc
 have m1 : 710 * r * c.slope ≤ 710 * r' * c.slope := Int.mul_le_mul_of_nonneg_right oM c5.1
 have m2 := gArc_mono hr hrr hp
 unfold ruleB at h1 ⊢
 split at h1 <;> rename_i e
 ·
  exact h1
 ·
  exact h1
 ·
  simp only [steepB, decide_eq_false_iff_not] at h1 ⊢; omega
 ·
  exact h1
 ·
  simp only [sharpB, decide_eq_false_iff_not] at h1 ⊢; omega
theorem gRule_mono {c : Cut} {l : List Pt} {r r' per : Int} {i : Nat} (hc : cutE c = 0) (hr : 0 ≤ r) (hrr : r ≤ r') (hp : 1 ≤ per) (h : gRule c l r per i = 0) : gRule c l r' per i = 0 :=
 gRule_zero.2 fun k h1 h5 => ruleB_mono hc hr hrr hp (gRule_zero.1 h k h1 h5)
theorem fitB_iff {c : Cut} {l : List Pt} {per r : Int} : fitB c l per r = true ↔ ∀ i, i < l.length → gRule c l r per i = 0 := by
 unfold fitB
 rw [decide_eq_true_eq]
 constructor
 ·
  intro h
  cases hf : faultN c l r per with
  | none => exact faultN_none.1 hf
  | some i =>
   rw [faultR, hf] at h
   have := (faultN_some.1 hf).2.1
   simp only at h
   omega
 ·
  intro h
  rw [faultR_none h]
theorem fit_fst {c : Cut} (l : List Pt) {per : Int} (hc : cutE c = 0) (hp : 1 ≤ per) : ∃ F, IsFst (fitB c l per) 4194305 F :=
 fst_exists (by decide) fun m n h0 hmn _ hm => fitB_iff.2 fun i hi => gRule_mono hc h0 hmn hp (fitB_iff.1 hm i hi)
def leastR (c : Cut) (l : List Pt) (per F : Int) : Int × Int :=
 if gErr c l = 0 then (if turnE per = 0 then (if F ≤ 4194304 then (F, 0) else (0, 14)) else (0, 3)) else (0, gErr c l)
theorem leastR_1 {c : Cut} {l : List Pt} {per F : Int} (h : ¬ gErr c l = 0) : leastR c l per F = (0, gErr c l) := by rw [leastR, if_neg h]
theorem leastR_2 {c : Cut} {l : List Pt} {per F : Int} (h : gErr c l = 0) (h2 : ¬ turnE per = 0) : leastR c l per F = (0, 3) := by rw [leastR, if_pos h, if_neg h2]
theorem leastR_3 {c : Cut} {l : List Pt} {per F : Int} (h : gErr c l = 0) (h2 : turnE per = 0) : leastR c l per F = (if F ≤ 4194304 then F else 0, if F ≤ 4194304 then 0 else 14) := by
 rw [leastR, if_pos h, if_pos h2]; split <;> rfl
theorem plcE_0 (per : Int) : plcE 0 per = turnE per := by
 rw [plcE_turn, if_pos (by decide)]
def FstOk (c : Cut) (l : List Pt) (per F : Int) : Prop := gErr c l = 0 → turnE per = 0 → IsFst (fitB c l per) 4194305 F
theorem fstOk_ex (c : Cut) (l : List Pt) (per : Int) : ∃ F, FstOk c l per F := by
 by_cases h : gErr c l = 0 ∧ turnE per = 0
 ·
  obtain ⟨F, hF⟩ := fit_fst l (gErr_ok h.1).1 (turnE_ok.1 h.2).1
  exact ⟨F, fun _ _ => hF⟩
 ·
  exact ⟨0, fun a b => absurd ⟨a, b⟩ h⟩
abbrev yyGA90 (c : Cut) (l : List Pt) : Ob := Ob.box 158 [V.i (Cut.half c), V.i (Cut.gain c), V.i (Cut.thin c), V.i (Cut.wide c), V.i (Cut.slope c), V.i (Cut.jerk c), V.i (Cut.sty c), V.sl 2 (List.length l) fun (k : Nat) => [V.i (Prod.fst (gp l k)), V.i (Prod.snd (gp l k))], V.i 0, V.i 0]
abbrev yyGA91 (F : Int) : V := V.tup [V.i (if F ≤ (4194304 : Int) then F else (0 : Int)), V.i (if F ≤ (4194304 : Int) then (0 : Int) else (14 : Int))]
set_option maxRecDepth 100000 in
theorem Least_ac (c : Cut) (l : List Pt) (per F : Int) (hl : l.length ≤ 4611686018427387904) (hF' : FstOk c l per F) : AC Tryz.prog 21 [c.v, V.pts l, .i per] (.tup [.i (leastR c l per F).1, .i (leastR c l per F).2]) [] := by
 have P0 := checkPlace_ac 0 per
 rw [plcE_0] at P0
 refine acI hTT hMX Tryz.func21 Tryz.ntmps21 fun C hC hF => ?_
 by_cases h : gErr c l = 0
 ·
  obtain ⟨q1, q2⟩ := gErr_ok h
  refine aw_seq_k fun K hK => wR 2 ?_; refine aX hTT 3 [] tI ?_; refine aops_nil (xt_n (hK _ ?_)); clear hK K; refine aw_seq_k fun K hK => wR 3 ?_; refine aX hTT 2 [] tI ?_
  refine e_callO (first := []) (caps := []) (k := 200013) (v' := V.tup [V.ref 200013 0, V.i 0]) (ob' := (yyGA90 c l)) (newTrack_ok c l hl h) kR kR kR kR kR kR kR ?_
  refine aX hTT 6 [(3, .r (pn 8 (V.ref 200008 0) (200008 : Nat) (Ob.box 141 [V.c (Value.pointer none)]))), (4, .r (pw ((0 : Nat) + (1 : Nat) ≤ (1 : Nat)) (200008 : Nat) (Ob.box 141 [V.ref 200013 0])))] ⟨oM, tI⟩ ?_; refine aops_nil (xt_n (hK _ ?_)); clear hK K; refine aw_seq_k fun K hK => ?_; refine aw_seq_k fun K hK => wR 4 ?_; refine aX hTT 2 [] tI ?_; refine aops_nil (xt_n (hK _ ?_)); clear hK K; refine w_true (t := true) kR rfl ?_; refine wR 5 ?_; refine aX hTT 1 [] tI ?_
  refine eC (P0) ?_
  refine aX hTT 1 [] tI ?_; refine aops_nil (xt_n (hK _ ?_)); clear hK K; refine aw_seq_k fun K hK => ?_; refine aw_seq_k fun K hK => wR 6 ?_; refine aX hTT 2 [] tI ?_; refine aops_nil (xt_n (hK _ ?_)); clear hK K
  refine w_cond (t := !decide (turnE per = (0 : Int))) kR (fun c1 => ?_) (fun c1 => ?_)
  ·
   have h2 : ¬ turnE per = 0 := by simpa using c1
   refine aw_seq_k fun K hK => wR 7 ?_; refine aX hTT 3 [] tI ?_; refine aops_nil (xt_n (hK _ ?_)); clear hK K
   refine aw_ret ?_
   refine xt_r ?_
   rw [leastR_2 h h2, (turnE_or per).resolve_left h2]
   refine rP (V.tup [V.i 0, V.i 3])
  ·
   have h2 : turnE per = 0 := by simpa using c1
   refine aw_skip ?_
   refine xt_n (hK _ ?_); clear hK K; refine aw_seq_k fun K hK => wR 7 ?_; refine aX hTT 3 [(0, .c ((0 : Nat) ≤ (1 : Nat)))] ⟨oM, tI⟩ ?_
   refine aops_callM [200013, 200008] (first := []) (caps := []) (ins' := [(yyGA90 c l), Ob.box 141 [V.ref 200013 0]]) (v' := (yyGA91 F)) (δ := [(200013, Option.none), (200008, Option.none)]) (kp := [200013, 200008]) (leastIL_am c l 0 0 per F q1 q2 (turnE_ok.1 h2) (hF' h h2)) kR kR kR kR kR kR rfl rfl kR (.box kR kR (.box kR kR .nil)) kR kR kR ?_
   refine aX hTT 4 [] tI ?_; refine aops_nil (xt_n (hK _ ?_)); clear hK K
   refine aw_ret ?_
   rw [leastR_3 h h2]
   refine rP ((yyGA91 F))
 ·
  refine aw_seq_k fun K hK => ?_
  refine wR 2 ?_; refine aX hTT 3 [] tI ?_; refine aops_nil (xt_n (hK _ ?_)); clear hK K; refine aw_seq_k fun K hK => wR 3 ?_; refine aX hTT 2 [] tI ?_
  refine eC (newTrack_no c l hl h) ?_
  refine aX hTT 6 [(3, .r (pn 8 (V.ref 200008 0) (200008 : Nat) (Ob.box 141 [V.c (Value.pointer none)]))), (4, .r (pw ((0 : Nat) + (1 : Nat) ≤ (1 : Nat)) (200008 : Nat) (Ob.box 141 [V.c (Value.pointer none)])))] ⟨oM, tI⟩ ?_; refine aops_nil (xt_n (hK _ ?_)); clear hK K; refine aw_seq_k fun K hK => ?_; refine aw_seq_k fun K hK => wR 4 ?_; refine aX hTT 2 [] tI ?_; refine aops_nil (xt_n (hK _ ?_)); clear hK K
  refine w_cond (t := decide (gErr c l = (0 : Int))) kR (fun c1 => ?_) (fun c1 => ?_)
  ·
   simp at c1
   exact absurd c1 h
  refine aw_skip ?_
  refine xt_n (hK _ ?_); clear hK K; refine aw_seq_k fun K hK => ?_; refine aw_seq_k fun K hK => wR 5 ?_; refine aX hTT 2 [] tI ?_; refine aops_nil (xt_n (hK _ ?_)); clear hK K
  refine w_cond (t := !decide (gErr c l = (0 : Int))) kR (fun c1 => ?_) (fun c1 => ?_)
  ·
   refine aw_seq_k fun K hK => ?_
   refine wR 6 ?_; refine aX hTT 3 [] tI ?_; refine aops_nil (xt_n (hK _ ?_)); clear hK K
   refine aw_ret ?_
   refine xt_r ?_
   rw [leastR_1 h]
   refine rP (V.tup [V.i 0, V.i (gErr c l)])
  ·
   simp at c1
   exact absurd c1 h
end Go.Proofs.YtplnhbenmgclfaaGreatDoor

namespace Go.Proofs.YtplnhbenmgclfaaGreatDoor
open Go.Ab Go.RowKit Go.Dw Go.Shelf
end Go.Proofs.YtplnhbenmgclfaaGreatDoor
