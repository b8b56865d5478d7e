/-
  Several texts in one: Small examples of the side's layer: formats, tracks, widths, orders. Conditions: told in each theorem. .. The listed variables of the top: they are never read; the start that meets the condition.
-/
import Derived.Test.YtepkjobndmmejaaGreatDoorTie
import Derived.Test.YtepkjobndmmejaaGreatDoorCards
import Derived.ProofKit
import Derived.LaidMore
import Derived.Lay
import Derived.OpenShut
import Derived.Stop.Joined
import Derived.SevenTiedAt
import Derived.Test.YtepkjobndmmejaaGreatDoorAbs42
import Derived.Test.YtepkjobndmmejaaGreatDoorMD
import Derived.Test.YtepkjobndmmejaaGreatDoorX00
import Derived.Test.YtepkjobndmmejaaGreatDoorX09
import Derived.Test.YtepkjobndmmejaaGreatDoorMC
import Derived.Test.YtepkjobndmmejaaGreatDoorX06
import Derived.Test.YtepkjobndmmejaaGreatDoorX05
import Derived.Test.YtepkjobndmmejaaGreatDoorX01
import Derived.Test.YtepkjobndmmejaaGreatDoorX08
namespace Go.Proofs.YtepkjobndmmejaaGreatDoor
open Go.Ab Go.RowKit Go.Dw Go.Shelf
def nF : ByteArray := ⟨#[102]⟩
set_option maxRecDepth 100000 in
theorem sdOutside_ac (n lo hi : Int) : AC Tryz.prog 128 [.i n, .i lo, .i hi] (.b (decide (n < lo) || decide (hi < n))) [] := by
 refine acI hTT hMX Tryz.func128 Tryz.ntmps128 fun C hC hF => ?_
 refine aw_seq_k fun K hK => wR 2 ?_; refine aX hTT 1 [] True.intro ?_; refine aops_nil (xt_n (hK _ ?_)); clear hK K; refine aw_seq_k fun K hK => wR 3 ?_; refine aX hTT 9 [(4, .c (gA (decide (n < lo) == false) True)), (5, .c (gA (decide (n < lo) == false) True)), (6, .c (gC (decide (n < lo) == false) True)), (7, .c (True ∧ (decide (n < lo) = false → (decide (n < lo) == false) = true)))] ⟨⟨⟨True.intro, True.intro⟩, (fun _ => True.intro)⟩, ⟨⟨True.intro, True.intro⟩, (fun _ => True.intro)⟩, ⟨⟨(by (exact fun h => h)), ⟨(by (exact fun h => h)), True.intro⟩⟩, (fun _ => True.intro)⟩, ⟨True.intro, (by (intro h; rw [h]; rfl))⟩, True.intro⟩ ?_; refine aops_nil (xt_n (hK _ ?_)); clear hK K
 refine aw_ret ?_
 refine rP (V.b (decide (n < lo) || decide (hi < n)))
set_option maxRecDepth 100000 in
theorem sIsName_ac : AC Tryz.prog 127 [.c (.string nF)] (.b true) [] := by
 refine acI hTT hMX Tryz.func127 Tryz.ntmps127 fun C hC hF => ?_
 refine aw_seq_k fun K hK => wR 2 ?_; refine aX hTT 1 [] True.intro ?_; refine aops_nil (xt_n (hK _ ?_)); clear hK K; refine aw_seq_k fun K hK => ?_; refine aw_seq_k fun K hK => wR 3 ?_; refine aX hTT 4 [] True.intro ?_; refine aops_nil (xt_n (hK _ ?_)); clear hK K
 refine aw_block ?_
 refine aw_rounds 3 ?_
 refine awr_succ (m := 2) fun K hK => ?_
 refine aw_seq_k fun K hK => wR 4 ?_; refine aX hTT 1 [] True.intro ?_; refine aops_nil (xt_n (hK _ ?_)); clear hK K; refine aw_seq_k fun K hK => ?_; refine w_true (t := true) (by kernel_rfl) rfl ?_
 refine aw_skip ?_
 refine xt_n (hK _ ?_); clear hK K; refine aw_seq_k fun K hK => ?_
 refine aw_block ?_
 refine aw_seq_k fun K hK => wR 5 ?_; refine aX hTT 3 [(0, .c ((0 : Int) ≤ (0 : Int) ∧ (0 : Int) < (↑(1 : Nat) : Int)))] ⟨(by omega), True.intro⟩ ?_; refine aops_nil (xt_n (hK _ ?_)); clear hK K; refine aw_seq_k fun K hK => wR 6 ?_; refine aX hTT 14 [(3, .c (gA (false == false) True)), (4, .c (gD (false == false) True)), (5, .c (True ∧ (false = false → (false == false) = true))), (7, .c (gA (false == true) True)), (8, .c (gD (false == true) True)), (9, .c (gB (false == true) True)), (10, .c (gA (false == true && false == false) True)), (11, .c (gD (false == true && false == false) True)), (12, .c (((false == true) = true → (false == true) = true) ∧ ((false == true) = true → True) ∧ ((false == true) = true → false = false → (false == true && false == false) = true))), (13, .c ((false = true → (false == true) = true) ∧ True))] ⟨⟨⟨True.intro, True.intro⟩, (fun _ => True.intro)⟩, ⟨⟨(by (exact fun h => h)), ⟨True.intro, True.intro⟩⟩, (fun _ => True.intro)⟩, ⟨True.intro, (by (intro h; rw [h]; rfl))⟩, ⟨⟨True.intro, True.intro⟩, (fun _ => True.intro)⟩, ⟨⟨(by (exact fun h => h)), ⟨True.intro, True.intro⟩⟩, (fun _ => True.intro)⟩, ⟨⟨(by (exact fun h => h)), True.intro⟩, (fun _ => True.intro)⟩, ⟨⟨True.intro, True.intro⟩, (fun _ => True.intro)⟩, ⟨⟨(by (exact fun h => h)), ⟨True.intro, True.intro⟩⟩, (fun _ => True.intro)⟩, ⟨(by (exact fun h => h)), ⟨(fun _ => True.intro), (by (intro h; simp at h; done))⟩⟩, ⟨(by (exact fun h => h)), True.intro⟩, True.intro⟩ ?_; refine aops_nil (xt_n (hK _ ?_)); clear hK K; refine w_false (t := false) (by kernel_rfl) rfl ?_
 refine aw_skip ?_
 refine xb_n ?_; refine xt_n (hK _ ?_); clear hK K; refine wR 7 ?_; refine aX hTT 2 [(0, .i ((0 : Int) + (1 : Int)))] ⟨(by omega), True.intro⟩ ?_; refine aops_nil (xt_n (hK _ ?_)); clear hK K
 refine awr_succ (m := 1) fun K hK => ?_
 refine aw_seq_k fun K hK => wR 8 ?_; refine aX hTT 1 [] True.intro ?_; refine aops_nil (xt_n (hK _ ?_)); clear hK K; refine aw_seq_k fun K hK => ?_; refine w_false (t := false) (by kernel_rfl) rfl ?_
 refine aw_exit ?_
 refine xt_x ?_; refine xt_x ?_
 refine xb_same ?_
 refine xt_n ?_; clear hK K; clear hK K; refine hK _ ?_; clear hK K; refine aw_seq_k fun K hK => wR 9 ?_; refine aX hTT 8 [(3, .c (gA (true == true) True)), (4, .c (gB (true == true) True)), (5, .c (gD (true == true) True)), (6, .c ((true = true → (true == true) = true) ∧ True))] ⟨⟨⟨True.intro, True.intro⟩, (fun _ => True.intro)⟩, ⟨⟨(by (exact fun h => h)), True.intro⟩, (fun _ => True.intro)⟩, ⟨⟨(by (exact fun h => h)), ⟨True.intro, True.intro⟩⟩, (fun _ => True.intro)⟩, ⟨(by (exact fun h => h)), True.intro⟩, True.intro⟩ ?_; refine aops_nil (xt_n (hK _ ?_)); clear hK K
 refine aw_ret ?_
 refine rP (V.b true)
def fmtF : List V := [.c (.string nF), .i 1000, .i 400, .i 10, .i 20, .i 10, .i 30, .i 5]
abbrev qT10 : Prop := (0 : Int) ≤ (0 : Int) ∧ (0 : Int) < (↑(3 : Nat) : Int)
theorem qT10_ : qT10 := (by omega)
abbrev qT11 : Prop := (0 : Int) ≤ (1 : Int) ∧ (1 : Int) < (↑(3 : Nat) : Int)
theorem qT11_ : qT11 := (by omega)
abbrev qT12 : Prop := (0 : Int) ≤ (2 : Int) ∧ (2 : Int) < (↑(3 : Nat) : Int)
theorem qT12_ : qT12 := (by omega)
abbrev qT13 : Prop := (0 : Nat) ≤ (3 : Nat)
theorem qT13_ : qT13 := (by omega)
abbrev qT14 : Prop := (0 : Int) ≤ gi [(1 : Int), (0 : Int), (2 : Int)] (0 : Nat) ∧ gi [(1 : Int), (0 : Int), (2 : Int)] (0 : Nat) < (↑(3 : Nat) : Int)
theorem qT14_ : qT14 := ⟨(by decide +kernel), (by decide +kernel)⟩
abbrev qT15 : Prop := (0 : Int) ≤ gi [(1 : Int), (0 : Int), (2 : Int)] (1 : Nat) ∧ gi [(1 : Int), (0 : Int), (2 : Int)] (1 : Nat) < (↑(3 : Nat) : Int)
theorem qT15_ : qT15 := ⟨(by decide +kernel), (by decide +kernel)⟩
abbrev qT16 : Prop := (0 : Int) ≤ gi [(1 : Int), (0 : Int), (2 : Int)] (2 : Nat) ∧ gi [(1 : Int), (0 : Int), (2 : Int)] (2 : Nat) < (↑(3 : Nat) : Int)
theorem qT16_ : qT16 := ⟨(by decide +kernel), (by decide +kernel)⟩
set_option maxRecDepth 100000 in
theorem CheckFormatF_ac : AC Tryz.prog 111 [.agg fmtF] (.i 0) [] := by
 refine acI hTT hMX Tryz.func111 Tryz.ntmps111 fun C hC hF => ?_
 refine aw_seq_k fun K hK => wR 2 ?_; refine aX hTT 2 [] True.intro ?_; refine aops_nil (xt_n (hK _ ?_)); clear hK K; refine aw_seq_k fun K hK => wR 3 ?_; refine aX hTT 2 [] True.intro ?_
 refine eC (sIsName_ac) ?_
 refine aX hTT 4 [(2, .c (gA (false == false) True)), (3, .c (gB (false == false) True))] ⟨⟨⟨True.intro, True.intro⟩, (fun _ => True.intro)⟩, ⟨⟨(by (exact fun h => h)), True.intro⟩, (fun _ => True.intro)⟩, True.intro⟩ ?_
 refine eG 1 (g := false == false) (fun _ => sdOutside_ac 1000 1 4194304) ?_
 refine aX hTT 7 [(0, .c (True ∧ (false = false → (false == false) = true))), (2, .c (gA (false == false) True)), (3, .c (gB (false == false) True)), (4, .c (gA (false == false) True)), (5, .c (gB (false == false) True)), (6, .c (gD (false == false) ((-9223372036854775808 : Int) ≤ (1000 : Int) - (1 : Int) ∧ (1000 : Int) - (1 : Int) ≤ (9223372036854775807 : Int))))] ⟨⟨True.intro, (by (intro h; rw [h]; rfl))⟩, ⟨⟨True.intro, True.intro⟩, (fun _ => True.intro)⟩, ⟨⟨(by (exact fun h => h)), True.intro⟩, (fun _ => True.intro)⟩, ⟨⟨True.intro, True.intro⟩, (fun _ => True.intro)⟩, ⟨⟨(by (exact fun h => h)), True.intro⟩, (fun _ => True.intro)⟩, ⟨⟨(by (exact fun h => h)), ⟨True.intro, True.intro⟩⟩, (by (intro _; simp; done))⟩, True.intro⟩ ?_
 refine eG 2 (g := false == false) (fun _ => sdOutside_ac 400 0 999) ?_
 refine aX hTT 4 [(0, .c (True ∧ (false = false → (false == false) = true))), (2, .c (gA (false == false) True)), (3, .c (gB (false == false) True))] ⟨⟨True.intro, (by (intro h; rw [h]; rfl))⟩, ⟨⟨True.intro, True.intro⟩, (fun _ => True.intro)⟩, ⟨⟨(by (exact fun h => h)), True.intro⟩, (fun _ => True.intro)⟩, True.intro⟩ ?_
 refine eG 1 (g := false == false) (fun _ => sdOutside_ac 10 1 65536) ?_
 refine aX hTT 4 [(0, .c (True ∧ (false = false → (false == false) = true))), (2, .c (gA (false == false) True)), (3, .c (gB (false == false) True))] ⟨⟨True.intro, (by (intro h; rw [h]; rfl))⟩, ⟨⟨True.intro, True.intro⟩, (fun _ => True.intro)⟩, ⟨⟨(by (exact fun h => h)), True.intro⟩, (fun _ => True.intro)⟩, True.intro⟩ ?_
 refine eG 1 (g := false == false) (fun _ => sdOutside_ac 5 0 1048576) ?_
 refine aX hTT 2 [(0, .c (True ∧ (false = false → (false == false) = true)))] ⟨⟨True.intro, (by (intro h; rw [h]; rfl))⟩, True.intro⟩ ?_; refine aops_nil (xt_n (hK _ ?_)); clear hK K; refine aw_seq_k fun K hK => ?_; refine aw_seq_k fun K hK => wR 4 ?_; refine aX hTT 8 [] True.intro ?_; refine aops_nil (xt_n (hK _ ?_)); clear hK K
 refine aw_block ?_
 refine aw_rounds 4 ?_
 refine awr_succ (m := 3) fun K hK => ?_
 refine aw_seq_k fun K hK => wR 5 ?_; refine aX hTT 1 [] True.intro ?_; refine aops_nil (xt_n (hK _ ?_)); clear hK K; refine aw_seq_k fun K hK => ?_; refine w_true (t := true) (by kernel_rfl) rfl ?_
 refine aw_skip ?_
 refine xt_n (hK _ ?_); clear hK K; refine aw_seq_k fun K hK => ?_
 refine aw_block ?_
 refine aw_seq_k fun K hK => wR 6 ?_; refine aX hTT 2 [(0, .c qT10)] ⟨qT10_, True.intro⟩ ?_; refine aops_nil (xt_n (hK _ ?_)); clear hK K; refine wR 7 ?_; refine aX hTT 3 [(2, .c (gA (false == false) True))] ⟨⟨⟨True.intro, True.intro⟩, (fun _ => True.intro)⟩, True.intro⟩ ?_
 refine eG 1 (g := false == false) (fun _ => sdOutside_ac 20 0 4194304) ?_
 refine aX hTT 2 [(0, .c (True ∧ (false = false → (false == false) = true)))] ⟨⟨True.intro, (by (intro h; rw [h]; rfl))⟩, True.intro⟩ ?_; refine aops_nil ?_; refine xb_n ?_; refine xt_n (hK _ ?_); clear hK K; refine wR 8 ?_; refine aX hTT 2 [(0, .i ((0 : Int) + (1 : Int)))] ⟨(by omega), True.intro⟩ ?_; refine aops_nil (xt_n (hK _ ?_)); clear hK K
 refine awr_succ (m := 2) fun K hK => ?_
 refine aw_seq_k fun K hK => wR 9 ?_; refine aX hTT 1 [] True.intro ?_; refine aops_nil (xt_n (hK _ ?_)); clear hK K; refine aw_seq_k fun K hK => ?_; refine w_true (t := true) (by kernel_rfl) rfl ?_
 refine aw_skip ?_
 refine xt_n (hK _ ?_); clear hK K; refine aw_seq_k fun K hK => ?_
 refine aw_block ?_
 refine aw_seq_k fun K hK => wR 10 ?_; refine aX hTT 2 [(0, .c qT11)] ⟨qT11_, True.intro⟩ ?_; refine aops_nil (xt_n (hK _ ?_)); clear hK K; refine wR 11 ?_; refine aX hTT 3 [(2, .c (gA (false == false) True))] ⟨⟨⟨True.intro, True.intro⟩, (fun _ => True.intro)⟩, True.intro⟩ ?_
 refine eG 1 (g := false == false) (fun _ => sdOutside_ac 10 0 4194304) ?_
 refine aX hTT 2 [(0, .c (True ∧ (false = false → (false == false) = true)))] ⟨⟨True.intro, (by (intro h; rw [h]; rfl))⟩, True.intro⟩ ?_; refine aops_nil ?_; refine xb_n ?_; refine xt_n (hK _ ?_); clear hK K; refine wR 12 ?_; refine aX hTT 2 [(0, .i ((1 : Int) + (1 : Int)))] ⟨(by omega), True.intro⟩ ?_; refine aops_nil (xt_n (hK _ ?_)); clear hK K
 refine awr_succ (m := 1) fun K hK => ?_
 refine aw_seq_k fun K hK => wR 13 ?_; refine aX hTT 1 [] True.intro ?_; refine aops_nil (xt_n (hK _ ?_)); clear hK K; refine aw_seq_k fun K hK => ?_; refine w_true (t := true) (by kernel_rfl) rfl ?_
 refine aw_skip ?_
 refine xt_n (hK _ ?_); clear hK K; refine aw_seq_k fun K hK => ?_
 refine aw_block ?_
 refine aw_seq_k fun K hK => wR 14 ?_; refine aX hTT 2 [(0, .c qT12)] ⟨qT12_, True.intro⟩ ?_; refine aops_nil (xt_n (hK _ ?_)); clear hK K; refine wR 15 ?_; refine aX hTT 3 [(2, .c (gA (false == false) True))] ⟨⟨⟨True.intro, True.intro⟩, (fun _ => True.intro)⟩, True.intro⟩ ?_
 refine eG 1 (g := false == false) (fun _ => sdOutside_ac 30 0 4194304) ?_
 refine aX hTT 2 [(0, .c (True ∧ (false = false → (false == false) = true)))] ⟨⟨True.intro, (by (intro h; rw [h]; rfl))⟩, True.intro⟩ ?_; refine aops_nil ?_; refine xb_n ?_; refine xt_n (hK _ ?_); clear hK K; refine wR 16 ?_; refine aX hTT 2 [(0, .i ((2 : Int) + (1 : Int)))] ⟨(by omega), True.intro⟩ ?_; refine aops_nil (xt_n (hK _ ?_)); clear hK K
 refine awr_succ (m := 0) fun K hK => ?_
 refine aw_seq_k fun K hK => wR 17 ?_; refine aX hTT 1 [] True.intro ?_; refine aops_nil (xt_n (hK _ ?_)); clear hK K; refine aw_seq_k fun K hK => ?_; refine w_false (t := false) (by kernel_rfl) rfl ?_
 refine aw_exit ?_
 refine xt_x ?_; refine xt_x ?_
 refine xb_same ?_
 refine xt_n ?_; clear hK K; clear hK K; refine hK _ ?_; clear hK K; refine aw_seq_k fun K hK => ?_; refine aw_seq_k fun K hK => wR 18 ?_; refine aX hTT 1 [] True.intro ?_; refine aops_nil (xt_n (hK _ ?_)); clear hK K; refine w_false (t := false) (by kernel_rfl) rfl ?_
 refine aw_skip ?_
 refine xt_n (hK _ ?_); clear hK K; refine aw_seq_k fun K hK => wR 19 ?_; refine aX hTT 1 [] True.intro ?_; refine aops_nil (xt_n (hK _ ?_)); clear hK K
 refine aw_ret ?_
 refine rP (V.i 0)
def trk (l : List (Int × Int × Int)) : V := .sl 3 l.length fun i => [.i (l.getD i (0, 0, 0)).1, .i (l.getD i (0, 0, 0)).2.1, .i (l.getD i (0, 0, 0)).2.2]
set_option maxRecDepth 100000 in
theorem CheckTracks1_ac : AC Tryz.prog 112 [trk [(95, 20, 500)]] (.i 0) [] := by
 refine acI hTT hMX Tryz.func112 Tryz.ntmps112 fun C hC hF => ?_
 refine aw_seq_k fun K hK => wR 2 ?_; refine aX hTT 1 [] True.intro ?_; refine aops_nil (xt_n (hK _ ?_)); clear hK K; refine aw_seq_k fun K hK => ?_; refine aw_seq_k fun K hK => wR 3 ?_; refine aX hTT 3 [] True.intro ?_; refine aops_nil (xt_n (hK _ ?_)); clear hK K; refine w_false (t := false) (by kernel_rfl) rfl ?_
 refine aw_skip ?_
 refine xt_n (hK _ ?_); clear hK K; refine aw_seq_k fun K hK => ?_; refine aw_seq_k fun K hK => wR 4 ?_; refine aX hTT 3 [] True.intro ?_; refine aops_nil (xt_n (hK _ ?_)); clear hK K
 refine aw_block ?_
 refine aw_rounds 4 ?_
 refine awr_succ (m := 3) fun K hK => ?_
 refine aw_seq_k fun K hK => wR 5 ?_; refine aX hTT 1 [] True.intro ?_; refine aops_nil (xt_n (hK _ ?_)); clear hK K; refine aw_seq_k fun K hK => ?_; refine w_true (t := true) (by kernel_rfl) rfl ?_
 refine aw_skip ?_
 refine xt_n (hK _ ?_); clear hK K; refine aw_seq_k fun K hK => ?_
 refine aw_block ?_
 refine aw_seq_k fun K hK => wR 6 ?_; refine aX hTT 4 [(0, .c ((0 : Int) ≤ (0 : Int) ∧ (0 : Int) < (↑(1 : Nat) : Int))), (2, .r (pn 4 (V.ref 500004 0) (500004 : Nat) (Ob.box 124 [V.i 0, V.i 0, V.i 0]))), (3, .r (pw ((0 : Nat) + (3 : Nat) ≤ (3 : Nat)) (500004 : Nat) (Ob.box 124 [V.i 95, V.i 20, V.i 500])))] ⟨(by omega), (by omega), True.intro⟩ ?_; refine aops_nil (xt_n (hK _ ?_)); clear hK K; refine aw_seq_k fun K hK => wR 7 ?_; refine aX hTT 2 [(1, .c qT13)] ⟨qT13_, True.intro⟩ ?_
 refine eC (sdOutside_ac 95 1 16777216) ?_
 refine aX hTT 3 [(1, .c (gA (false == false) True)), (2, .c (gB (false == false) ((1 : Nat) ≤ (3 : Nat))))] ⟨⟨⟨True.intro, True.intro⟩, (fun _ => True.intro)⟩, ⟨⟨(by (exact fun h => h)), True.intro⟩, (by (intro _; simp; done))⟩, True.intro⟩ ?_
 refine eG 1 (g := false == false) (fun _ => sdOutside_ac 20 1 4096) ?_
 refine aX hTT 4 [(0, .c (True ∧ (false = false → (false == false) = true))), (2, .c (gA (false == false) True)), (3, .c (gB (false == false) ((2 : Nat) ≤ (3 : Nat))))] ⟨⟨True.intro, (by (intro h; rw [h]; rfl))⟩, ⟨⟨True.intro, True.intro⟩, (fun _ => True.intro)⟩, ⟨⟨(by (exact fun h => h)), True.intro⟩, (by (intro _; simp; done))⟩, True.intro⟩ ?_
 refine eG 1 (g := false == false) (fun _ => sdOutside_ac 500 0 4194304) ?_
 refine aX hTT 1 [(0, .c (True ∧ (false = false → (false == false) = true)))] ⟨⟨True.intro, (by (intro h; rw [h]; rfl))⟩, True.intro⟩ ?_; refine aops_nil (xt_n (hK _ ?_)); clear hK K; refine w_false (t := false) (by kernel_rfl) rfl ?_
 refine aw_skip ?_
 refine xb_n ?_; refine xt_n (hK _ ?_); clear hK K; refine wR 8 ?_; refine aX hTT 2 [(0, .i ((0 : Int) + (1 : Int)))] ⟨(by omega), True.intro⟩ ?_; refine aops_nil (xt_n (hK _ ?_)); clear hK K
 refine awr_succ (m := 2) fun K hK => ?_
 refine aw_seq_k fun K hK => wR 9 ?_; refine aX hTT 1 [] True.intro ?_; refine aops_nil (xt_n (hK _ ?_)); clear hK K; refine aw_seq_k fun K hK => ?_; refine w_false (t := false) (by kernel_rfl) rfl ?_
 refine aw_exit ?_
 refine xt_x ?_; refine xt_x ?_
 refine xb_same ?_
 refine xt_n ?_; clear hK K; clear hK K; refine hK _ ?_; clear hK K; refine aw_seq_k fun K hK => wR 10 ?_; refine aX hTT 1 [] True.intro ?_; refine aops_nil (xt_n (hK _ ?_)); clear hK K
 refine aw_ret ?_
 refine rP (V.i 0)
set_option maxRecDepth 100000 in
theorem CheckTracks3_ac : AC Tryz.prog 112 [trk [(95, 20, 500), (30, 40, 800), (41, 10, 0)]] (.i 0) [] := by
 refine acI hTT hMX Tryz.func112 Tryz.ntmps112 fun C hC hF => ?_
 refine aw_seq_k fun K hK => wR 2 ?_; refine aX hTT 1 [] True.intro ?_; refine aops_nil (xt_n (hK _ ?_)); clear hK K; refine aw_seq_k fun K hK => ?_; refine aw_seq_k fun K hK => wR 3 ?_; refine aX hTT 3 [] True.intro ?_; refine aops_nil (xt_n (hK _ ?_)); clear hK K; refine w_false (t := false) (by kernel_rfl) rfl ?_
 refine aw_skip ?_
 refine xt_n (hK _ ?_); clear hK K; refine aw_seq_k fun K hK => ?_; refine aw_seq_k fun K hK => wR 4 ?_; refine aX hTT 3 [] True.intro ?_; refine aops_nil (xt_n (hK _ ?_)); clear hK K
 refine aw_block ?_
 refine aw_rounds 4 ?_
 refine awr_succ (m := 3) fun K hK => ?_
 refine aw_seq_k fun K hK => wR 5 ?_; refine aX hTT 1 [] True.intro ?_; refine aops_nil (xt_n (hK _ ?_)); clear hK K; refine aw_seq_k fun K hK => ?_; refine w_true (t := true) (by kernel_rfl) rfl ?_
 refine aw_skip ?_
 refine xt_n (hK _ ?_); clear hK K; refine aw_seq_k fun K hK => ?_
 refine aw_block ?_
 refine aw_seq_k fun K hK => wR 6 ?_; refine aX hTT 4 [(0, .c qT10), (2, .r (pn 4 (V.ref 500004 0) (500004 : Nat) (Ob.box 124 [V.i 0, V.i 0, V.i 0]))), (3, .r (pw ((0 : Nat) + (3 : Nat) ≤ (3 : Nat)) (500004 : Nat) (Ob.box 124 [V.i 95, V.i 20, V.i 500])))] ⟨qT10_, (by omega), True.intro⟩ ?_; refine aops_nil (xt_n (hK _ ?_)); clear hK K; refine aw_seq_k fun K hK => wR 7 ?_; refine aX hTT 2 [(1, .c qT13)] ⟨qT13_, True.intro⟩ ?_
 refine eC (sdOutside_ac 95 1 16777216) ?_
 refine aX hTT 3 [(1, .c (gA (false == false) True)), (2, .c (gB (false == false) ((1 : Nat) ≤ (3 : Nat))))] ⟨⟨⟨True.intro, True.intro⟩, (fun _ => True.intro)⟩, ⟨⟨(by (exact fun h => h)), True.intro⟩, (by (intro _; simp; done))⟩, True.intro⟩ ?_
 refine eG 1 (g := false == false) (fun _ => sdOutside_ac 20 1 4096) ?_
 refine aX hTT 4 [(0, .c (True ∧ (false = false → (false == false) = true))), (2, .c (gA (false == false) True)), (3, .c (gB (false == false) ((2 : Nat) ≤ (3 : Nat))))] ⟨⟨True.intro, (by (intro h; rw [h]; rfl))⟩, ⟨⟨True.intro, True.intro⟩, (fun _ => True.intro)⟩, ⟨⟨(by (exact fun h => h)), True.intro⟩, (by (intro _; simp; done))⟩, True.intro⟩ ?_
 refine eG 1 (g := false == false) (fun _ => sdOutside_ac 500 0 4194304) ?_
 refine aX hTT 1 [(0, .c (True ∧ (false = false → (false == false) = true)))] ⟨⟨True.intro, (by (intro h; rw [h]; rfl))⟩, True.intro⟩ ?_; refine aops_nil (xt_n (hK _ ?_)); clear hK K; refine w_false (t := false) (by kernel_rfl) rfl ?_
 refine aw_skip ?_
 refine xb_n ?_; refine xt_n (hK _ ?_); clear hK K; refine wR 8 ?_; refine aX hTT 2 [(0, .i ((0 : Int) + (1 : Int)))] ⟨(by omega), True.intro⟩ ?_; refine aops_nil (xt_n (hK _ ?_)); clear hK K
 refine awr_succ (m := 2) fun K hK => ?_
 refine aw_seq_k fun K hK => wR 9 ?_; refine aX hTT 1 [] True.intro ?_; refine aops_nil (xt_n (hK _ ?_)); clear hK K; refine aw_seq_k fun K hK => ?_; refine w_true (t := true) (by kernel_rfl) rfl ?_
 refine aw_skip ?_
 refine xt_n (hK _ ?_); clear hK K; refine aw_seq_k fun K hK => ?_
 refine aw_block ?_
 refine aw_seq_k fun K hK => wR 10 ?_; refine aX hTT 4 [(0, .c qT11), (2, .r (pn 4 (V.ref 900004 0) (900004 : Nat) (Ob.box 124 [V.i 0, V.i 0, V.i 0]))), (3, .r (pw ((0 : Nat) + (3 : Nat) ≤ (3 : Nat)) (900004 : Nat) (Ob.box 124 [V.i 30, V.i 40, V.i 800])))] ⟨qT11_, (by omega), True.intro⟩ ?_; refine aops_nil (xt_n (hK _ ?_)); clear hK K; refine aw_seq_k fun K hK => wR 11 ?_; refine aX hTT 2 [(1, .c qT13)] ⟨qT13_, True.intro⟩ ?_
 refine eC (sdOutside_ac 30 1 16777216) ?_
 refine aX hTT 3 [(1, .c (gA (false == false) True)), (2, .c (gB (false == false) ((1 : Nat) ≤ (3 : Nat))))] ⟨⟨⟨True.intro, True.intro⟩, (fun _ => True.intro)⟩, ⟨⟨(by (exact fun h => h)), True.intro⟩, (by (intro _; simp; done))⟩, True.intro⟩ ?_
 refine eG 1 (g := false == false) (fun _ => sdOutside_ac 40 1 4096) ?_
 refine aX hTT 4 [(0, .c (True ∧ (false = false → (false == false) = true))), (2, .c (gA (false == false) True)), (3, .c (gB (false == false) ((2 : Nat) ≤ (3 : Nat))))] ⟨⟨True.intro, (by (intro h; rw [h]; rfl))⟩, ⟨⟨True.intro, True.intro⟩, (fun _ => True.intro)⟩, ⟨⟨(by (exact fun h => h)), True.intro⟩, (by (intro _; simp; done))⟩, True.intro⟩ ?_
 refine eG 1 (g := false == false) (fun _ => sdOutside_ac 800 0 4194304) ?_
 refine aX hTT 1 [(0, .c (True ∧ (false = false → (false == false) = true)))] ⟨⟨True.intro, (by (intro h; rw [h]; rfl))⟩, True.intro⟩ ?_; refine aops_nil (xt_n (hK _ ?_)); clear hK K; refine w_false (t := false) (by kernel_rfl) rfl ?_
 refine aw_skip ?_
 refine xb_n ?_; refine xt_n (hK _ ?_); clear hK K; refine wR 12 ?_; refine aX hTT 2 [(0, .i ((1 : Int) + (1 : Int)))] ⟨(by omega), True.intro⟩ ?_; refine aops_nil (xt_n (hK _ ?_)); clear hK K
 refine awr_succ (m := 1) fun K hK => ?_
 refine aw_seq_k fun K hK => wR 13 ?_; refine aX hTT 1 [] True.intro ?_; refine aops_nil (xt_n (hK _ ?_)); clear hK K; refine aw_seq_k fun K hK => ?_; refine w_true (t := true) (by kernel_rfl) rfl ?_
 refine aw_skip ?_
 refine xt_n (hK _ ?_); clear hK K; refine aw_seq_k fun K hK => ?_
 refine aw_block ?_
 refine aw_seq_k fun K hK => wR 14 ?_; refine aX hTT 4 [(0, .c qT12), (2, .r (pn 4 (V.ref 1300004 0) (1300004 : Nat) (Ob.box 124 [V.i 0, V.i 0, V.i 0]))), (3, .r (pw ((0 : Nat) + (3 : Nat) ≤ (3 : Nat)) (1300004 : Nat) (Ob.box 124 [V.i 41, V.i 10, V.i 0])))] ⟨qT12_, (by omega), True.intro⟩ ?_; refine aops_nil (xt_n (hK _ ?_)); clear hK K; refine aw_seq_k fun K hK => wR 15 ?_; refine aX hTT 2 [(1, .c qT13)] ⟨qT13_, True.intro⟩ ?_
 refine eC (sdOutside_ac 41 1 16777216) ?_
 refine aX hTT 3 [(1, .c (gA (false == false) True)), (2, .c (gB (false == false) ((1 : Nat) ≤ (3 : Nat))))] ⟨⟨⟨True.intro, True.intro⟩, (fun _ => True.intro)⟩, ⟨⟨(by (exact fun h => h)), True.intro⟩, (by (intro _; simp; done))⟩, True.intro⟩ ?_
 refine eG 1 (g := false == false) (fun _ => sdOutside_ac 10 1 4096) ?_
 refine aX hTT 4 [(0, .c (True ∧ (false = false → (false == false) = true))), (2, .c (gA (false == false) True)), (3, .c (gB (false == false) ((2 : Nat) ≤ (3 : Nat))))] ⟨⟨True.intro, (by (intro h; rw [h]; rfl))⟩, ⟨⟨True.intro, True.intro⟩, (fun _ => True.intro)⟩, ⟨⟨(by (exact fun h => h)), True.intro⟩, (by (intro _; simp; done))⟩, True.intro⟩ ?_
 refine eG 1 (g := false == false) (fun _ => sdOutside_ac 0 0 4194304) ?_
 refine aX hTT 1 [(0, .c (True ∧ (false = false → (false == false) = true)))] ⟨⟨True.intro, (by (intro h; rw [h]; rfl))⟩, True.intro⟩ ?_; refine aops_nil (xt_n (hK _ ?_)); clear hK K; refine w_false (t := false) (by kernel_rfl) rfl ?_
 refine aw_skip ?_
 refine xb_n ?_; refine xt_n (hK _ ?_); clear hK K; refine wR 16 ?_; refine aX hTT 2 [(0, .i ((2 : Int) + (1 : Int)))] ⟨(by omega), True.intro⟩ ?_; refine aops_nil (xt_n (hK _ ?_)); clear hK K
 refine awr_succ (m := 0) fun K hK => ?_
 refine aw_seq_k fun K hK => wR 17 ?_; refine aX hTT 1 [] True.intro ?_; refine aops_nil (xt_n (hK _ ?_)); clear hK K; refine aw_seq_k fun K hK => ?_; refine w_false (t := false) (by kernel_rfl) rfl ?_
 refine aw_exit ?_
 refine xt_x ?_; refine xt_x ?_
 refine xb_same ?_
 refine xt_n ?_; clear hK K; clear hK K; refine hK _ ?_; clear hK K; refine aw_seq_k fun K hK => wR 18 ?_; refine aX hTT 1 [] True.intro ?_; refine aops_nil (xt_n (hK _ ?_)); clear hK K
 refine aw_ret ?_
 refine rP (V.i 0)
set_option maxRecDepth 100000 in
theorem open1_ac : AC Tryz.prog 91 [.agg fmtF, trk [(95, 20, 500)]] (.tup [.ptr (fmtF ++ [trk [(95, 20, 500)]]), .i 0]) [] := by
 refine acI hTT hMX Tryz.func91 Tryz.ntmps91 fun C hC hF => ?_
 refine aw_seq_k fun K hK => wR 2 ?_; refine aX hTT 3 [] True.intro ?_; refine aops_nil (xt_n (hK _ ?_)); clear hK K; refine aw_seq_k fun K hK => ?_; refine aw_seq_k fun K hK => wR 3 ?_; refine aX hTT 1 [] True.intro ?_
 refine eC (CheckFormatF_ac) ?_
 refine aX hTT 1 [] True.intro ?_; refine aops_nil (xt_n (hK _ ?_)); clear hK K; refine aw_seq_k fun K hK => wR 4 ?_; refine aX hTT 2 [] True.intro ?_; refine aops_nil (xt_n (hK _ ?_)); clear hK K; refine w_false (t := false) (by kernel_rfl) rfl ?_
 refine aw_skip ?_
 refine xt_n (hK _ ?_); clear hK K; refine aw_seq_k fun K hK => ?_; refine aw_seq_k fun K hK => wR 5 ?_; refine aX hTT 1 [] True.intro ?_
 refine eC (CheckTracks1_ac) ?_
 refine aX hTT 1 [] True.intro ?_; refine aops_nil (xt_n (hK _ ?_)); clear hK K; refine aw_seq_k fun K hK => wR 6 ?_; refine aX hTT 2 [] True.intro ?_; refine aops_nil (xt_n (hK _ ?_)); clear hK K; refine w_false (t := false) (by kernel_rfl) rfl ?_
 refine aw_skip ?_
 refine xt_n (hK _ ?_); clear hK K; refine aw_seq_k fun K hK => wR 7 ?_; refine aX hTT 6 [] True.intro ?_; refine aops_nil (xt_n (hK _ ?_)); clear hK K
 refine aw_ret ?_
 refine rP (V.tup [V.ptr [V.c (Value.string nF), V.i 1000, V.i 400, V.i 10, V.i 20, V.i 10, V.i 30, V.i 5, V.sl 3 1 fun (i : Nat) => [V.i (Prod.fst (List.getD [((95 : Int), (20 : Int), (500 : Int))] i ((0 : Int), (0 : Int), (0 : Int)))), V.i (Prod.fst (Prod.snd (List.getD [((95 : Int), (20 : Int), (500 : Int))] i ((0 : Int), (0 : Int), (0 : Int))))), V.i (Prod.snd (Prod.snd (List.getD [((95 : Int), (20 : Int), (500 : Int))] i ((0 : Int), (0 : Int), (0 : Int)))))]], V.i 0])
set_option maxRecDepth 100000 in
theorem open3_ac : AC Tryz.prog 91 [.agg fmtF, trk [(95, 20, 500), (30, 40, 800), (41, 10, 0)]] (.tup [.ptr (fmtF ++ [trk [(95, 20, 500), (30, 40, 800), (41, 10, 0)]]), .i 0]) [] := by
 refine acI hTT hMX Tryz.func91 Tryz.ntmps91 fun C hC hF => ?_
 refine aw_seq_k fun K hK => wR 2 ?_; refine aX hTT 3 [] True.intro ?_; refine aops_nil (xt_n (hK _ ?_)); clear hK K; refine aw_seq_k fun K hK => ?_; refine aw_seq_k fun K hK => wR 3 ?_; refine aX hTT 1 [] True.intro ?_
 refine eC (CheckFormatF_ac) ?_
 refine aX hTT 1 [] True.intro ?_; refine aops_nil (xt_n (hK _ ?_)); clear hK K; refine aw_seq_k fun K hK => wR 4 ?_; refine aX hTT 2 [] True.intro ?_; refine aops_nil (xt_n (hK _ ?_)); clear hK K; refine w_false (t := false) (by kernel_rfl) rfl ?_
 refine aw_skip ?_
 refine xt_n (hK _ ?_); clear hK K; refine aw_seq_k fun K hK => ?_; refine aw_seq_k fun K hK => wR 5 ?_; refine aX hTT 1 [] True.intro ?_
 refine eC (CheckTracks3_ac) ?_
 refine aX hTT 1 [] True.intro ?_; refine aops_nil (xt_n (hK _ ?_)); clear hK K; refine aw_seq_k fun K hK => wR 6 ?_; refine aX hTT 2 [] True.intro ?_; refine aops_nil (xt_n (hK _ ?_)); clear hK K; refine w_false (t := false) (by kernel_rfl) rfl ?_
 refine aw_skip ?_
 refine xt_n (hK _ ?_); clear hK K; refine aw_seq_k fun K hK => wR 7 ?_; refine aX hTT 6 [] True.intro ?_; refine aops_nil (xt_n (hK _ ?_)); clear hK K
 refine aw_ret ?_
 refine rP (V.tup [V.ptr [V.c (Value.string nF), V.i 1000, V.i 400, V.i 10, V.i 20, V.i 10, V.i 30, V.i 5, V.sl 3 3 fun (i : Nat) => [V.i (Prod.fst (List.getD [((95 : Int), (20 : Int), (500 : Int)), ((30 : Int), (40 : Int), (800 : Int)), ((41 : Int), (10 : Int), (0 : Int))] i ((0 : Int), (0 : Int), (0 : Int)))), V.i (Prod.fst (Prod.snd (List.getD [((95 : Int), (20 : Int), (500 : Int)), ((30 : Int), (40 : Int), (800 : Int)), ((41 : Int), (10 : Int), (0 : Int))] i ((0 : Int), (0 : Int), (0 : Int))))), V.i (Prod.snd (Prod.snd (List.getD [((95 : Int), (20 : Int), (500 : Int)), ((30 : Int), (40 : Int), (800 : Int)), ((41 : Int), (10 : Int), (0 : Int))] i ((0 : Int), (0 : Int), (0 : Int)))))]], V.i 0])
set_option maxRecDepth 100000 in
theorem sdWidth_ac (l : List (Int × Int × Int)) (a b c : Int) (ha : 0 ≤ a ∧ a ≤ 16777216) (hb : 0 ≤ b ∧ b ≤ 4096) : AC Tryz.prog 94 [.ptr (fmtF ++ [trk l]), .agg [.i a, .i b, .i c]] (.i (b * (a + 10 - 1).tdiv 10)) [] := by
 have h1 : 0 ≤ (a + 10 - 1).tdiv 10 ∧ (a + 10 - 1).tdiv 10 ≤ 16777225 := by
  rw [Int.tdiv_eq_ediv_of_nonneg (by omega)]; omega
 have h2 := Int.mul_nonneg hb.1 h1.1
 have h3 : b * (a + 10 - 1).tdiv 10 ≤ 4096 * 16777225 := Int.mul_le_mul hb.2 h1.2 h1.1 (by decide)
 refine acI hTT hMX Tryz.func94 Tryz.ntmps94 fun C hC hF => ?_
 refine aw_seq_k fun K hK => wR 2 ?_; refine aX hTT 2 [] True.intro ?_; refine aops_nil (xt_n (hK _ ?_)); clear hK K; refine aw_seq_k fun K hK => wD 3 ?_; refine aX hTT 19 [(9, .i (a + (10 : Int))), (10, .i (a + (10 : Int) - (1 : Int))), (16, .c ((0 : Int) < (10 : Int) ∧ (-9223372036854775808 : Int) ≤ a + (10 : Int) - (1 : Int) ∧ a + (10 : Int) - (1 : Int) ≤ (9223372036854775807 : Int))), (17, .i (b * Int.tdiv (a + (10 : Int) - (1 : Int)) (10 : Int)))] ⟨(by omega), (by omega), ⟨(by omega), (by omega)⟩, (by omega), True.intro⟩ ?_; refine aops_nil ⟨by kernel_rfl, ?_⟩; refine xt_n (hK _ ?_); clear hK K
 refine aw_ret ?_
 refine rP (V.i (b * Int.tdiv (a + (10 : Int) - (1 : Int)) (10 : Int)))
set_option maxRecDepth 100000 in
theorem SdWidth_ac : AC Tryz.prog 65 [.agg fmtF, .agg [.i 95, .i 20, .i 500]] (.tup [.i 200, .i 0]) [] := by
 refine acI hTT hMX Tryz.func65 Tryz.ntmps65 fun C hC hF => ?_
 refine aw_seq_k fun K hK => wR 2 ?_; refine aX hTT 4 [] True.intro ?_; refine aops_nil (xt_n (hK _ ?_)); clear hK K; refine aw_seq_k fun K hK => wR 3 ?_; refine aX hTT 3 [] True.intro ?_
 refine eC (AC.conv (open1_ac) (args' := [V.agg [V.c (Value.string nF), V.i 1000, V.i 400, V.i 10, V.i 20, V.i 10, V.i 30, V.i 5], V.sl 3 1 fun (i : Nat) => List.take (3 : Nat) (List.drop (i * (3 : Nat)) [V.i 95, V.i 20, V.i 500])]) ⟨RImp.refl _, ?_, trivial⟩) ?_
 ·
  exact RImp.rows rfl fun i hi => by
   obtain rfl : i = 0 := by simpa using hi
   rfl
 refine aX hTT 5 [] True.intro ?_; refine aops_nil (xt_n (hK _ ?_)); clear hK K; refine aw_seq_k fun K hK => ?_; refine aw_seq_k fun K hK => wR 4 ?_; refine aX hTT 2 [] True.intro ?_; refine aops_nil (xt_n (hK _ ?_)); clear hK K; refine w_false (t := false) (by kernel_rfl) rfl ?_
 refine aw_skip ?_
 refine xt_n (hK _ ?_); clear hK K; refine aw_seq_k fun K hK => wR 5 ?_; refine aX hTT 2 [] True.intro ?_
 refine eC (sdWidth_ac [(95, 20, 500)] 95 20 500 (by decide) (by decide)) ?_
 refine aX hTT 2 [] True.intro ?_; refine aops_nil (xt_n (hK _ ?_)); clear hK K
 refine aw_ret ?_
 refine rP (V.tup [V.i 200, V.i 0])
abbrev yyT11 := (appRow (1 : Nat) (fun (i : Nat) => List.take (1 : Nat) (List.drop (i * (1 : Nat)) [V.i 0])) fun (i : Nat) => List.take (1 : Nat) (List.drop (i * (1 : Nat)) [V.i 1]))
abbrev yyT10 : Ob := Ob.row 3 1 3 (appRow (2 : Nat) yyT11 fun (i : Nat) => List.take (1 : Nat) (List.drop (i * (1 : Nat)) [V.i 2]))
set_option maxRecDepth 100000 in
theorem span3_ac : AC Tryz.prog 114 [.i 0, .i 3] (.own 0) [.row 3 1 3 fun i => [.i i]] := by
 refine acI hTT hMX Tryz.func114 Tryz.ntmps114 fun C hC hF => ?_
 refine aw_seq_k fun K hK => wR 2 ?_; refine aX hTT 1 [] True.intro ?_; refine aops_nil (xt_n (hK _ ?_)); clear hK K; refine aw_seq_k fun K hK => wR 3 ?_; refine aX hTT 1 [] True.intro ?_; refine aops_nil (xt_n (hK _ ?_)); clear hK K; refine aw_seq_k fun K hK => ?_
 refine aw_block ?_
 refine aw_rounds 4 ?_
 refine awr_succ (m := 3) fun K hK => ?_
 refine aw_seq_k fun K hK => ?_; refine aw_seq_k fun K hK => wR 4 ?_; refine aX hTT 3 [] True.intro ?_; refine aops_nil (xt_n (hK _ ?_)); clear hK K; refine w_true (t := true) (by kernel_rfl) rfl ?_
 refine aw_skip ?_
 refine xt_n (hK _ ?_); clear hK K; refine aw_seq_k fun K hK => ?_
 refine aw_block ?_
 refine wR 5 ?_; refine aX hTT 5 [(3, .r (PR.mk (some (14 : Nat)) (some ((1 : Nat) ≤ (1099511627776 : Nat))) (V.own 400014) [((400014 : Nat), some (Ob.row 3 1 1 fun (i : Nat) => List.take (1 : Nat) (List.drop (i * (1 : Nat)) [V.i 0])))] false))] ⟨(by omega), True.intro⟩ ?_; refine aops_nil ?_; refine xb_n ?_; refine xt_n (hK _ ?_); clear hK K; refine wR 6 ?_; refine aX hTT 3 [(1, .i ((0 : Int) + (1 : Int)))] ⟨(by omega), True.intro⟩ ?_; refine aops_nil (xt_n (hK _ ?_)); clear hK K
 refine awr_succ (m := 2) fun K hK => ?_
 refine aw_seq_k fun K hK => ?_; refine aw_seq_k fun K hK => wR 7 ?_; refine aX hTT 3 [] True.intro ?_; refine aops_nil (xt_n (hK _ ?_)); clear hK K; refine w_true (t := true) (by kernel_rfl) rfl ?_
 refine aw_skip ?_
 refine xt_n (hK _ ?_); clear hK K; refine aw_seq_k fun K hK => ?_
 refine aw_block ?_
 refine wR 8 ?_; refine aX hTT 5 [(3, .r (PR.mk (some (14 : Nat)) (some ((1 : Nat) + (1 : Nat) ≤ (1099511627776 : Nat))) (V.own 700014) [((400014 : Nat), none), ((700014 : Nat), some (Ob.row 3 1 2 yyT11))] false))] ⟨(by omega), True.intro⟩ ?_; refine aops_nil ?_; refine xb_n ?_; refine xt_n (hK _ ?_); clear hK K; refine wR 9 ?_; refine aX hTT 3 [(1, .i ((1 : Int) + (1 : Int)))] ⟨(by omega), True.intro⟩ ?_; refine aops_nil (xt_n (hK _ ?_)); clear hK K
 refine awr_succ (m := 1) fun K hK => ?_
 refine aw_seq_k fun K hK => ?_; refine aw_seq_k fun K hK => wR 10 ?_; refine aX hTT 3 [] True.intro ?_; refine aops_nil (xt_n (hK _ ?_)); clear hK K; refine w_true (t := true) (by kernel_rfl) rfl ?_
 refine aw_skip ?_
 refine xt_n (hK _ ?_); clear hK K; refine aw_seq_k fun K hK => ?_
 refine aw_block ?_
 refine wR 11 ?_; refine aX hTT 5 [(3, .r (PR.mk (some (14 : Nat)) (some ((2 : Nat) + (1 : Nat) ≤ (1099511627776 : Nat))) (V.own 1000014) [((700014 : Nat), none), ((1000014 : Nat), some (yyT10))] false))] ⟨(by omega), True.intro⟩ ?_; refine aops_nil ?_; refine xb_n ?_; refine xt_n (hK _ ?_); clear hK K; refine wR 12 ?_; refine aX hTT 3 [(1, .i ((2 : Int) + (1 : Int)))] ⟨(by omega), True.intro⟩ ?_; refine aops_nil (xt_n (hK _ ?_)); clear hK K
 refine awr_succ (m := 0) fun K hK => ?_
 refine aw_seq_k fun K hK => ?_; refine aw_seq_k fun K hK => wR 13 ?_; refine aX hTT 3 [] True.intro ?_; refine aops_nil (xt_n (hK _ ?_)); clear hK K; refine w_false (t := false) (by kernel_rfl) rfl ?_
 refine aw_exit ?_
 refine xt_x ?_; refine xt_x ?_
 refine xb_same ?_
 refine xt_n ?_; clear hK K; clear hK K; refine hK _ ?_; clear hK K; refine aw_seq_k fun K hK => wR 14 ?_; refine aX hTT 2 [] True.intro ?_; refine aops_nil (xt_n (hK _ ?_)); clear hK K
 refine aw_ret ?_
 refine ret_own [(0, 1000014)] [(4, V.own 0)] (.inr rfl) (.cons (by kernel_rfl) .nil) (.cons ⟨yyT10, (by kernel_rfl), .row (by kernel_rfl) ?_⟩ .nil) (by kernel_rfl) (by kernel_rfl) (by kernel_rfl) (by kernel_rfl)
 intro i hi
 rcases (by omega : i = 0 ∨ i = 1 ∨ i = 2) with rfl | rfl | rfl <;> rfl
set_option maxRecDepth 100000 in
theorem isNaN64_ac (a : Int) : AC Tryz.prog 179 [.i a] (.b false) [] := by
 refine acI hTT hMX Tryz.func179 Tryz.ntmps179 fun C hC hF => ?_
 refine aw_seq_k fun K hK => wR 2 ?_; refine aX hTT 1 [] True.intro ?_; refine aops_nil (xt_n (hK _ ?_)); clear hK K; refine aw_seq_k fun K hK => wR 3 ?_; refine aX hTT 4 [] True.intro ?_; refine aops_nil (xt_n (hK _ ?_)); clear hK K
 refine aw_ret ?_
 refine ret_pure (v' := V.b !decide (a = a)) (.inr rfl) (by kernel_rfl) ?_ (by kernel_rfl)
 simp
set_option maxRecDepth 100000 in
theorem Compare64_ac (a b : Int) : AC Tryz.prog 147 [.i a, .i b] (.i (if a < b then -1 else if b < a then 1 else 0)) [] := by
 refine acI hTT hMX Tryz.func147 Tryz.ntmps147 fun C hC hF => ?_
 refine aw_seq_k fun K hK => wR 2 ?_; refine aX hTT 1 [] True.intro ?_; refine aops_nil (xt_n (hK _ ?_)); clear hK K; refine aw_seq_k fun K hK => wR 3 ?_; refine aX hTT 1 [] True.intro ?_
 refine eC (isNaN64_ac a) ?_
 refine aX hTT 1 [] True.intro ?_; refine aops_nil (xt_n (hK _ ?_)); clear hK K; refine aw_seq_k fun K hK => wR 4 ?_; refine aX hTT 1 [] True.intro ?_
 refine eC (isNaN64_ac b) ?_
 refine aX hTT 1 [] True.intro ?_; refine aops_nil (xt_n (hK _ ?_)); clear hK K; refine aw_seq_k fun K hK => ?_; refine aw_seq_k fun K hK => wR 5 ?_; refine aX hTT 1 [] True.intro ?_; refine aops_nil (xt_n (hK _ ?_)); clear hK K; refine w_false (t := false) (by kernel_rfl) rfl ?_
 refine aw_skip ?_
 refine xt_n (hK _ ?_); clear hK K; refine aw_seq_k fun K hK => ?_; refine aw_seq_k fun K hK => wR 6 ?_; refine aX hTT 1 [] True.intro ?_; refine aops_nil (xt_n (hK _ ?_)); clear hK K; refine w_false (t := false) (by kernel_rfl) rfl ?_
 refine aw_skip ?_
 refine xt_n (hK _ ?_); clear hK K; refine aw_seq_k fun K hK => ?_; refine aw_seq_k fun K hK => wR 7 ?_; refine aX hTT 3 [] True.intro ?_; refine aops_nil (xt_n (hK _ ?_)); clear hK K
 refine w_cond (t := decide (a < b)) (by kernel_rfl) (fun c1 => ?_) (fun c1 => ?_)
 ·
  refine aw_seq_k fun K hK => ?_
  refine wR 8 ?_; refine aX hTT 1 [] True.intro ?_; refine aops_nil (xt_n (hK _ ?_)); clear hK K
  refine aw_ret ?_
  refine xt_r ?_
  refine ret_pure (v' := V.i (-1)) (.inr rfl) (by kernel_rfl) ?_ (by kernel_rfl)
  simp at c1
  rw [if_pos c1]
 refine aw_skip ?_
 refine xt_n (hK _ ?_); clear hK K; refine aw_seq_k fun K hK => ?_; refine aw_seq_k fun K hK => wR 8 ?_; refine aX hTT 3 [] True.intro ?_; refine aops_nil (xt_n (hK _ ?_)); clear hK K
 refine w_cond (t := decide (b < a)) (by kernel_rfl) (fun c2 => ?_) (fun c2 => ?_)
 ·
  refine aw_seq_k fun K hK => ?_
  refine wR 9 ?_; refine aX hTT 1 [] True.intro ?_; refine aops_nil (xt_n (hK _ ?_)); clear hK K
  refine aw_ret ?_
  refine xt_r ?_
  refine ret_pure (v' := V.i 1) (.inr rfl) (by kernel_rfl) ?_ (by kernel_rfl)
  simp at c1 c2
  rw [if_neg (by omega), if_pos c2]
 refine aw_skip ?_
 refine xt_n (hK _ ?_); clear hK K; refine aw_seq_k fun K hK => wR 9 ?_; refine aX hTT 1 [] True.intro ?_; refine aops_nil (xt_n (hK _ ?_)); clear hK K
 refine aw_ret ?_
 refine ret_pure (v' := V.i 0) (.inr rfl) (by kernel_rfl) ?_ (by kernel_rfl)
 simp at c1 c2
 rw [if_neg (by omega), if_neg (by omega)]
set_option maxRecDepth 100000 in
theorem isNaNI_ac (a : Int) : AC Tryz.prog 180 [.i a] (.b false) [] := by
 refine acI hTT hMX Tryz.func180 Tryz.ntmps180 fun C hC hF => ?_
 refine aw_seq_k fun K hK => wR 2 ?_; refine aX hTT 1 [] True.intro ?_; refine aops_nil (xt_n (hK _ ?_)); clear hK K; refine aw_seq_k fun K hK => wR 3 ?_; refine aX hTT 4 [] True.intro ?_; refine aops_nil (xt_n (hK _ ?_)); clear hK K
 refine aw_ret ?_
 refine ret_pure (v' := V.b !decide (a = a)) (.inr rfl) (by kernel_rfl) ?_ (by kernel_rfl)
 simp
set_option maxRecDepth 100000 in
theorem CompareI_ac (a b : Int) : AC Tryz.prog 148 [.i a, .i b] (.i (if a < b then -1 else if b < a then 1 else 0)) [] := by
 refine acI hTT hMX Tryz.func148 Tryz.ntmps148 fun C hC hF => ?_
 refine aw_seq_k fun K hK => wR 2 ?_; refine aX hTT 1 [] True.intro ?_; refine aops_nil (xt_n (hK _ ?_)); clear hK K; refine aw_seq_k fun K hK => wR 3 ?_; refine aX hTT 1 [] True.intro ?_
 refine eC (isNaNI_ac a) ?_
 refine aX hTT 1 [] True.intro ?_; refine aops_nil (xt_n (hK _ ?_)); clear hK K; refine aw_seq_k fun K hK => wR 4 ?_; refine aX hTT 1 [] True.intro ?_
 refine eC (isNaNI_ac b) ?_
 refine aX hTT 1 [] True.intro ?_; refine aops_nil (xt_n (hK _ ?_)); clear hK K; refine aw_seq_k fun K hK => ?_; refine aw_seq_k fun K hK => wR 5 ?_; refine aX hTT 1 [] True.intro ?_; refine aops_nil (xt_n (hK _ ?_)); clear hK K; refine w_false (t := false) (by kernel_rfl) rfl ?_
 refine aw_skip ?_
 refine xt_n (hK _ ?_); clear hK K; refine aw_seq_k fun K hK => ?_; refine aw_seq_k fun K hK => wR 6 ?_; refine aX hTT 1 [] True.intro ?_; refine aops_nil (xt_n (hK _ ?_)); clear hK K; refine w_false (t := false) (by kernel_rfl) rfl ?_
 refine aw_skip ?_
 refine xt_n (hK _ ?_); clear hK K; refine aw_seq_k fun K hK => ?_; refine aw_seq_k fun K hK => wR 7 ?_; refine aX hTT 3 [] True.intro ?_; refine aops_nil (xt_n (hK _ ?_)); clear hK K
 refine w_cond (t := decide (a < b)) (by kernel_rfl) (fun c1 => ?_) (fun c1 => ?_)
 ·
  refine aw_seq_k fun K hK => ?_
  refine wR 8 ?_; refine aX hTT 1 [] True.intro ?_; refine aops_nil (xt_n (hK _ ?_)); clear hK K
  refine aw_ret ?_
  refine xt_r ?_
  refine ret_pure (v' := V.i (-1)) (.inr rfl) (by kernel_rfl) ?_ (by kernel_rfl)
  simp at c1
  rw [if_pos c1]
 refine aw_skip ?_
 refine xt_n (hK _ ?_); clear hK K; refine aw_seq_k fun K hK => ?_; refine aw_seq_k fun K hK => wR 8 ?_; refine aX hTT 3 [] True.intro ?_; refine aops_nil (xt_n (hK _ ?_)); clear hK K
 refine w_cond (t := decide (b < a)) (by kernel_rfl) (fun c2 => ?_) (fun c2 => ?_)
 ·
  refine aw_seq_k fun K hK => ?_
  refine wR 9 ?_; refine aX hTT 1 [] True.intro ?_; refine aops_nil (xt_n (hK _ ?_)); clear hK K
  refine aw_ret ?_
  refine xt_r ?_
  refine ret_pure (v' := V.i 1) (.inr rfl) (by kernel_rfl) ?_ (by kernel_rfl)
  simp at c1 c2
  rw [if_neg (by omega), if_pos c2]
 refine aw_skip ?_
 refine xt_n (hK _ ?_); clear hK K; refine aw_seq_k fun K hK => wR 9 ?_; refine aX hTT 1 [] True.intro ?_; refine aops_nil (xt_n (hK _ ?_)); clear hK K
 refine aw_ret ?_
 refine ret_pure (v' := V.i 0) (.inr rfl) (by kernel_rfl) ?_ (by kernel_rfl)
 simp at c1 c2
 rw [if_neg (by omega), if_neg (by omega)]
set_option maxRecDepth 100000 in
theorem Or1_ac : AC Tryz.prog 146 [.sl 1 2 fun i => List.take 1 (List.drop (i * 1) [.i (-1), .i 1])] (.i (-1)) [] := by
 refine acI hTT hMX Tryz.func146 Tryz.ntmps146 fun C hC hF => ?_
 refine aw_seq_k fun K hK => wR 2 ?_; refine aX hTT 1 [] True.intro ?_; refine aops_nil (xt_n (hK _ ?_)); clear hK K; refine aw_seq_k fun K hK => wR 3 ?_; refine aX hTT 1 [] True.intro ?_; refine aops_nil (xt_n (hK _ ?_)); clear hK K; refine aw_seq_k fun K hK => ?_; refine aw_seq_k fun K hK => wR 4 ?_; refine aX hTT 3 [] True.intro ?_; refine aops_nil (xt_n (hK _ ?_)); clear hK K
 refine aw_block ?_
 refine aw_rounds 3 ?_
 refine awr_succ (m := 2) fun K hK => ?_
 refine aw_seq_k fun K hK => wR 5 ?_; refine aX hTT 1 [] True.intro ?_; refine aops_nil (xt_n (hK _ ?_)); clear hK K; refine aw_seq_k fun K hK => ?_; refine w_true (t := true) (by kernel_rfl) rfl ?_
 refine aw_skip ?_
 refine xt_n (hK _ ?_); clear hK K; refine aw_seq_k fun K hK => ?_
 refine aw_block ?_
 refine aw_seq_k fun K hK => wR 6 ?_; refine aX hTT 3 [(0, .c ((0 : Int) ≤ (0 : Int) ∧ (0 : Int) < (↑(2 : Nat) : Int)))] ⟨(by omega), True.intro⟩ ?_; refine aops_nil (xt_n (hK _ ?_)); clear hK K; refine aw_seq_k fun K hK => wR 7 ?_; refine aX hTT 3 [] True.intro ?_; refine aops_nil (xt_n (hK _ ?_)); clear hK K; refine w_true (t := true) (by kernel_rfl) rfl ?_; refine aw_seq_k fun K hK => wR 8 ?_; refine aX hTT 2 [] True.intro ?_; refine aops_nil (xt_n (hK _ ?_)); clear hK K
 refine aw_ret ?_
 refine xb_r ?_
 refine xt_r ?_; refine xt_r ?_
 refine xb_r ?_
 refine xt_r ?_
 refine rP (V.i (-1))
set_option maxRecDepth 100000 in
theorem Or2_ac : AC Tryz.prog 146 [.sl 1 2 fun i => List.take 1 (List.drop (i * 1) [.i 1, .i 1])] (.i 1) [] := by
 refine acI hTT hMX Tryz.func146 Tryz.ntmps146 fun C hC hF => ?_
 refine aw_seq_k fun K hK => wR 2 ?_; refine aX hTT 1 [] True.intro ?_; refine aops_nil (xt_n (hK _ ?_)); clear hK K; refine aw_seq_k fun K hK => wR 3 ?_; refine aX hTT 1 [] True.intro ?_; refine aops_nil (xt_n (hK _ ?_)); clear hK K; refine aw_seq_k fun K hK => ?_; refine aw_seq_k fun K hK => wR 4 ?_; refine aX hTT 3 [] True.intro ?_; refine aops_nil (xt_n (hK _ ?_)); clear hK K
 refine aw_block ?_
 refine aw_rounds 3 ?_
 refine awr_succ (m := 2) fun K hK => ?_
 refine aw_seq_k fun K hK => wR 5 ?_; refine aX hTT 1 [] True.intro ?_; refine aops_nil (xt_n (hK _ ?_)); clear hK K; refine aw_seq_k fun K hK => ?_; refine w_true (t := true) (by kernel_rfl) rfl ?_
 refine aw_skip ?_
 refine xt_n (hK _ ?_); clear hK K; refine aw_seq_k fun K hK => ?_
 refine aw_block ?_
 refine aw_seq_k fun K hK => wR 6 ?_; refine aX hTT 3 [(0, .c ((0 : Int) ≤ (0 : Int) ∧ (0 : Int) < (↑(2 : Nat) : Int)))] ⟨(by omega), True.intro⟩ ?_; refine aops_nil (xt_n (hK _ ?_)); clear hK K; refine aw_seq_k fun K hK => wR 7 ?_; refine aX hTT 3 [] True.intro ?_; refine aops_nil (xt_n (hK _ ?_)); clear hK K; refine w_true (t := true) (by kernel_rfl) rfl ?_; refine aw_seq_k fun K hK => wR 8 ?_; refine aX hTT 2 [] True.intro ?_; refine aops_nil (xt_n (hK _ ?_)); clear hK K
 refine aw_ret ?_
 refine xb_r ?_
 refine xt_r ?_; refine xt_r ?_
 refine xb_r ?_
 refine xt_r ?_
 refine rP (V.i 1)
def tr3 : List (Int × Int × Int) := [(95, 20, 500), (30, 40, 800), (41, 10, 0)]
set_option maxRecDepth 100000 in
theorem usual1_ac : AC Tryz.prog 131 [.ptr (fmtF ++ [trk tr3]), .i 1, .i 0] (.i (-1)) [] := by
 refine acI hTT hMX Tryz.func131 Tryz.ntmps131 fun C hC hF => ?_
 refine aw_seq_k fun K hK => wR 2 ?_; refine aX hTT 1 [] True.intro ?_; refine aops_nil (xt_n (hK _ ?_)); clear hK K; refine aw_seq_k fun K hK => wD 3 ?_; refine aX hTT 16 [(5, .c qT10), (13, .c qT11)] ⟨qT10_, qT11_, True.intro⟩ ?_
 refine eC (Compare64_ac 500 800) ?_
 refine aX hTT 2 [] True.intro ?_
 refine eC (CompareI_ac 1 0) ?_
 refine aX hTT 1 [] True.intro ?_
 refine eC (Or1_ac) ?_
 refine aX hTT 1 [] True.intro ?_; refine aops_nil ⟨by kernel_rfl, ?_⟩; refine xt_n (hK _ ?_); clear hK K
 refine aw_ret ?_
 refine rP (V.i (-1))
set_option maxRecDepth 100000 in
theorem usual2_ac : AC Tryz.prog 131 [.ptr (fmtF ++ [trk tr3]), .i 2, .i 0] (.i 1) [] := by
 refine acI hTT hMX Tryz.func131 Tryz.ntmps131 fun C hC hF => ?_
 refine aw_seq_k fun K hK => wR 2 ?_; refine aX hTT 1 [] True.intro ?_; refine aops_nil (xt_n (hK _ ?_)); clear hK K; refine aw_seq_k fun K hK => wD 3 ?_; refine aX hTT 16 [(5, .c qT10), (13, .c qT12)] ⟨qT10_, qT12_, True.intro⟩ ?_
 refine eC (Compare64_ac 500 0) ?_
 refine aX hTT 2 [] True.intro ?_
 refine eC (CompareI_ac 2 0) ?_
 refine aX hTT 1 [] True.intro ?_
 refine eC (Or2_ac) ?_
 refine aX hTT 1 [] True.intro ?_; refine aops_nil ⟨by kernel_rfl, ?_⟩; refine xt_n (hK _ ?_); clear hK K
 refine aw_ret ?_
 refine rP (V.i 1)
def usualV : V := .fn (.func 131) [.ptr (fmtF ++ [trk tr3])] []
set_option maxRecDepth 100000 in
theorem insSort_ac : AM Tryz.prog 169 [.own 500, .i 0, .i 3, usualV] [.row 3 1 3 fun i => [.i i]] (.tup []) [some (.row 3 1 3 fun i => [.i (gi [1, 0, 2] i)])] [] := by
 refine am_intro hTT hMX (fn := Tryz.f169) (N := _) ⟨Tryz.func169, rfl, Tryz.ntmps169, by kernel_rfl⟩ (by simp) rfl (by simp) (by simp) fun C hF => ?_
 refine aw_seq_k fun K hK => wR 2 ?_; refine aX hTT 3 [(1, .i ((0 : Int) + (1 : Int)))] ⟨(by omega), True.intro⟩ ?_; refine aops_nil (xt_n (hK _ ?_)); clear hK K
 refine aw_block ?_
 refine aw_rounds 4 ?_
 refine awr_succ (m := 3) fun K hK => ?_
 refine aw_seq_k fun K hK => ?_; refine aw_seq_k fun K hK => wR 3 ?_; refine aX hTT 3 [] True.intro ?_; refine aops_nil (xt_n (hK _ ?_)); clear hK K; refine w_true (t := true) (by kernel_rfl) rfl ?_
 refine aw_skip ?_
 refine xt_n (hK _ ?_); clear hK K; refine aw_seq_k fun K hK => ?_
 refine aw_block ?_
 refine aw_seq_k fun K hK => wR 4 ?_; refine aX hTT 2 [] True.intro ?_; refine aops_nil (xt_n (hK _ ?_)); clear hK K
 refine aw_block ?_
 refine aw_rounds 4 ?_
 refine awr_succ (m := 3) fun K hK => ?_
 refine aw_seq_k fun K hK => ?_; refine aw_seq_k fun K hK => wD 5 ?_
 refine aops_n hTT (M := []) (n := 14) [pv (18 : Nat) (V.i (1 : Int)), pv (19 : Nat) (V.i (0 : Int)), pv (20 : Nat) (V.b true), pv (21 : Nat) (V.b true), pc (22 : Nat) ((True ∧ True) ∧ ((true == true) = true → True)) (V.gd (true == true) (V.fn (Fn.func (131 : Nat)) [V.ptr [V.c (Value.string nF), V.i (1000 : Int), V.i (400 : Int), V.i (10 : Int), V.i (20 : Int), V.i (10 : Int), V.i (30 : Int), V.i (5 : Int), V.sl (3 : Nat) (3 : Nat) fun (i : Nat) => [V.i (Prod.fst (List.getD tr3 i ((0 : Int), (0 : Int), (0 : Int)))), V.i (Prod.fst (Prod.snd (List.getD tr3 i ((0 : Int), (0 : Int), (0 : Int))))), V.i (Prod.snd (Prod.snd (List.getD tr3 i ((0 : Int), (0 : Int), (0 : Int)))))]]] [])), pc (23 : Nat) ((True ∧ True) ∧ ((true == true) = true → True)) (V.gd (true == true) (V.own (500 : Nat))), pc (24 : Nat) ((True ∧ True) ∧ ((true == true) = true → True)) (V.gd (true == true) (V.i (1 : Int))), pc (25 : Nat) ((((true == true) = true → (true == true) = true) ∧ ((true == true) = true → (true == true) = true) ∧ True) ∧ ((true == true) = true → (0 : Int) ≤ (1 : Int) ∧ (1 : Int) < (↑(3 : Nat) : Int))) (V.gd (true == true) (V.oel (500 : Nat) (1 : Nat) (1 : Nat) (0 : Nat))), pc (26 : Nat) ((((true == true) = true → (true == true) = true) ∧ True) ∧ ((true == true) = true → (1 : Nat) < (3 : Nat) ∧ (0 : Nat) ≤ (1 : Nat))) (V.gd (true == true) (V.i (1 : Int))), pc (27 : Nat) ((True ∧ True) ∧ ((true == true) = true → True)) (V.gd (true == true) (V.own (500 : Nat))), pc (28 : Nat) ((True ∧ True) ∧ ((true == true) = true → True)) (V.gd (true == true) (V.i (1 : Int))), pc (29 : Nat) ((((true == true) = true → (true == true) = true) ∧ True ∧ True) ∧ ((true == true) = true → (-9223372036854775808 : Int) ≤ (1 : Int) - (1 : Int) ∧ (1 : Int) - (1 : Int) ≤ (9223372036854775807 : Int))) (V.gd (true == true) (V.i (0 : Int))), pc (30 : Nat) ((((true == true) = true → (true == true) = true) ∧ ((true == true) = true → (true == true) = true) ∧ True) ∧ ((true == true) = true → (0 : Int) ≤ (0 : Int) ∧ (0 : Int) < (↑(3 : Nat) : Int))) (V.gd (true == true) (V.oel (500 : Nat) (1 : Nat) (0 : Nat) (0 : Nat))), pc (31 : Nat) ((((true == true) = true → (true == true) = true) ∧ True) ∧ ((true == true) = true → (0 : Nat) < (3 : Nat) ∧ (0 : Nat) ≤ (1 : Nat))) (V.gd (true == true) (V.i (0 : Int)))] (by kernel_rfl) (by kernel_rfl) ⟨⟨⟨True.intro, True.intro⟩, (fun _ => True.intro)⟩, ⟨⟨True.intro, True.intro⟩, (fun _ => True.intro)⟩, ⟨⟨True.intro, True.intro⟩, (fun _ => True.intro)⟩, ⟨⟨(by (exact fun h => h)), ⟨(by (exact fun h => h)), True.intro⟩⟩, (by (intro _; simp; done))⟩, ⟨⟨(by (exact fun h => h)), True.intro⟩, (by (intro _; simp; done))⟩, ⟨⟨True.intro, True.intro⟩, (fun _ => True.intro)⟩, ⟨⟨True.intro, True.intro⟩, (fun _ => True.intro)⟩, ⟨⟨(by (exact fun h => h)), ⟨True.intro, True.intro⟩⟩, (by (intro _; simp; done))⟩, ⟨⟨(by (exact fun h => h)), ⟨(by (exact fun h => h)), True.intro⟩⟩, (by (intro _; simp; done))⟩, ⟨⟨(by (exact fun h => h)), True.intro⟩, (by (intro _; simp; done))⟩, True.intro⟩ ?_
 refine e_callG 3 (g := true == true) (first := [V.ptr [V.c (Value.string nF), V.i (1000 : Int), V.i (400 : Int), V.i (10 : Int), V.i (20 : Int), V.i (10 : Int), V.i (30 : Int), V.i (5 : Int), V.sl (3 : Nat) (3 : Nat) fun (i : Nat) => [V.i (Prod.fst (List.getD tr3 i ((0 : Int), (0 : Int), (0 : Int)))), V.i (Prod.fst (Prod.snd (List.getD tr3 i ((0 : Int), (0 : Int), (0 : Int))))), V.i (Prod.snd (Prod.snd (List.getD tr3 i ((0 : Int), (0 : Int), (0 : Int)))))]]]) (caps := []) (by kernel_rfl) (fun _ => usual1_ac) (by kernel_rfl) (by kernel_rfl) (by kernel_rfl) (by kernel_rfl) (by kernel_rfl) (by kernel_rfl) ?_
 refine aops_n hTT (M := []) (n := 2) [pc (33 : Nat) ((((true == true) = true → (true == true) = true) ∧ True ∧ True) ∧ ((true == true) = true → True)) (V.gd (true == true) (V.b true)), pc (34 : Nat) ((true = true → (true == true) = true) ∧ True) (V.b true)] (by kernel_rfl) (by kernel_rfl) ⟨⟨⟨(by (exact fun h => h)), ⟨True.intro, True.intro⟩⟩, (fun _ => True.intro)⟩, ⟨(by (exact fun h => h)), True.intro⟩, True.intro⟩ ?_
 refine aops_nil ⟨by kernel_rfl, ?_⟩; refine xt_n (hK _ ?_); clear hK K; refine w_true (t := true) (by kernel_rfl) rfl ?_
 refine aw_skip ?_
 refine xt_n (hK _ ?_); clear hK K; refine aw_seq_k fun K hK => ?_
 refine aw_block ?_
 refine wD 6 ?_
 refine aops_n hTT (M := []) (n := 18) [pv (37 : Nat) (V.own (500 : Nat)), pv (38 : Nat) (V.i (1 : Int)), pv (39 : Nat) (V.own (500 : Nat)), pv (40 : Nat) (V.i (1 : Int)), pc (41 : Nat) ((-9223372036854775808 : Int) ≤ (1 : Int) - (1 : Int) ∧ (1 : Int) - (1 : Int) ≤ (9223372036854775807 : Int)) (V.i (0 : Int)), pv (42 : Nat) (V.own (500 : Nat)), pv (43 : Nat) (V.i (1 : Int)), pc (44 : Nat) ((-9223372036854775808 : Int) ≤ (1 : Int) - (1 : Int) ∧ (1 : Int) - (1 : Int) ≤ (9223372036854775807 : Int)) (V.i (0 : Int)), pc (45 : Nat) ((0 : Int) ≤ (0 : Int) ∧ (0 : Int) < (↑(3 : Nat) : Int)) (V.oel (500 : Nat) (1 : Nat) (0 : Nat) (0 : Nat)), pc (46 : Nat) ((0 : Nat) < (3 : Nat) ∧ (0 : Nat) ≤ (1 : Nat)) (V.i (0 : Int)), pv (47 : Nat) (V.own (500 : Nat)), pv (48 : Nat) (V.i (1 : Int)), pc (49 : Nat) ((0 : Int) ≤ (1 : Int) ∧ (1 : Int) < (↑(3 : Nat) : Int)) (V.oel (500 : Nat) (1 : Nat) (1 : Nat) (0 : Nat)), pc (50 : Nat) ((1 : Nat) < (3 : Nat) ∧ (0 : Nat) ≤ (1 : Nat)) (V.i (1 : Int)), pc (51 : Nat) ((0 : Int) ≤ (1 : Int) ∧ (1 : Int) < (↑(3 : Nat) : Int)) (V.oel (500 : Nat) (1 : Nat) (1 : Nat) (0 : Nat)), pw ((1 : Nat) < (3 : Nat) ∧ (0 : Nat) + (1 : Nat) ≤ (1 : Nat)) (500 : Nat) (Ob.row (3 : Nat) (1 : Nat) (3 : Nat) fun (j : Nat) => if j = (1 : Nat) then [V.i (0 : Int)] else [V.i (↑j : Int)]), pc (52 : Nat) ((0 : Int) ≤ (0 : Int) ∧ (0 : Int) < (↑(3 : Nat) : Int)) (V.oel (500 : Nat) (1 : Nat) (0 : Nat) (0 : Nat)), pw ((0 : Nat) < (3 : Nat) ∧ (0 : Nat) + (1 : Nat) ≤ (1 : Nat)) (500 : Nat) (Ob.row (3 : Nat) (1 : Nat) (3 : Nat) fun (j : Nat) => if j = (0 : Nat) then [V.i (1 : Int)] else if j = (1 : Nat) then [V.i (0 : Int)] else [V.i (↑j : Int)])] (by kernel_rfl) (by kernel_rfl) ⟨(by omega), (by omega), (by omega), (by omega), (by omega), (by omega), (by omega), (by omega), (by omega), (by omega), True.intro⟩ ?_
 refine aops_nil ⟨by kernel_rfl, ?_⟩; refine xb_n ?_; refine xt_n (hK _ ?_); clear hK K; refine wR 7 ?_; refine aX hTT 3 [(1, .i ((1 : Int) - (1 : Int)))] ⟨(by omega), True.intro⟩ ?_; refine aops_nil (xt_n (hK _ ?_)); clear hK K
 refine awr_succ (m := 2) fun K hK => ?_
 refine aw_seq_k fun K hK => ?_; refine aw_seq_k fun K hK => wD 8 ?_
 refine aops_n hTT (M := []) (n := 14) [pv (18 : Nat) (V.i (0 : Int)), pv (19 : Nat) (V.i (0 : Int)), pv (20 : Nat) (V.b false), pv (21 : Nat) (V.b false), pc (22 : Nat) ((True ∧ True) ∧ ((false == true) = true → True)) (V.gd (false == true) (V.fn (Fn.func (131 : Nat)) [V.ptr [V.c (Value.string nF), V.i (1000 : Int), V.i (400 : Int), V.i (10 : Int), V.i (20 : Int), V.i (10 : Int), V.i (30 : Int), V.i (5 : Int), V.sl (3 : Nat) (3 : Nat) fun (i : Nat) => [V.i (Prod.fst (List.getD tr3 i ((0 : Int), (0 : Int), (0 : Int)))), V.i (Prod.fst (Prod.snd (List.getD tr3 i ((0 : Int), (0 : Int), (0 : Int))))), V.i (Prod.snd (Prod.snd (List.getD tr3 i ((0 : Int), (0 : Int), (0 : Int)))))]]] [])), pc (23 : Nat) ((True ∧ True) ∧ ((false == true) = true → True)) (V.gd (false == true) (V.own (500 : Nat))), pc (24 : Nat) ((True ∧ True) ∧ ((false == true) = true → True)) (V.gd (false == true) (V.i (0 : Int))), pc (25 : Nat) ((((false == true) = true → (false == true) = true) ∧ ((false == true) = true → (false == true) = true) ∧ True) ∧ ((false == true) = true → (0 : Int) ≤ (0 : Int) ∧ (0 : Int) < (↑(3 : Nat) : Int))) (V.gd (false == true) (V.oel (500 : Nat) (1 : Nat) (0 : Nat) (0 : Nat))), pc (26 : Nat) ((((false == true) = true → (false == true) = true) ∧ True) ∧ ((false == true) = true → (0 : Nat) < (3 : Nat) ∧ (0 : Nat) ≤ (1 : Nat))) (V.gd (false == true) (V.i (1 : Int))), pc (27 : Nat) ((True ∧ True) ∧ ((false == true) = true → True)) (V.gd (false == true) (V.own (500 : Nat))), pc (28 : Nat) ((True ∧ True) ∧ ((false == true) = true → True)) (V.gd (false == true) (V.i (0 : Int))), pc (29 : Nat) ((((false == true) = true → (false == true) = true) ∧ True ∧ True) ∧ ((false == true) = true → (-9223372036854775808 : Int) ≤ (0 : Int) - (1 : Int) ∧ (0 : Int) - (1 : Int) ≤ (9223372036854775807 : Int))) (V.gd (false == true) (V.i (-1 : Int))), pc (30 : Nat) ((((false == true) = true → (false == true) = true) ∧ ((false == true) = true → (false == true) = true) ∧ True) ∧ ((false == true) = true → (0 : Int) ≤ (-1 : Int) ∧ (-1 : Int) < (↑(3 : Nat) : Int))) (V.gd (false == true) (V.oel (500 : Nat) (1 : Nat) (Int.toNat (-1 : Int)) (0 : Nat))), pc (31 : Nat) ((((false == true) = true → (false == true) = true) ∧ True) ∧ ((false == true) = true → Int.toNat (-1 : Int) < (3 : Nat) ∧ (0 : Nat) ≤ (1 : Nat))) (V.gd (false == true) (V.i (1 : Int)))] (by kernel_rfl) (by kernel_rfl) ⟨⟨⟨True.intro, True.intro⟩, (fun _ => True.intro)⟩, ⟨⟨True.intro, True.intro⟩, (fun _ => True.intro)⟩, ⟨⟨True.intro, True.intro⟩, (fun _ => True.intro)⟩, ⟨⟨(by (exact fun h => h)), ⟨(by (exact fun h => h)), True.intro⟩⟩, (by (intro _; simp; done))⟩, ⟨⟨(by (exact fun h => h)), True.intro⟩, (by (intro _; simp; done))⟩, ⟨⟨True.intro, True.intro⟩, (fun _ => True.intro)⟩, ⟨⟨True.intro, True.intro⟩, (fun _ => True.intro)⟩, ⟨⟨(by (exact fun h => h)), ⟨True.intro, True.intro⟩⟩, (by (intro _; simp; done))⟩, ⟨⟨(by (exact fun h => h)), ⟨(by (exact fun h => h)), True.intro⟩⟩, (by (intro h; simp at h; done))⟩, ⟨⟨(by (exact fun h => h)), True.intro⟩, (by (intro _; simp; done))⟩, True.intro⟩ ?_
 refine aops_gfb (by kernel_rfl) rfl ?_
 refine aops_gfb (by kernel_rfl) rfl ?_
 refine aops_n hTT (M := []) (n := 1) [pc (34 : Nat) ((false = true → false = true) ∧ True) (V.b false)] (by kernel_rfl) (by kernel_rfl) ⟨⟨(by (exact fun h => h)), True.intro⟩, True.intro⟩ ?_
 refine aops_nil ⟨by kernel_rfl, ?_⟩; refine xt_n (hK _ ?_); clear hK K; refine w_false (t := false) (by kernel_rfl) rfl ?_
 refine aw_exit ?_
 refine xt_x ?_; refine xt_x ?_
 refine xb_same ?_
 refine xb_n ?_; refine xt_n ?_; clear hK K; clear hK K; refine hK _ ?_; clear hK K; refine wR 9 ?_; refine aX hTT 3 [(1, .i ((1 : Int) + (1 : Int)))] ⟨(by omega), True.intro⟩ ?_; refine aops_nil (xt_n (hK _ ?_)); clear hK K
 refine awr_succ (m := 2) fun K hK => ?_
 refine aw_seq_k fun K hK => ?_; refine aw_seq_k fun K hK => wR 10 ?_; refine aX hTT 3 [] True.intro ?_; refine aops_nil (xt_n (hK _ ?_)); clear hK K; refine w_true (t := true) (by kernel_rfl) rfl ?_
 refine aw_skip ?_
 refine xt_n (hK _ ?_); clear hK K; refine aw_seq_k fun K hK => ?_
 refine aw_block ?_
 refine aw_seq_k fun K hK => wR 11 ?_; refine aX hTT 2 [] True.intro ?_; refine aops_nil (xt_n (hK _ ?_)); clear hK K
 refine aw_block ?_
 refine aw_rounds 4 ?_
 refine awr_succ (m := 3) fun K hK => ?_
 refine aw_seq_k fun K hK => ?_; refine aw_seq_k fun K hK => wD 12 ?_
 refine aops_n hTT (M := []) (n := 14) [pv (18 : Nat) (V.i (2 : Int)), pv (19 : Nat) (V.i (0 : Int)), pv (20 : Nat) (V.b true), pv (21 : Nat) (V.b true), pc (22 : Nat) ((True ∧ True) ∧ ((true == true) = true → True)) (V.gd (true == true) (V.fn (Fn.func (131 : Nat)) [V.ptr [V.c (Value.string nF), V.i (1000 : Int), V.i (400 : Int), V.i (10 : Int), V.i (20 : Int), V.i (10 : Int), V.i (30 : Int), V.i (5 : Int), V.sl (3 : Nat) (3 : Nat) fun (i : Nat) => [V.i (Prod.fst (List.getD tr3 i ((0 : Int), (0 : Int), (0 : Int)))), V.i (Prod.fst (Prod.snd (List.getD tr3 i ((0 : Int), (0 : Int), (0 : Int))))), V.i (Prod.snd (Prod.snd (List.getD tr3 i ((0 : Int), (0 : Int), (0 : Int)))))]]] [])), pc (23 : Nat) ((True ∧ True) ∧ ((true == true) = true → True)) (V.gd (true == true) (V.own (500 : Nat))), pc (24 : Nat) ((True ∧ True) ∧ ((true == true) = true → True)) (V.gd (true == true) (V.i (2 : Int))), pc (25 : Nat) ((((true == true) = true → (true == true) = true) ∧ ((true == true) = true → (true == true) = true) ∧ True) ∧ ((true == true) = true → (0 : Int) ≤ (2 : Int) ∧ (2 : Int) < (↑(3 : Nat) : Int))) (V.gd (true == true) (V.oel (500 : Nat) (1 : Nat) (2 : Nat) (0 : Nat))), pc (26 : Nat) ((((true == true) = true → (true == true) = true) ∧ True) ∧ ((true == true) = true → (2 : Nat) < (3 : Nat) ∧ (0 : Nat) ≤ (1 : Nat))) (V.gd (true == true) (V.i (2 : Int))), pc (27 : Nat) ((True ∧ True) ∧ ((true == true) = true → True)) (V.gd (true == true) (V.own (500 : Nat))), pc (28 : Nat) ((True ∧ True) ∧ ((true == true) = true → True)) (V.gd (true == true) (V.i (2 : Int))), pc (29 : Nat) ((((true == true) = true → (true == true) = true) ∧ True ∧ True) ∧ ((true == true) = true → (-9223372036854775808 : Int) ≤ (2 : Int) - (1 : Int) ∧ (2 : Int) - (1 : Int) ≤ (9223372036854775807 : Int))) (V.gd (true == true) (V.i (1 : Int))), pc (30 : Nat) ((((true == true) = true → (true == true) = true) ∧ ((true == true) = true → (true == true) = true) ∧ True) ∧ ((true == true) = true → (0 : Int) ≤ (1 : Int) ∧ (1 : Int) < (↑(3 : Nat) : Int))) (V.gd (true == true) (V.oel (500 : Nat) (1 : Nat) (1 : Nat) (0 : Nat))), pc (31 : Nat) ((((true == true) = true → (true == true) = true) ∧ True) ∧ ((true == true) = true → (1 : Nat) < (3 : Nat) ∧ (0 : Nat) ≤ (1 : Nat))) (V.gd (true == true) (V.i (0 : Int)))] (by kernel_rfl) (by kernel_rfl) ⟨⟨⟨True.intro, True.intro⟩, (fun _ => True.intro)⟩, ⟨⟨True.intro, True.intro⟩, (fun _ => True.intro)⟩, ⟨⟨True.intro, True.intro⟩, (fun _ => True.intro)⟩, ⟨⟨(by (exact fun h => h)), ⟨(by (exact fun h => h)), True.intro⟩⟩, (by (intro _; simp; done))⟩, ⟨⟨(by (exact fun h => h)), True.intro⟩, (by (intro _; simp; done))⟩, ⟨⟨True.intro, True.intro⟩, (fun _ => True.intro)⟩, ⟨⟨True.intro, True.intro⟩, (fun _ => True.intro)⟩, ⟨⟨(by (exact fun h => h)), ⟨True.intro, True.intro⟩⟩, (by (intro _; simp; done))⟩, ⟨⟨(by (exact fun h => h)), ⟨(by (exact fun h => h)), True.intro⟩⟩, (by (intro _; simp; done))⟩, ⟨⟨(by (exact fun h => h)), True.intro⟩, (by (intro _; simp; done))⟩, True.intro⟩ ?_
 refine e_callG 3 (g := true == true) (first := [V.ptr [V.c (Value.string nF), V.i (1000 : Int), V.i (400 : Int), V.i (10 : Int), V.i (20 : Int), V.i (10 : Int), V.i (30 : Int), V.i (5 : Int), V.sl (3 : Nat) (3 : Nat) fun (i : Nat) => [V.i (Prod.fst (List.getD tr3 i ((0 : Int), (0 : Int), (0 : Int)))), V.i (Prod.fst (Prod.snd (List.getD tr3 i ((0 : Int), (0 : Int), (0 : Int))))), V.i (Prod.snd (Prod.snd (List.getD tr3 i ((0 : Int), (0 : Int), (0 : Int)))))]]]) (caps := []) (by kernel_rfl) (fun _ => usual2_ac) (by kernel_rfl) (by kernel_rfl) (by kernel_rfl) (by kernel_rfl) (by kernel_rfl) (by kernel_rfl) ?_
 refine aops_n hTT (M := []) (n := 2) [pc (33 : Nat) ((((true == true) = true → (true == true) = true) ∧ True ∧ True) ∧ ((true == true) = true → True)) (V.gd (true == true) (V.b false)), pc (34 : Nat) ((true = true → (true == true) = true) ∧ True) (V.b false)] (by kernel_rfl) (by kernel_rfl) ⟨⟨⟨(by (exact fun h => h)), ⟨True.intro, True.intro⟩⟩, (fun _ => True.intro)⟩, ⟨(by (exact fun h => h)), True.intro⟩, True.intro⟩ ?_
 refine aops_nil ⟨by kernel_rfl, ?_⟩; refine xt_n (hK _ ?_); clear hK K; refine w_false (t := false) (by kernel_rfl) rfl ?_
 refine aw_exit ?_
 refine xt_x ?_; refine xt_x ?_
 refine xb_same ?_
 refine xb_n ?_; refine xt_n ?_; clear hK K; clear hK K; refine hK _ ?_; clear hK K; refine wR 13 ?_; refine aX hTT 3 [(1, .i ((2 : Int) + (1 : Int)))] ⟨(by omega), True.intro⟩ ?_; refine aops_nil (xt_n (hK _ ?_)); clear hK K
 refine awr_succ (m := 1) fun K hK => ?_
 refine aw_seq_k fun K hK => ?_; refine aw_seq_k fun K hK => wR 14 ?_; refine aX hTT 3 [] True.intro ?_; refine aops_nil (xt_n (hK _ ?_)); clear hK K; refine w_false (t := false) (by kernel_rfl) rfl ?_
 refine aw_exit ?_
 refine xt_x ?_; refine xt_x ?_
 refine xb_same ?_
 refine retM (v' := V.tup []) [] [] (.inl rfl) .nil (.cons ⟨Ob.row (3 : Nat) (1 : Nat) (3 : Nat) fun (j : Nat) => if j = (0 : Nat) then [V.i (1 : Int)] else if j = (1 : Nat) then [V.i (0 : Int)] else [V.i (↑j : Int)], (by kernel_rfl), .row (by kernel_rfl) ?_⟩ .nil) (by kernel_rfl) (by kernel_rfl) (by kernel_rfl) (by kernel_rfl) (by kernel_rfl) (by kernel_rfl) (by kernel_rfl)
 intro i hi
 rcases (by omega : i = 0 ∨ i = 1 ∨ i = 2) with rfl | rfl | rfl <;> rfl
set_option maxRecDepth 100000 in
theorem pdq_ac : AM Tryz.prog 144 [.own 500, .i 0, .i 3, .i 2, usualV] [.row 3 1 3 fun i => [.i i]] (.tup []) [some (.row 3 1 3 fun i => [.i (gi [1, 0, 2] i)])] [] := by
 refine am_intro hTT hMX (fn := Tryz.f144) (N := _) ⟨Tryz.func144, rfl, Tryz.ntmps144, by kernel_rfl⟩ (by simp) rfl (by simp) (by simp) fun C hF => ?_
 refine aw_seq_k fun K hK => wR 2 ?_; refine aX hTT 1 [] True.intro ?_; refine aops_nil (xt_n (hK _ ?_)); clear hK K; refine aw_seq_k fun K hK => wR 3 ?_; refine aX hTT 1 [] True.intro ?_; refine aops_nil (xt_n (hK _ ?_)); clear hK K
 refine aw_block ?_
 refine aw_rounds 4 ?_
 refine awr_succ (m := 3) fun K hK => ?_
 refine aw_block ?_
 refine aw_seq_k fun K hK => wR 4 ?_; refine aX hTT 4 [(2, .i ((3 : Int) - (0 : Int)))] ⟨(by omega), True.intro⟩ ?_; refine aops_nil (xt_n (hK _ ?_)); clear hK K; refine aw_seq_k fun K hK => ?_; refine aw_seq_k fun K hK => wR 5 ?_; refine aX hTT 2 [] True.intro ?_; refine aops_nil (xt_n (hK _ ?_)); clear hK K; refine w_true (t := true) (by kernel_rfl) rfl ?_; refine aw_seq_k fun K hK => wR 6 ?_; refine aX hTT 4 [] True.intro ?_
 refine aops_callM [500] (first := []) (caps := []) (ins' := [Ob.row 3 1 3 fun (i : Nat) => [V.i (↑i : Int)]]) (v' := V.tup []) (δ := [(500, Option.some (Ob.row 3 1 3 fun (i : Nat) => V.renL (nameG (5 : Nat) (some 30) [(500 : Nat)]) [V.i (gi [(1 : Int), (0 : Int), (2 : Int)] i)]))]) (kp := [500]) (insSort_ac) (by kernel_rfl) (by kernel_rfl) (by kernel_rfl) (by kernel_rfl) (by kernel_rfl) (by kernel_rfl) rfl rfl (by kernel_rfl) (.row (by kernel_rfl) (fun _ _ => rfl) (fun _ _ => rfl) .nil) (by kernel_rfl) (by kernel_rfl) (by kernel_rfl) ?_
 refine aops_nil (xt_n (hK _ ?_)); clear hK K
 refine aw_ret ?_
 refine xt_r ?_
 refine xb_r ?_
 refine xt_r ?_
 refine xb_r ?_
 refine retM (v' := V.tup []) [] [] (.inr rfl) .nil (.cons ⟨Ob.row 3 1 3 fun (i : Nat) => V.renL (nameG (5 : Nat) (some (30 : Tmp)) [(500 : Nat)]) [V.i (gi [(1 : Int), (0 : Int), (2 : Int)] i)], (by kernel_rfl), .row (by kernel_rfl) (fun _ _ => rfl)⟩ .nil) (by kernel_rfl) (by kernel_rfl) (by kernel_rfl) (by kernel_rfl) (by kernel_rfl) (by kernel_rfl) (by kernel_rfl)
set_option maxRecDepth 100000 in
theorem bLen64_ac : AC Tryz.prog 178 [.c (.int .u64 3)] (.i 2) [] := by
 refine acI hTT hMX Tryz.func178 Tryz.ntmps178 fun C hC hF => ?_
 refine aw_seq_k fun K hK => wR 2 ?_; refine aX hTT 1 [] True.intro ?_; refine aops_nil (xt_n (hK _ ?_)); clear hK K; refine aw_seq_k fun K hK => ?_; refine aw_seq_k fun K hK => wR 3 ?_; refine aX hTT 2 [] True.intro ?_; refine aops_nil (xt_n (hK _ ?_)); clear hK K; refine w_false (t := false) (by kernel_rfl) rfl ?_
 refine aw_skip ?_
 refine xt_n (hK _ ?_); clear hK K; refine aw_seq_k fun K hK => ?_; refine aw_seq_k fun K hK => wR 4 ?_; refine aX hTT 2 [] True.intro ?_; refine aops_nil (xt_n (hK _ ?_)); clear hK K; refine w_false (t := false) (by kernel_rfl) rfl ?_
 refine aw_skip ?_
 refine xt_n (hK _ ?_); clear hK K; refine aw_seq_k fun K hK => ?_; refine aw_seq_k fun K hK => wR 5 ?_; refine aX hTT 2 [] True.intro ?_; refine aops_nil (xt_n (hK _ ?_)); clear hK K; refine w_false (t := false) (by kernel_rfl) rfl ?_
 refine aw_skip ?_
 refine xt_n (hK _ ?_); clear hK K; refine aw_seq_k fun K hK => wR 6 ?_; refine aX hTT 7 [(2, .c ((0 : Int) ≤ (3 : Int) ∧ (3 : Int) ≤ (255 : Int))), (3, .c ((0 : Int) ≤ (3 : Int) ∧ (3 : Int) < (↑(ByteArray.size (ByteArray.mk (List.toArray (List.append (List.append [(0 : UInt8), (1 : UInt8), (2 : UInt8), (2 : UInt8), (3 : UInt8), (3 : UInt8), (3 : UInt8), (3 : UInt8), (4 : UInt8), (4 : UInt8), (4 : UInt8), (4 : UInt8), (4 : UInt8), (4 : UInt8), (4 : UInt8), (4 : UInt8), (5 : UInt8), (5 : UInt8), (5 : UInt8), (5 : UInt8), (5 : UInt8), (5 : UInt8), (5 : UInt8), (5 : UInt8), (5 : UInt8), (5 : UInt8), (5 : UInt8), (5 : UInt8), (5 : UInt8), (5 : UInt8), (5 : UInt8), (5 : UInt8), (6 : UInt8), (6 : UInt8), (6 : UInt8), (6 : UInt8), (6 : UInt8), (6 : UInt8), (6 : UInt8), (6 : UInt8), (6 : UInt8), (6 : UInt8), (6 : UInt8), (6 : UInt8), (6 : UInt8), (6 : UInt8), (6 : UInt8), (6 : UInt8), (6 : UInt8), (6 : UInt8), (6 : UInt8), (6 : UInt8), (6 : UInt8), (6 : UInt8), (6 : UInt8), (6 : UInt8), (6 : UInt8), (6 : UInt8), (6 : UInt8), (6 : UInt8), (6 : UInt8), (6 : UInt8), (6 : UInt8), (6 : UInt8)] [(7 : UInt8), (7 : UInt8), (7 : UInt8), (7 : UInt8), (7 : UInt8), (7 : UInt8), (7 : UInt8), (7 : UInt8), (7 : UInt8), (7 : UInt8), (7 : UInt8), (7 : UInt8), (7 : UInt8), (7 : UInt8), (7 : UInt8), (7 : UInt8), (7 : UInt8), (7 : UInt8), (7 : UInt8), (7 : UInt8), (7 : UInt8), (7 : UInt8), (7 : UInt8), (7 : UInt8), (7 : UInt8), (7 : UInt8), (7 : UInt8), (7 : UInt8), (7 : UInt8), (7 : UInt8), (7 : UInt8), (7 : UInt8), (7 : UInt8), (7 : UInt8), (7 : UInt8), (7 : UInt8), (7 : UInt8), (7 : UInt8), (7 : UInt8), (7 : UInt8), (7 : UInt8), (7 : UInt8), (7 : UInt8), (7 : UInt8), (7 : UInt8), (7 : UInt8), (7 : UInt8), (7 : UInt8), (7 : UInt8), (7 : UInt8), (7 : UInt8), (7 : UInt8), (7 : UInt8), (7 : UInt8), (7 : UInt8), (7 : UInt8), (7 : UInt8), (7 : UInt8), (7 : UInt8), (7 : UInt8), (7 : UInt8), (7 : UInt8), (7 : UInt8), (7 : UInt8)]) (List.append [(8 : UInt8), (8 : UInt8), (8 : UInt8), (8 : UInt8), (8 : UInt8), (8 : UInt8), (8 : UInt8), (8 : UInt8), (8 : UInt8), (8 : UInt8), (8 : UInt8), (8 : UInt8), (8 : UInt8), (8 : UInt8), (8 : UInt8), (8 : UInt8), (8 : UInt8), (8 : UInt8), (8 : UInt8), (8 : UInt8), (8 : UInt8), (8 : UInt8), (8 : UInt8), (8 : UInt8), (8 : UInt8), (8 : UInt8), (8 : UInt8), (8 : UInt8), (8 : UInt8), (8 : UInt8), (8 : UInt8), (8 : UInt8), (8 : UInt8), (8 : UInt8), (8 : UInt8), (8 : UInt8), (8 : UInt8), (8 : UInt8), (8 : UInt8), (8 : UInt8), (8 : UInt8), (8 : UInt8), (8 : UInt8), (8 : UInt8), (8 : UInt8), (8 : UInt8), (8 : UInt8), (8 : UInt8), (8 : UInt8), (8 : UInt8), (8 : UInt8), (8 : UInt8), (8 : UInt8), (8 : UInt8), (8 : UInt8), (8 : UInt8), (8 : UInt8), (8 : UInt8), (8 : UInt8), (8 : UInt8), (8 : UInt8), (8 : UInt8), (8 : UInt8), (8 : UInt8)] [(8 : UInt8), (8 : UInt8), (8 : UInt8), (8 : UInt8), (8 : UInt8), (8 : UInt8), (8 : UInt8), (8 : UInt8), (8 : UInt8), (8 : UInt8), (8 : UInt8), (8 : UInt8), (8 : UInt8), (8 : UInt8), (8 : UInt8), (8 : UInt8), (8 : UInt8), (8 : UInt8), (8 : UInt8), (8 : UInt8), (8 : UInt8), (8 : UInt8), (8 : UInt8), (8 : UInt8), (8 : UInt8), (8 : UInt8), (8 : UInt8), (8 : UInt8), (8 : UInt8), (8 : UInt8), (8 : UInt8), (8 : UInt8), (8 : UInt8), (8 : UInt8), (8 : UInt8), (8 : UInt8), (8 : UInt8), (8 : UInt8), (8 : UInt8), (8 : UInt8), (8 : UInt8), (8 : UInt8), (8 : UInt8), (8 : UInt8), (8 : UInt8), (8 : UInt8), (8 : UInt8), (8 : UInt8), (8 : UInt8), (8 : UInt8), (8 : UInt8), (8 : UInt8), (8 : UInt8), (8 : UInt8), (8 : UInt8), (8 : UInt8), (8 : UInt8), (8 : UInt8), (8 : UInt8), (8 : UInt8), (8 : UInt8), (8 : UInt8), (8 : UInt8), (8 : UInt8)]))))) : Int))), (4, .i ((2 : Int))), (5, .i ((0 : Int) + (2 : Int)))] ⟨(by omega), ⟨(by omega), (by decide +kernel)⟩, (by omega), (by omega), True.intro⟩ ?_; refine aops_nil (xt_n (hK _ ?_)); clear hK K
 refine aw_ret ?_
 refine rP (V.i 2)
set_option maxRecDepth 100000 in
theorem bLen_ac : AC Tryz.prog 145 [.c (.int .u64 3)] (.i 2) [] := by
 refine acI hTT hMX Tryz.func145 Tryz.ntmps145 fun C hC hF => ?_
 refine aw_seq_k fun K hK => wR 2 ?_; refine aX hTT 1 [] True.intro ?_; refine aops_nil (xt_n (hK _ ?_)); clear hK K; refine aw_seq_k fun K hK => ?_; refine w_false (t := false) (by kernel_rfl) rfl ?_
 refine aw_skip ?_
 refine xt_n (hK _ ?_); clear hK K; refine aw_seq_k fun K hK => wR 3 ?_; refine aX hTT 1 [] True.intro ?_
 refine eC (bLen64_ac) ?_
 refine aX hTT 1 [] True.intro ?_; refine aops_nil (xt_n (hK _ ?_)); clear hK K
 refine aw_ret ?_
 refine rP (V.i 2)
set_option maxRecDepth 100000 in
theorem SortFunc_ac : AM Tryz.prog 130 [.own 500, usualV] [.row 3 1 3 fun i => [.i i]] (.tup []) [some (.row 3 1 3 fun i => [.i (gi [1, 0, 2] i)])] [] := by
 refine am_intro hTT hMX (fn := Tryz.f130) (N := _) ⟨Tryz.func130, rfl, Tryz.ntmps130, by kernel_rfl⟩ (by simp) rfl (by simp) (by simp) fun C hF => ?_
 refine aw_seq_k fun K hK => wR 2 ?_; refine aX hTT 3 [] True.intro ?_; refine aops_nil (xt_n (hK _ ?_)); clear hK K; refine wR 3 ?_; refine aX hTT 4 [(3, .c ((0 : Int) ≤ (3 : Int) ∧ (3 : Int) ≤ (18446744073709551615 : Int)))] ⟨(by omega), True.intro⟩ ?_
 refine eC (bLen_ac) ?_
 refine aX hTT 1 [] True.intro ?_
 refine aops_callM [500] (first := []) (caps := []) (ins' := [Ob.row 3 1 3 fun (i : Nat) => [V.i (↑i : Int)]]) (v' := V.tup []) (δ := [(500, Option.some (Ob.row 3 1 3 fun (i : Nat) => V.renL (nameG (2 : Nat) (some 13) [(500 : Nat)]) [V.i (gi [(1 : Int), (0 : Int), (2 : Int)] i)]))]) (kp := [500]) (pdq_ac) (by kernel_rfl) (by kernel_rfl) (by kernel_rfl) (by kernel_rfl) (by kernel_rfl) (by kernel_rfl) rfl rfl (by kernel_rfl) (.row (by kernel_rfl) (fun _ _ => rfl) (fun _ _ => rfl) .nil) (by kernel_rfl) (by kernel_rfl) (by kernel_rfl) ?_
 refine aops_nil ?_
 refine retM (v' := V.tup []) [] [] (.inl rfl) .nil (.cons ⟨Ob.row 3 1 3 fun (i : Nat) => V.renL (nameG (2 : Nat) (some (13 : Tmp)) [(500 : Nat)]) [V.i (gi [(1 : Int), (0 : Int), (2 : Int)] i)], (by kernel_rfl), .row (by kernel_rfl) (fun _ _ => rfl)⟩ .nil) (by kernel_rfl) (by kernel_rfl) (by kernel_rfl) (by kernel_rfl) (by kernel_rfl) (by kernel_rfl) (by kernel_rfl)
def sp3 : V := .sl 1 3 fun i => [.i i]
def sp3R : Ob := .row 3 1 3 fun i => [.i i]
abbrev yyT12 : Ob := Ob.row 3 1 3 (appRow (0 : Nat) (fun (i : Nat) => List.take (1 : Nat) (List.drop (i * (1 : Nat)) (repV (0 : Nat) [V.c (Value.int IntKind.i64 0)]))) fun (i : Nat) => [V.i (↑i : Int)])
set_option maxRecDepth 100000 in
theorem sClone_ac : AC Tryz.prog 129 [sp3] (.own 0) [.row 3 1 3 fun i => [.i i]] := by
 refine acI hTT hMX Tryz.func129 Tryz.ntmps129 fun C hC hF => ?_
 refine aw_seq_k fun K hK => wR 2 ?_
 refine aops_x (M := [5]) hTT 1 [] True.intro ?_
 refine aops_nil (xt_n (hK _ ?_)); clear hK K; refine aw_seq_k fun K hK => ?_; refine aw_seq_k fun K hK => wR 3 ?_
 refine aops_x (M := [5]) hTT 2 [(1, .c ((0 : Nat) < (3 : Nat)))] ⟨(by omega), True.intro⟩ ?_
 refine aops_nil (xt_n (hK _ ?_)); clear hK K; refine w_false (t := false) (by kernel_rfl) rfl ?_
 refine aw_skip ?_
 refine xt_n (hK _ ?_); clear hK K; refine aw_seq_k fun K hK => wR 4 ?_
 refine aops_x (M := [5]) hTT 4 [(0, .r (pn 5 (V.own 300005) (300005 : Nat) (Ob.row 3 1 0 fun (i : Nat) => List.take (1 : Nat) (List.drop (i * (1 : Nat)) (repV (0 : Nat) [V.c (Value.int IntKind.i64 0)]))))), (2, .r (PR.mk (some (7 : Nat)) (some ((0 : Nat) + (3 : Nat) ≤ (1099511627776 : Nat))) (V.own 300007) [((300005 : Nat), none), ((300007 : Nat), some (yyT12))] false))] ⟨(by omega), True.intro⟩ ?_
 refine aops_nil (xt_n (hK _ ?_)); clear hK K
 refine aw_ret ?_
 refine ret_own [(0, 300007)] [(2, V.own 0)] (.inr rfl) (.cons (by kernel_rfl) .nil) (.cons ⟨yyT12, (by kernel_rfl), .row (by kernel_rfl) (fun _ _ => rfl)⟩ .nil) (by kernel_rfl) (by kernel_rfl) (by kernel_rfl) (by kernel_rfl)
theorem sCloneR : AM Tryz.prog 129 [.own 500] [sp3R] (.own 0) [none] [sp3R] :=
 sClone_ac.row 3 (sz := 1) (n := 3) (row := fun i => [.i i]) rfl rfl (by decide) rfl (fun _ _ => rfl) (fun _ => rfl)
def so3 : V := .sl 1 3 fun i => [.i (gi [1, 0, 2] i)]
set_option maxRecDepth 100000 in
theorem order_ac : AM Tryz.prog 113 [.ptr (fmtF ++ [trk tr3]), .own 500] [sp3R] (.own 0) [none] [.row 3 1 3 fun i => [.i (gi [1, 0, 2] i)]] := by
 refine am_intro hTT hMX (fn := Tryz.f113) (N := _) ⟨Tryz.func113, rfl, Tryz.ntmps113, by kernel_rfl⟩ (by simp) rfl (by simp) (by simp) fun C hF => ?_
 refine aw_seq_k fun K hK => wR 2 ?_; refine aX hTT 1 [] True.intro ?_; refine aops_nil (xt_n (hK _ ?_)); clear hK K; refine aw_seq_k fun K hK => wR 3 ?_; refine aX hTT 1 [] True.intro ?_
 refine aops_callM [500] (first := []) (caps := []) (ins' := [Ob.row 3 1 3 fun (i : Nat) => [V.i (↑i : Int)]]) (v' := V.own 200006) (δ := [(500, Option.none), (200006, Option.some (Ob.row 3 1 3 fun (i : Nat) => V.renL (nameG (2 : Nat) (some 6) [(500 : Nat)]) [V.i (↑i : Int)]))]) (kp := [500]) (sCloneR) (by kernel_rfl) (by kernel_rfl) (by kernel_rfl) (by kernel_rfl) (by kernel_rfl) (by kernel_rfl) rfl rfl (by kernel_rfl) (.row (by kernel_rfl) (fun _ _ => rfl) (fun _ _ => rfl) .nil) (by kernel_rfl) (by kernel_rfl) (by kernel_rfl) ?_
 refine aX hTT 1 [] True.intro ?_; refine aops_nil (xt_n (hK _ ?_)); clear hK K; refine aw_seq_k fun K hK => wR 4 ?_; refine aX hTT 3 [] True.intro ?_
 refine aops_callM [200006] (first := []) (caps := []) (ins' := [Ob.row 3 1 3 fun (i : Nat) => V.renL (nameG (2 : Nat) (some (6 : Tmp)) [(500 : Nat)]) [V.i (↑i : Int)]]) (v' := V.tup []) (δ := [(200006, Option.some (Ob.row 3 1 3 fun (i : Nat) => V.renL (nameG (3 : Nat) (some 10) [(200006 : Nat)]) [V.i (gi [(1 : Int), (0 : Int), (2 : Int)] i)]))]) (kp := [200006]) (SortFunc_ac) (by kernel_rfl) (by kernel_rfl) (by kernel_rfl) (by kernel_rfl) (by kernel_rfl) (by kernel_rfl) rfl rfl (by kernel_rfl) (.row (by kernel_rfl) (fun _ _ => rfl) (fun _ _ => rfl) .nil) (by kernel_rfl) (by kernel_rfl) (by kernel_rfl) ?_
 refine aops_nil (xt_n (hK _ ?_)); clear hK K; refine aw_seq_k fun K hK => wR 5 ?_; refine aX hTT 2 [] True.intro ?_; refine aops_nil (xt_n (hK _ ?_)); clear hK K
 refine aw_ret ?_
 refine retM (v' := V.own 0) [(0, 200006)] [(4, V.own 0)] (.inr rfl) (.cons (by kernel_rfl) .nil) (.cons ⟨Ob.row 3 1 3 fun (i : Nat) => V.renL (nameG (3 : Nat) (some (10 : Tmp)) [(200006 : Nat)]) [V.i (gi [(1 : Int), (0 : Int), (2 : Int)] i)], (by kernel_rfl), .row (by kernel_rfl) (fun _ _ => rfl)⟩ .nil) (by kernel_rfl) (by kernel_rfl) (by kernel_rfl) (by kernel_rfl) (by kernel_rfl) (by kernel_rfl) (by kernel_rfl)
set_option maxRecDepth 100000 in
theorem sd_all_ac : AC Tryz.prog 92 [.ptr (fmtF ++ [trk tr3])] (.own 0) [.row 3 1 3 fun i => [.i (gi [1, 0, 2] i)]] := by
 refine acI hTT hMX Tryz.func92 Tryz.ntmps92 fun C hC hF => ?_
 refine aw_seq_k fun K hK => wR 2 ?_; refine aX hTT 1 [] True.intro ?_; refine aops_nil (xt_n (hK _ ?_)); clear hK K; refine aw_seq_k fun K hK => wR 3 ?_; refine aX hTT 6 [] True.intro ?_
 refine e_callO (first := []) (caps := []) (k := 200009) (v' := V.own 200009) (ob' := Ob.row 3 1 3 fun (i : Nat) => V.renL (callG (2 : Nat) (some 9)) [V.i (↑i : Int)]) (span3_ac) (by kernel_rfl) (by kernel_rfl) (by kernel_rfl) (by kernel_rfl) (by kernel_rfl) (by kernel_rfl) (by kernel_rfl) ?_
 skip
 refine aops_callM [200009] (first := []) (caps := []) (ins' := [Ob.row 3 1 3 fun (i : Nat) => V.renL (callG (2 : Nat) (some (9 : Tmp))) [V.i (↑i : Int)]]) (v' := V.own 200010) (δ := [(200009, Option.none), (200010, Option.some (Ob.row 3 1 3 fun (i : Nat) => V.renL (nameG (2 : Nat) (some 10) [(200009 : Nat)]) [V.i (gi [(1 : Int), (0 : Int), (2 : Int)] i)]))]) (kp := [200009]) (order_ac) (by kernel_rfl) (by kernel_rfl) (by kernel_rfl) (by kernel_rfl) (by kernel_rfl) (by kernel_rfl) rfl rfl (by kernel_rfl) (.row (by kernel_rfl) (fun _ _ => rfl) (fun _ _ => rfl) .nil) (by kernel_rfl) (by kernel_rfl) (by kernel_rfl) ?_
 refine aX hTT 1 [] True.intro ?_; refine aops_nil (xt_n (hK _ ?_)); clear hK K
 refine aw_ret ?_
 refine ret_own [(0, 200010)] [(2, V.own 0)] (.inr rfl) (.cons (by kernel_rfl) .nil) (.cons ⟨Ob.row 3 1 3 fun (i : Nat) => V.renL (nameG (2 : Nat) (some (10 : Tmp)) [(200009 : Nat)]) [V.i (gi [(1 : Int), (0 : Int), (2 : Int)] i)], (by kernel_rfl), .row (by kernel_rfl) (fun _ _ => rfl)⟩ .nil) (by kernel_rfl) (by kernel_rfl) (by kernel_rfl) (by kernel_rfl)
def bandR : Nat → List V := fun j => [.i (gi [1, 0, 2] j), .i (gi [980, 850, 640] j), .i (gi [860, 650, 590] j)]
abbrev yyT15 : List V := [V.i (gi [(1 : Int), (0 : Int), (2 : Int)] (0 : Nat)), V.i 980, V.i 860]
abbrev yyT14 := (appRow (1 : Nat) (fun (i : Nat) => List.take (3 : Nat) (List.drop (i * (3 : Nat)) yyT15)) fun (i : Nat) => List.take (3 : Nat) (List.drop (i * (3 : Nat)) [V.i (gi [(1 : Int), (0 : Int), (2 : Int)] (1 : Nat)), V.i 850, V.i 650]))
abbrev yyT13 : Ob := Ob.row 207 3 3 (appRow (2 : Nat) yyT14 fun (i : Nat) => List.take (3 : Nat) (List.drop (i * (3 : Nat)) [V.i (gi [(1 : Int), (0 : Int), (2 : Int)] (2 : Nat)), V.i 640, V.i 590]))
set_option maxRecDepth 100000 in
theorem lay_ac : AC Tryz.prog 115 [.ptr (fmtF ++ [trk tr3]), so3] (.tup [.own 0, .i 3, .i 0]) [.row 207 3 3 bandR] := by
 refine acI hTT hMX Tryz.func115 Tryz.ntmps115 fun C hC hF => ?_
 refine aw_seq_k fun K hK => wR 2 ?_; refine aX hTT 3 [] True.intro ?_; refine aops_nil (xt_n (hK _ ?_)); clear hK K; refine aw_seq_k fun K hK => wR 3 ?_; refine aX hTT 1 [] True.intro ?_; refine aops_nil (xt_n (hK _ ?_)); clear hK K; refine aw_seq_k fun K hK => wD 4 ?_; refine aX hTT 12 [(10, .i ((1000 : Int) - (20 : Int)))] ⟨(by omega), True.intro⟩ ?_; refine aops_nil ⟨by kernel_rfl, ?_⟩; refine xt_n (hK _ ?_); clear hK K; refine aw_seq_k fun K hK => ?_; refine aw_seq_k fun K hK => wR 5 ?_; refine aX hTT 3 [] True.intro ?_; refine aops_nil (xt_n (hK _ ?_)); clear hK K
 refine aw_block ?_
 refine aw_rounds 4 ?_
 refine awr_succ (m := 3) fun K hK => ?_
 refine aw_seq_k fun K hK => wR 6 ?_; refine aX hTT 1 [] True.intro ?_; refine aops_nil (xt_n (hK _ ?_)); clear hK K; refine aw_seq_k fun K hK => ?_; refine w_true (t := true) (by kernel_rfl) rfl ?_
 refine aw_skip ?_
 refine xt_n (hK _ ?_); clear hK K; refine aw_seq_k fun K hK => ?_
 refine aw_block ?_
 refine aw_seq_k fun K hK => wR 7 ?_; refine aX hTT 5 [(1, .c qT10)] ⟨qT10_, True.intro⟩ ?_; refine aops_nil (xt_n (hK _ ?_)); clear hK K; refine aw_seq_k fun K hK => ?_; refine aw_seq_k fun K hK => wR 8 ?_; refine aX hTT 2 [] True.intro ?_; refine aops_nil (xt_n (hK _ ?_)); clear hK K; refine w_false (t := false) (by kernel_rfl) rfl ?_
 refine aw_skip ?_
 refine xt_n (hK _ ?_); clear hK K; refine aw_seq_k fun K hK => wR 9 ?_; refine aX hTT 11 [(9, .c qT14)] ⟨qT14_, True.intro⟩ ?_
 refine eC (sdWidth_ac tr3 30 40 800 (by decide) (by decide)) ?_
 refine aX hTT 4 [(0, .i ((980 : Int) - (40 : Int) * Int.tdiv ((30 : Int) + (10 : Int) - (1 : Int)) (10 : Int))), (2, .r (pn 11 (V.ref 800011 0) (800011 : Nat) (Ob.box 207 [V.i 0, V.i 0, V.i 0]))), (3, .r (pw ((0 : Nat) + (3 : Nat) ≤ (3 : Nat)) (800011 : Nat) (Ob.box 207 yyT15)))] ⟨⟨(by decide +kernel), (by decide +kernel)⟩, (by omega), True.intro⟩ ?_; refine aops_nil (xt_n (hK _ ?_)); clear hK K; refine aw_seq_k fun K hK => ?_; refine aw_seq_k fun K hK => wR 10 ?_; refine aX hTT 3 [(1, .c ((2 : Nat) ≤ (3 : Nat)))] ⟨(by omega), True.intro⟩ ?_; refine aops_nil (xt_n (hK _ ?_)); clear hK K; refine aw_seq_k fun K hK => wR 11 ?_; refine aX hTT 10 [(6, .c qT14)] ⟨qT14_, True.intro⟩ ?_; refine aops_nil (xt_n (hK _ ?_)); clear hK K; refine w_false (t := false) (by kernel_rfl) rfl ?_
 refine aw_skip ?_
 refine xt_n (hK _ ?_); clear hK K; refine wR 12 ?_; refine aX hTT 5 [(1, .c ((0 : Nat) ≤ (3 : Nat))), (3, .r (PR.mk (some (69 : Nat)) (some ((1 : Nat) ≤ (1099511627776 : Nat))) (V.own 1100069) [((1100069 : Nat), some (Ob.row 207 3 1 fun (i : Nat) => List.take (3 : Nat) (List.drop (i * (3 : Nat)) yyT15)))] false))] ⟨(by omega), (by omega), True.intro⟩ ?_; refine aops_nil ?_; refine xb_n ?_; refine xt_n (hK _ ?_); clear hK K; refine wR 13 ?_; refine aX hTT 2 [(0, .i ((0 : Int) + (1 : Int)))] ⟨(by omega), True.intro⟩ ?_; refine aops_nil (xt_n (hK _ ?_)); clear hK K
 refine awr_succ (m := 2) fun K hK => ?_
 refine aw_seq_k fun K hK => wR 14 ?_; refine aX hTT 1 [] True.intro ?_; refine aops_nil (xt_n (hK _ ?_)); clear hK K; refine aw_seq_k fun K hK => ?_; refine w_true (t := true) (by kernel_rfl) rfl ?_
 refine aw_skip ?_
 refine xt_n (hK _ ?_); clear hK K; refine aw_seq_k fun K hK => ?_
 refine aw_block ?_
 refine aw_seq_k fun K hK => wR 15 ?_; refine aX hTT 5 [(1, .c qT11)] ⟨qT11_, True.intro⟩ ?_; refine aops_nil (xt_n (hK _ ?_)); clear hK K; refine aw_seq_k fun K hK => ?_; refine aw_seq_k fun K hK => wR 16 ?_; refine aX hTT 2 [] True.intro ?_; refine aops_nil (xt_n (hK _ ?_)); clear hK K; refine w_true (t := true) (by kernel_rfl) rfl ?_; refine wR 17 ?_; refine aX hTT 8 [(6, .i ((860 : Int) - (10 : Int)))] ⟨(by omega), True.intro⟩ ?_; refine aops_nil (xt_n (hK _ ?_)); clear hK K; refine aw_seq_k fun K hK => wR 18 ?_; refine aX hTT 11 [(9, .c qT15)] ⟨qT15_, True.intro⟩ ?_
 refine eC (sdWidth_ac tr3 95 20 500 (by decide) (by decide)) ?_
 refine aX hTT 4 [(0, .i ((850 : Int) - (20 : Int) * Int.tdiv ((95 : Int) + (10 : Int) - (1 : Int)) (10 : Int))), (2, .r (pn 11 (V.ref 1700011 0) (1700011 : Nat) (Ob.box 207 [V.i 0, V.i 0, V.i 0]))), (3, .r (pw ((0 : Nat) + (3 : Nat) ≤ (3 : Nat)) (1700011 : Nat) (Ob.box 207 [V.i (gi [(1 : Int), (0 : Int), (2 : Int)] (1 : Nat)), V.i 850, V.i 650])))] ⟨⟨(by decide +kernel), (by decide +kernel)⟩, (by omega), True.intro⟩ ?_; refine aops_nil (xt_n (hK _ ?_)); clear hK K; refine aw_seq_k fun K hK => ?_; refine aw_seq_k fun K hK => wR 19 ?_; refine aX hTT 3 [(1, .c ((2 : Nat) ≤ (3 : Nat)))] ⟨(by omega), True.intro⟩ ?_; refine aops_nil (xt_n (hK _ ?_)); clear hK K; refine aw_seq_k fun K hK => wR 20 ?_; refine aX hTT 10 [(6, .c qT15)] ⟨qT15_, True.intro⟩ ?_; refine aops_nil (xt_n (hK _ ?_)); clear hK K; refine w_false (t := false) (by kernel_rfl) rfl ?_
 refine aw_skip ?_
 refine xt_n (hK _ ?_); clear hK K; refine wR 21 ?_; refine aX hTT 5 [(1, .c ((0 : Nat) ≤ (3 : Nat))), (3, .r (PR.mk (some (69 : Nat)) (some ((1 : Nat) + (1 : Nat) ≤ (1099511627776 : Nat))) (V.own 2000069) [((1100069 : Nat), none), ((2000069 : Nat), some (Ob.row 207 3 2 yyT14))] false))] ⟨(by omega), (by omega), True.intro⟩ ?_; refine aops_nil ?_; refine xb_n ?_; refine xt_n (hK _ ?_); clear hK K; refine wR 22 ?_; refine aX hTT 2 [(0, .i ((1 : Int) + (1 : Int)))] ⟨(by omega), True.intro⟩ ?_; refine aops_nil (xt_n (hK _ ?_)); clear hK K
 refine awr_succ (m := 1) fun K hK => ?_
 refine aw_seq_k fun K hK => wR 23 ?_; refine aX hTT 1 [] True.intro ?_; refine aops_nil (xt_n (hK _ ?_)); clear hK K; refine aw_seq_k fun K hK => ?_; refine w_true (t := true) (by kernel_rfl) rfl ?_
 refine aw_skip ?_
 refine xt_n (hK _ ?_); clear hK K; refine aw_seq_k fun K hK => ?_
 refine aw_block ?_
 refine aw_seq_k fun K hK => wR 24 ?_; refine aX hTT 5 [(1, .c qT12)] ⟨qT12_, True.intro⟩ ?_; refine aops_nil (xt_n (hK _ ?_)); clear hK K; refine aw_seq_k fun K hK => ?_; refine aw_seq_k fun K hK => wR 25 ?_; refine aX hTT 2 [] True.intro ?_; refine aops_nil (xt_n (hK _ ?_)); clear hK K; refine w_true (t := true) (by kernel_rfl) rfl ?_; refine wR 26 ?_; refine aX hTT 8 [(6, .i ((650 : Int) - (10 : Int)))] ⟨(by omega), True.intro⟩ ?_; refine aops_nil (xt_n (hK _ ?_)); clear hK K; refine aw_seq_k fun K hK => wR 27 ?_; refine aX hTT 11 [(9, .c qT16)] ⟨qT16_, True.intro⟩ ?_
 refine eC (sdWidth_ac tr3 41 10 0 (by decide) (by decide)) ?_
 refine aX hTT 4 [(0, .i ((640 : Int) - (10 : Int) * Int.tdiv ((41 : Int) + (10 : Int) - (1 : Int)) (10 : Int))), (2, .r (pn 11 (V.ref 2600011 0) (2600011 : Nat) (Ob.box 207 [V.i 0, V.i 0, V.i 0]))), (3, .r (pw ((0 : Nat) + (3 : Nat) ≤ (3 : Nat)) (2600011 : Nat) (Ob.box 207 [V.i (gi [(1 : Int), (0 : Int), (2 : Int)] (2 : Nat)), V.i 640, V.i 590])))] ⟨⟨(by decide +kernel), (by decide +kernel)⟩, (by omega), True.intro⟩ ?_; refine aops_nil (xt_n (hK _ ?_)); clear hK K; refine aw_seq_k fun K hK => ?_; refine aw_seq_k fun K hK => wR 28 ?_; refine aX hTT 3 [(1, .c ((2 : Nat) ≤ (3 : Nat)))] ⟨(by omega), True.intro⟩ ?_; refine aops_nil (xt_n (hK _ ?_)); clear hK K; refine aw_seq_k fun K hK => wR 29 ?_; refine aX hTT 10 [(6, .c qT16)] ⟨qT16_, True.intro⟩ ?_; refine aops_nil (xt_n (hK _ ?_)); clear hK K; refine w_false (t := false) (by kernel_rfl) rfl ?_
 refine aw_skip ?_
 refine xt_n (hK _ ?_); clear hK K; refine wR 30 ?_; refine aX hTT 5 [(1, .c ((0 : Nat) ≤ (3 : Nat))), (3, .r (PR.mk (some (69 : Nat)) (some ((2 : Nat) + (1 : Nat) ≤ (1099511627776 : Nat))) (V.own 2900069) [((2000069 : Nat), none), ((2900069 : Nat), some (yyT13))] false))] ⟨(by omega), (by omega), True.intro⟩ ?_; refine aops_nil ?_; refine xb_n ?_; refine xt_n (hK _ ?_); clear hK K; refine wR 31 ?_; refine aX hTT 2 [(0, .i ((2 : Int) + (1 : Int)))] ⟨(by omega), True.intro⟩ ?_; refine aops_nil (xt_n (hK _ ?_)); clear hK K
 refine awr_succ (m := 0) fun K hK => ?_
 refine aw_seq_k fun K hK => wR 32 ?_; refine aX hTT 1 [] True.intro ?_; refine aops_nil (xt_n (hK _ ?_)); clear hK K; refine aw_seq_k fun K hK => ?_; refine w_false (t := false) (by kernel_rfl) rfl ?_
 refine aw_exit ?_
 refine xt_x ?_; refine xt_x ?_
 refine xb_same ?_
 refine xt_n ?_; clear hK K; clear hK K; refine hK _ ?_; clear hK K; refine aw_seq_k fun K hK => ?_; refine aw_seq_k fun K hK => wD 33 ?_; refine aX hTT 13 [(6, .i ((590 : Int) - (30 : Int)))] ⟨(by omega), True.intro⟩ ?_; refine aops_nil ⟨by kernel_rfl, ?_⟩; refine xt_n (hK _ ?_); clear hK K; refine w_false (t := false) (by kernel_rfl) rfl ?_
 refine aw_skip ?_
 refine xt_n (hK _ ?_); clear hK K; refine aw_seq_k fun K hK => wR 34 ?_; refine aX hTT 6 [] True.intro ?_; refine aops_nil (xt_n (hK _ ?_)); clear hK K
 refine aw_ret ?_
 refine ret_own [(0, 2900069)] [(4, V.own 0), (5, V.i 3), (6, V.i 0)] (.inr rfl) (.cons (by kernel_rfl) (.cons (by kernel_rfl) (.cons (by kernel_rfl) .nil))) (.cons ⟨yyT13, (by kernel_rfl), .row (by kernel_rfl) ?_⟩ .nil) (by kernel_rfl) (by kernel_rfl) (by kernel_rfl) (by kernel_rfl)
 intro i hi
 rcases (by omega : i = 0 ∨ i = 1 ∨ i = 2) with rfl | rfl | rfl <;> rfl
set_option maxRecDepth 100000 in
theorem possible_ac : AC Tryz.prog 93 [.ptr (fmtF ++ [trk tr3]), so3] (.b true) [] := by
 refine acI hTT hMX Tryz.func93 Tryz.ntmps93 fun C hC hF => ?_
 refine aw_seq_k fun K hK => wR 2 ?_; refine aX hTT 1 [] True.intro ?_; refine aops_nil (xt_n (hK _ ?_)); clear hK K; refine aw_seq_k fun K hK => wR 3 ?_; refine aX hTT 2 [] True.intro ?_
 refine e_callO (first := []) (caps := []) (k := 200011) (v' := V.tup [V.own 200011, V.i 3, V.i 0]) (ob' := Ob.row 207 3 3 fun (i : Nat) => V.renL (callG (2 : Nat) (some 11)) (bandR i)) (lay_ac) (by kernel_rfl) (by kernel_rfl) (by kernel_rfl) (by kernel_rfl) (by kernel_rfl) (by kernel_rfl) (by kernel_rfl) ?_
 refine aX hTT 7 [] True.intro ?_; refine aops_nil (xt_n (hK _ ?_)); clear hK K; refine aw_seq_k fun K hK => wR 4 ?_; refine aX hTT 3 [] True.intro ?_; refine aops_nil (xt_n (hK _ ?_)); clear hK K
 refine aw_ret ?_
 refine rP (V.b true)
theorem possR : AM Tryz.prog 93 [.ptr (fmtF ++ [trk tr3]), .own 500] [.row 3 1 3 fun i => [.i (gi [1, 0, 2] i)]] (.b true) [some (.row 3 1 3 fun i => [.i (gi [1, 0, 2] i)])] [] :=
 possible_ac.rowK 3 (sz := 1) (n := 3) (row := fun i => [.i (gi [1, 0, 2] i)]) rfl rfl (by decide) (fun _ => rfl) rfl (by simp)
set_option maxRecDepth 100000 in
theorem Arrange0_ac : AC Tryz.prog 64 [.agg fmtF, trk tr3] (.tup [.own 0, .i 0]) [.row 3 1 3 fun i => [.i (gi [1, 0, 2] i)]] := by
 refine acI hTT hMX Tryz.func64 Tryz.ntmps64 fun C hC hF => ?_
 refine aw_seq_k fun K hK => wR 2 ?_; refine aX hTT 3 [] True.intro ?_; refine aops_nil (xt_n (hK _ ?_)); clear hK K; refine aw_seq_k fun K hK => wR 3 ?_; refine aX hTT 2 [] True.intro ?_
 refine eC (open3_ac) ?_
 refine aX hTT 5 [] True.intro ?_; refine aops_nil (xt_n (hK _ ?_)); clear hK K; refine aw_seq_k fun K hK => ?_; refine aw_seq_k fun K hK => wR 4 ?_; refine aX hTT 2 [] True.intro ?_; refine aops_nil (xt_n (hK _ ?_)); clear hK K; refine w_false (t := false) (by kernel_rfl) rfl ?_
 refine aw_skip ?_
 refine xt_n (hK _ ?_); clear hK K; refine aw_seq_k fun K hK => ?_; refine aw_seq_k fun K hK => wR 5 ?_; refine aX hTT 1 [] True.intro ?_
 refine e_callO (first := []) (caps := []) (k := 400019) (v' := V.own 400019) (ob' := Ob.row 3 1 3 fun (i : Nat) => V.renL (callG (4 : Nat) (some 19)) [V.i (gi [(1 : Int), (0 : Int), (2 : Int)] i)]) (sd_all_ac) (by kernel_rfl) (by kernel_rfl) (by kernel_rfl) (by kernel_rfl) (by kernel_rfl) (by kernel_rfl) (by kernel_rfl) ?_
 refine aX hTT 1 [] True.intro ?_; refine aops_nil (xt_n (hK _ ?_)); clear hK K; refine aw_seq_k fun K hK => wR 6 ?_; refine aX hTT 2 [] True.intro ?_
 refine aops_callR [400019] (first := []) (caps := []) (ins' := [Ob.row 3 1 3 fun (i : Nat) => V.renL (callG (4 : Nat) (some (19 : Tmp))) [V.i (gi [(1 : Int), (0 : Int), (2 : Int)] i)]]) (v' := V.b true) (δ := []) (kp := [400019]) (possR) (by kernel_rfl) (by kernel_rfl) (by kernel_rfl) (by kernel_rfl) (by kernel_rfl) (by kernel_rfl) (by kernel_rfl) rfl (by kernel_rfl) (by kernel_rfl) ⟨(fun _ _ => rfl), True.intro⟩ (by kernel_rfl) (by kernel_rfl) (by kernel_rfl) ?_
 refine aops_nil (xt_n (hK _ ?_)); clear hK K; refine w_true (t := true) (by kernel_rfl) rfl ?_; refine aw_seq_k fun K hK => wR 7 ?_; refine aX hTT 3 [] True.intro ?_; refine aops_nil (xt_n (hK _ ?_)); clear hK K
 refine aw_ret ?_
 refine xt_r ?_
 refine ret_own [(0, 400019)] [(4, V.own 0), (5, V.i 0)] (.inr rfl) (.cons (by kernel_rfl) (.cons (by kernel_rfl) .nil)) (.cons ⟨Ob.row 3 1 3 fun (i : Nat) => V.renL (callG (4 : Nat) (some (19 : Tmp))) [V.i (gi [(1 : Int), (0 : Int), (2 : Int)] i)], (by kernel_rfl), .row (by kernel_rfl) (fun _ _ => rfl)⟩ .nil) (by kernel_rfl) (by kernel_rfl) (by kernel_rfl) (by kernel_rfl)
theorem Arrange_ac : AC Tryz.prog 64 [.agg fmtF, trk tr3] (.tup [so3, .i 0]) [] := AC.shut1 Arrange0_ac rfl (fun i _ => rfl) (fun _ => rfl) rfl rfl
end Go.Proofs.YtepkjobndmmejaaGreatDoor

namespace Go.Proofs.YtepkjobndmmejaaGreatDoor
open Go.Ab Go.RowKit Go.Dw Go.Shelf
abbrev yyT50 : List V := [V.c (Value.string (ByteArray.mk #[(102 : UInt8)])), V.i 1000, V.i 400, V.i 10, V.i 20, V.i 10, V.i 30, V.i 5]
set_option maxRecDepth 100000 in
theorem works04_ac : AC Tryz.prog 32 [] (.b true) [] := by
 refine acI hTT hMX Tryz.func32 Tryz.ntmps32 fun C hC hF => ?_
 refine aw_seq_k fun K hK => wR 2 ?_; refine aX hTT 1 [] True.intro ?_; refine aops_nil (xt_n (hK _ ?_)); clear hK K; refine aw_seq_k fun K hK => wR 3 ?_; refine aX hTT 3 [(1, .r (pn 1 (V.ref 200001 0) (200001 : Nat) (Ob.box 122 [V.c (Value.string (ByteArray.mk #[])), V.i 0, V.i 0, V.i 0, V.i 0, V.i 0, V.i 0, V.i 0]))), (2, .r (pw ((0 : Nat) + (8 : Nat) ≤ (8 : Nat)) (200001 : Nat) (Ob.box 122 yyT50)))] ⟨(by omega), True.intro⟩ ?_; refine aops_nil (xt_n (hK _ ?_)); clear hK K; refine aw_seq_k fun K hK => wR 4 ?_; refine aX hTT 5 [] True.intro ?_; refine aops_nil (xt_n (hK _ ?_)); clear hK K; refine aw_seq_k fun K hK => wR 5 ?_; refine aX hTT 2 [(0, .c ((0 : Nat) ≤ (8 : Nat)))] ⟨(by omega), True.intro⟩ ?_
 refine eC (AC.conv (Arrange_ac) (args' := [V.agg yyT50, V.sl 3 3 fun (i : Nat) => List.take (3 : Nat) (List.drop (i * (3 : Nat)) [V.i 95, V.i 20, V.i 500, V.i 30, V.i 40, V.i 800, V.i 41, V.i 10, V.i 0])]) ⟨RImp.refl _, ?_, trivial⟩) ?_
 ·
  exact RImp.rows rfl fun i hi => by
   have hi : i < 3 := hi
   rcases (by omega : i = 0 ∨ i = 1 ∨ i = 2) with rfl | rfl | rfl <;> rfl
 refine aX hTT 5 [] True.intro ?_; refine aops_nil (xt_n (hK _ ?_)); clear hK K; refine aw_seq_k fun K hK => wD 6 ?_; refine aX hTT 4 [(0, .c ((0 : Nat) ≤ (8 : Nat))), (2, .c ((0 : Int) ≤ (0 : Int) ∧ (0 : Int) < (↑(3 : Nat) : Int)))] ⟨(by omega), (by omega), True.intro⟩ ?_
 refine eC (SdWidth_ac) ?_
 refine aX hTT 5 [] True.intro ?_; refine aops_nil ⟨by kernel_rfl, ?_⟩; refine xt_n (hK _ ?_); clear hK K; refine aw_seq_k fun K hK => wR 7 ?_; refine aX hTT 22 [(3, .c (gA (true == true) True)), (4, .c (gD (true == true) True)), (5, .c ((true = true → (true == true) = true) ∧ True)), (7, .c (gA (true == true) True)), (8, .c (gB (true == true) True)), (9, .c (gD (true == true) True)), (10, .c ((true = true → (true == true) = true) ∧ True)), (12, .c (gA (true == true) True)), (13, .c (gD (true == true) ((0 : Int) ≤ (0 : Int) ∧ (0 : Int) < (↑(3 : Nat) : Int)))), (14, .c (gB (true == true) True)), (15, .c (gD (true == true) True)), (16, .c ((true = true → (true == true) = true) ∧ True)), (18, .c (gA (true == true) True)), (19, .c (gD (true == true) True)), (20, .c ((true = true → (true == true) = true) ∧ True))] ⟨⟨⟨True.intro, True.intro⟩, (fun _ => True.intro)⟩, ⟨⟨(by (exact fun h => h)), ⟨True.intro, True.intro⟩⟩, (fun _ => True.intro)⟩, ⟨(by (exact fun h => h)), True.intro⟩, ⟨⟨True.intro, True.intro⟩, (fun _ => True.intro)⟩, ⟨⟨(by (exact fun h => h)), True.intro⟩, (fun _ => True.intro)⟩, ⟨⟨(by (exact fun h => h)), ⟨True.intro, True.intro⟩⟩, (fun _ => True.intro)⟩, ⟨(by (exact fun h => h)), True.intro⟩, ⟨⟨True.intro, True.intro⟩, (fun _ => True.intro)⟩, ⟨⟨(by (exact fun h => h)), ⟨True.intro, True.intro⟩⟩, (by (intro _; simp; done))⟩, ⟨⟨(by (exact fun h => h)), True.intro⟩, (fun _ => True.intro)⟩, ⟨⟨(by (exact fun h => h)), ⟨True.intro, True.intro⟩⟩, (fun _ => True.intro)⟩, ⟨(by (exact fun h => h)), True.intro⟩, ⟨⟨True.intro, True.intro⟩, (fun _ => True.intro)⟩, ⟨⟨(by (exact fun h => h)), ⟨True.intro, True.intro⟩⟩, (fun _ => True.intro)⟩, ⟨(by (exact fun h => h)), True.intro⟩, True.intro⟩ ?_
 refine eG 0 (g := true == true) (fun _ => works03_ac) ?_
 refine aX hTT 2 [(0, .c ((true = true → (true == true) = true) ∧ True))] ⟨⟨(by (exact fun h => h)), True.intro⟩, True.intro⟩ ?_; refine aops_nil (xt_n (hK _ ?_)); clear hK K
 refine aw_ret ?_
 refine rP (V.b true)
end Go.Proofs.YtepkjobndmmejaaGreatDoor

namespace Go.Proofs.YtepkjobndmmejaaGreatDoor
open Go.Ab Go.RowKit Go.Dw Go.Shelf
def w6L : List Pt := [(-100, 100), (-100, 90), (-95, 100)]
theorem w6R : AC Tryz.prog 27 [.agg [V.ints [0, 2, 10]], V.pts w6L] (.tup [V.pts [(-100, 92), (-97, 90), (-95, 92)], .i 0]) [] := by
 have A := Read_ac [0, 2, 10] w6L (by decide) (by decide)
 rw [show wallsR [0, 2, 10] w6L = [(-100, 92), (-97, 90), (-95, 92)] by decide +kernel, show checkBoth [0, 2, 10] w6L = 0 by decide +kernel] at A
 exact A
theorem w6B : AC Tryz.prog 23 [V.pts w6L] (.tup [.agg [.i 0, .i 25], .i 0]) [] := by
 have A := Balance_ac w6L (by decide)
 rw [show balArm w6L = (0, 25) by decide +kernel, show checkPts w6L = 0 by decide +kernel] at A
 exact A
abbrev zzT60 : V := V.sl 2 3 fun (i : Nat) => List.take (2 : Nat) (List.drop (i * (2 : Nat)) [V.i (-100), V.i 100, V.i (-100), V.i 90, V.i (-95), V.i 100])
set_option maxRecDepth 100000 in
theorem works06_ac : AC Tryz.prog 10 [] (.b true) [] := by
 refine acI hTT hMX Tryz.func10 Tryz.ntmps10 fun C hC hF => ?_
 refine aw_seq_k fun K hK => wR 2 ?_; refine aX hTT 1 [] True.intro ?_; refine aops_nil (xt_n (hK _ ?_)); clear hK K; refine aw_seq_k fun K hK => wR 3 ?_; refine aX hTT 5 [] True.intro ?_; refine aops_nil (xt_n (hK _ ?_)); clear hK K; refine aw_seq_k fun K hK => wR 4 ?_; refine aX hTT 3 [] True.intro ?_
 refine eC (AC.conv (w6R) (args' := [V.agg [V.sl 1 3 fun (i : Nat) => List.take (1 : Nat) (List.drop (i * (1 : Nat)) [V.i 0, V.i 2, V.i 10])], zzT60]) ⟨?_, ?_, trivial⟩) ?_
 ·
  exact RImp.agg ⟨RImp.lit1 [0, 2, 10], trivial⟩
 ·
  exact gLit3 rfl rfl rfl
 refine aX hTT 5 [] True.intro ?_; refine aops_nil (xt_n (hK _ ?_)); clear hK K; refine aw_seq_k fun K hK => wR 5 ?_; refine aX hTT 1 [] True.intro ?_
 refine eC (AC.conv (w6B) (args' := [zzT60]) ⟨?_, trivial⟩) ?_
 ·
  exact gLit3 rfl rfl rfl
 refine aX hTT 6 [(3, .r (pn 4 (V.ref 400004 0) (400004 : Nat) (Ob.box 66 [V.i 0, V.i 0]))), (4, .r (pw ((0 : Nat) + (2 : Nat) ≤ (2 : Nat)) (400004 : Nat) (Ob.box 66 [V.i 0, V.i 25])))] ⟨(by omega), True.intro⟩ ?_; refine aops_nil (xt_n (hK _ ?_)); clear hK K; refine aw_seq_k fun K hK => wR 6 ?_; refine aX hTT 24 [(3, .c (gA (true == true) True)), (4, .c (gD (true == true) True)), (5, .c ((true = true → (true == true) = true) ∧ True)), (7, .c (gA (true == true) True)), (8, .c (gB (true == true) True)), (9, .c (gD (true == true) True)), (10, .c ((true = true → (true == true) = true) ∧ True)), (12, .c (gA (true == true) True)), (13, .c (gD (true == true) ((0 : Int) ≤ (1 : Int) ∧ (1 : Int) < (↑(3 : Nat) : Int)))), (14, .c (gB (true == true) True)), (15, .c ((True ∧ True ∧ True) ∧ ((true == true) = true → True))), (16, .c (gC (true == true) True)), (17, .c ((true = true → (true == true) = true) ∧ True)), (19, .c (gA (true == true) ((0 : Nat) ≤ (2 : Nat)))), (20, .c (gA (true == true) True)), (21, .c (gC (true == true) True)), (22, .c ((true = true → (true == true) = true) ∧ True))] ⟨⟨⟨True.intro, True.intro⟩, (fun _ => True.intro)⟩, ⟨⟨(by (exact fun h => h)), ⟨True.intro, True.intro⟩⟩, (fun _ => True.intro)⟩, ⟨(by (exact fun h => h)), True.intro⟩, ⟨⟨True.intro, True.intro⟩, (fun _ => True.intro)⟩, ⟨⟨(by (exact fun h => h)), True.intro⟩, (fun _ => True.intro)⟩, ⟨⟨(by (exact fun h => h)), ⟨True.intro, True.intro⟩⟩, (fun _ => True.intro)⟩, ⟨(by (exact fun h => h)), True.intro⟩, ⟨⟨True.intro, True.intro⟩, (fun _ => True.intro)⟩, ⟨⟨(by (exact fun h => h)), ⟨True.intro, True.intro⟩⟩, (by (intro _; simp; done))⟩, ⟨⟨(by (exact fun h => h)), True.intro⟩, (fun _ => True.intro)⟩, ⟨⟨True.intro, ⟨True.intro, True.intro⟩⟩, (fun _ => True.intro)⟩, ⟨⟨(by (exact fun h => h)), ⟨(by (exact fun h => h)), True.intro⟩⟩, (fun _ => True.intro)⟩, ⟨(by (exact fun h => h)), True.intro⟩, ⟨⟨True.intro, True.intro⟩, (by (intro _; simp; done))⟩, ⟨⟨True.intro, True.intro⟩, (fun _ => True.intro)⟩, ⟨⟨(by (exact fun h => h)), ⟨(by (exact fun h => h)), True.intro⟩⟩, (fun _ => True.intro)⟩, ⟨(by (exact fun h => h)), True.intro⟩, True.intro⟩ ?_
 refine eG 0 (g := true == true) (fun _ => works04_ac) ?_
 refine aX hTT 2 [(0, .c ((true = true → (true == true) = true) ∧ True))] ⟨⟨(by (exact fun h => h)), True.intro⟩, True.intro⟩ ?_; refine aops_nil (xt_n (hK _ ?_)); clear hK K
 refine aw_ret ?_
 refine rP (V.b true)
end Go.Proofs.YtepkjobndmmejaaGreatDoor

namespace Go.Proofs.YtepkjobndmmejaaGreatDoor
open Go.Ab Go.RowKit Go.Dw Go.Shelf
theorem wf_ptsT {l : List Pt} (h : ∀ x ∈ l, Sh.wf (.fld (.int .i64) (.lst (.int .i64))) x) : ∀ k, k < l.length → inR2 (gp l k) := fun k hk => by
  have : gp l k = l[k] := by simp [gp, List.getD_eq_getElem?_getD, List.getElem?_eq_getElem hk]
  rw [this]
  obtain ⟨h1, h2⟩ := h _ (List.getElem_mem hk)
  have q1 := wf_i64 h1
  have q2 := wf_i64 h2
  exact ⟨by simp only [inR]; omega, by simp only [inR]; omega⟩
end Go.Proofs.YtepkjobndmmejaaGreatDoor

namespace Go.Proofs.YtepkjobndmmejaaGreatDoor
open Go.Ab Go.RowKit Go.Dw Go.Shelf
abbrev yyWHeld1 (c : Cut) : List V := [V.i (Cut.half c), V.i (Cut.gain c), V.i (Cut.thin c), V.i (Cut.wide c), V.i (Cut.slope c), V.i (Cut.jerk c), V.i (Cut.sty c)]
abbrev yyWHeld0 (c : Cut) : V := V.agg (yyWHeld1 c)
abbrev yyWHeld2 (p : List Pt) : V := V.sl 2 (List.length p) fun (k : Nat) => [V.i (Prod.fst (gp p k)), V.i (Prod.snd (gp p k))]
abbrev yyWHeld3 := ((false == false) = true → (false == false) = true)
abbrev yyWHeld4 := ((true == true) = true → (true == true) = true)
set_option maxRecDepth 100000 in
theorem held_law (p : List Pt) (ce st : Int) (c : Cut) (hl : p.length ≤ bigL) (hr : ∀ k, k < p.length → inR2 (gp p k)) (hce : 0 ≤ ce ∧ ce ≤ 65535) (hst : 0 ≤ st ∧ st ≤ 255) : AC Tryz.prog 5 [V.pts p, .c (.int .u16 ce), .c (.int .u8 st), c.v] (.b true) [] := by
 refine acI hTT hMX Tryz.func5 Tryz.ntmps5 fun C hC hF => ?_
 refine aw_seq_k fun K hK => wR 2 ?_
 refine aops_n hTT (M := []) (n := 2) [pv 7 (V.ptr (yyWHeld1 c)), pv 8 (V.b false)] (by kernel_rfl) (by kernel_rfl) True.intro ?_
 refine aops_nil (xt_n (hK _ ?_)); clear hK K; refine aw_seq_k fun K hK => ?_; refine aw_seq_k fun K hK => wR 3 ?_
 refine aops_n hTT (M := []) (n := 5) [pv 16 ((yyWHeld2 p)), pv 17 (V.i (↑(List.length p) : Int)), pv 18 (V.b (decide ((40 : Int) < (↑(List.length p) : Int)))), pv 19 (V.b (decide ((40 : Int) < (↑(List.length p) : Int)))), pc 20 ((True ∧ True) ∧ ((decide ((40 : Int) < (↑(List.length p) : Int)) == false) = true → True)) (V.gd (decide ((40 : Int) < (↑(List.length p) : Int)) == false) ((yyWHeld0 c)))] (by kernel_rfl) (by kernel_rfl) ⟨⟨⟨True.intro, True.intro⟩, (fun _ => True.intro)⟩, True.intro⟩ ?_
 refine eG 1 (g := decide ((40 : Int) < (↑(List.length p) : Int)) == false) (fun h => refCheck_ac c) ?_
 refine aops_n hTT (M := []) (n := 4) [pc 22 ((((decide ((40 : Int) < (↑(List.length p) : Int)) == false) = true → (decide ((40 : Int) < (↑(List.length p) : Int)) == false) = true) ∧ True ∧ True) ∧ ((decide ((40 : Int) < (↑(List.length p) : Int)) == false) = true → True)) (V.gd (decide ((40 : Int) < (↑(List.length p) : Int)) == false) (V.b !decide (cutE c = (0 : Int)))), pc 23 (True ∧ (decide ((40 : Int) < (↑(List.length p) : Int)) = false → (decide ((40 : Int) < (↑(List.length p) : Int)) == false) = true)) (V.b (decide ((40 : Int) < (↑(List.length p) : Int)) || !decide (cutE c = (0 : Int)))), pv 24 (V.b (decide ((40 : Int) < (↑(List.length p) : Int)) || !decide (cutE c = (0 : Int)))), pc 25 ((True ∧ True) ∧ (((decide ((40 : Int) < (↑(List.length p) : Int)) || !decide (cutE c = (0 : Int))) == false) = true → True)) (V.gd ((decide ((40 : Int) < (↑(List.length p) : Int)) || !decide (cutE c = (0 : Int))) == false) ((yyWHeld2 p)))] (by kernel_rfl) (by kernel_rfl) ⟨⟨⟨(by (exact fun h => h)), ⟨True.intro, True.intro⟩⟩, (fun _ => True.intro)⟩, ⟨True.intro, (by (intro h; rw [h]; rfl))⟩, ⟨⟨True.intro, True.intro⟩, (fun _ => True.intro)⟩, True.intro⟩ ?_
 refine eG 1 (g := (decide ((40 : Int) < (↑(List.length p) : Int)) || !decide (cutE c = (0 : Int))) == false) (fun h => rCheckSamples_ac p hl hr) ?_
 refine aops_n hTT (M := []) (n := 2) [pc 27 (((((decide ((40 : Int) < (↑(List.length p) : Int)) || !decide (cutE c = (0 : Int))) == false) = true → ((decide ((40 : Int) < (↑(List.length p) : Int)) || !decide (cutE c = (0 : Int))) == false) = true) ∧ True ∧ True) ∧ (((decide ((40 : Int) < (↑(List.length p) : Int)) || !decide (cutE c = (0 : Int))) == false) = true → True)) (V.gd ((decide ((40 : Int) < (↑(List.length p) : Int)) || !decide (cutE c = (0 : Int))) == false) (V.b !decide (sChk p = (0 : Int)))), pc 28 (True ∧ ((decide ((40 : Int) < (↑(List.length p) : Int)) || !decide (cutE c = (0 : Int))) = false → ((decide ((40 : Int) < (↑(List.length p) : Int)) || !decide (cutE c = (0 : Int))) == false) = true)) (V.b (decide ((40 : Int) < (↑(List.length p) : Int)) || !decide (cutE c = (0 : Int)) || !decide (sChk p = (0 : Int))))] (by kernel_rfl) (by kernel_rfl) ⟨⟨⟨(by (exact fun h => h)), ⟨True.intro, True.intro⟩⟩, (fun _ => True.intro)⟩, ⟨True.intro, (by (intro h; rw [h]; rfl))⟩, True.intro⟩ ?_
 refine aops_nil (xt_n (hK _ ?_)); clear hK K
 refine w_cond (t := decide ((40 : Int) < (↑(List.length p) : Int)) || !decide (cutE c = (0 : Int)) || !decide (sChk p = (0 : Int))) (by kernel_rfl) (fun c1 => ?_) (fun c1 => ?_)
 ·
  refine aw_seq_k fun K hK => ?_
  refine wR 4 ?_
  refine eC (works06_ac) ?_
  refine aops_n hTT (M := []) (n := 1) [pv 8 (V.b true)] (by kernel_rfl) (by kernel_rfl) True.intro ?_
  refine aops_nil (xt_n (hK _ ?_)); clear hK K
  refine aw_ret ?_
  refine xt_r ?_
  refine rP (V.b true)
 simp at c1
 obtain ⟨n1, n2, n3⟩ : p.length ≤ 40 ∧ cutE c = 0 ∧ sChk p = 0 := ⟨by omega, c1.1.2, c1.2⟩
 have ht : 1 ≤ 1 + ce.tmod 32767 ∧ 1 + ce.tmod 32767 ≤ 32767 := by rw [Int.tmod_eq_emod_of_nonneg hce.1]; omega
 have hg : gainE p (1 + ce.tmod 32767) st = 0 := gainE_ok.2 ⟨needE_ok.2 ⟨progE_sChk n3, ht⟩, hst.1, by omega⟩
 obtain ⟨m1, m2⟩ := lim_amt hg
 refine aw_skip ?_
 refine xt_n (hK _ ?_); clear hK K; refine aw_seq_k fun K hK => wR 4 ?_
 refine aops_n hTT (M := []) (n := 5) [pv 30 (V.c (Value.int IntKind.u16 ce)), pc 31 ((-9223372036854775808 : Int) ≤ ce ∧ ce ≤ (9223372036854775807 : Int)) (V.i ce), pc 32 ((32767 : Int) ≠ (0 : Int)) (V.i (Int.tmod ce (32767 : Int))), pc 33 ((-9223372036854775808 : Int) ≤ (1 : Int) + Int.tmod ce (32767 : Int) ∧ (1 : Int) + Int.tmod ce (32767 : Int) ≤ (9223372036854775807 : Int)) (V.i ((1 : Int) + Int.tmod ce (32767 : Int))), pv 9 (V.i ((1 : Int) + Int.tmod ce (32767 : Int)))] (by kernel_rfl) (by kernel_rfl) ⟨(by omega), (by omega), (by omega), True.intro⟩ ?_
 refine aops_nil (xt_n (hK _ ?_)); clear hK K; refine aw_seq_k fun K hK => wR 5 ?_
 refine aops_n hTT (M := []) (n := 4) [pv 35 ((yyWHeld2 p)), pv 36 (V.i ((1 : Int) + Int.tmod ce (32767 : Int))), pv 37 (V.c (Value.int IntKind.u8 st)), pc 38 ((-9223372036854775808 : Int) ≤ st ∧ st ≤ (9223372036854775807 : Int)) (V.i st)] (by kernel_rfl) (by kernel_rfl) ⟨(by omega), True.intro⟩ ?_
 generalize 1 + ce.tmod 32767 = t at *
 refine eC (Limit_ac p t st hl) ?_
 rw [hg]
 refine aops_n hTT (M := []) (n := 5) [pv 34 (V.tup [V.sl 2 (List.length (limR p t st)) fun (k : Nat) => [V.i (Prod.fst (gp (limR p t st) k)), V.i (Prod.snd (gp (limR p t st) k))], V.i 0]), pv 40 (V.sl 2 (List.length (limR p t st)) fun (k : Nat) => [V.i (Prod.fst (gp (limR p t st) k)), V.i (Prod.snd (gp (limR p t st) k))]), pv 41 (V.i 0), pv 10 (V.sl 2 (List.length (limR p t st)) fun (k : Nat) => [V.i (Prod.fst (gp (limR p t st) k)), V.i (Prod.snd (gp (limR p t st) k))]), pv 11 (V.i 0)] (by kernel_rfl) (by kernel_rfl) True.intro ?_
 refine aops_nil (xt_n (hK _ ?_)); clear hK K; refine aw_seq_k fun K hK => ?_; refine aw_seq_k fun K hK => wR 6 ?_
 refine aops_n hTT (M := []) (n := 2) [pv 42 (V.i 0), pv 43 (V.b false)] (by kernel_rfl) (by kernel_rfl) True.intro ?_
 refine aops_nil (xt_n (hK _ ?_)); clear hK K; refine w_false (t := false) (by kernel_rfl) rfl ?_
 refine aw_skip ?_
 refine xt_n (hK _ ?_); clear hK K; refine aw_seq_k fun K hK => wR 7 ?_
 refine aops_n hTT (M := []) (n := 2) [pv 45 ((yyWHeld0 c)), pv 46 (V.sl 2 (List.length (limR p t st)) fun (k : Nat) => [V.i (Prod.fst (gp (limR p t st) k)), V.i (Prod.snd (gp (limR p t st) k))])] (by kernel_rfl) (by kernel_rfl) True.intro ?_
 generalize limR p t st = q at *
 have hs : sChk q = 0 := sChkA_ok.2 ⟨by omega, m2.mono ht.2⟩
 refine eC (Cut_ac c q (by omega)) ?_
 rw [cutR, if_pos n2, if_pos hs]
 refine aops_n hTT (M := []) (n := 5) [pv 44 (V.tup [V.sl 2 (List.length (List.map (wallP c) q)) fun (k : Nat) => [V.i (Prod.fst (gp (List.map (wallP c) q) k)), V.i (Prod.snd (gp (List.map (wallP c) q) k))], V.i 0]), pv 48 (V.sl 2 (List.length (List.map (wallP c) q)) fun (k : Nat) => [V.i (Prod.fst (gp (List.map (wallP c) q) k)), V.i (Prod.snd (gp (List.map (wallP c) q) k))]), pv 49 (V.i 0), pv 12 (V.sl 2 (List.length (List.map (wallP c) q)) fun (k : Nat) => [V.i (Prod.fst (gp (List.map (wallP c) q) k)), V.i (Prod.snd (gp (List.map (wallP c) q) k))]), pv 11 (V.i 0)] (by kernel_rfl) (by kernel_rfl) True.intro ?_
 refine aops_nil (xt_n (hK _ ?_)); clear hK K; refine aw_seq_k fun K hK => ?_; refine aw_seq_k fun K hK => wR 8 ?_
 refine aops_n hTT (M := []) (n := 9) [pv 50 (V.i 0), pv 51 (V.b false), pv 52 (V.b false), pc 53 ((True ∧ True) ∧ ((false == false) = true → True)) (V.gd (false == false) (V.sl 2 (List.length (List.map (wallP c) q)) fun (k : Nat) => [V.i (Prod.fst (gp (List.map (wallP c) q) k)), V.i (Prod.snd (gp (List.map (wallP c) q) k))])), pc 54 ((yyWHeld3 ∧ True) ∧ ((false == false) = true → True)) (V.gd (false == false) (V.i (↑(List.length (List.map (wallP c) q)) : Int))), pc 55 ((True ∧ True) ∧ ((false == false) = true → True)) (V.gd (false == false) ((yyWHeld2 p))), pc 56 ((yyWHeld3 ∧ True) ∧ ((false == false) = true → True)) (V.gd (false == false) (V.i (↑(List.length p) : Int))), pc 57 ((yyWHeld3 ∧ yyWHeld3 ∧ True) ∧ ((false == false) = true → True)) (V.gd (false == false) (V.b !decide ((↑(List.length (List.map (wallP c) q)) : Int) = (↑(List.length p) : Int)))), pc 58 (True ∧ (false = false → (false == false) = true)) (V.b !decide ((↑(List.length (List.map (wallP c) q)) : Int) = (↑(List.length p) : Int)))] (by kernel_rfl) (by kernel_rfl) ⟨⟨⟨True.intro, True.intro⟩, (fun _ => True.intro)⟩, ⟨⟨(by (exact fun h => h)), True.intro⟩, (fun _ => True.intro)⟩, ⟨⟨True.intro, True.intro⟩, (fun _ => True.intro)⟩, ⟨⟨(by (exact fun h => h)), True.intro⟩, (fun _ => True.intro)⟩, ⟨⟨(by (exact fun h => h)), ⟨(by (exact fun h => h)), True.intro⟩⟩, (fun _ => True.intro)⟩, ⟨True.intro, (by (intro h; rw [h]; rfl))⟩, True.intro⟩ ?_
 refine aops_nil (xt_n (hK _ ?_)); clear hK K
 refine w_cond (t := !decide ((↑(List.length (List.map (wallP c) q)) : Int) = (↑(List.length p) : Int))) (by kernel_rfl) (fun c2 => ?_) (fun c2 => ?_)
 ·
  simp at c2
  omega
 have hg1 := (cutE_ok.1 n2).2.1
 have hb1 : 0 ≤ t * c.gain ∧ t * c.gain ≤ 32767 * 100000 := ⟨Int.mul_nonneg (by omega) hg1.1, Int.le_trans (Int.mul_le_mul_of_nonneg_right ht.2 hg1.1) (Int.mul_le_mul_of_nonneg_left (by omega) (by decide))⟩
 have hb2 : 0 ≤ (t * c.gain).tdiv 1000 ∧ (t * c.gain).tdiv 1000 ≤ 32767 * 100000 := by rw [Int.tdiv_eq_ediv_of_nonneg hb1.1]; omega
 have j1 := held_jump n2 hs (t := t) (by omega) m2
 have j2 := held_bal n2 hs (t := t) (by omega) m2
 have j3 := wall_pts n2 hs
 simp only [chE] at j1 j2
 refine aw_skip ?_
 refine xt_n (hK _ ?_); clear hK K; refine aw_seq_k fun K hK => wR 9 ?_
 refine aops_n hTT (M := []) (n := 7) [pv 59 (V.i t), pv 60 (V.ptr [V.i (Cut.gain c), V.i (Cut.thin c), V.i (Cut.wide c), V.i (Cut.slope c), V.i (Cut.jerk c), V.i (Cut.sty c)]), pv 61 (V.i (Cut.gain c)), pc 62 ((-9223372036854775808 : Int) ≤ t * Cut.gain c ∧ t * Cut.gain c ≤ (9223372036854775807 : Int)) (V.i (t * Cut.gain c)), pc 63 ((0 : Int) < (1000 : Int) ∧ (-9223372036854775808 : Int) ≤ t * Cut.gain c ∧ t * Cut.gain c ≤ (9223372036854775807 : Int)) (V.i (Int.tdiv (t * Cut.gain c) (1000 : Int))), pc 64 ((-9223372036854775808 : Int) ≤ (8 : Int) * Int.tdiv (t * Cut.gain c) (1000 : Int) ∧ (8 : Int) * Int.tdiv (t * Cut.gain c) (1000 : Int) ≤ (9223372036854775807 : Int)) (V.i ((8 : Int) * Int.tdiv (t * Cut.gain c) (1000 : Int))), pv 13 (V.i ((8 : Int) * Int.tdiv (t * Cut.gain c) (1000 : Int)))] (by kernel_rfl) (by kernel_rfl) ⟨(by omega), ⟨(by omega), (by omega)⟩, (by omega), True.intro⟩ ?_
 refine aops_nil (xt_n (hK _ ?_)); clear hK K; refine aw_seq_k fun K hK => wR 10 ?_
 refine aops_n hTT (M := []) (n := 3) [pv 66 (V.i ((8 : Int) * Int.tdiv (t * Cut.gain c) (1000 : Int))), pv 67 (V.agg [V.i ((8 : Int) * Int.tdiv (t * Cut.gain c) (1000 : Int)), V.i 0]), pv 68 (V.sl 2 (List.length (List.map (wallP c) q)) fun (k : Nat) => [V.i (Prod.fst (gp (List.map (wallP c) q) k)), V.i (Prod.snd (gp (List.map (wallP c) q) k))])] (by kernel_rfl) (by kernel_rfl) True.intro ?_
 refine eC (Jump_ac (8 * (t * c.gain).tdiv 1000) 0 (q.map (wallP c)) (by simp; omega) (by decide)) ?_
 rw [j1]
 refine aops_n hTT (M := []) (n := 5) [pv 65 (V.tup [V.i 0, V.i 0, V.i 5]), pv 70 (V.i 0), pv 71 (V.i 0), pv 72 (V.i 5), pv 11 (V.i 5)] (by kernel_rfl) (by kernel_rfl) True.intro ?_
 refine aops_nil (xt_n (hK _ ?_)); clear hK K; refine aw_seq_k fun K hK => wR 11 ?_
 refine aops_n hTT (M := []) (n := 1) [pv 74 (V.sl 2 (List.length (List.map (wallP c) q)) fun (k : Nat) => [V.i (Prod.fst (gp (List.map (wallP c) q) k)), V.i (Prod.snd (gp (List.map (wallP c) q) k))])] (by kernel_rfl) (by kernel_rfl) True.intro ?_
 refine eC (Balance_ac (q.map (wallP c)) (by simp; omega)) ?_
 rw [j3]
 refine aops_n hTT (M := []) (n := 6) [pv 73 (V.tup [V.agg [V.i (Prod.fst (balArm (List.map (wallP c) q))), V.i (Prod.snd (balArm (List.map (wallP c) q)))], V.i 0]), pv 76 (V.agg [V.i (Prod.fst (balArm (List.map (wallP c) q))), V.i (Prod.snd (balArm (List.map (wallP c) q)))]), pv 77 (V.i 0), pn 14 (V.ref 1000014 0) (1000014 : Nat) (Ob.box 66 [V.i 0, V.i 0]), pw ((0 : Nat) + (2 : Nat) ≤ (2 : Nat)) (1000014 : Nat) (Ob.box 66 [V.i (Prod.fst (balArm (List.map (wallP c) q))), V.i (Prod.snd (balArm (List.map (wallP c) q)))]), pv 15 (V.i 0)] (by kernel_rfl) (by kernel_rfl) ⟨(by omega), True.intro⟩ ?_
 refine aops_nil (xt_n (hK _ ?_)); clear hK K; refine aw_seq_k fun K hK => wR 12 ?_
 refine aops_n hTT (M := []) (n := 13) [pv 78 (V.i 5), pv 79 (V.b true), pv 80 (V.b true), pc 81 ((True ∧ True) ∧ ((true == true) = true → True)) (V.gd (true == true) (V.i 0)), pc 82 ((yyWHeld4 ∧ True ∧ True) ∧ ((true == true) = true → True)) (V.gd (true == true) (V.b true)), pc 83 ((true = true → (true == true) = true) ∧ True) (V.b true), pv 84 (V.b true), pc 85 ((True ∧ True) ∧ ((true == true) = true → True)) (V.gd (true == true) (V.ref 1000014 0)), pc 86 ((yyWHeld4 ∧ True) ∧ ((true == true) = true → (0 : Nat) ≤ (2 : Nat))) (V.gd (true == true) (V.i (Prod.fst (balArm (List.map (wallP c) q))))), pc 87 ((True ∧ True) ∧ ((true == true) = true → True)) (V.gd (true == true) (V.i ((8 : Int) * Int.tdiv (t * Cut.gain c) (1000 : Int)))), pc 88 ((yyWHeld4 ∧ yyWHeld4 ∧ True) ∧ ((true == true) = true → True)) (V.gd (true == true) (V.b (decide (Prod.fst (balArm (List.map (wallP c) q)) ≤ (8 : Int) * Int.tdiv (t * Cut.gain c) (1000 : Int))))), pc 89 ((true = true → (true == true) = true) ∧ True) (V.b (decide (Prod.fst (balArm (List.map (wallP c) q)) ≤ (8 : Int) * Int.tdiv (t * Cut.gain c) (1000 : Int)))), pv 90 (V.b (decide (Prod.fst (balArm (List.map (wallP c) q)) ≤ (8 : Int) * Int.tdiv (t * Cut.gain c) (1000 : Int))))] (by kernel_rfl) (by kernel_rfl) ⟨⟨⟨True.intro, True.intro⟩, (fun _ => True.intro)⟩, ⟨⟨(by (exact fun h => h)), ⟨True.intro, True.intro⟩⟩, (fun _ => True.intro)⟩, ⟨(by (exact fun h => h)), True.intro⟩, ⟨⟨True.intro, True.intro⟩, (fun _ => True.intro)⟩, ⟨⟨(by (exact fun h => h)), True.intro⟩, (by (intro _; simp; done))⟩, ⟨⟨True.intro, True.intro⟩, (fun _ => True.intro)⟩, ⟨⟨(by (exact fun h => h)), ⟨(by (exact fun h => h)), True.intro⟩⟩, (fun _ => True.intro)⟩, ⟨(by (exact fun h => h)), True.intro⟩, True.intro⟩ ?_
 refine eG 0 (g := decide (Prod.fst (balArm (List.map (wallP c) q)) ≤ (8 : Int) * Int.tdiv (t * Cut.gain c) (1000 : Int)) == true) (fun h => works06_ac) ?_
 refine aops_n hTT (M := []) (n := 2) [pc 92 ((decide (Prod.fst (balArm (List.map (wallP c) q)) ≤ (8 : Int) * Int.tdiv (t * Cut.gain c) (1000 : Int)) = true → (decide (Prod.fst (balArm (List.map (wallP c) q)) ≤ (8 : Int) * Int.tdiv (t * Cut.gain c) (1000 : Int)) == true) = true) ∧ True) (V.b (decide (Prod.fst (balArm (List.map (wallP c) q)) ≤ (8 : Int) * Int.tdiv (t * Cut.gain c) (1000 : Int)) && true)), pv 8 (V.b (decide (Prod.fst (balArm (List.map (wallP c) q)) ≤ (8 : Int) * Int.tdiv (t * Cut.gain c) (1000 : Int)) && true))] (by kernel_rfl) (by kernel_rfl) ⟨⟨(by (intro h; rw [h]; rfl)), True.intro⟩, True.intro⟩ ?_
 refine aops_nil (xt_n (hK _ ?_)); clear hK K
 refine aw_ret ?_
 refine ret_pure (v' := V.b (decide (Prod.fst (balArm (List.map (wallP c) q)) ≤ (8 : Int) * Int.tdiv (t * Cut.gain c) (1000 : Int)) && true)) (.inr rfl) (by kernel_rfl) ?_ (by kernel_rfl)
 simp [j2]
def heldSh : List Sh := [(.sl (.fld (.int .i64) (.lst (.int .i64)))), (.int .u16), (.int .u8), (.fld (.int .i64) (.fld (.int .i64) (.fld (.int .i64) (.fld (.int .i64) (.fld (.int .i64) (.fld (.int .i64) (.lst (.int .i64))))))))]
theorem held_all (x : TL heldSh) (hx : wfL heldSh x) : AC Tryz.prog 5 (valL heldSh x) (V.b true) [] := by
 obtain ⟨p, ce, st, ⟨h, g, th, wi, sl, je, sty⟩, _⟩ := x
 obtain ⟨⟨h4, h5⟩, ha, hb, _⟩ := hx
 exact held_law p ce st ⟨h, g, th, wi, sl, je, sty⟩ h4 (wf_ptsT h5) (wf_u16 ha) (wf_u8 hb)
end Go.Proofs.YtepkjobndmmejaaGreatDoor

namespace Go.Proofs.YtepkjobndmmejaaGreatDoor
open Go.Ab Go.RowKit Go.Dw Go.Shelf Go.ChangeShapes Go.WideShapes Go.ChangeAt Go.Deep
def growsLaid : List (String × DataW Unit) := [("unicode/utf8.acceptRanges", Rows.laid_unicode_utf8_acceptRanges), ("unicode/utf8.first", Rows.laid_unicode_utf8_first)]
theorem gl_of_laid {W : World} (h : laidMetH Tryz.prog growsLaid W) (g : Nat) : R W (fun b => b < W.heap.size) ρ0 (gvals g) (gval g) := .any _ _
theorem lay_met (os : Os) (args : Array Value) : laidMetH Tryz.prog growsLaid ((World.laidAll Tryz.prog os growsLaid).forCall (fun _ _ => 0) ⟨#[], args, []⟩).memory := by
  rw [MakeChecks.laidMetH_plain _ _ _ (by kernel_rfl)]; exact laidMet_laidAll _ (by kernel_rfl) (by kernel_rfl)
end Go.Proofs.YtepkjobndmmejaaGreatDoor
