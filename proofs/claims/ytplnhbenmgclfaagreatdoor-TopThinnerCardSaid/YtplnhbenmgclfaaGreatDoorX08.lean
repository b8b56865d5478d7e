/-
  Several texts in one: take.Render at one small example: the programme and its sound. Conditions: told in each theorem. .. The listed variables of the top: they are never read; the start that meets the condition.
-/
import Derived.Test.YtplnhbenmgclfaaGreatDoorTie
import Derived.Test.YtplnhbenmgclfaaGreatDoorCards
import Derived.ProofKit
import Derived.LaidMore
import Derived.Lay
import Derived.OpenShut
import Derived.Stop.Joined
import Derived.SevenTiedAt
import Derived.Test.YtplnhbenmgclfaaGreatDoorAbs42
import Derived.Test.YtplnhbenmgclfaaGreatDoorX07
import Derived.Test.YtplnhbenmgclfaaGreatDoorX01
import Derived.Test.YtplnhbenmgclfaaGreatDoorX05
import Derived.Test.YtplnhbenmgclfaaGreatDoorMD
import Derived.Test.YtplnhbenmgclfaaGreatDoorX00
import Derived.Test.YtplnhbenmgclfaaGreatDoorX02
import Derived.Test.YtplnhbenmgclfaaGreatDoorMC
import Derived.Test.YtplnhbenmgclfaaGreatDoorX04
import Derived.Test.YtplnhbenmgclfaaGreatDoorX06
namespace Go.Proofs.YtplnhbenmgclfaaGreatDoor
open Go.Ab Go.RowKit Go.Dw Go.Shelf
def plR : Nat → List V := fun _ => ptC ++ [.i 0, .i 0, .i 2]
set_option maxRecDepth 100000 in
theorem pl1 : mkS [(7, .box 122 [tksV, .own 8, .i 2]), (8, .row 126 10 1 plR)] 8 = some (.row 126 10 1 plR) := by kernel_rfl
set_option maxRecDepth 100000 in
theorem pl2 (i : Nat) : V.idfL (plR i) = true := by kernel_rfl
set_option maxRecDepth 100000 in
theorem pl3 : Le ⟨mkT [(7, .ref 7 0)], mkS [(7, .box 122 [tksV, .own 8, .i 2]), (8, .row 126 10 1 plR)], 1⟩ ⟨fun t => V.fz 8 (.sl 10 1 plR) (mkT [(7, .ref 7 0)] t), fzS (mkS [(7, .box 122 [tksV, .own 8, .i 2]), (8, .row 126 10 1 plR)]) 8 (.sl 10 1 plR), 1⟩ := le_freezeIn 8 pl1 pl2 rfl (fun _ _ => rfl)
abbrev zzT30 : V := V.sl 2 1 fun (x : Nat) => [V.c (Value.string nA), datV]
abbrev qT30 : Prop := (0 : Int) ≤ (0 : Int) ∧ (0 : Int) < (↑(1 : Nat) : Int)
theorem qT30_ : qT30 := (by omega)
abbrev qT31 : Prop := (8 : Nat) ≤ (10 : Nat)
theorem qT31_ : qT31 := (by omega)
abbrev qT32 : Prop := (9 : Nat) ≤ (10 : Nat)
theorem qT32_ : qT32 := (by omega)
abbrev qT33 : Prop := (0 : Int) ≤ (0 : Int) ∧ (0 : Int) < (↑(2 : Nat) : Int)
theorem qT33_ : qT33 := (by omega)
abbrev qT34 : Prop := (0 : Int) ≤ (1 : Int) ∧ (1 : Int) < (↑(2 : Nat) : Int)
theorem qT34_ : qT34 := (by omega)
abbrev yyT32 : List V := [V.i 0, V.i 0, V.i 2, V.i 0, V.i 0, V.i 0, V.i 500, V.i 0, V.i 0, V.i 2]
abbrev yyT30 : Ob := Ob.row 126 10 1 fun (i : Nat) => List.take (10 : Nat) (List.drop (i * (10 : Nat)) yyT32)
abbrev yyT31 := ((false == true && false == false) = true → (false == true && false == false) = true)
abbrev yyT33 := ((false == true) = true → (false == true) = true)
set_option maxRecDepth 100000 in
theorem newP_ac : AC Tryz.prog 48 [tksV, ptsV] (.tup [.ptr [tksV, .sl 10 1 fun _ => ptC ++ [.i 0, .i 0, .i 2], .i 2], .i 0]) [] := by
 refine acI hTT hMX Tryz.func48 Tryz.ntmps48 fun C hC hF => ?_
 refine aw_seq_k fun K hK => wR 2 ?_
 refine aops_x (M := [24]) hTT 2 [] True.intro ?_
 refine aops_nil (xt_n (hK _ ?_)); clear hK K; refine aw_seq_k fun K hK => ?_; refine aw_seq_k fun K hK => wR 3 ?_
 refine aops_x (M := [24]) hTT 1 [] True.intro ?_
 refine eC (CheckTakes_ac) ?_
 refine aops_x (M := [24]) hTT 1 [] True.intro ?_
 refine aops_nil (xt_n (hK _ ?_)); clear hK K; refine aw_seq_k fun K hK => wR 4 ?_
 refine aops_x (M := [24]) hTT 2 [] True.intro ?_
 refine aops_nil (xt_n (hK _ ?_)); clear hK K; refine w_false (t := false) (by kernel_rfl) rfl ?_
 refine aw_skip ?_
 refine xt_n (hK _ ?_); clear hK K; refine aw_seq_k fun K hK => ?_; refine aw_seq_k fun K hK => wR 5 ?_
 refine aops_x (M := [24]) hTT 3 [] True.intro ?_
 refine aops_nil (xt_n (hK _ ?_)); clear hK K; refine w_false (t := false) (by kernel_rfl) rfl ?_
 refine aw_skip ?_
 refine xt_n (hK _ ?_); clear hK K; refine aw_seq_k fun K hK => wR 6 ?_
 refine aops_x (M := [24]) hTT 4 [(2, .r (pn 24 (V.ref 500024 0) (500024 : Nat) (Ob.box 122 [zzT30, V.nil, V.i 0])))] True.intro ?_
 refine aops_nil (xt_n (hK _ ?_)); clear hK K; refine aw_seq_k fun K hK => ?_; refine aw_seq_k fun K hK => wR 7 ?_
 refine aops_x (M := [24]) hTT 3 [] True.intro ?_
 refine aops_nil (xt_n (hK _ ?_)); clear hK K
 refine aw_block ?_
 refine aw_rounds 3 ?_
 refine awr_succ (m := 2) fun K hK => ?_
 refine aw_seq_k fun K hK => wR 8 ?_
 refine aops_x (M := [24]) hTT 1 [] True.intro ?_
 refine aops_nil (xt_n (hK _ ?_)); clear hK K; refine aw_seq_k fun K hK => ?_; refine w_true (t := true) (by kernel_rfl) rfl ?_
 refine aw_skip ?_
 refine xt_n (hK _ ?_); clear hK K; refine aw_seq_k fun K hK => ?_
 refine aw_block ?_
 refine aw_seq_k fun K hK => wR 9 ?_
 refine aops_x (M := [24]) hTT 6 [(1, .c qT30), (3, .r (pn 9 (V.ref 800009 0) (800009 : Nat) (Ob.box 124 [V.i 0, V.i 0, V.i 0, V.i 0, V.i 0, V.i 0, V.i 0]))), (5, .r (pw ((0 : Nat) + (7 : Nat) ≤ (7 : Nat)) (800009 : Nat) (Ob.box 124 [V.i 0, V.i 0, V.i 2, V.i 0, V.i 0, V.i 0, V.i 500])))] ⟨qT30_, (by omega), True.intro⟩ ?_
 refine aops_nil (xt_n (hK _ ?_)); clear hK K; refine aw_seq_k fun K hK => ?_; refine aw_seq_k fun K hK => wR 10 ?_
 refine aops_x (M := [24]) hTT 2 [(1, .c ((0 : Nat) ≤ (7 : Nat)))] ⟨(by omega), True.intro⟩ ?_
 refine aops_callR [500024] (first := []) (caps := []) (ins' := [Ob.box 122 [zzT30, V.nil, V.i 0]]) (v' := V.b true) (δ := []) (kp := [500024]) (good_ac) (by kernel_rfl) (by kernel_rfl) (by kernel_rfl) (by kernel_rfl) (by kernel_rfl) (by kernel_rfl) (by kernel_rfl) rfl (by kernel_rfl) (by kernel_rfl) ⟨(by kernel_rfl), True.intro⟩ (by kernel_rfl) (by kernel_rfl) (by kernel_rfl) ?_
 refine aops_x (M := [24]) hTT 1 [] True.intro ?_
 refine aops_nil (xt_n (hK _ ?_)); clear hK K; refine w_false (t := false) (by kernel_rfl) rfl ?_
 refine aw_skip ?_
 refine xt_n (hK _ ?_); clear hK K; refine aw_seq_k fun K hK => wD 11 ?_
 refine aops_x (M := [24]) hTT 12 [(0, .c ((0 : Nat) ≤ (7 : Nat))), (5, .c ((2 : Nat) ≤ (3 : Nat))), (7, .c ((3 : Nat) ≤ (7 : Nat))), (8, .i ((0 : Int) + (0 : Int))), (10, .r (pn 10 (V.ref 1000010 0) (1000010 : Nat) (Ob.box 126 [V.i 0, V.i 0, V.i 0, V.i 0, V.i 0, V.i 0, V.i 0, V.i 0, V.i 0, V.i 0]))), (11, .r (pw ((0 : Nat) + (10 : Nat) ≤ (10 : Nat)) (1000010 : Nat) (Ob.box 126 [V.i 0, V.i 0, V.i 2, V.i 0, V.i 0, V.i 0, V.i 500, V.i 0, V.i 0, V.i 0])))] ⟨(by omega), (by omega), (by omega), (by omega), (by omega), True.intro⟩ ?_
 refine aops_nil ⟨by kernel_rfl, ?_⟩; refine xt_n (hK _ ?_); clear hK K; refine aw_seq_k fun K hK => wR 12 ?_
 refine aops_x (M := [24]) hTT 10 [(1, .c qT31), (3, .c ((2 : Nat) ≤ (7 : Nat))), (4, .i ((0 : Int) + (2 : Int))), (6, .c ((1 : Nat) ≤ (7 : Nat))), (7, .i ((2 : Int) - (0 : Int))), (9, .r (pw ((9 : Nat) + (1 : Nat) ≤ (10 : Nat)) (1000010 : Nat) (Ob.box 126 yyT32)))] ⟨qT31_, (by omega), (by omega), (by omega), (by omega), (by omega), True.intro⟩ ?_
 refine aops_nil (xt_n (hK _ ?_)); clear hK K; refine aw_seq_k fun K hK => wD 13 ?_
 refine aops_x (M := [24]) hTT 11 [(4, .c ((1 : Nat) ≤ (3 : Nat))), (5, .c ((0 : Nat) ≤ (10 : Nat))), (7, .r (PR.mk (some (62 : Nat)) (some ((1 : Nat) ≤ (1099511627776 : Nat))) (V.own 1200062) [((1200062 : Nat), some (yyT30))] false)), (10, .r (pw ((1 : Nat) + (1 : Nat) ≤ (3 : Nat)) (500024 : Nat) (Ob.box 122 [zzT30, V.own 1200062, V.i 0])))] ⟨(by omega), (by omega), (by omega), (by omega), True.intro⟩ ?_
 refine aops_nil ⟨by kernel_rfl, ?_⟩; refine xt_n (hK _ ?_); clear hK K; refine wR 14 ?_
 refine aops_x (M := [24]) hTT 6 [(2, .c qT32), (5, .r (pw ((2 : Nat) + (1 : Nat) ≤ (3 : Nat)) (500024 : Nat) (Ob.box 122 [zzT30, V.own 1200062, V.i 2])))] ⟨qT32_, (by omega), True.intro⟩ ?_
 refine aops_nil ?_; refine xb_n ?_; refine xt_n (hK _ ?_); clear hK K; refine wR 15 ?_
 refine aops_x (M := [24]) hTT 2 [(0, .i ((0 : Int) + (1 : Int)))] ⟨(by omega), True.intro⟩ ?_
 refine aops_nil (xt_n (hK _ ?_)); clear hK K
 refine awr_succ (m := 1) fun K hK => ?_
 refine aw_seq_k fun K hK => wR 16 ?_
 refine aops_x (M := [24]) hTT 1 [] True.intro ?_
 refine aops_nil (xt_n (hK _ ?_)); clear hK K; refine aw_seq_k fun K hK => ?_; refine w_false (t := false) (by kernel_rfl) rfl ?_
 refine aw_exit ?_
 refine xt_x ?_; refine xt_x ?_
 refine xb_same ?_
 refine xt_n ?_; clear hK K; clear hK K; refine hK _ ?_; clear hK K; refine aw_seq_k fun K hK => wR 17 ?_
 refine aops_x (M := [24]) hTT 1 [] True.intro ?_
 refine aops_nil (xt_n (hK _ ?_)); clear hK K; refine aw_seq_k fun K hK => ?_; refine aw_seq_k fun K hK => wR 18 ?_
 refine aops_x (M := [24]) hTT 6 [(3, .c ((1 : Nat) ≤ (3 : Nat)))] ⟨(by omega), True.intro⟩ ?_
 refine aops_nil (xt_n (hK _ ?_)); clear hK K
 refine aw_block ?_
 refine aw_rounds 3 ?_
 refine awr_succ (m := 2) fun K hK => ?_
 refine aw_seq_k fun K hK => wR 19 ?_
 refine aops_x (M := [24]) hTT 1 [] True.intro ?_
 refine aops_nil (xt_n (hK _ ?_)); clear hK K; refine aw_seq_k fun K hK => ?_; refine w_true (t := true) (by kernel_rfl) rfl ?_
 refine aw_skip ?_
 refine xt_n (hK _ ?_); clear hK K; refine aw_seq_k fun K hK => ?_
 refine aw_block ?_
 refine aw_seq_k fun K hK => wR 20 ?_
 refine aops_x (M := [24]) hTT 6 [(1, .c qT30), (2, .c ((0 : Nat) < (1 : Nat) ∧ (0 : Nat) ≤ (10 : Nat))), (3, .r (pn 13 (V.ref 1900013 0) (1900013 : Nat) (Ob.box 126 [V.i 0, V.i 0, V.i 0, V.i 0, V.i 0, V.i 0, V.i 0, V.i 0, V.i 0, V.i 0]))), (5, .r (pw ((0 : Nat) + (10 : Nat) ≤ (10 : Nat)) (1900013 : Nat) (Ob.box 126 yyT32)))] ⟨qT30_, (by omega), (by omega), True.intro⟩ ?_
 refine aops_nil (xt_n (hK _ ?_)); clear hK K; refine aw_seq_k fun K hK => ?_; refine aw_seq_k fun K hK => wD 21 ?_
 refine aops_n hTT (M := [24]) (n := 36) [pv 81 (V.i 0), pv 82 (V.b false), pv 83 (V.b false), pc 84 ((True ∧ True) ∧ ((false == true) = true → True)) (V.gd (false == true) (V.ref 1900013 9)), pc 85 ((yyT33 ∧ True) ∧ ((false == true) = true → (9 : Nat) ≤ (10 : Nat))) (V.gd (false == true) (V.i 2)), pc 86 ((True ∧ True) ∧ ((false == true) = true → True)) (V.gd (false == true) (V.ref 500024 0)), pc 87 ((yyT33 ∧ True) ∧ ((false == true) = true → True)) (V.gd (false == true) (V.ref 500024 0)), pc 88 ((yyT33 ∧ True) ∧ ((false == true) = true → True)) (V.gd (false == true) (V.ref 500024 1)), pc 89 ((yyT33 ∧ True) ∧ ((false == true) = true → (1 : Nat) ≤ (3 : Nat))) (V.gd (false == true) (V.own 1200062)), pc 90 ((True ∧ True) ∧ ((false == true) = true → True)) (V.gd (false == true) (V.i 0)), pc 91 ((yyT33 ∧ True ∧ True) ∧ ((false == true) = true → (-9223372036854775808 : Int) ≤ (0 : Int) - (1 : Int) ∧ (0 : Int) - (1 : Int) ≤ (9223372036854775807 : Int))) (V.gd (false == true) (V.i (-1))), pc 92 ((yyT33 ∧ yyT33 ∧ True) ∧ ((false == true) = true → (0 : Int) ≤ (-1 : Int) ∧ (-1 : Int) < (↑(1 : Nat) : Int))) (V.gd (false == true) (V.oel 1200062 10 (Int.toNat (-1 : Int)) (0 : Nat))), pc 93 ((yyT33 ∧ True) ∧ ((false == true) = true → True)) (V.gd (false == true) (V.oel 1200062 10 (Int.toNat (-1 : Int)) (9 : Nat))), pc 94 ((yyT33 ∧ True) ∧ ((false == true) = true → Int.toNat (-1 : Int) < (1 : Nat) ∧ (9 : Nat) ≤ (10 : Nat))) (V.gd (false == true) (V.i 2)), pc 95 ((yyT33 ∧ yyT33 ∧ True) ∧ ((false == true) = true → True)) (V.gd (false == true) (V.b false)), pc 96 ((yyT33 ∧ True) ∧ ((false == true) = true → True)) (V.gd (false == true) (V.b false)), pc 97 ((True ∧ True) ∧ ((false == true && false == false) = true → True)) (V.gd (false == true && false == false) (V.ref 1900013 8)), pc 98 ((yyT31 ∧ True) ∧ ((false == true && false == false) = true → (8 : Nat) ≤ (10 : Nat))) (V.gd (false == true && false == false) (V.i 0)), pc 99 ((True ∧ True) ∧ ((false == true && false == false) = true → True)) (V.gd (false == true && false == false) (V.ref 500024 0)), pc 100 ((yyT31 ∧ True) ∧ ((false == true && false == false) = true → True)) (V.gd (false == true && false == false) (V.ref 500024 0)), pc 101 ((yyT31 ∧ True) ∧ ((false == true && false == false) = true → True)) (V.gd (false == true && false == false) (V.ref 500024 1)), pc 102 ((yyT31 ∧ True) ∧ ((false == true && false == false) = true → (1 : Nat) ≤ (3 : Nat))) (V.gd (false == true && false == false) (V.own 1200062)), pc 103 ((True ∧ True) ∧ ((false == true && false == false) = true → True)) (V.gd (false == true && false == false) (V.i 0)), pc 104 ((yyT31 ∧ True ∧ True) ∧ ((false == true && false == false) = true → (-9223372036854775808 : Int) ≤ (0 : Int) - (1 : Int) ∧ (0 : Int) - (1 : Int) ≤ (9223372036854775807 : Int))) (V.gd (false == true && false == false) (V.i (-1))), pc 105 ((yyT31 ∧ yyT31 ∧ True) ∧ ((false == true && false == false) = true → (0 : Int) ≤ (-1 : Int) ∧ (-1 : Int) < (↑(1 : Nat) : Int))) (V.gd (false == true && false == false) (V.oel 1200062 10 (Int.toNat (-1 : Int)) (0 : Nat))), pc 106 ((yyT31 ∧ True) ∧ ((false == true && false == false) = true → True)) (V.gd (false == true && false == false) (V.oel 1200062 10 (Int.toNat (-1 : Int)) (8 : Nat))), pc 107 ((yyT31 ∧ True) ∧ ((false == true && false == false) = true → Int.toNat (-1 : Int) < (1 : Nat) ∧ (8 : Nat) ≤ (10 : Nat))) (V.gd (false == true && false == false) (V.i 0)), pc 108 ((yyT31 ∧ yyT31 ∧ True) ∧ ((false == true && false == false) = true → True)) (V.gd (false == true && false == false) (V.b false)), pc 109 (yyT33 ∧ ((false == true) = true → True) ∧ ((false == true) = true → false = false → (false == true && false == false) = true)) (V.gd (false == true) (V.b false)), pc 110 ((false = true → (false == true) = true) ∧ True) (V.b false), pv 111 (V.b false), pc 112 ((True ∧ True) ∧ ((false == false) = true → True)) (V.gd (false == false) (V.ref 1900013 8)), pc 113 ((((false == false) = true → (false == false) = true) ∧ True) ∧ ((false == false) = true → (8 : Nat) ≤ (10 : Nat))) (V.gd (false == false) (V.i 0)), pc 114 ((True ∧ True) ∧ ((false == false) = true → True)) (V.gd (false == false) (V.i 0)), pc 115 ((((false == false) = true → (false == false) = true) ∧ ((false == false) = true → (false == false) = true) ∧ True) ∧ ((false == false) = true → True)) (V.gd (false == false) (V.b false)), pc 116 (True ∧ (false = false → (false == false) = true)) (V.b false)] (by kernel_rfl) (by kernel_rfl) ⟨⟨⟨True.intro, True.intro⟩, (fun _ => True.intro)⟩, ⟨⟨(by (exact fun h => h)), True.intro⟩, (by (intro _; simp; done))⟩, ⟨⟨True.intro, True.intro⟩, (fun _ => True.intro)⟩, ⟨⟨(by (exact fun h => h)), True.intro⟩, (fun _ => True.intro)⟩, ⟨⟨(by (exact fun h => h)), True.intro⟩, (fun _ => True.intro)⟩, ⟨⟨(by (exact fun h => h)), True.intro⟩, (by (intro _; simp; done))⟩, ⟨⟨True.intro, True.intro⟩, (fun _ => True.intro)⟩, ⟨⟨(by (exact fun h => h)), ⟨True.intro, True.intro⟩⟩, (by (intro _; simp; done))⟩, ⟨⟨(by (exact fun h => h)), ⟨(by (exact fun h => h)), True.intro⟩⟩, (by (intro h; simp at h; done))⟩, ⟨⟨(by (exact fun h => h)), True.intro⟩, (fun _ => True.intro)⟩, ⟨⟨(by (exact fun h => h)), True.intro⟩, (by (intro _; simp; done))⟩, ⟨⟨(by (exact fun h => h)), ⟨(by (exact fun h => h)), True.intro⟩⟩, (fun _ => True.intro)⟩, ⟨⟨(by (exact fun h => h)), True.intro⟩, (fun _ => True.intro)⟩, ⟨⟨True.intro, True.intro⟩, (fun _ => True.intro)⟩, ⟨⟨(by (exact fun h => h)), True.intro⟩, (by (intro _; simp; done))⟩, ⟨⟨True.intro, True.intro⟩, (fun _ => True.intro)⟩, ⟨⟨(by (exact fun h => h)), True.intro⟩, (fun _ => True.intro)⟩, ⟨⟨(by (exact fun h => h)), True.intro⟩, (fun _ => True.intro)⟩, ⟨⟨(by (exact fun h => h)), True.intro⟩, (by (intro _; simp; done))⟩, ⟨⟨True.intro, True.intro⟩, (fun _ => True.intro)⟩, ⟨⟨(by (exact fun h => h)), ⟨True.intro, True.intro⟩⟩, (by (intro _; simp; done))⟩, ⟨⟨(by (exact fun h => h)), ⟨(by (exact fun h => h)), True.intro⟩⟩, (by (intro h; simp at h; done))⟩, ⟨⟨(by (exact fun h => h)), True.intro⟩, (fun _ => True.intro)⟩, ⟨⟨(by (exact fun h => h)), True.intro⟩, (by (intro _; simp; done))⟩, ⟨⟨(by (exact fun h => h)), ⟨(by (exact fun h => h)), True.intro⟩⟩, (fun _ => True.intro)⟩, ⟨(by (exact fun h => h)), ⟨(fun _ => True.intro), (by (intro h; simp at h; done))⟩⟩, ⟨(by (exact fun h => h)), True.intro⟩, ⟨⟨True.intro, True.intro⟩, (fun _ => True.intro)⟩, ⟨⟨(by (exact fun h => h)), True.intro⟩, (by (intro _; simp; done))⟩, ⟨⟨True.intro, True.intro⟩, (fun _ => True.intro)⟩, ⟨⟨(by (exact fun h => h)), ⟨(by (exact fun h => h)), True.intro⟩⟩, (fun _ => True.intro)⟩, ⟨True.intro, (by (intro h; rw [h]; rfl))⟩, True.intro⟩ ?_
 refine aops_nil ⟨by kernel_rfl, ?_⟩; refine xt_n (hK _ ?_); clear hK K; refine w_false (t := false) (by kernel_rfl) rfl ?_
 refine aw_skip ?_
 refine xt_n (hK _ ?_); clear hK K; refine aw_seq_k fun K hK => wR 22 ?_
 refine aops_x (M := [24]) hTT 2 [] True.intro ?_
 refine aops_nil (xt_n (hK _ ?_)); clear hK K; refine w_false (t := false) (by kernel_rfl) rfl ?_
 refine aw_skip ?_
 refine xb_n ?_; refine xt_n (hK _ ?_); clear hK K; refine wR 23 ?_
 refine aops_x (M := [24]) hTT 2 [(0, .i ((0 : Int) + (1 : Int)))] ⟨(by omega), True.intro⟩ ?_
 refine aops_nil (xt_n (hK _ ?_)); clear hK K
 refine awr_succ (m := 1) fun K hK => ?_
 refine aw_seq_k fun K hK => wR 24 ?_
 refine aops_x (M := [24]) hTT 1 [] True.intro ?_
 refine aops_nil (xt_n (hK _ ?_)); clear hK K; refine aw_seq_k fun K hK => ?_; refine w_false (t := false) (by kernel_rfl) rfl ?_
 refine aw_exit ?_
 refine xt_x ?_; refine xt_x ?_
 refine xb_same ?_
 refine xt_n ?_; clear hK K; clear hK K; refine hK _ ?_; clear hK K; refine aw_seq_k fun K hK => ?_; refine aw_seq_k fun K hK => wR 25 ?_
 refine aops_x (M := [24]) hTT 5 [(3, .c ((2 : Nat) ≤ (3 : Nat)))] ⟨(by omega), True.intro⟩ ?_
 refine aops_nil (xt_n (hK _ ?_)); clear hK K; refine w_false (t := false) (by kernel_rfl) rfl ?_
 refine aw_skip ?_
 refine xt_n (hK _ ?_); clear hK K; refine aw_seq_k fun K hK => ?_
 refine w_le (s' := ⟨mkT [(7, .ref 7 0)], mkS [(7, .box 122 [tksV, .own 8, .i 2]), (8, .row 126 10 1 plR)], 1⟩) ?_ ?_
 ·
  refine le_ren (tl := [(7, V.ref 7 0)]) (sl := [(7, Ob.box 122 [zzT30, V.own 8, V.i 2]), (8, Ob.row 126 10 1 plR)]) [(7, 500024), (8, 1200062)] (.cons (by kernel_rfl) .nil) (.cons ⟨Ob.box 122 [zzT30, V.own 1200062, V.i 2], (by kernel_rfl), .box (by kernel_rfl)⟩ (.cons ⟨yyT30, (by kernel_rfl), .row (by kernel_rfl) ?_⟩ .nil)) (by kernel_rfl) (by kernel_rfl)
  intro i hi
  obtain rfl : i = 0 := by omega
  rfl
 refine w_le pl3 ?_
 refine w_le (le_freezeBox (t := (122 : Nat)) (cs := [zzT30, V.sl 10 1 plR, V.i 2]) 7 (by kernel_rfl) (by kernel_rfl)) ?_
 refine wR 2 ?_; refine aX hTT 3 [] True.intro ?_; refine aops_nil (xt_n (hK _ ?_)); clear hK K
 refine aw_ret ?_
 refine rP (V.tup [V.ptr [zzT30, V.sl 10 1 plR, V.i 2], V.i 0])
def gV : V := .ptr [tksV, .sl 10 1 fun _ => ptC ++ [.i 0, .i 0, .i 2], .i 2]
set_option maxRecDepth 100000 in
theorem tGain_ac (k : Int) (hk : k = 0 ∨ k = 1) : AC Tryz.prog 102 [.agg (ptC ++ [.i 0, .i 0, .i 2]), .i k, .i 500] (.agg [.i 500, .i 1000]) [] := by
 rcases hk with rfl | rfl
 ·
  refine acI hTT hMX Tryz.func102 Tryz.ntmps102 fun C hC hF => ?_
  refine aw_seq_k fun K hK => wR 2 ?_; refine aX hTT 2 [(1, .r (pn 6 (V.ref 100006 0) (100006 : Nat) (Ob.box 218 [V.i 0, V.i 0])))] True.intro ?_; refine aops_nil (xt_n (hK _ ?_)); clear hK K; refine aw_seq_k fun K hK => wD 3 ?_; refine aX hTT 21 [(5, .i ((0 : Int) + (1 : Int))), (10, .i ((2 : Int) - (0 : Int))), (12, .i ((2 : Int) - (0 : Int))), (13, .i ((2 : Int) - (1 : Int))), (18, .i ((0 : Int) + (1 : Int)))] ⟨(by omega), (by omega), (by omega), (by omega), (by omega), True.intro⟩ ?_; refine aops_nil ⟨by kernel_rfl, ?_⟩; refine xt_n (hK _ ?_); clear hK K; refine aw_seq_k fun K hK => wR 4 ?_; refine aX hTT 17 [(2, .i ((500 : Int) * (1 : Int))), (4, .i ((500 : Int) * (1 : Int))), (8, .i ((0 : Int) + (1 : Int))), (9, .i ((1000 : Int) * (1 : Int))), (13, .i ((0 : Int) + (1 : Int))), (14, .i ((1000 : Int) * (1 : Int))), (16, .r (pw ((0 : Nat) + (2 : Nat) ≤ (2 : Nat)) (100006 : Nat) (Ob.box 218 [V.i 500, V.i 1000])))] ⟨(by omega), (by omega), (by omega), (by omega), (by omega), (by omega), (by omega), True.intro⟩ ?_; refine aops_nil (xt_n (hK _ ?_)); clear hK K
  refine aw_ret ?_
  refine rP (V.agg [V.i 500, V.i 1000])
 ·
  refine acI hTT hMX Tryz.func102 Tryz.ntmps102 fun C hC hF => ?_
  refine aw_seq_k fun K hK => wR 2 ?_; refine aX hTT 2 [(1, .r (pn 6 (V.ref 100006 0) (100006 : Nat) (Ob.box 218 [V.i 0, V.i 0])))] True.intro ?_; refine aops_nil (xt_n (hK _ ?_)); clear hK K; refine aw_seq_k fun K hK => wD 3 ?_; refine aX hTT 21 [(5, .i ((0 : Int) + (1 : Int))), (10, .i ((2 : Int) - (0 : Int))), (12, .i ((2 : Int) - (1 : Int))), (13, .i ((1 : Int) - (1 : Int))), (18, .i ((0 : Int) + (1 : Int)))] ⟨(by omega), (by omega), (by omega), (by omega), (by omega), True.intro⟩ ?_; refine aops_nil ⟨by kernel_rfl, ?_⟩; refine xt_n (hK _ ?_); clear hK K; refine aw_seq_k fun K hK => wR 4 ?_; refine aX hTT 17 [(2, .i ((500 : Int) * (1 : Int))), (4, .i ((500 : Int) * (1 : Int))), (8, .i ((0 : Int) + (1 : Int))), (9, .i ((1000 : Int) * (1 : Int))), (13, .i ((0 : Int) + (1 : Int))), (14, .i ((1000 : Int) * (1 : Int))), (16, .r (pw ((0 : Nat) + (2 : Nat) ≤ (2 : Nat)) (100006 : Nat) (Ob.box 218 [V.i 500, V.i 1000])))] ⟨(by omega), (by omega), (by omega), (by omega), (by omega), (by omega), (by omega), True.intro⟩ ?_; refine aops_nil (xt_n (hK _ ?_)); clear hK K
  refine aw_ret ?_
  refine rP (V.agg [V.i 500, V.i 1000])
set_option maxRecDepth 100000 in
theorem gOf_ac (n : Int) (hn : -100 ≤ n ∧ n ≤ 100) : AC Tryz.prog 103 [.agg [.i 500, .i 1000], .i n] (.i ((n * 500).tdiv 1000)) [] := by
 refine acI hTT hMX Tryz.func103 Tryz.ntmps103 fun C hC hF => ?_
 refine aw_seq_k fun K hK => wR 2 ?_; refine aX hTT 2 [] True.intro ?_; refine aops_nil (xt_n (hK _ ?_)); clear hK K; refine aw_seq_k fun K hK => wR 3 ?_; refine aX hTT 8 [(3, .i (n * (500 : Int))), (6, .c ((0 : Int) < (1000 : Int) ∧ (-9223372036854775808 : Int) ≤ n * (500 : Int) ∧ n * (500 : Int) ≤ (9223372036854775807 : Int)))] ⟨(by omega), ⟨(by omega), (by omega)⟩, True.intro⟩ ?_; refine aops_nil (xt_n (hK _ ?_)); clear hK K
 refine aw_ret ?_
 refine rP (V.i (Int.tdiv (n * (500 : Int)) (1000 : Int)))
set_option maxRecDepth 100000 in
theorem sound0_ac : AC Tryz.prog 50 [gV, .agg (ptC ++ [.i 0, .i 0, .i 2]), .i 0, .i 500] (.agg [.i 5, .i (-5)]) [] := by
 refine acI hTT hMX Tryz.func50 Tryz.ntmps50 fun C hC hF => ?_
 refine aw_seq_k fun K hK => wR 2 ?_; refine aX hTT 2 [(1, .r (pn 8 (V.ref 100008 0) (100008 : Nat) (Ob.box 55 [V.i 0, V.i 0])))] True.intro ?_; refine aops_nil (xt_n (hK _ ?_)); clear hK K; refine aw_seq_k fun K hK => wR 3 ?_; refine aX hTT 3 [] True.intro ?_
 refine eC (tGain_ac 0 (by decide)) ?_
 refine aX hTT 2 [] True.intro ?_; refine aops_nil (xt_n (hK _ ?_)); clear hK K; refine aw_seq_k fun K hK => wD 4 ?_; refine aX hTT 19 [(7, .c qT30), (14, .i ((0 : Int) + (0 : Int))), (15, .c qT33), (17, .r (pn 10 (V.ref 300010 0) (300010 : Nat) (Ob.box 55 [V.i 0, V.i 0]))), (18, .r (pw ((0 : Nat) + (2 : Nat) ≤ (2 : Nat)) (300010 : Nat) (Ob.box 55 [V.i 10, V.i (-10)])))] ⟨qT30_, (by omega), qT33_, (by omega), True.intro⟩ ?_; refine aops_nil ⟨by kernel_rfl, ?_⟩; refine xt_n (hK _ ?_); clear hK K; refine aw_seq_k fun K hK => wD 5 ?_; refine aX hTT 3 [(2, .c ((0 : Nat) ≤ (2 : Nat)))] ⟨(by omega), True.intro⟩ ?_
 refine e_call (first := [V.agg [V.i 500, V.i 1000]]) (caps := []) (gOf_ac 10 (by decide)) (by kernel_rfl) (by kernel_rfl) (by kernel_rfl) (by kernel_rfl) (by kernel_rfl) ?_
 refine aX hTT 3 [(2, .c ((1 : Nat) ≤ (2 : Nat)))] ⟨(by omega), True.intro⟩ ?_
 refine e_call (first := [V.agg [V.i 500, V.i 1000]]) (caps := []) (gOf_ac (-10) (by decide)) (by kernel_rfl) (by kernel_rfl) (by kernel_rfl) (by kernel_rfl) (by kernel_rfl) ?_
 refine aX hTT 2 [(1, .r (pw ((0 : Nat) + (2 : Nat) ≤ (2 : Nat)) (100008 : Nat) (Ob.box 55 [V.i 5, V.i (-5)])))] ⟨(by omega), True.intro⟩ ?_; refine aops_nil ⟨by kernel_rfl, ?_⟩; refine xt_n (hK _ ?_); clear hK K
 refine aw_ret ?_
 refine rP (V.agg [V.i 5, V.i (-5)])
set_option maxRecDepth 100000 in
theorem sound1_ac : AC Tryz.prog 50 [gV, .agg (ptC ++ [.i 0, .i 0, .i 2]), .i 1, .i 500] (.agg [.i 2, .i 0]) [] := by
 refine acI hTT hMX Tryz.func50 Tryz.ntmps50 fun C hC hF => ?_
 refine aw_seq_k fun K hK => wR 2 ?_; refine aX hTT 2 [(1, .r (pn 8 (V.ref 100008 0) (100008 : Nat) (Ob.box 55 [V.i 0, V.i 0])))] True.intro ?_; refine aops_nil (xt_n (hK _ ?_)); clear hK K; refine aw_seq_k fun K hK => wR 3 ?_; refine aX hTT 3 [] True.intro ?_
 refine eC (tGain_ac 1 (by decide)) ?_
 refine aX hTT 2 [] True.intro ?_; refine aops_nil (xt_n (hK _ ?_)); clear hK K; refine aw_seq_k fun K hK => wD 4 ?_; refine aX hTT 19 [(7, .c qT30), (14, .i ((0 : Int) + (1 : Int))), (15, .c qT34), (17, .r (pn 10 (V.ref 300010 0) (300010 : Nat) (Ob.box 55 [V.i 0, V.i 0]))), (18, .r (pw ((0 : Nat) + (2 : Nat) ≤ (2 : Nat)) (300010 : Nat) (Ob.box 55 [V.i 5, V.i 0])))] ⟨qT30_, (by omega), qT34_, (by omega), True.intro⟩ ?_; refine aops_nil ⟨by kernel_rfl, ?_⟩; refine xt_n (hK _ ?_); clear hK K; refine aw_seq_k fun K hK => wD 5 ?_; refine aX hTT 3 [(2, .c ((0 : Nat) ≤ (2 : Nat)))] ⟨(by omega), True.intro⟩ ?_
 refine e_call (first := [V.agg [V.i 500, V.i 1000]]) (caps := []) (gOf_ac 5 (by decide)) (by kernel_rfl) (by kernel_rfl) (by kernel_rfl) (by kernel_rfl) (by kernel_rfl) ?_
 refine aX hTT 3 [(2, .c ((1 : Nat) ≤ (2 : Nat)))] ⟨(by omega), True.intro⟩ ?_
 refine e_call (first := [V.agg [V.i 500, V.i 1000]]) (caps := []) (gOf_ac 0 (by decide)) (by kernel_rfl) (by kernel_rfl) (by kernel_rfl) (by kernel_rfl) (by kernel_rfl) ?_
 refine aX hTT 2 [(1, .r (pw ((0 : Nat) + (2 : Nat) ≤ (2 : Nat)) (100008 : Nat) (Ob.box 55 [V.i 2, V.i 0])))] ⟨(by omega), True.intro⟩ ?_; refine aops_nil ⟨by kernel_rfl, ?_⟩; refine xt_n (hK _ ?_); clear hK K
 refine aw_ret ?_
 refine rP (V.agg [V.i 2, V.i 0])
set_option maxRecDepth 100000 in
theorem tSum_ac (a b c d : Int) (h : (-100 ≤ a ∧ a ≤ 100) ∧ (-100 ≤ b ∧ b ≤ 100) ∧ (-100 ≤ c ∧ c ≤ 100) ∧ -100 ≤ d ∧ d ≤ 100) : AC Tryz.prog 49 [.agg [.i a, .i b], .agg [.i c, .i d]] (.agg [.i (a + c), .i (b + d)]) [] := by
 refine acI hTT hMX Tryz.func49 Tryz.ntmps49 fun C hC hF => ?_
 refine aw_seq_k fun K hK => wR 2 ?_; refine aX hTT 3 [(2, .r (pn 4 (V.ref 100004 0) (100004 : Nat) (Ob.box 55 [V.i 0, V.i 0])))] True.intro ?_; refine aops_nil (xt_n (hK _ ?_)); clear hK K; refine aw_seq_k fun K hK => wR 3 ?_; refine aX hTT 12 [(4, .i (a + c)), (9, .i (b + d)), (11, .r (pw ((0 : Nat) + (2 : Nat) ≤ (2 : Nat)) (100004 : Nat) (Ob.box 55 [V.i (a + c), V.i (b + d)])))] ⟨(by omega), (by omega), (by omega), True.intro⟩ ?_; refine aops_nil (xt_n (hK _ ?_)); clear hK K
 refine aw_ret ?_
 refine rP (V.agg [V.i (a + c), V.i (b + d)])
def rR : Nat → List V := fun j => [.i (gi [5, 2] j), .i (gi [-5, 0] j)]
theorem tCheck2 : AC Tryz.prog 39 [.sl 2 2 rR] (.i 0) [] :=
 (tCheckSamples_ac [(5, -5), (2, 0)] (by decide)).conv (show A2 [_] [_] from ⟨RImp.rows rfl fun i hi => by
  have hi : i < 2 := hi
  rcases (by omega : i = 0 ∨ i = 1) with rfl | rfl <;> rfl, trivial⟩)
theorem rR_idf (i : Nat) : V.idfL (rR i) = true := rfl
theorem tCheckR : AM Tryz.prog 39 [.own 500] [.row 55 2 2 rR] (.i 0) [some (.row 55 2 2 rR)] [] :=
 AC.rowK tCheck2 55 (sz := 2) (n := 2) (row := rR) rfl rfl (by decide) rR_idf rfl (by simp)
abbrev yyT35 : List V := [V.c (Value.int IntKind.i64 0), V.c (Value.int IntKind.i64 0)]
abbrev yyT34 : Ob := Ob.row 55 2 2 fun (j : Nat) => if j = (1 : Nat) then [V.i 2, V.i 0] else if j = (0 : Nat) then [V.i 5, V.i (-5)] else yyT35
set_option maxRecDepth 100000 in
theorem Render0_ac : AC Tryz.prog 17 [tksV, ptsV] (.tup [.own 0, .i 0]) [.row 55 2 2 fun i => [.i (gp [(5, -5), (2, 0)] i).1, .i (gp [(5, -5), (2, 0)] i).2]] := by
 refine acI hTT hMX Tryz.func17 Tryz.ntmps17 fun C hC hF => ?_
 refine aw_seq_k fun K hK => wR 2 ?_; refine aX hTT 2 [] True.intro ?_; refine aops_nil (xt_n (hK _ ?_)); clear hK K; refine aw_seq_k fun K hK => wR 3 ?_; refine aX hTT 2 [] True.intro ?_
 refine eC (newP_ac) ?_
 refine aX hTT 5 [] True.intro ?_; refine aops_nil (xt_n (hK _ ?_)); clear hK K; refine aw_seq_k fun K hK => ?_; refine aw_seq_k fun K hK => wR 4 ?_; refine aX hTT 2 [] True.intro ?_; refine aops_nil (xt_n (hK _ ?_)); clear hK K; refine w_false (t := false) (by kernel_rfl) rfl ?_
 refine aw_skip ?_
 refine xt_n (hK _ ?_); clear hK K; refine aw_seq_k fun K hK => wR 5 ?_; refine aX hTT 6 [(4, .r (PR.mk (some (25 : Nat)) (some ((0 : Int) ≤ (2 : Int) ∧ (2 : Int) ≤ (2 : Int) ∧ (2 : Int) ≤ (1099511627776 : Int))) (V.own 400025) [((400025 : Nat), some (Ob.row 55 2 2 fun (x : Nat) => yyT35))] false))] ⟨⟨(by omega), (by omega)⟩, True.intro⟩ ?_; refine aops_nil (xt_n (hK _ ?_)); clear hK K; refine aw_seq_k fun K hK => ?_; refine aw_seq_k fun K hK => wR 6 ?_; refine aX hTT 6 [] True.intro ?_; refine aops_nil (xt_n (hK _ ?_)); clear hK K
 refine aw_block ?_
 refine aw_rounds 3 ?_
 refine awr_succ (m := 2) fun K hK => ?_
 refine aw_seq_k fun K hK => wR 7 ?_; refine aX hTT 1 [] True.intro ?_; refine aops_nil (xt_n (hK _ ?_)); clear hK K; refine aw_seq_k fun K hK => ?_; refine w_true (t := true) (by kernel_rfl) rfl ?_
 refine aw_skip ?_
 refine xt_n (hK _ ?_); clear hK K; refine aw_seq_k fun K hK => ?_
 refine aw_block ?_
 refine aw_seq_k fun K hK => wR 8 ?_; refine aX hTT 4 [(0, .c qT30), (2, .r (pn 10 (V.ref 700010 0) (700010 : Nat) (Ob.box 126 [V.i 0, V.i 0, V.i 0, V.i 0, V.i 0, V.i 0, V.i 0, V.i 0, V.i 0, V.i 0]))), (3, .r (pw ((0 : Nat) + (10 : Nat) ≤ (10 : Nat)) (700010 : Nat) (Ob.box 126 [V.i 0, V.i 0, V.i 2, V.i 0, V.i 0, V.i 0, V.i 500, V.i 0, V.i 0, V.i 2])))] ⟨qT30_, (by omega), True.intro⟩ ?_; refine aops_nil (xt_n (hK _ ?_)); clear hK K; refine aw_seq_k fun K hK => wR 9 ?_; refine aX hTT 3 [(1, .c qT31)] ⟨qT31_, True.intro⟩ ?_; refine aops_nil (xt_n (hK _ ?_)); clear hK K
 refine aw_block ?_
 refine aw_rounds 3 ?_
 refine awr_succ (m := 2) fun K hK => ?_
 refine aw_seq_k fun K hK => ?_; refine aw_seq_k fun K hK => wR 10 ?_; refine aX hTT 4 [(2, .c qT32)] ⟨qT32_, True.intro⟩ ?_; refine aops_nil (xt_n (hK _ ?_)); clear hK K; refine w_true (t := true) (by kernel_rfl) rfl ?_
 refine aw_skip ?_
 refine xt_n (hK _ ?_); clear hK K; refine aw_seq_k fun K hK => ?_
 refine aw_block ?_
 refine wD 11 ?_; refine aX hTT 15 [(4, .c qT33), (5, .c ((0 : Nat) < (2 : Nat) ∧ (0 : Nat) ≤ (2 : Nat))), (7, .c ((0 : Nat) ≤ (10 : Nat))), (10, .c qT31), (11, .i ((0 : Int) - (0 : Int))), (14, .c ((6 : Nat) ≤ (10 : Nat)))] ⟨qT33_, (by omega), (by omega), qT31_, (by omega), (by omega), True.intro⟩ ?_
 refine eC (sound0_ac) ?_
 skip
 refine eC (tSum_ac 0 0 5 (-5) (by decide)) ?_
 refine aX hTT 2 [(0, .c qT33), (1, .r (pw ((0 : Nat) < (2 : Nat) ∧ (0 : Nat) + (2 : Nat) ≤ (2 : Nat)) (400025 : Nat) (Ob.row 55 2 2 fun (j : Nat) => if j = (0 : Nat) then [V.i 5, V.i (-5)] else yyT35)))] ⟨qT33_, (by omega), True.intro⟩ ?_; refine aops_nil ⟨by kernel_rfl, ?_⟩; refine xb_n ?_; refine xt_n (hK _ ?_); clear hK K; refine wR 12 ?_; refine aX hTT 3 [(1, .i ((0 : Int) + (1 : Int)))] ⟨(by omega), True.intro⟩ ?_; refine aops_nil (xt_n (hK _ ?_)); clear hK K
 refine awr_succ (m := 1) fun K hK => ?_
 refine aw_seq_k fun K hK => ?_; refine aw_seq_k fun K hK => wR 13 ?_; refine aX hTT 4 [(2, .c qT32)] ⟨qT32_, True.intro⟩ ?_; refine aops_nil (xt_n (hK _ ?_)); clear hK K; refine w_true (t := true) (by kernel_rfl) rfl ?_
 refine aw_skip ?_
 refine xt_n (hK _ ?_); clear hK K; refine aw_seq_k fun K hK => ?_
 refine aw_block ?_
 refine wD 14 ?_; refine aX hTT 15 [(4, .c qT34), (5, .c ((1 : Nat) < (2 : Nat) ∧ (0 : Nat) ≤ (2 : Nat))), (7, .c ((0 : Nat) ≤ (10 : Nat))), (10, .c qT31), (11, .i ((1 : Int) - (0 : Int))), (14, .c ((6 : Nat) ≤ (10 : Nat)))] ⟨qT34_, (by omega), (by omega), qT31_, (by omega), (by omega), True.intro⟩ ?_
 refine eC (sound1_ac) ?_
 skip
 refine eC (tSum_ac 0 0 2 0 (by decide)) ?_
 refine aX hTT 2 [(0, .c qT34), (1, .r (pw ((1 : Nat) < (2 : Nat) ∧ (0 : Nat) + (2 : Nat) ≤ (2 : Nat)) (400025 : Nat) (yyT34)))] ⟨qT34_, (by omega), True.intro⟩ ?_; refine aops_nil ⟨by kernel_rfl, ?_⟩; refine xb_n ?_; refine xt_n (hK _ ?_); clear hK K; refine wR 15 ?_; refine aX hTT 3 [(1, .i ((1 : Int) + (1 : Int)))] ⟨(by omega), True.intro⟩ ?_; refine aops_nil (xt_n (hK _ ?_)); clear hK K
 refine awr_succ (m := 0) fun K hK => ?_
 refine aw_seq_k fun K hK => ?_; refine aw_seq_k fun K hK => wR 16 ?_; refine aX hTT 4 [(2, .c qT32)] ⟨qT32_, True.intro⟩ ?_; refine aops_nil (xt_n (hK _ ?_)); clear hK K; refine w_false (t := false) (by kernel_rfl) rfl ?_
 refine aw_exit ?_
 refine xt_x ?_; refine xt_x ?_
 refine xb_same ?_
 refine xb_n ?_; refine xt_n ?_; clear hK K; clear hK K; refine hK _ ?_; clear hK K; refine wR 17 ?_; refine aX hTT 2 [(0, .i ((0 : Int) + (1 : Int)))] ⟨(by omega), True.intro⟩ ?_; refine aops_nil (xt_n (hK _ ?_)); clear hK K
 refine awr_succ (m := 1) fun K hK => ?_
 refine aw_seq_k fun K hK => wR 18 ?_; refine aX hTT 1 [] True.intro ?_; refine aops_nil (xt_n (hK _ ?_)); clear hK K; refine aw_seq_k fun K hK => ?_; refine w_false (t := false) (by kernel_rfl) rfl ?_
 refine aw_exit ?_
 refine xt_x ?_; refine xt_x ?_
 refine xb_same ?_
 refine xt_n ?_; clear hK K; clear hK K; refine hK _ ?_; clear hK K; refine aw_seq_k fun K hK => ?_; refine aw_seq_k fun K hK => ?_
 refine w_le (s' := ⟨mkT [(8, .own 8)], mkS [(8, .row 55 2 2 rR)], 1⟩) ?_ ?_
 ·
  refine le_ren (tl := [(8, V.own 8)]) (sl := [(8, Ob.row 55 2 2 rR)]) [(8, 400025)] (.cons (by kernel_rfl) .nil) (.cons ⟨yyT34, (by kernel_rfl), .row (by kernel_rfl) ?_⟩ .nil) (by kernel_rfl) (by kernel_rfl)
  intro i hi
  rcases (by omega : i = 0 ∨ i = 1) with rfl | rfl <;> rfl
 refine wR 2 ?_; refine aX hTT 1 [] True.intro ?_
 refine aops_callR [8] (first := []) (caps := []) (ins' := [Ob.row 55 2 2 rR]) (v' := V.i 0) (δ := []) (kp := [8]) (tCheckR) (by kernel_rfl) (by kernel_rfl) (by kernel_rfl) (by kernel_rfl) (by kernel_rfl) (by kernel_rfl) (by kernel_rfl) rfl (by kernel_rfl) (by kernel_rfl) ⟨(fun _ _ => rfl), True.intro⟩ (by kernel_rfl) (by kernel_rfl) (by kernel_rfl) ?_
 refine aX hTT 1 [] True.intro ?_; refine aops_nil (xt_n (hK _ ?_)); clear hK K; refine w_false (t := false) (by kernel_rfl) rfl ?_
 refine aw_skip ?_
 refine xt_n (hK _ ?_); clear hK K; refine aw_seq_k fun K hK => wR 3 ?_; refine aX hTT 3 [] True.intro ?_; refine aops_nil (xt_n (hK _ ?_)); clear hK K
 refine aw_ret ?_
 refine ret_own [(0, 8)] [(4, V.own 0), (5, V.i 0)] (.inr rfl) (.cons (by kernel_rfl) (.cons (by kernel_rfl) .nil)) (.cons ⟨Ob.row 55 2 2 rR, (by kernel_rfl), .row (by kernel_rfl) ?_⟩ .nil) (by kernel_rfl) (by kernel_rfl) (by kernel_rfl) (by kernel_rfl)
 intro i hi
 rcases (by omega : i = 0 ∨ i = 1) with rfl | rfl <;> rfl
theorem Render1_ac : AC Tryz.prog 17 [tksV, ptsV] (.tup [V.pts [(5, -5), (2, 0)], .i 0]) [] := AC.shut1 Render0_ac rfl (fun i _ => rfl) (fun _ => rfl) rfl rfl
end Go.Proofs.YtplnhbenmgclfaaGreatDoor

namespace Go.Proofs.YtplnhbenmgclfaaGreatDoor
open Go.Ab Go.RowKit Go.Dw Go.Shelf
theorem exAp_ac : AC Tryz.prog 86 [V.cv ⟨[64], [128], 256⟩, V.ints [100, 0, 0, -3]] (.tup [V.ints [100, 75, 37, 15], .i 0]) [] := by
 have A := Apply_ac ⟨[64], [128], 256⟩ [100, 0, 0, -3] ⟨by decide, by decide⟩ (by decide)
 rw [show apR ⟨[64], [128], 256⟩ false [100, 0, 0, -3] = (0, [100, 75, 37, 15]) by decide +kernel] at A
 exact A
set_option maxRecDepth 100000 in
theorem works03_ac : AC Tryz.prog 36 [] (.b true) [] := by
 refine acI hTT hMX Tryz.func36 Tryz.ntmps36 fun C hC hF => ?_
 refine aw_seq_k fun K hK => wR 2 ?_; refine aX hTT 1 [] True.intro ?_; refine aops_nil (xt_n (hK _ ?_)); clear hK K; refine aw_seq_k fun K hK => wR 3 ?_; refine aX hTT 3 [(1, .r (pn 1 (V.ref 200001 0) (200001 : Nat) (Ob.box 24 [V.i 0, V.i 0, V.i 0, V.i 0, V.i 0, V.i 0, V.i 0]))), (2, .r (pw ((0 : Nat) + (7 : Nat) ≤ (7 : Nat)) (200001 : Nat) (Ob.box 24 [V.i 400, V.i 2000, V.i 200, V.i 2000, V.i 1000, V.i 1000, V.i 100])))] ⟨(by omega), True.intro⟩ ?_; refine aops_nil (xt_n (hK _ ?_)); clear hK K; refine aw_seq_k fun K hK => wR 4 ?_; refine aX hTT 5 [(0, .c ((0 : Nat) ≤ (7 : Nat)))] ⟨(by omega), True.intro⟩ ?_
 refine eC (AC.conv (exCut_ac) (args' := [V.agg [V.i 400, V.i 2000, V.i 200, V.i 2000, V.i 1000, V.i 1000, V.i 100], V.sl 2 3 fun (i : Nat) => List.take (2 : Nat) (List.drop (i * (2 : Nat)) [V.i 0, V.i 0, V.i 100, V.i 100, V.i 0, V.i 0])]) ⟨RImp.refl _, ?_, trivial⟩) ?_
 ·
  exact gLit3 rfl rfl rfl
 refine aX hTT 5 [] True.intro ?_; refine aops_nil (xt_n (hK _ ?_)); clear hK K; refine aw_seq_k fun K hK => wR 5 ?_; refine aX hTT 2 [(0, .c ((0 : Nat) ≤ (7 : Nat)))] ⟨(by omega), True.intro⟩ ?_
 refine eC (exL_ac) ?_
 refine aX hTT 5 [] True.intro ?_; refine aops_nil (xt_n (hK _ ?_)); clear hK K; refine aw_seq_k fun K hK => wR 6 ?_; refine aX hTT 4 [] True.intro ?_
 refine eC (AC.conv (exAp_ac) (args' := [V.agg [V.sl 1 1 fun (i : Nat) => List.take (1 : Nat) (List.drop (i * (1 : Nat)) [V.i 64]), V.sl 1 1 fun (i : Nat) => List.take (1 : Nat) (List.drop (i * (1 : Nat)) [V.i 128]), V.i 256], V.sl 1 4 fun (i : Nat) => List.take (1 : Nat) (List.drop (i * (1 : Nat)) [V.i 100, V.i 0, V.i 0, V.i (-3)])]) ⟨?_, ?_, trivial⟩) ?_
 ·
  exact RImp.agg ⟨RImp.lit1 [64], RImp.lit1 [128], RImp.refl _, trivial⟩
 ·
  exact RImp.lit1 [100, 0, 0, -3]
 refine aX hTT 5 [] True.intro ?_; refine aops_nil (xt_n (hK _ ?_)); clear hK K; refine aw_seq_k fun K hK => wR 7 ?_; refine aX hTT 7 [] True.intro ?_
 refine eC (AC.conv (Render1_ac) (args' := [V.sl 2 1 fun (i : Nat) => List.take (2 : Nat) (List.drop (i * (2 : Nat)) [V.c (Value.string (ByteArray.mk #[(97 : UInt8)])), V.sl 2 2 fun (i : Nat) => List.take (2 : Nat) (List.drop (i * (2 : Nat)) [V.i 10, V.i (-10), V.i 5, V.i 0])]), V.sl 7 1 fun (i : Nat) => List.take (7 : Nat) (List.drop (i * (7 : Nat)) [V.i 0, V.i 0, V.i 2, V.i 0, V.i 0, V.i 0, V.i 500])]) ⟨?_, ?_, trivial⟩) ?_
 ·
  exact RImp.rows rfl fun i hi => by
   have hi : i < 1 := hi
   obtain rfl : i = 0 := by omega
   rfl
 ·
  exact RImp.rows rfl fun i hi => by
   have hi : i < 1 := hi
   obtain rfl : i = 0 := by omega
   rfl
 refine aX hTT 5 [] True.intro ?_; refine aops_nil (xt_n (hK _ ?_)); clear hK K; refine aw_seq_k fun K hK => wR 8 ?_; refine aX hTT 54 ((3, .c (gA (true == true) True)) :: (4, .c (gD (true == true) True)) :: (5, .c ((true = true → (true == true) = true) ∧ True)) :: (7, .c (gA (true == true) True)) :: (8, .c (gD (true == true) True)) :: (9, .c ((true = true → (true == true) = true) ∧ True)) :: (11, .c (gA (true == true) True)) :: (12, .c (gD (true == true) True)) :: (13, .c ((true = true → (true == true) = true) ∧ True)) :: (15, .c (gA (true == true) True)) :: (16, .c (gB (true == true) True)) :: (17, .c (gD (true == true) True)) :: (18, .c ((true = true → (true == true) = true) ∧ True)) :: (20, .c (gA (true == true) True)) :: (21, .c (gD (true == true) ((0 : Int) ≤ (1 : Int) ∧ (1 : Int) < (↑(3 : Nat) : Int)))) :: (22, .c (gB (true == true) True)) :: (23, .c ((True ∧ True ∧ True) ∧ ((true == true) = true → True))) :: (24, .c (gC (true == true) True)) :: (25, .c ((true = true → (true == true) = true) ∧ True)) :: (27, .c (gA (true == true) True)) :: (28, .c (gD (true == true) True)) :: (29, .c ((true = true → (true == true) = true) ∧ True)) :: (31, .c (gA (true == true) True)) :: (32, .c (gB (true == true) True)) :: (33, .c (gD (true == true) True)) :: (34, .c ((true = true → (true == true) = true) ∧ True)) :: (36, .c (gA (true == true) True)) :: (37, .c (gD (true == true) ((0 : Int) ≤ (1 : Int) ∧ (1 : Int) < (↑(4 : Nat) : Int)))) :: (38, .c (gB (true == true) True)) :: (39, .c (gD (true == true) True)) :: (40, .c ((true = true → (true == true) = true) ∧ True)) :: (42, .c (gA (true == true) True)) :: (43, .c (gB (true == true) True)) :: (44, .c (gD (true == true) True)) :: (45, .c ((true = true → (true == true) = true) ∧ True)) :: (47, .c (gA (true == true) True)) :: (48, .c (gD (true == true) ((0 : Int) ≤ (0 : Int) ∧ (0 : Int) < (↑(2 : Nat) : Int)))) :: (49, .c (gB (true == true) True)) :: (50, .c ((True ∧ True ∧ True) ∧ ((true == true) = true → True))) :: (51, .c (gC (true == true) True)) :: (52, .c ((true = true → (true == true) = true) ∧ True)) :: []) ⟨⟨⟨True.intro, True.intro⟩, (fun _ => True.intro)⟩, ⟨⟨(by (exact fun h => h)), ⟨True.intro, True.intro⟩⟩, (fun _ => True.intro)⟩, ⟨(by (exact fun h => h)), True.intro⟩, ⟨⟨True.intro, True.intro⟩, (fun _ => True.intro)⟩, ⟨⟨(by (exact fun h => h)), ⟨True.intro, True.intro⟩⟩, (fun _ => True.intro)⟩, ⟨(by (exact fun h => h)), True.intro⟩, ⟨⟨True.intro, True.intro⟩, (fun _ => True.intro)⟩, ⟨⟨(by (exact fun h => h)), ⟨True.intro, True.intro⟩⟩, (fun _ => True.intro)⟩, ⟨(by (exact fun h => h)), True.intro⟩, ⟨⟨True.intro, True.intro⟩, (fun _ => True.intro)⟩, ⟨⟨(by (exact fun h => h)), True.intro⟩, (fun _ => True.intro)⟩, ⟨⟨(by (exact fun h => h)), ⟨True.intro, True.intro⟩⟩, (fun _ => True.intro)⟩, ⟨(by (exact fun h => h)), True.intro⟩, ⟨⟨True.intro, True.intro⟩, (fun _ => True.intro)⟩, ⟨⟨(by (exact fun h => h)), ⟨True.intro, True.intro⟩⟩, (by (intro _; simp; done))⟩, ⟨⟨(by (exact fun h => h)), True.intro⟩, (fun _ => True.intro)⟩, ⟨⟨True.intro, ⟨True.intro, True.intro⟩⟩, (fun _ => True.intro)⟩, ⟨⟨(by (exact fun h => h)), ⟨(by (exact fun h => h)), True.intro⟩⟩, (fun _ => True.intro)⟩, ⟨(by (exact fun h => h)), True.intro⟩, ⟨⟨True.intro, True.intro⟩, (fun _ => True.intro)⟩, ⟨⟨(by (exact fun h => h)), ⟨True.intro, True.intro⟩⟩, (fun _ => True.intro)⟩, ⟨(by (exact fun h => h)), True.intro⟩, ⟨⟨True.intro, True.intro⟩, (fun _ => True.intro)⟩, ⟨⟨(by (exact fun h => h)), True.intro⟩, (fun _ => True.intro)⟩, ⟨⟨(by (exact fun h => h)), ⟨True.intro, True.intro⟩⟩, (fun _ => True.intro)⟩, ⟨(by (exact fun h => h)), True.intro⟩, ⟨⟨True.intro, True.intro⟩, (fun _ => True.intro)⟩, ⟨⟨(by (exact fun h => h)), ⟨True.intro, True.intro⟩⟩, (by (intro _; simp; done))⟩, ⟨⟨(by (exact fun h => h)), True.intro⟩, (fun _ => True.intro)⟩, ⟨⟨(by (exact fun h => h)), ⟨True.intro, True.intro⟩⟩, (fun _ => True.intro)⟩, ⟨(by (exact fun h => h)), True.intro⟩, ⟨⟨True.intro, True.intro⟩, (fun _ => True.intro)⟩, ⟨⟨(by (exact fun h => h)), True.intro⟩, (fun _ => True.intro)⟩, ⟨⟨(by (exact fun h => h)), ⟨True.intro, True.intro⟩⟩, (fun _ => True.intro)⟩, ⟨(by (exact fun h => h)), True.intro⟩, ⟨⟨True.intro, True.intro⟩, (fun _ => True.intro)⟩, ⟨⟨(by (exact fun h => h)), ⟨True.intro, True.intro⟩⟩, (by (intro _; simp; done))⟩, ⟨⟨(by (exact fun h => h)), True.intro⟩, (fun _ => True.intro)⟩, ⟨⟨True.intro, ⟨True.intro, True.intro⟩⟩, (fun _ => True.intro)⟩, ⟨⟨(by (exact fun h => h)), ⟨(by (exact fun h => h)), True.intro⟩⟩, (fun _ => True.intro)⟩, ⟨(by (exact fun h => h)), True.intro⟩, True.intro⟩ ?_; refine aops_nil (xt_n (hK _ ?_)); clear hK K
 refine aw_ret ?_
 refine rP (V.b true)
end Go.Proofs.YtplnhbenmgclfaaGreatDoor

namespace Go.Proofs.YtplnhbenmgclfaaGreatDoor
open Go.Ab Go.RowKit Go.Dw Go.Shelf
def nF : ByteArray := ⟨#[102]⟩
set_option maxRecDepth 100000 in
theorem sdOutside_ac (n lo hi : Int) : AC Tryz.prog 148 [.i n, .i lo, .i hi] (.b (decide (n < lo) || decide (hi < n))) [] := by
 refine acI hTT hMX Tryz.func148 Tryz.ntmps148 fun C hC hF => ?_
 refine aw_seq_k fun K hK => wR 2 ?_; refine aX hTT 1 [] True.intro ?_; refine aops_nil (xt_n (hK _ ?_)); clear hK K; refine aw_seq_k fun K hK => wR 3 ?_; refine aX hTT 9 [(4, .c (gA (decide (n < lo) == false) True)), (5, .c (gA (decide (n < lo) == false) True)), (6, .c (gC (decide (n < lo) == false) True)), (7, .c (True ∧ (decide (n < lo) = false → (decide (n < lo) == false) = true)))] ⟨⟨⟨True.intro, True.intro⟩, (fun _ => True.intro)⟩, ⟨⟨True.intro, True.intro⟩, (fun _ => True.intro)⟩, ⟨⟨(by (exact fun h => h)), ⟨(by (exact fun h => h)), True.intro⟩⟩, (fun _ => True.intro)⟩, ⟨True.intro, (by (intro h; rw [h]; rfl))⟩, True.intro⟩ ?_; refine aops_nil (xt_n (hK _ ?_)); clear hK K
 refine aw_ret ?_
 refine rP (V.b (decide (n < lo) || decide (hi < n)))
set_option maxRecDepth 100000 in
theorem sIsName_ac : AC Tryz.prog 147 [.c (.string nF)] (.b true) [] := by
 refine acI hTT hMX Tryz.func147 Tryz.ntmps147 fun C hC hF => ?_
 refine aw_seq_k fun K hK => wR 2 ?_; refine aX hTT 1 [] True.intro ?_; refine aops_nil (xt_n (hK _ ?_)); clear hK K; refine aw_seq_k fun K hK => ?_; refine aw_seq_k fun K hK => wR 3 ?_; refine aX hTT 4 [] True.intro ?_; refine aops_nil (xt_n (hK _ ?_)); clear hK K
 refine aw_block ?_
 refine aw_rounds 3 ?_
 refine awr_succ (m := 2) fun K hK => ?_
 refine aw_seq_k fun K hK => wR 4 ?_; refine aX hTT 1 [] True.intro ?_; refine aops_nil (xt_n (hK _ ?_)); clear hK K; refine aw_seq_k fun K hK => ?_; refine w_true (t := true) (by kernel_rfl) rfl ?_
 refine aw_skip ?_
 refine xt_n (hK _ ?_); clear hK K; refine aw_seq_k fun K hK => ?_
 refine aw_block ?_
 refine aw_seq_k fun K hK => wR 5 ?_; refine aX hTT 3 [(0, .c ((0 : Int) ≤ (0 : Int) ∧ (0 : Int) < (↑(1 : Nat) : Int)))] ⟨(by omega), True.intro⟩ ?_; refine aops_nil (xt_n (hK _ ?_)); clear hK K; refine aw_seq_k fun K hK => wR 6 ?_; refine aX hTT 14 [(3, .c (gA (false == false) True)), (4, .c (gD (false == false) True)), (5, .c (True ∧ (false = false → (false == false) = true))), (7, .c (gA (false == true) True)), (8, .c (gD (false == true) True)), (9, .c (gB (false == true) True)), (10, .c (gA (false == true && false == false) True)), (11, .c (gD (false == true && false == false) True)), (12, .c (((false == true) = true → (false == true) = true) ∧ ((false == true) = true → True) ∧ ((false == true) = true → false = false → (false == true && false == false) = true))), (13, .c ((false = true → (false == true) = true) ∧ True))] ⟨⟨⟨True.intro, True.intro⟩, (fun _ => True.intro)⟩, ⟨⟨(by (exact fun h => h)), ⟨True.intro, True.intro⟩⟩, (fun _ => True.intro)⟩, ⟨True.intro, (by (intro h; rw [h]; rfl))⟩, ⟨⟨True.intro, True.intro⟩, (fun _ => True.intro)⟩, ⟨⟨(by (exact fun h => h)), ⟨True.intro, True.intro⟩⟩, (fun _ => True.intro)⟩, ⟨⟨(by (exact fun h => h)), True.intro⟩, (fun _ => True.intro)⟩, ⟨⟨True.intro, True.intro⟩, (fun _ => True.intro)⟩, ⟨⟨(by (exact fun h => h)), ⟨True.intro, True.intro⟩⟩, (fun _ => True.intro)⟩, ⟨(by (exact fun h => h)), ⟨(fun _ => True.intro), (by (intro h; simp at h; done))⟩⟩, ⟨(by (exact fun h => h)), True.intro⟩, True.intro⟩ ?_; refine aops_nil (xt_n (hK _ ?_)); clear hK K; refine w_false (t := false) (by kernel_rfl) rfl ?_
 refine aw_skip ?_
 refine xb_n ?_; refine xt_n (hK _ ?_); clear hK K; refine wR 7 ?_; refine aX hTT 2 [(0, .i ((0 : Int) + (1 : Int)))] ⟨(by omega), True.intro⟩ ?_; refine aops_nil (xt_n (hK _ ?_)); clear hK K
 refine awr_succ (m := 1) fun K hK => ?_
 refine aw_seq_k fun K hK => wR 8 ?_; refine aX hTT 1 [] True.intro ?_; refine aops_nil (xt_n (hK _ ?_)); clear hK K; refine aw_seq_k fun K hK => ?_; refine w_false (t := false) (by kernel_rfl) rfl ?_
 refine aw_exit ?_
 refine xt_x ?_; refine xt_x ?_
 refine xb_same ?_
 refine xt_n ?_; clear hK K; clear hK K; refine hK _ ?_; clear hK K; refine aw_seq_k fun K hK => wR 9 ?_; refine aX hTT 8 [(3, .c (gA (true == true) True)), (4, .c (gB (true == true) True)), (5, .c (gD (true == true) True)), (6, .c ((true = true → (true == true) = true) ∧ True))] ⟨⟨⟨True.intro, True.intro⟩, (fun _ => True.intro)⟩, ⟨⟨(by (exact fun h => h)), True.intro⟩, (fun _ => True.intro)⟩, ⟨⟨(by (exact fun h => h)), ⟨True.intro, True.intro⟩⟩, (fun _ => True.intro)⟩, ⟨(by (exact fun h => h)), True.intro⟩, True.intro⟩ ?_; refine aops_nil (xt_n (hK _ ?_)); clear hK K
 refine aw_ret ?_
 refine rP (V.b true)
def trk (l : List (Int × Int × Int)) : V := .sl 3 l.length fun i => [.i (l.getD i (0, 0, 0)).1, .i (l.getD i (0, 0, 0)).2.1, .i (l.getD i (0, 0, 0)).2.2]
end Go.Proofs.YtplnhbenmgclfaaGreatDoor

namespace Go.Proofs.YtplnhbenmgclfaaGreatDoor
open Go.Ab Go.RowKit Go.Dw Go.Shelf
def fmt5 : List V := [.c (.string nF), .i 1000, .i 400, .i 10, .i 0, .i 0, .i 0, .i 0]
set_option maxRecDepth 100000 in
theorem CheckFormat5_ac : AC Tryz.prog 116 [.agg fmt5] (.i 0) [] := by
 refine acI hTT hMX Tryz.func116 Tryz.ntmps116 fun C hC hF => ?_
 refine aw_seq_k fun K hK => wR 2 ?_; refine aX hTT 2 [] True.intro ?_; refine aops_nil (xt_n (hK _ ?_)); clear hK K; refine aw_seq_k fun K hK => wR 3 ?_; refine aX hTT 2 [] True.intro ?_
 refine eC (sIsName_ac) ?_
 refine aX hTT 4 [(2, .c (gA (false == false) True)), (3, .c (gB (false == false) True))] ⟨⟨⟨True.intro, True.intro⟩, (fun _ => True.intro)⟩, ⟨⟨(by (exact fun h => h)), True.intro⟩, (fun _ => True.intro)⟩, True.intro⟩ ?_
 refine eG 1 (g := false == false) (fun _ => sdOutside_ac 1000 1 4194304) ?_
 refine aX hTT 7 [(0, .c (True ∧ (false = false → (false == false) = true))), (2, .c (gA (false == false) True)), (3, .c (gB (false == false) True)), (4, .c (gA (false == false) True)), (5, .c (gB (false == false) True)), (6, .c (gD (false == false) ((-9223372036854775808 : Int) ≤ (1000 : Int) - (1 : Int) ∧ (1000 : Int) - (1 : Int) ≤ (9223372036854775807 : Int))))] ⟨⟨True.intro, (by (intro h; rw [h]; rfl))⟩, ⟨⟨True.intro, True.intro⟩, (fun _ => True.intro)⟩, ⟨⟨(by (exact fun h => h)), True.intro⟩, (fun _ => True.intro)⟩, ⟨⟨True.intro, True.intro⟩, (fun _ => True.intro)⟩, ⟨⟨(by (exact fun h => h)), True.intro⟩, (fun _ => True.intro)⟩, ⟨⟨(by (exact fun h => h)), ⟨True.intro, True.intro⟩⟩, (by (intro _; simp; done))⟩, True.intro⟩ ?_
 refine eG 2 (g := false == false) (fun _ => sdOutside_ac 400 0 999) ?_
 refine aX hTT 4 [(0, .c (True ∧ (false = false → (false == false) = true))), (2, .c (gA (false == false) True)), (3, .c (gB (false == false) True))] ⟨⟨True.intro, (by (intro h; rw [h]; rfl))⟩, ⟨⟨True.intro, True.intro⟩, (fun _ => True.intro)⟩, ⟨⟨(by (exact fun h => h)), True.intro⟩, (fun _ => True.intro)⟩, True.intro⟩ ?_
 refine eG 1 (g := false == false) (fun _ => sdOutside_ac 10 1 65536) ?_
 refine aX hTT 4 [(0, .c (True ∧ (false = false → (false == false) = true))), (2, .c (gA (false == false) True)), (3, .c (gB (false == false) True))] ⟨⟨True.intro, (by (intro h; rw [h]; rfl))⟩, ⟨⟨True.intro, True.intro⟩, (fun _ => True.intro)⟩, ⟨⟨(by (exact fun h => h)), True.intro⟩, (fun _ => True.intro)⟩, True.intro⟩ ?_
 refine eG 1 (g := false == false) (fun _ => sdOutside_ac 0 0 1048576) ?_
 refine aX hTT 2 [(0, .c (True ∧ (false = false → (false == false) = true)))] ⟨⟨True.intro, (by (intro h; rw [h]; rfl))⟩, True.intro⟩ ?_; refine aops_nil (xt_n (hK _ ?_)); clear hK K; refine aw_seq_k fun K hK => ?_; refine aw_seq_k fun K hK => wR 4 ?_; refine aX hTT 8 [] True.intro ?_; refine aops_nil (xt_n (hK _ ?_)); clear hK K
 refine aw_block ?_
 refine aw_rounds 4 ?_
 refine awr_succ (m := 3) fun K hK => ?_
 refine aw_seq_k fun K hK => wR 5 ?_; refine aX hTT 1 [] True.intro ?_; refine aops_nil (xt_n (hK _ ?_)); clear hK K; refine aw_seq_k fun K hK => ?_; refine w_true (t := true) (by kernel_rfl) rfl ?_
 refine aw_skip ?_
 refine xt_n (hK _ ?_); clear hK K; refine aw_seq_k fun K hK => ?_
 refine aw_block ?_
 refine aw_seq_k fun K hK => wR 6 ?_; refine aX hTT 2 [(0, .c ((0 : Int) ≤ (0 : Int) ∧ (0 : Int) < (↑(3 : Nat) : Int)))] ⟨(by omega), True.intro⟩ ?_; refine aops_nil (xt_n (hK _ ?_)); clear hK K; refine wR 7 ?_; refine aX hTT 3 [(2, .c (gA (false == false) True))] ⟨⟨⟨True.intro, True.intro⟩, (fun _ => True.intro)⟩, True.intro⟩ ?_
 refine eG 1 (g := false == false) (fun _ => sdOutside_ac 0 0 4194304) ?_
 refine aX hTT 2 [(0, .c (True ∧ (false = false → (false == false) = true)))] ⟨⟨True.intro, (by (intro h; rw [h]; rfl))⟩, True.intro⟩ ?_; refine aops_nil ?_; refine xb_n ?_; refine xt_n (hK _ ?_); clear hK K; refine wR 8 ?_; refine aX hTT 2 [(0, .i ((0 : Int) + (1 : Int)))] ⟨(by omega), True.intro⟩ ?_; refine aops_nil (xt_n (hK _ ?_)); clear hK K
 refine awr_succ (m := 2) fun K hK => ?_
 refine aw_seq_k fun K hK => wR 9 ?_; refine aX hTT 1 [] True.intro ?_; refine aops_nil (xt_n (hK _ ?_)); clear hK K; refine aw_seq_k fun K hK => ?_; refine w_true (t := true) (by kernel_rfl) rfl ?_
 refine aw_skip ?_
 refine xt_n (hK _ ?_); clear hK K; refine aw_seq_k fun K hK => ?_
 refine aw_block ?_
 refine aw_seq_k fun K hK => wR 10 ?_; refine aX hTT 2 [(0, .c ((0 : Int) ≤ (1 : Int) ∧ (1 : Int) < (↑(3 : Nat) : Int)))] ⟨(by omega), True.intro⟩ ?_; refine aops_nil (xt_n (hK _ ?_)); clear hK K; refine wR 11 ?_; refine aX hTT 3 [(2, .c (gA (false == false) True))] ⟨⟨⟨True.intro, True.intro⟩, (fun _ => True.intro)⟩, True.intro⟩ ?_
 refine eG 1 (g := false == false) (fun _ => sdOutside_ac 0 0 4194304) ?_
 refine aX hTT 2 [(0, .c (True ∧ (false = false → (false == false) = true)))] ⟨⟨True.intro, (by (intro h; rw [h]; rfl))⟩, True.intro⟩ ?_; refine aops_nil ?_; refine xb_n ?_; refine xt_n (hK _ ?_); clear hK K; refine wR 12 ?_; refine aX hTT 2 [(0, .i ((1 : Int) + (1 : Int)))] ⟨(by omega), True.intro⟩ ?_; refine aops_nil (xt_n (hK _ ?_)); clear hK K
 refine awr_succ (m := 1) fun K hK => ?_
 refine aw_seq_k fun K hK => wR 13 ?_; refine aX hTT 1 [] True.intro ?_; refine aops_nil (xt_n (hK _ ?_)); clear hK K; refine aw_seq_k fun K hK => ?_; refine w_true (t := true) (by kernel_rfl) rfl ?_
 refine aw_skip ?_
 refine xt_n (hK _ ?_); clear hK K; refine aw_seq_k fun K hK => ?_
 refine aw_block ?_
 refine aw_seq_k fun K hK => wR 14 ?_; refine aX hTT 2 [(0, .c ((0 : Int) ≤ (2 : Int) ∧ (2 : Int) < (↑(3 : Nat) : Int)))] ⟨(by omega), True.intro⟩ ?_; refine aops_nil (xt_n (hK _ ?_)); clear hK K; refine wR 15 ?_; refine aX hTT 3 [(2, .c (gA (false == false) True))] ⟨⟨⟨True.intro, True.intro⟩, (fun _ => True.intro)⟩, True.intro⟩ ?_
 refine eG 1 (g := false == false) (fun _ => sdOutside_ac 0 0 4194304) ?_
 refine aX hTT 2 [(0, .c (True ∧ (false = false → (false == false) = true)))] ⟨⟨True.intro, (by (intro h; rw [h]; rfl))⟩, True.intro⟩ ?_; refine aops_nil ?_; refine xb_n ?_; refine xt_n (hK _ ?_); clear hK K; refine wR 16 ?_; refine aX hTT 2 [(0, .i ((2 : Int) + (1 : Int)))] ⟨(by omega), True.intro⟩ ?_; refine aops_nil (xt_n (hK _ ?_)); clear hK K
 refine awr_succ (m := 0) fun K hK => ?_
 refine aw_seq_k fun K hK => wR 17 ?_; refine aX hTT 1 [] True.intro ?_; refine aops_nil (xt_n (hK _ ?_)); clear hK K; refine aw_seq_k fun K hK => ?_; refine w_false (t := false) (by kernel_rfl) rfl ?_
 refine aw_exit ?_
 refine xt_x ?_; refine xt_x ?_
 refine xb_same ?_
 refine xt_n ?_; clear hK K; clear hK K; refine hK _ ?_; clear hK K; refine aw_seq_k fun K hK => ?_; refine aw_seq_k fun K hK => wR 18 ?_; refine aX hTT 1 [] True.intro ?_; refine aops_nil (xt_n (hK _ ?_)); clear hK K; refine w_false (t := false) (by kernel_rfl) rfl ?_
 refine aw_skip ?_
 refine xt_n (hK _ ?_); clear hK K; refine aw_seq_k fun K hK => wR 19 ?_; refine aX hTT 1 [] True.intro ?_; refine aops_nil (xt_n (hK _ ?_)); clear hK K
 refine aw_ret ?_
 refine rP (V.i 0)
set_option maxRecDepth 100000 in
theorem CheckTracks5_ac : AC Tryz.prog 117 [trk [(95, 20, 0)]] (.i 0) [] := by
 refine acI hTT hMX Tryz.func117 Tryz.ntmps117 fun C hC hF => ?_
 refine aw_seq_k fun K hK => wR 2 ?_; refine aX hTT 1 [] True.intro ?_; refine aops_nil (xt_n (hK _ ?_)); clear hK K; refine aw_seq_k fun K hK => ?_; refine aw_seq_k fun K hK => wR 3 ?_; refine aX hTT 3 [] True.intro ?_; refine aops_nil (xt_n (hK _ ?_)); clear hK K; refine w_false (t := false) (by kernel_rfl) rfl ?_
 refine aw_skip ?_
 refine xt_n (hK _ ?_); clear hK K; refine aw_seq_k fun K hK => ?_; refine aw_seq_k fun K hK => wR 4 ?_; refine aX hTT 3 [] True.intro ?_; refine aops_nil (xt_n (hK _ ?_)); clear hK K
 refine aw_block ?_
 refine aw_rounds 4 ?_
 refine awr_succ (m := 3) fun K hK => ?_
 refine aw_seq_k fun K hK => wR 5 ?_; refine aX hTT 1 [] True.intro ?_; refine aops_nil (xt_n (hK _ ?_)); clear hK K; refine aw_seq_k fun K hK => ?_; refine w_true (t := true) (by kernel_rfl) rfl ?_
 refine aw_skip ?_
 refine xt_n (hK _ ?_); clear hK K; refine aw_seq_k fun K hK => ?_
 refine aw_block ?_
 refine aw_seq_k fun K hK => wR 6 ?_; refine aX hTT 4 [(0, .c ((0 : Int) ≤ (0 : Int) ∧ (0 : Int) < (↑(1 : Nat) : Int))), (2, .r (pn 4 (V.ref 500004 0) (500004 : Nat) (Ob.box 70 [V.i 0, V.i 0, V.i 0]))), (3, .r (pw ((0 : Nat) + (3 : Nat) ≤ (3 : Nat)) (500004 : Nat) (Ob.box 70 [V.i 95, V.i 20, V.i 0])))] ⟨(by omega), (by omega), True.intro⟩ ?_; refine aops_nil (xt_n (hK _ ?_)); clear hK K; refine aw_seq_k fun K hK => wR 7 ?_; refine aX hTT 2 [(1, .c ((0 : Nat) ≤ (3 : Nat)))] ⟨(by omega), True.intro⟩ ?_
 refine eC (sdOutside_ac 95 1 16777216) ?_
 refine aX hTT 3 [(1, .c (gA (false == false) True)), (2, .c (gB (false == false) ((1 : Nat) ≤ (3 : Nat))))] ⟨⟨⟨True.intro, True.intro⟩, (fun _ => True.intro)⟩, ⟨⟨(by (exact fun h => h)), True.intro⟩, (by (intro _; simp; done))⟩, True.intro⟩ ?_
 refine eG 1 (g := false == false) (fun _ => sdOutside_ac 20 1 4096) ?_
 refine aX hTT 4 [(0, .c (True ∧ (false = false → (false == false) = true))), (2, .c (gA (false == false) True)), (3, .c (gB (false == false) ((2 : Nat) ≤ (3 : Nat))))] ⟨⟨True.intro, (by (intro h; rw [h]; rfl))⟩, ⟨⟨True.intro, True.intro⟩, (fun _ => True.intro)⟩, ⟨⟨(by (exact fun h => h)), True.intro⟩, (by (intro _; simp; done))⟩, True.intro⟩ ?_
 refine eG 1 (g := false == false) (fun _ => sdOutside_ac 0 0 4194304) ?_
 refine aX hTT 1 [(0, .c (True ∧ (false = false → (false == false) = true)))] ⟨⟨True.intro, (by (intro h; rw [h]; rfl))⟩, True.intro⟩ ?_; refine aops_nil (xt_n (hK _ ?_)); clear hK K; refine w_false (t := false) (by kernel_rfl) rfl ?_
 refine aw_skip ?_
 refine xb_n ?_; refine xt_n (hK _ ?_); clear hK K; refine wR 8 ?_; refine aX hTT 2 [(0, .i ((0 : Int) + (1 : Int)))] ⟨(by omega), True.intro⟩ ?_; refine aops_nil (xt_n (hK _ ?_)); clear hK K
 refine awr_succ (m := 2) fun K hK => ?_
 refine aw_seq_k fun K hK => wR 9 ?_; refine aX hTT 1 [] True.intro ?_; refine aops_nil (xt_n (hK _ ?_)); clear hK K; refine aw_seq_k fun K hK => ?_; refine w_false (t := false) (by kernel_rfl) rfl ?_
 refine aw_exit ?_
 refine xt_x ?_; refine xt_x ?_
 refine xb_same ?_
 refine xt_n ?_; clear hK K; clear hK K; refine hK _ ?_; clear hK K; refine aw_seq_k fun K hK => wR 10 ?_; refine aX hTT 1 [] True.intro ?_; refine aops_nil (xt_n (hK _ ?_)); clear hK K
 refine aw_ret ?_
 refine rP (V.i 0)
set_option maxRecDepth 100000 in
theorem open5_ac : AC Tryz.prog 71 [.agg fmt5, trk [(95, 20, 0)]] (.tup [.ptr (fmt5 ++ [trk [(95, 20, 0)]]), .i 0]) [] := by
 refine acI hTT hMX Tryz.func71 Tryz.ntmps71 fun C hC hF => ?_
 refine aw_seq_k fun K hK => wR 2 ?_; refine aX hTT 3 [] True.intro ?_; refine aops_nil (xt_n (hK _ ?_)); clear hK K; refine aw_seq_k fun K hK => ?_; refine aw_seq_k fun K hK => wR 3 ?_; refine aX hTT 1 [] True.intro ?_
 refine eC (CheckFormat5_ac) ?_
 refine aX hTT 1 [] True.intro ?_; refine aops_nil (xt_n (hK _ ?_)); clear hK K; refine aw_seq_k fun K hK => wR 4 ?_; refine aX hTT 2 [] True.intro ?_; refine aops_nil (xt_n (hK _ ?_)); clear hK K; refine w_false (t := false) (by kernel_rfl) rfl ?_
 refine aw_skip ?_
 refine xt_n (hK _ ?_); clear hK K; refine aw_seq_k fun K hK => ?_; refine aw_seq_k fun K hK => wR 5 ?_; refine aX hTT 1 [] True.intro ?_
 refine eC (CheckTracks5_ac) ?_
 refine aX hTT 1 [] True.intro ?_; refine aops_nil (xt_n (hK _ ?_)); clear hK K; refine aw_seq_k fun K hK => wR 6 ?_; refine aX hTT 2 [] True.intro ?_; refine aops_nil (xt_n (hK _ ?_)); clear hK K; refine w_false (t := false) (by kernel_rfl) rfl ?_
 refine aw_skip ?_
 refine xt_n (hK _ ?_); clear hK K; refine aw_seq_k fun K hK => wR 7 ?_; refine aX hTT 6 [] True.intro ?_; refine aops_nil (xt_n (hK _ ?_)); clear hK K
 refine aw_ret ?_
 refine rP (V.tup [V.ptr [V.c (Value.string nF), V.i 1000, V.i 400, V.i 10, V.i 0, V.i 0, V.i 0, V.i 0, V.sl 3 1 fun (i : Nat) => [V.i (Prod.fst (List.getD [((95 : Int), (20 : Int), (0 : Int))] i ((0 : Int), (0 : Int), (0 : Int)))), V.i (Prod.fst (Prod.snd (List.getD [((95 : Int), (20 : Int), (0 : Int))] i ((0 : Int), (0 : Int), (0 : Int))))), V.i (Prod.snd (Prod.snd (List.getD [((95 : Int), (20 : Int), (0 : Int))] i ((0 : Int), (0 : Int), (0 : Int)))))]], V.i 0])
set_option maxRecDepth 100000 in
theorem width5_ac : AC Tryz.prog 85 [.ptr (fmt5 ++ [trk [(95, 20, 0)]]), .agg [.i 95, .i 20, .i 0]] (.i 200) [] := by
 refine acI hTT hMX Tryz.func85 Tryz.ntmps85 fun C hC hF => ?_
 refine aw_seq_k fun K hK => wR 2 ?_; refine aX hTT 2 [] True.intro ?_; refine aops_nil (xt_n (hK _ ?_)); clear hK K; refine aw_seq_k fun K hK => wD 3 ?_; refine aX hTT 19 [(9, .i ((95 : Int) + (10 : Int))), (10, .i ((105 : Int) - (1 : Int))), (16, .c ((0 : Int) < (10 : Int) ∧ (-9223372036854775808 : Int) ≤ (104 : Int) ∧ (104 : Int) ≤ (9223372036854775807 : Int))), (17, .i ((20 : Int) * (10 : Int)))] ⟨(by omega), (by omega), ⟨(by omega), (by omega)⟩, (by omega), True.intro⟩ ?_; refine aops_nil ⟨by kernel_rfl, ?_⟩; refine xt_n (hK _ ?_); clear hK K
 refine aw_ret ?_
 refine rP (V.i 200)
set_option maxRecDepth 100000 in
theorem Width5_ac : AC Tryz.prog 35 [.agg fmt5, .agg [.i 95, .i 20, .i 0]] (.tup [.i 200, .i 0]) [] := by
 refine acI hTT hMX Tryz.func35 Tryz.ntmps35 fun C hC hF => ?_
 refine aw_seq_k fun K hK => wR 2 ?_; refine aX hTT 4 [] True.intro ?_; refine aops_nil (xt_n (hK _ ?_)); clear hK K; refine aw_seq_k fun K hK => wR 3 ?_; refine aX hTT 3 [] True.intro ?_
 refine eC (AC.conv (open5_ac) (args' := [V.agg [V.c (Value.string nF), V.i 1000, V.i 400, V.i 10, V.i 0, V.i 0, V.i 0, V.i 0], V.sl 3 1 fun (i : Nat) => List.take (3 : Nat) (List.drop (i * (3 : Nat)) [V.i 95, V.i 20, V.i 0])]) ⟨RImp.refl _, ?_, trivial⟩) ?_
 ·
  exact RImp.rows rfl fun i hi => by
   obtain rfl : i = 0 := by simpa using hi
   rfl
 refine aX hTT 5 [] True.intro ?_; refine aops_nil (xt_n (hK _ ?_)); clear hK K; refine aw_seq_k fun K hK => ?_; refine aw_seq_k fun K hK => wR 4 ?_; refine aX hTT 2 [] True.intro ?_; refine aops_nil (xt_n (hK _ ?_)); clear hK K; refine w_false (t := false) (by kernel_rfl) rfl ?_
 refine aw_skip ?_
 refine xt_n (hK _ ?_); clear hK K; refine aw_seq_k fun K hK => wR 5 ?_; refine aX hTT 2 [] True.intro ?_
 refine eC (width5_ac) ?_
 refine aX hTT 2 [] True.intro ?_; refine aops_nil (xt_n (hK _ ?_)); clear hK K
 refine aw_ret ?_
 refine rP (V.tup [V.i 200, V.i 0])
def b5 : Bl := ⟨2, 1000, 100, 10, 1, 100⟩
def l5 : List Pt := [(-20, 20), (-20, 20), (-20, 20), (-20, 50), (-20, 20)]
theorem b5_ok : SOk b5 l5 := ⟨by decide, by decide⟩
theorem lt5 {v : Nat} (h : v < 5) : v = 0 ∨ v = 1 ∨ v = 2 ∨ v = 3 ∨ v = 4 := by omega
theorem o5 : LOut b5 l5 [980, 979, 930, 899, 880] := by
 refine ⟨rfl, ⟨fun v hv => ?_, fun v hv => ?_⟩, fun g hg v hv => ?_⟩
 ·
  rcases lt5 hv with rfl | rfl | rfl | rfl | rfl <;> decide
 ·
  rcases lt5 hv with rfl | rfl | rfl | rfl | rfl <;> decide
 ·
  have g0 := hg 0 (by decide)
  have g1 := hg 1 (by decide)
  have g2 := hg 2 (by decide)
  have g3 := hg 3 (by decide)
  have g4 := hg 4 (by decide)
  simp [gp, l5, b5] at g0 g1 g2 g3 g4
  rcases lt5 hv with rfl | rfl | rfl | rfl | rfl <;> simp [gi] <;> omega
theorem Outer5_ac : AC Tryz.prog 14 [b5.v, V.pts l5] (.tup [V.ints [980, 979, 930, 899, 880], .i 0]) [] := Outer_ok b5 l5 b5_ok o5
abbrev qT70 : Prop := (0 : Nat) ≤ (2 : Nat)
theorem qT70_ : qT70 := (by omega)
set_option maxRecDepth 100000 in
theorem works05_ac : AC Tryz.prog 10 [] (.b true) [] := by
 refine acI hTT hMX Tryz.func10 Tryz.ntmps10 fun C hC hF => ?_
 refine aw_seq_k fun K hK => wR 2 ?_; refine aX hTT 1 [] True.intro ?_; refine aops_nil (xt_n (hK _ ?_)); clear hK K; refine aw_seq_k fun K hK => wR 3 ?_; refine aX hTT 6 [(2, .r (pn 1 (V.ref 200001 0) (200001 : Nat) (Ob.box 53 [V.i 0, V.i 0]))), (3, .r (pn 2 (V.ref 200002 0) (200002 : Nat) (Ob.box 53 [V.i 0, V.i 0]))), (4, .r (pw ((0 : Nat) + (2 : Nat) ≤ (2 : Nat)) (200001 : Nat) (Ob.box 53 [V.i (-20), V.i 20]))), (5, .r (pw ((0 : Nat) + (2 : Nat) ≤ (2 : Nat)) (200002 : Nat) (Ob.box 53 [V.i (-20), V.i 50])))] ⟨(by omega), (by omega), True.intro⟩ ?_; refine aops_nil (xt_n (hK _ ?_)); clear hK K; refine aw_seq_k fun K hK => wR 4 ?_; refine aX hTT 3 [(1, .r (pn 3 (V.ref 300003 0) (300003 : Nat) (Ob.box 27 [V.i 0, V.i 0, V.i 0, V.i 0, V.i 0, V.i 0]))), (2, .r (pw ((0 : Nat) + (6 : Nat) ≤ (6 : Nat)) (300003 : Nat) (Ob.box 27 [V.i 2, V.i 1000, V.i 100, V.i 10, V.i 1, V.i 100])))] ⟨(by omega), True.intro⟩ ?_; refine aops_nil (xt_n (hK _ ?_)); clear hK K; refine aw_seq_k fun K hK => wR 5 ?_; refine aX hTT 7 [(0, .c ((0 : Nat) ≤ (6 : Nat))), (1, .c qT70), (2, .c qT70), (3, .c qT70), (4, .c qT70), (5, .c qT70)] ⟨(by omega), qT70_, qT70_, qT70_, qT70_, qT70_, True.intro⟩ ?_
 refine eC (AC.conv (Outer5_ac) (args' := [V.agg [V.i 2, V.i 1000, V.i 100, V.i 10, V.i 1, V.i 100], V.sl 2 5 fun (i : Nat) => List.take (2 : Nat) (List.drop (i * (2 : Nat)) [V.i (-20), V.i 20, V.i (-20), V.i 20, V.i (-20), V.i 20, V.i (-20), V.i 50, V.i (-20), V.i 20])]) ⟨RImp.refl _, ?_, trivial⟩) ?_
 ·
  exact RImp.rows rfl fun i hi => by
   have hi : i < 5 := hi
   rcases lt5 hi with rfl | rfl | rfl | rfl | rfl <;> rfl
 refine aX hTT 5 [] True.intro ?_; refine aops_nil (xt_n (hK _ ?_)); clear hK K; refine aw_seq_k fun K hK => wR 6 ?_; refine aX hTT 2 [] True.intro ?_
 refine eC (Width5_ac) ?_
 refine aX hTT 5 [] True.intro ?_; refine aops_nil (xt_n (hK _ ?_)); clear hK K; refine aw_seq_k fun K hK => wR 7 ?_; refine aX hTT 22 [(3, .c (gA (true == true) True)), (4, .c (gD (true == true) True)), (5, .c ((true = true → (true == true) = true) ∧ True)), (7, .c (gA (true == true) True)), (8, .c (gB (true == true) True)), (9, .c (gD (true == true) True)), (10, .c ((true = true → (true == true) = true) ∧ True)), (12, .c (gA (true == true) True)), (13, .c (gD (true == true) ((0 : Int) ≤ (3 : Int) ∧ (3 : Int) < (↑(5 : Nat) : Int)))), (14, .c (gB (true == true) True)), (15, .c (gD (true == true) True)), (16, .c ((true = true → (true == true) = true) ∧ True)), (18, .c (gA (true == true) True)), (19, .c (gD (true == true) True)), (20, .c ((true = true → (true == true) = true) ∧ True))] ⟨⟨⟨True.intro, True.intro⟩, (fun _ => True.intro)⟩, ⟨⟨(by (exact fun h => h)), ⟨True.intro, True.intro⟩⟩, (fun _ => True.intro)⟩, ⟨(by (exact fun h => h)), True.intro⟩, ⟨⟨True.intro, True.intro⟩, (fun _ => True.intro)⟩, ⟨⟨(by (exact fun h => h)), True.intro⟩, (fun _ => True.intro)⟩, ⟨⟨(by (exact fun h => h)), ⟨True.intro, True.intro⟩⟩, (fun _ => True.intro)⟩, ⟨(by (exact fun h => h)), True.intro⟩, ⟨⟨True.intro, True.intro⟩, (fun _ => True.intro)⟩, ⟨⟨(by (exact fun h => h)), ⟨True.intro, True.intro⟩⟩, (by (intro _; simp; done))⟩, ⟨⟨(by (exact fun h => h)), True.intro⟩, (fun _ => True.intro)⟩, ⟨⟨(by (exact fun h => h)), ⟨True.intro, True.intro⟩⟩, (fun _ => True.intro)⟩, ⟨(by (exact fun h => h)), True.intro⟩, ⟨⟨True.intro, True.intro⟩, (fun _ => True.intro)⟩, ⟨⟨(by (exact fun h => h)), ⟨True.intro, True.intro⟩⟩, (fun _ => True.intro)⟩, ⟨(by (exact fun h => h)), True.intro⟩, True.intro⟩ ?_
 refine eG 0 (g := true == true) (fun _ => works03_ac) ?_
 refine aX hTT 2 [(0, .c ((true = true → (true == true) = true) ∧ True))] ⟨⟨(by (exact fun h => h)), True.intro⟩, True.intro⟩ ?_; refine aops_nil (xt_n (hK _ ?_)); clear hK K
 refine aw_ret ?_
 refine rP (V.b true)
end Go.Proofs.YtplnhbenmgclfaaGreatDoor

namespace Go.Proofs.YtplnhbenmgclfaaGreatDoor
open Go.Ab Go.RowKit Go.Dw Go.Shelf
theorem wf_ptsT {l : List Pt} (h : ∀ x ∈ l, Sh.wf (.fld (.int .i64) (.lst (.int .i64))) x) : ∀ k, k < l.length → inR2 (gp l k) := fun k hk => by
 have : gp l k = l[k] := by simp [gp, List.getD_eq_getElem?_getD, List.getElem?_eq_getElem hk]
 rw [this]
 obtain ⟨h1, h2⟩ := h _ (List.getElem_mem hk)
 have q1 := wf_i64 h1
 have q2 := wf_i64 h2
 exact ⟨by simp only [inR]; omega, by simp only [inR]; omega⟩
end Go.Proofs.YtplnhbenmgclfaaGreatDoor

namespace Go.Proofs.YtplnhbenmgclfaaGreatDoor
open Go.Ab Go.RowKit Go.Dw Go.Shelf
theorem boolOf (p : Nat → Prop) : ∃ f : Nat → Bool, ∀ n, f n = true ↔ p n := ⟨fun n => @decide _ (Classical.propDecidable (p n)), fun n => by simp⟩
abbrev yyWThin0 (p : List Pt) (c : Cut) : V := V.sl 2 (List.length (List.map (wallP c) p)) fun (k : Nat) => [V.i (Prod.fst (gp (List.map (wallP c) p) k)), V.i (Prod.snd (gp (List.map (wallP c) p) k))]
abbrev yyWThin1 (c : Cut) (hf : Int) : List V := [V.i (Int.tmod hf (Cut.half c + (1 : Int))), V.i (Cut.gain c), V.i (Cut.thin c), V.i (Cut.wide c), V.i (Cut.slope c), V.i (Cut.jerk c), V.i (Cut.sty c)]
abbrev yyWThin2 (p : List Pt) (c : Cut) : V := V.sl 2 (List.length (Prod.fst (cutR c p))) fun (k : Nat) => [V.i (Prod.fst (gp (Prod.fst (cutR c p)) k)), V.i (Prod.snd (gp (Prod.fst (cutR c p)) k))]
abbrev yyWThin5 (c : Cut) : List V := [V.i (Cut.half c), V.i (Cut.gain c), V.i (Cut.thin c), V.i (Cut.wide c), V.i (Cut.slope c), V.i (Cut.jerk c), V.i (Cut.sty c)]
abbrev yyWThin3 (c : Cut) : V := V.ptr (yyWThin5 c)
abbrev yyWThin4 (c : Cut) : V := V.agg (yyWThin5 c)
abbrev yyWThin6 (b : Bl) : V := V.agg [V.i (Bl.per b), V.i (Bl.rim b), V.i (Bl.core b), V.i (Bl.land b), V.i (Bl.slow b), V.i (Bl.fast b)]
abbrev yyWThin7 := ((false == false) = true → (false == false) = true)
abbrev yyWThin8 := ((true == true) = true → (true == true) = true)
set_option maxRecDepth 100000 in
theorem thin_law (p : List Pt) (c : Cut) (hf : Int) (b : Bl) (hl : p.length ≤ 4611686018427387904) (hr : ∀ k, k < p.length → inR2 (gp p k)) (hh : 0 ≤ hf ∧ hf ≤ 65535) : AC Tryz.prog 3 [V.pts p, c.v, .c (.int .u16 hf), b.v] (.b true) [] := by
 refine acI hTT hMX Tryz.func3 Tryz.ntmps3 fun C hC hF => ?_
 refine aw_seq_k fun K hK => wR 2 ?_
 refine aops_n hTT (M := []) (n := 3) [pv 5 ((yyWThin3 c)), pv 7 (V.ptr [V.i (Bl.per b), V.i (Bl.rim b), V.i (Bl.core b), V.i (Bl.land b), V.i (Bl.slow b), V.i (Bl.fast b)]), pv 8 (V.b false)] (by kernel_rfl) (by kernel_rfl) True.intro ?_
 refine aops_nil (xt_n (hK _ ?_)); clear hK K; refine aw_seq_k fun K hK => wR 3 ?_
 refine aops_n hTT (M := []) (n := 3) [pv 21 (V.sl 2 (List.length p) fun (k : Nat) => [V.i (Prod.fst (gp p k)), V.i (Prod.snd (gp p k))]), pv 22 ((yyWThin4 c)), pv 23 ((yyWThin6 b))] (by kernel_rfl) (by kernel_rfl) True.intro ?_
 by_cases h0 : p.length ≤ 40 ∧ blE b = 0
 ·
  refine eC (cut_some c b p 40 h0 hl hr) ?_
  by_cases h1 : (cutR c p).2 = 0
  ·
   have h2 : cutE c = 0 ∧ sChk p = 0 := by
    unfold cutR at h1
    split at h1
    ·
     split at h1
     ·
      exact ⟨by assumption, by assumption⟩
     ·
      exact absurd h1 (by assumption)
    ·
     exact absurd h1 (by assumption)
   rw [cutR, if_pos h2.1, if_pos h2.2]
   have hc1 := (cutE_ok.1 h2.1).1
   have hl40 := h0.1
   have ht : 0 ≤ hf.tmod (c.half + 1) ∧ hf.tmod (c.half + 1) ≤ c.half := by
    rw [Int.tmod_eq_emod_of_nonneg hh.1]
    have := Int.emod_nonneg hf (show c.half + 1 ≠ 0 by omega)
    have := Int.emod_lt_of_pos hf (show 0 < c.half + 1 by omega)
    omega
   have hb1 := (blE_ok.1 h0.2).1.1
   refine aops_n hTT (M := []) (n := 5) [pv 20 (V.tup [(yyWThin0 p c), V.b true]), pv 25 ((yyWThin0 p c)), pv 26 (V.b true), pv 9 ((yyWThin0 p c)), pv 10 (V.b true)] (by kernel_rfl) (by kernel_rfl) True.intro ?_
   refine aops_nil (xt_n (hK _ ?_)); clear hK K; refine aw_seq_k fun K hK => ?_; refine aw_seq_k fun K hK => wR 4 ?_
   refine aops_n hTT (M := []) (n := 2) [pv 27 (V.b true), pv 28 (V.b false)] (by kernel_rfl) (by kernel_rfl) True.intro ?_
   refine aops_nil (xt_n (hK _ ?_)); clear hK K; refine w_false (t := false) (by kernel_rfl) rfl ?_
   refine aw_skip ?_
   refine xt_n (hK _ ?_); clear hK K; refine aw_seq_k fun K hK => wR 5 ?_
   refine aops_n hTT (M := []) (n := 3) [pv 30 ((yyWThin4 c)), pn 11 (V.ref 400011 0) (400011 : Nat) (Ob.box 24 [V.i 0, V.i 0, V.i 0, V.i 0, V.i 0, V.i 0, V.i 0]), pw ((0 : Nat) + (7 : Nat) ≤ (7 : Nat)) (400011 : Nat) (Ob.box 24 (yyWThin5 c))] (by kernel_rfl) (by kernel_rfl) ⟨(by omega), True.intro⟩ ?_
   refine aops_nil (xt_n (hK _ ?_)); clear hK K; refine aw_seq_k fun K hK => wR 6 ?_
   refine aops_n hTT (M := []) (n := 8) [pv 31 (V.c (Value.int IntKind.u16 hf)), pc 32 ((-9223372036854775808 : Int) ≤ hf ∧ hf ≤ (9223372036854775807 : Int)) (V.i hf), pv 33 ((yyWThin3 c)), pv 34 (V.i (Cut.half c)), pc 35 ((-9223372036854775808 : Int) ≤ Cut.half c + (1 : Int) ∧ Cut.half c + (1 : Int) ≤ (9223372036854775807 : Int)) (V.i (Cut.half c + (1 : Int))), pc 36 (Cut.half c + (1 : Int) ≠ (0 : Int)) (V.i (Int.tmod hf (Cut.half c + (1 : Int)))), pv 37 (V.ref 400011 0), pw ((0 : Nat) + (1 : Nat) ≤ (7 : Nat)) (400011 : Nat) (Ob.box 24 (yyWThin1 c hf))] (by kernel_rfl) (by kernel_rfl) ⟨(by omega), (by omega), (by omega), (by omega), True.intro⟩ ?_
   refine aops_nil (xt_n (hK _ ?_)); clear hK K; refine aw_seq_k fun K hK => ?_; refine aw_seq_k fun K hK => wR 7 ?_
   refine aops_n hTT (M := []) (n := 1) [pc 38 ((0 : Nat) ≤ (7 : Nat)) (V.agg (yyWThin1 c hf))] (by kernel_rfl) (by kernel_rfl) ⟨(by omega), True.intro⟩ ?_
   generalize hf.tmod (c.half + 1) = t at ht ⊢
   obtain ⟨d, hd⟩ : ∃ d : Cut, d = ⟨t, c.gain, c.thin, c.wide, c.slope, c.jerk, c.sty⟩ := ⟨_, rfl⟩
   refine eC (refCheck_ac ⟨t, c.gain, c.thin, c.wide, c.slope, c.jerk, c.sty⟩) ?_
   rw [← hd]
   refine aops_n hTT (M := []) (n := 1) [pv 40 (V.b !decide (cutE d = (0 : Int)))] (by kernel_rfl) (by kernel_rfl) True.intro ?_
   refine aops_nil (xt_n (hK _ ?_)); clear hK K
   refine w_cond (t := !decide (cutE d = (0 : Int))) (by kernel_rfl) (fun c1 => ?_) (fun c1 => ?_)
   ·
    refine aw_seq_k fun K hK => ?_
    refine wR 8 ?_
    refine eC (works05_ac) ?_
    refine aops_n hTT (M := []) (n := 1) [pv 8 (V.b true)] (by kernel_rfl) (by kernel_rfl) True.intro ?_
    refine aops_nil (xt_n (hK _ ?_)); clear hK K
    refine aw_ret ?_
    refine xt_r ?_
    refine rP (V.b true)
   have hdc : cutE d = 0 := by simpa using c1
   have hn : Narrower (p.map (wallP c)) (p.map (wallP d)) := wall_narrow p (by rw [hd]) (by rw [hd]; exact ht.2)
   have s1 : SOk b (p.map (wallP c)) := ⟨h0.2, wall_gChk h2.1 h2.2⟩
   have s2 : SOk b (p.map (wallP d)) := ⟨h0.2, wall_gChk hdc h2.2⟩
   have len1 : (p.map (wallP c)).length = p.length := by simp
   have len2 : (p.map (wallP d)).length = p.length := by simp
   have A := Cut_ac d p hl
   rw [cutR, if_pos hdc, if_pos h2.2, hd] at A
   refine aw_skip ?_
   refine xt_n (hK _ ?_); clear hK K; refine aw_seq_k fun K hK => wR 8 ?_
   refine aops_n hTT (M := []) (n := 2) [pc 43 ((0 : Nat) ≤ (7 : Nat)) (V.agg [V.i t, V.i (Cut.gain c), V.i (Cut.thin c), V.i (Cut.wide c), V.i (Cut.slope c), V.i (Cut.jerk c), V.i (Cut.sty c)]), pv 44 (V.sl 2 (List.length p) fun (k : Nat) => [V.i (Prod.fst (gp p k)), V.i (Prod.snd (gp p k))])] (by kernel_rfl) (by kernel_rfl) ⟨(by omega), True.intro⟩ ?_
   refine eC (A) ?_
   rw [← hd]
   generalize p.map (wallP c) = l at hn s1 len1 ⊢
   generalize p.map (wallP d) = m at hn s2 len2 ⊢
   refine aops_n hTT (M := []) (n := 5) [pv 42 (V.tup [V.sl 2 (List.length m) fun (k : Nat) => [V.i (Prod.fst (gp m k)), V.i (Prod.snd (gp m k))], V.i 0]), pv 46 (V.sl 2 (List.length m) fun (k : Nat) => [V.i (Prod.fst (gp m k)), V.i (Prod.snd (gp m k))]), pv 47 (V.i 0), pv 12 (V.sl 2 (List.length m) fun (k : Nat) => [V.i (Prod.fst (gp m k)), V.i (Prod.snd (gp m k))]), pv 13 (V.i 0)] (by kernel_rfl) (by kernel_rfl) True.intro ?_
   refine aops_nil (xt_n (hK _ ?_)); clear hK K; refine aw_seq_k fun K hK => ?_; refine aw_seq_k fun K hK => wR 9 ?_
   refine aops_n hTT (M := []) (n := 9) [pv 48 (V.i 0), pv 49 (V.b false), pv 50 (V.b false), pc 51 ((True ∧ True) ∧ ((false == false) = true → True)) (V.gd (false == false) (V.sl 2 (List.length m) fun (k : Nat) => [V.i (Prod.fst (gp m k)), V.i (Prod.snd (gp m k))])), pc 52 ((yyWThin7 ∧ True) ∧ ((false == false) = true → True)) (V.gd (false == false) (V.i (↑(List.length m) : Int))), pc 53 ((True ∧ True) ∧ ((false == false) = true → True)) (V.gd (false == false) (V.sl 2 (List.length l) fun (k : Nat) => [V.i (Prod.fst (gp l k)), V.i (Prod.snd (gp l k))])), pc 54 ((yyWThin7 ∧ True) ∧ ((false == false) = true → True)) (V.gd (false == false) (V.i (↑(List.length l) : Int))), pc 55 ((yyWThin7 ∧ yyWThin7 ∧ True) ∧ ((false == false) = true → True)) (V.gd (false == false) (V.b !decide ((↑(List.length m) : Int) = (↑(List.length l) : Int)))), pc 56 (True ∧ (false = false → (false == false) = true)) (V.b !decide ((↑(List.length m) : Int) = (↑(List.length l) : Int)))] (by kernel_rfl) (by kernel_rfl) ⟨⟨⟨True.intro, True.intro⟩, (fun _ => True.intro)⟩, ⟨⟨(by (exact fun h => h)), True.intro⟩, (fun _ => True.intro)⟩, ⟨⟨True.intro, True.intro⟩, (fun _ => True.intro)⟩, ⟨⟨(by (exact fun h => h)), True.intro⟩, (fun _ => True.intro)⟩, ⟨⟨(by (exact fun h => h)), ⟨(by (exact fun h => h)), True.intro⟩⟩, (fun _ => True.intro)⟩, ⟨True.intro, (by (intro h; rw [h]; rfl))⟩, True.intro⟩ ?_
   refine aops_nil (xt_n (hK _ ?_)); clear hK K
   refine w_cond (t := !decide ((↑(List.length m) : Int) = (↑(List.length l) : Int))) (by kernel_rfl) (fun c2 => ?_) (fun c2 => ?_)
   ·
    simp at c2
    omega
   clear c2
   obtain ⟨f, hf1⟩ := boolOf (FitP b l)
   obtain ⟨g, hg1⟩ := boolOf (FitP b m)
   obtain ⟨F1, u1, u2, u3⟩ := fit_F (b := b) (l := l) hb1
   obtain ⟨F2, v1, v2, v3⟩ := fit_F (b := b) (l := m) hb1
   have w1 : F1 ≤ F2 := Nat.not_lt.1 fun hc => v3 F2 (Nat.le_refl _) (by omega) (hn.fit hb1 (u2 F2 hc))
   have X1 := Fits_ac b l s1 hf1 F1 u1 (fun k hk => (hf1 _).2 (u2 k hk)) (fun k hk hk2 => by
    cases hq : f (k + 1) with
    | false => rfl
    | true => exact absurd ((hf1 _).1 hq) (u3 k hk hk2))
   have X2 := Fits_ac b m s2 hg1 F2 v1 (fun k hk => (hg1 _).2 (v2 k hk)) (fun k hk hk2 => by
    cases hq : g (k + 1) with
    | false => rfl
    | true => exact absurd ((hg1 _).1 hq) (v3 k hk hk2))
   refine aw_skip ?_
   refine xt_n (hK _ ?_); clear hK K; refine aw_seq_k fun K hK => wR 10 ?_
   refine aops_n hTT (M := []) (n := 2) [pv 58 ((yyWThin6 b)), pv 59 (V.sl 2 (List.length l) fun (k : Nat) => [V.i (Prod.fst (gp l k)), V.i (Prod.snd (gp l k))])] (by kernel_rfl) (by kernel_rfl) True.intro ?_
   refine eC (X1) ?_
   refine aops_n hTT (M := []) (n := 5) [pv 57 (V.tup [V.i (↑F1 : Int), V.i 0]), pv 61 (V.i (↑F1 : Int)), pv 62 (V.i 0), pv 14 (V.i (↑F1 : Int)), pv 13 (V.i 0)] (by kernel_rfl) (by kernel_rfl) True.intro ?_
   refine aops_nil (xt_n (hK _ ?_)); clear hK K; refine aw_seq_k fun K hK => wR 11 ?_
   refine aops_n hTT (M := []) (n := 2) [pv 64 ((yyWThin6 b)), pv 65 (V.sl 2 (List.length m) fun (k : Nat) => [V.i (Prod.fst (gp m k)), V.i (Prod.snd (gp m k))])] (by kernel_rfl) (by kernel_rfl) True.intro ?_
   refine eC (X2) ?_
   refine aops_n hTT (M := []) (n := 5) [pv 63 (V.tup [V.i (↑F2 : Int), V.i 0]), pv 67 (V.i (↑F2 : Int)), pv 68 (V.i 0), pv 15 (V.i (↑F2 : Int)), pv 16 (V.i 0)] (by kernel_rfl) (by kernel_rfl) True.intro ?_
   refine aops_nil (xt_n (hK _ ?_)); clear hK K; refine aw_seq_k fun K hK => ?_; refine aw_seq_k fun K hK => wR 12 ?_
   refine aops_n hTT (M := []) (n := 17) [pv 69 (V.i 0), pv 70 (V.b false), pv 71 (V.b false), pc 72 ((True ∧ True) ∧ ((false == false) = true → True)) (V.gd (false == false) (V.i 0)), pc 73 ((yyWThin7 ∧ True ∧ True) ∧ ((false == false) = true → True)) (V.gd (false == false) (V.b false)), pc 74 (True ∧ (false = false → (false == false) = true)) (V.b false), pv 75 (V.b false), pc 76 ((True ∧ True) ∧ ((false == false) = true → True)) (V.gd (false == false) (V.i (↑F2 : Int))), pc 77 ((True ∧ True) ∧ ((false == false) = true → True)) (V.gd (false == false) (V.i (↑F1 : Int))), pc 78 ((yyWThin7 ∧ yyWThin7 ∧ True) ∧ ((false == false) = true → True)) (V.gd (false == false) (V.b (decide ((↑F2 : Int) < (↑F1 : Int))))), pc 79 (True ∧ (false = false → (false == false) = true)) (V.b (decide ((↑F2 : Int) < (↑F1 : Int)))), pv 80 (V.b (decide ((↑F2 : Int) < (↑F1 : Int)))), pc 81 ((True ∧ True) ∧ ((decide ((↑F2 : Int) < (↑F1 : Int)) == false) = true → True)) (V.gd (decide ((↑F2 : Int) < (↑F1 : Int)) == false) (V.i (↑F2 : Int))), pc 82 ((True ∧ True) ∧ ((decide ((↑F2 : Int) < (↑F1 : Int)) == false) = true → True)) (V.gd (decide ((↑F2 : Int) < (↑F1 : Int)) == false) (V.sl 2 (List.length m) fun (k : Nat) => [V.i (Prod.fst (gp m k)), V.i (Prod.snd (gp m k))])), pc 83 ((((decide ((↑F2 : Int) < (↑F1 : Int)) == false) = true → (decide ((↑F2 : Int) < (↑F1 : Int)) == false) = true) ∧ True) ∧ ((decide ((↑F2 : Int) < (↑F1 : Int)) == false) = true → True)) (V.gd (decide ((↑F2 : Int) < (↑F1 : Int)) == false) (V.i (↑(List.length m) : Int))), pc 84 ((((decide ((↑F2 : Int) < (↑F1 : Int)) == false) = true → (decide ((↑F2 : Int) < (↑F1 : Int)) == false) = true) ∧ ((decide ((↑F2 : Int) < (↑F1 : Int)) == false) = true → (decide ((↑F2 : Int) < (↑F1 : Int)) == false) = true) ∧ True) ∧ ((decide ((↑F2 : Int) < (↑F1 : Int)) == false) = true → True)) (V.gd (decide ((↑F2 : Int) < (↑F1 : Int)) == false) (V.b (decide ((↑(List.length m) : Int) < (↑F2 : Int))))), pc 85 (True ∧ (decide ((↑F2 : Int) < (↑F1 : Int)) = false → (decide ((↑F2 : Int) < (↑F1 : Int)) == false) = true)) (V.b (decide ((↑F2 : Int) < (↑F1 : Int)) || decide ((↑(List.length m) : Int) < (↑F2 : Int))))] (by kernel_rfl) (by kernel_rfl) ⟨⟨⟨True.intro, True.intro⟩, (fun _ => True.intro)⟩, ⟨⟨(by (exact fun h => h)), ⟨True.intro, True.intro⟩⟩, (fun _ => True.intro)⟩, ⟨True.intro, (by (intro h; rw [h]; rfl))⟩, ⟨⟨True.intro, True.intro⟩, (fun _ => True.intro)⟩, ⟨⟨True.intro, True.intro⟩, (fun _ => True.intro)⟩, ⟨⟨(by (exact fun h => h)), ⟨(by (exact fun h => h)), True.intro⟩⟩, (fun _ => True.intro)⟩, ⟨True.intro, (by (intro h; rw [h]; rfl))⟩, ⟨⟨True.intro, True.intro⟩, (fun _ => True.intro)⟩, ⟨⟨True.intro, True.intro⟩, (fun _ => True.intro)⟩, ⟨⟨(by (exact fun h => h)), True.intro⟩, (fun _ => True.intro)⟩, ⟨⟨(by (exact fun h => h)), ⟨(by (exact fun h => h)), True.intro⟩⟩, (fun _ => True.intro)⟩, ⟨True.intro, (by (intro h; rw [h]; rfl))⟩, True.intro⟩ ?_
   refine aops_nil (xt_n (hK _ ?_)); clear hK K
   refine w_cond (t := decide ((↑F2 : Int) < (↑F1 : Int)) || decide ((↑(List.length m) : Int) < (↑F2 : Int))) (by kernel_rfl) (fun c3 => ?_) (fun c3 => ?_)
   ·
    simp at c3
    omega
   clear c3
   by_cases ho : ∃ o, LOut b l o
   ·
    obtain ⟨o, ho⟩ := ho
    obtain ⟨o2, ho2⟩ := lout_of hb1 (hn.cut ho.2.1)
    have hF1 : F1 = l.length := Classical.byContradiction fun hc => by
     have h5 : F1 < l.length := by omega
     exact u3 F1 (Nat.le_refl _) h5 (fit_mono hb1 (by omega) (fit_all.2 ⟨o, ho⟩))
    have hle : ∀ i, i < l.length → gi o i ≤ gi o2 i := fun i hi => ho2.2.2 _ (hn.cut ho.2.1).1 i (by omega)
    have e1 := ho.1
    have e2 := ho2.1
    refine aw_skip ?_
    refine xt_n (hK _ ?_); clear hK K; refine aw_seq_k fun K hK => wR 13 ?_
    refine aops_n hTT (M := []) (n := 2) [pv 87 ((yyWThin6 b)), pv 88 (V.sl 2 (List.length l) fun (k : Nat) => [V.i (Prod.fst (gp l k)), V.i (Prod.snd (gp l k))])] (by kernel_rfl) (by kernel_rfl) True.intro ?_
    refine eC (Outer_ok b l s1 ho) ?_
    refine aops_n hTT (M := []) (n := 5) [pv 86 (V.tup [V.sl 1 (List.length o) fun (k : Nat) => [V.i (gi o k)], V.i 0]), pv 90 (V.sl 1 (List.length o) fun (k : Nat) => [V.i (gi o k)]), pv 91 (V.i 0), pv 17 (V.sl 1 (List.length o) fun (k : Nat) => [V.i (gi o k)]), pv 13 (V.i 0)] (by kernel_rfl) (by kernel_rfl) True.intro ?_
    refine aops_nil (xt_n (hK _ ?_)); clear hK K; refine aw_seq_k fun K hK => wR 14 ?_
    refine aops_n hTT (M := []) (n := 2) [pv 93 ((yyWThin6 b)), pv 94 (V.sl 2 (List.length m) fun (k : Nat) => [V.i (Prod.fst (gp m k)), V.i (Prod.snd (gp m k))])] (by kernel_rfl) (by kernel_rfl) True.intro ?_
    refine eC (Outer_ok b m s2 ho2) ?_
    refine aops_n hTT (M := []) (n := 5) [pv 92 (V.tup [V.sl 1 (List.length o2) fun (k : Nat) => [V.i (gi o2 k)], V.i 0]), pv 96 (V.sl 1 (List.length o2) fun (k : Nat) => [V.i (gi o2 k)]), pv 97 (V.i 0), pv 18 (V.sl 1 (List.length o2) fun (k : Nat) => [V.i (gi o2 k)]), pv 16 (V.i 0)] (by kernel_rfl) (by kernel_rfl) True.intro ?_
    refine aops_nil (xt_n (hK _ ?_)); clear hK K; refine aw_seq_k fun K hK => ?_; refine aw_seq_k fun K hK => wR 15 ?_
    refine aops_n hTT (M := []) (n := 2) [pv 98 (V.i 0), pv 99 (V.b false)] (by kernel_rfl) (by kernel_rfl) True.intro ?_
    refine aops_nil (xt_n (hK _ ?_)); clear hK K; refine w_false (t := false) (by kernel_rfl) rfl ?_
    refine aw_skip ?_
    refine xt_n (hK _ ?_); clear hK K; refine aw_seq_k fun K hK => ?_; refine aw_seq_k fun K hK => wR 16 ?_
    refine aops_n hTT (M := []) (n := 22) [pv 111 (V.i 0), pv 112 (V.b false), pv 113 (V.b false), pc 114 ((True ∧ True) ∧ ((false == false) = true → True)) (V.gd (false == false) (V.i (↑F1 : Int))), pc 115 ((True ∧ True) ∧ ((false == false) = true → True)) (V.gd (false == false) (V.sl 2 (List.length l) fun (k : Nat) => [V.i (Prod.fst (gp l k)), V.i (Prod.snd (gp l k))])), pc 116 ((yyWThin7 ∧ True) ∧ ((false == false) = true → True)) (V.gd (false == false) (V.i (↑(List.length l) : Int))), pc 117 ((yyWThin7 ∧ yyWThin7 ∧ True) ∧ ((false == false) = true → True)) (V.gd (false == false) (V.b !decide ((↑F1 : Int) = (↑(List.length l) : Int)))), pc 118 (True ∧ (false = false → (false == false) = true)) (V.b !decide ((↑F1 : Int) = (↑(List.length l) : Int))), pv 119 (V.b !decide ((↑F1 : Int) = (↑(List.length l) : Int))), pc 120 ((True ∧ True) ∧ (((!decide ((↑F1 : Int) = (↑(List.length l) : Int))) == false) = true → True)) (V.gd ((!decide ((↑F1 : Int) = (↑(List.length l) : Int))) == false) (V.sl 1 (List.length o) fun (k : Nat) => [V.i (gi o k)])), pc 121 (((((!decide ((↑F1 : Int) = (↑(List.length l) : Int))) == false) = true → ((!decide ((↑F1 : Int) = (↑(List.length l) : Int))) == false) = true) ∧ True) ∧ (((!decide ((↑F1 : Int) = (↑(List.length l) : Int))) == false) = true → True)) (V.gd ((!decide ((↑F1 : Int) = (↑(List.length l) : Int))) == false) (V.i (↑(List.length o) : Int))), pc 122 ((True ∧ True) ∧ (((!decide ((↑F1 : Int) = (↑(List.length l) : Int))) == false) = true → True)) (V.gd ((!decide ((↑F1 : Int) = (↑(List.length l) : Int))) == false) (V.sl 2 (List.length l) fun (k : Nat) => [V.i (Prod.fst (gp l k)), V.i (Prod.snd (gp l k))])), pc 123 (((((!decide ((↑F1 : Int) = (↑(List.length l) : Int))) == false) = true → ((!decide ((↑F1 : Int) = (↑(List.length l) : Int))) == false) = true) ∧ True) ∧ (((!decide ((↑F1 : Int) = (↑(List.length l) : Int))) == false) = true → True)) (V.gd ((!decide ((↑F1 : Int) = (↑(List.length l) : Int))) == false) (V.i (↑(List.length l) : Int))), pc 124 (((((!decide ((↑F1 : Int) = (↑(List.length l) : Int))) == false) = true → ((!decide ((↑F1 : Int) = (↑(List.length l) : Int))) == false) = true) ∧ (((!decide ((↑F1 : Int) = (↑(List.length l) : Int))) == false) = true → ((!decide ((↑F1 : Int) = (↑(List.length l) : Int))) == false) = true) ∧ True) ∧ (((!decide ((↑F1 : Int) = (↑(List.length l) : Int))) == false) = true → True)) (V.gd ((!decide ((↑F1 : Int) = (↑(List.length l) : Int))) == false) (V.b !decide ((↑(List.length o) : Int) = (↑(List.length l) : Int)))), pc 125 (True ∧ ((!decide ((↑F1 : Int) = (↑(List.length l) : Int))) = false → ((!decide ((↑F1 : Int) = (↑(List.length l) : Int))) == false) = true)) (V.b (!decide ((↑F1 : Int) = (↑(List.length l) : Int)) || !decide ((↑(List.length o) : Int) = (↑(List.length l) : Int)))), pv 126 (V.b (!decide ((↑F1 : Int) = (↑(List.length l) : Int)) || !decide ((↑(List.length o) : Int) = (↑(List.length l) : Int)))), pc 127 ((True ∧ True) ∧ (((!decide ((↑F1 : Int) = (↑(List.length l) : Int)) || !decide ((↑(List.length o) : Int) = (↑(List.length l) : Int))) == false) = true → True)) (V.gd ((!decide ((↑F1 : Int) = (↑(List.length l) : Int)) || !decide ((↑(List.length o) : Int) = (↑(List.length l) : Int))) == false) (V.sl 1 (List.length o2) fun (k : Nat) => [V.i (gi o2 k)])), pc 128 (((((!decide ((↑F1 : Int) = (↑(List.length l) : Int)) || !decide ((↑(List.length o) : Int) = (↑(List.length l) : Int))) == false) = true → ((!decide ((↑F1 : Int) = (↑(List.length l) : Int)) || !decide ((↑(List.length o) : Int) = (↑(List.length l) : Int))) == false) = true) ∧ True) ∧ (((!decide ((↑F1 : Int) = (↑(List.length l) : Int)) || !decide ((↑(List.length o) : Int) = (↑(List.length l) : Int))) == false) = true → True)) (V.gd ((!decide ((↑F1 : Int) = (↑(List.length l) : Int)) || !decide ((↑(List.length o) : Int) = (↑(List.length l) : Int))) == false) (V.i (↑(List.length o2) : Int))), pc 129 ((True ∧ True) ∧ (((!decide ((↑F1 : Int) = (↑(List.length l) : Int)) || !decide ((↑(List.length o) : Int) = (↑(List.length l) : Int))) == false) = true → True)) (V.gd ((!decide ((↑F1 : Int) = (↑(List.length l) : Int)) || !decide ((↑(List.length o) : Int) = (↑(List.length l) : Int))) == false) (V.sl 2 (List.length l) fun (k : Nat) => [V.i (Prod.fst (gp l k)), V.i (Prod.snd (gp l k))])), pc 130 (((((!decide ((↑F1 : Int) = (↑(List.length l) : Int)) || !decide ((↑(List.length o) : Int) = (↑(List.length l) : Int))) == false) = true → ((!decide ((↑F1 : Int) = (↑(List.length l) : Int)) || !decide ((↑(List.length o) : Int) = (↑(List.length l) : Int))) == false) = true) ∧ True) ∧ (((!decide ((↑F1 : Int) = (↑(List.length l) : Int)) || !decide ((↑(List.length o) : Int) = (↑(List.length l) : Int))) == false) = true → True)) (V.gd ((!decide ((↑F1 : Int) = (↑(List.length l) : Int)) || !decide ((↑(List.length o) : Int) = (↑(List.length l) : Int))) == false) (V.i (↑(List.length l) : Int))), pc 131 (((((!decide ((↑F1 : Int) = (↑(List.length l) : Int)) || !decide ((↑(List.length o) : Int) = (↑(List.length l) : Int))) == false) = true → ((!decide ((↑F1 : Int) = (↑(List.length l) : Int)) || !decide ((↑(List.length o) : Int) = (↑(List.length l) : Int))) == false) = true) ∧ (((!decide ((↑F1 : Int) = (↑(List.length l) : Int)) || !decide ((↑(List.length o) : Int) = (↑(List.length l) : Int))) == false) = true → ((!decide ((↑F1 : Int) = (↑(List.length l) : Int)) || !decide ((↑(List.length o) : Int) = (↑(List.length l) : Int))) == false) = true) ∧ True) ∧ (((!decide ((↑F1 : Int) = (↑(List.length l) : Int)) || !decide ((↑(List.length o) : Int) = (↑(List.length l) : Int))) == false) = true → True)) (V.gd ((!decide ((↑F1 : Int) = (↑(List.length l) : Int)) || !decide ((↑(List.length o) : Int) = (↑(List.length l) : Int))) == false) (V.b !decide ((↑(List.length o2) : Int) = (↑(List.length l) : Int)))), pc 132 (True ∧ ((!decide ((↑F1 : Int) = (↑(List.length l) : Int)) || !decide ((↑(List.length o) : Int) = (↑(List.length l) : Int))) = false → ((!decide ((↑F1 : Int) = (↑(List.length l) : Int)) || !decide ((↑(List.length o) : Int) = (↑(List.length l) : Int))) == false) = true)) (V.b (!decide ((↑F1 : Int) = (↑(List.length l) : Int)) || !decide ((↑(List.length o) : Int) = (↑(List.length l) : Int)) || !decide ((↑(List.length o2) : Int) = (↑(List.length l) : Int))))] (by kernel_rfl) (by kernel_rfl) ⟨⟨⟨True.intro, True.intro⟩, (fun _ => True.intro)⟩, ⟨⟨True.intro, True.intro⟩, (fun _ => True.intro)⟩, ⟨⟨(by (exact fun h => h)), True.intro⟩, (fun _ => True.intro)⟩, ⟨⟨(by (exact fun h => h)), ⟨(by (exact fun h => h)), True.intro⟩⟩, (fun _ => True.intro)⟩, ⟨True.intro, (by (intro h; rw [h]; rfl))⟩, ⟨⟨True.intro, True.intro⟩, (fun _ => True.intro)⟩, ⟨⟨(by (exact fun h => h)), True.intro⟩, (fun _ => True.intro)⟩, ⟨⟨True.intro, True.intro⟩, (fun _ => True.intro)⟩, ⟨⟨(by (exact fun h => h)), True.intro⟩, (fun _ => True.intro)⟩, ⟨⟨(by (exact fun h => h)), ⟨(by (exact fun h => h)), True.intro⟩⟩, (fun _ => True.intro)⟩, ⟨True.intro, (by (intro h; rw [h]; rfl))⟩, ⟨⟨True.intro, True.intro⟩, (fun _ => True.intro)⟩, ⟨⟨(by (exact fun h => h)), True.intro⟩, (fun _ => True.intro)⟩, ⟨⟨True.intro, True.intro⟩, (fun _ => True.intro)⟩, ⟨⟨(by (exact fun h => h)), True.intro⟩, (fun _ => True.intro)⟩, ⟨⟨(by (exact fun h => h)), ⟨(by (exact fun h => h)), True.intro⟩⟩, (fun _ => True.intro)⟩, ⟨True.intro, (by (intro h; rw [h]; rfl))⟩, True.intro⟩ ?_
    refine aops_nil (xt_n (hK _ ?_)); clear hK K
    refine w_cond (t := !decide ((↑F1 : Int) = (↑(List.length l) : Int)) || !decide ((↑(List.length o) : Int) = (↑(List.length l) : Int)) || !decide ((↑(List.length o2) : Int) = (↑(List.length l) : Int))) (by kernel_rfl) (fun c4 => ?_) (fun c4 => ?_)
    ·
     simp at c4
     omega
    clear c4
    refine aw_skip ?_
    refine xt_n (hK _ ?_); clear hK K; refine aw_seq_k fun K hK => ?_; refine aw_seq_k fun K hK => wR 17 ?_
    refine aops_n hTT (M := []) (n := 1) [pv 19 (V.i 0)] (by kernel_rfl) (by kernel_rfl) True.intro ?_
    refine aops_nil (xt_n (hK _ ?_)); clear hK K
    refine aw_block ?_
    refine w_loop (ι := Nat) (fun k => [(17, V.ints o), (18, V.ints o2), (19, .i k)]) (fun _ => []) (fun k => k ≤ o.length) (fun k => o.length - k) 0 (Nat.zero_le _) ?_ ?_
    ·
     refine le_ren [] (.cons (by kernel_rfl) (.cons (by kernel_rfl) (.cons (by kernel_rfl) .nil))) .nil (by kernel_rfl) (by kernel_rfl)
    intro k hk
    refine aw_seq_k fun K hK => ?_; refine aw_seq_k fun K hK => wR 2 ?_
    refine aops_n hTT (M := []) (n := 4) [pv 133 (V.i (↑k : Int)), pv 134 (V.sl 1 (List.length o) fun (k : Nat) => [V.i (gi o k)]), pv 135 (V.i (↑(List.length o) : Int)), pv 136 (V.b (decide ((↑k : Int) < (↑(List.length o) : Int))))] (by kernel_rfl) (by kernel_rfl) True.intro ?_
    refine aops_nil (xt_n (hK _ ?_)); clear hK K
    refine w_cond (t := decide ((↑k : Int) < (↑(List.length o) : Int))) (by kernel_rfl) (fun c5 => ?_) (fun c5 => ?_)
    ·
     have hk1 : k < o.length := by simpa using c5
     have := hle k (by omega)
     refine aw_skip ?_
     refine xt_n (hK _ ?_); clear hK K; refine aw_seq_k fun K hK => ?_
     refine aw_block ?_
     refine aw_seq_k fun K hK => wD 3 ?_
     refine aops_n hTT (M := []) (n := 9) [pv 139 (V.sl 1 (List.length o2) fun (k : Nat) => [V.i (gi o2 k)]), pv 140 (V.i (↑k : Int)), pc 141 ((0 : Int) ≤ (↑k : Int) ∧ (↑k : Int) < (↑(List.length o2) : Int)) (V.ptr [V.i (gi o2 k)]), pv 142 (V.i (gi o2 k)), pv 143 (V.sl 1 (List.length o) fun (k : Nat) => [V.i (gi o k)]), pv 144 (V.i (↑k : Int)), pc 145 ((0 : Int) ≤ (↑k : Int) ∧ (↑k : Int) < (↑(List.length o) : Int)) (V.ptr [V.i (gi o k)]), pv 146 (V.i (gi o k)), pv 147 (V.b (decide (gi o2 k < gi o k)))] (by kernel_rfl) (by kernel_rfl) ⟨(by omega), (by omega), True.intro⟩ ?_
     refine aops_nil ⟨by kernel_rfl, ?_⟩; refine xt_n (hK _ ?_); clear hK K
     refine w_cond (t := decide (gi o2 k < gi o k)) (by kernel_rfl) (fun c6 => ?_) (fun c6 => ?_)
     ·
      simp at c6
      omega
     refine aw_skip ?_
     refine xb_n ?_; refine xt_n (hK _ ?_); clear hK K; refine wR 4 ?_
     refine aops_n hTT (M := []) (n := 3) [pv 137 (V.i (↑k : Int)), pc 138 ((-9223372036854775808 : Int) ≤ (↑k : Int) + (1 : Int) ∧ (↑k : Int) + (1 : Int) ≤ (9223372036854775807 : Int)) (V.i ((↑k : Int) + (1 : Int))), pv 19 (V.i ((↑k : Int) + (1 : Int)))] (by kernel_rfl) (by kernel_rfl) ⟨(by omega), True.intro⟩ ?_
     refine aops_nil ?_; refine xt_n ?_
     refine ⟨k + 1, by omega, ?_, by omega⟩
     refine le_ren [] (.cons (by kernel_rfl) (.cons (by kernel_rfl) (.cons (by kernel_rfl) .nil))) .nil (by kernel_rfl) (by kernel_rfl)
    ·
     refine aw_exit ?_
     refine xt_x ?_; refine xt_x ?_
     refine xb_same ?_
     refine xt_n ?_; clear hK K; refine hK _ ?_; clear hK K; refine aw_seq_k fun K hK => wR 3 ?_
     refine eC (works05_ac) ?_
     refine aops_n hTT (M := []) (n := 1) [pv 8 (V.b true)] (by kernel_rfl) (by kernel_rfl) True.intro ?_
     refine aops_nil (xt_n (hK _ ?_)); clear hK K
     refine aw_ret ?_
     refine rP (V.b true)
   ·
    have hF1 : F1 < l.length := by
     refine Classical.byContradiction fun hc => ho ?_
     cases hq : l.length with
     | zero =>
      have : l = [] := List.length_eq_zero_iff.1 hq
      rw [this]
      exact ⟨[], lout_nil b⟩
     | succ k =>
      have := u2 k (by omega)
      rw [← hq] at this
      exact fit_all.1 this
    by_cases ho2 : ∃ o, LOut b m o
    ·
     obtain ⟨o2, ho2⟩ := ho2
     refine aw_skip ?_
     refine xt_n (hK _ ?_); clear hK K; refine aw_seq_k fun K hK => wR 13 ?_
     refine aops_n hTT (M := []) (n := 2) [pv 87 ((yyWThin6 b)), pv 88 (V.sl 2 (List.length l) fun (k : Nat) => [V.i (Prod.fst (gp l k)), V.i (Prod.snd (gp l k))])] (by kernel_rfl) (by kernel_rfl) True.intro ?_
     refine eC (Outer_no b l s1 ho) ?_
     refine aops_n hTT (M := []) (n := 5) [pv 86 (V.tup [V.nil, V.i 15]), pv 90 V.nil, pv 91 (V.i 15), pv 17 V.nil, pv 13 (V.i 15)] (by kernel_rfl) (by kernel_rfl) True.intro ?_
     refine aops_nil (xt_n (hK _ ?_)); clear hK K; refine aw_seq_k fun K hK => wR 14 ?_
     refine aops_n hTT (M := []) (n := 2) [pv 93 ((yyWThin6 b)), pv 94 (V.sl 2 (List.length m) fun (k : Nat) => [V.i (Prod.fst (gp m k)), V.i (Prod.snd (gp m k))])] (by kernel_rfl) (by kernel_rfl) True.intro ?_
     refine eC (Outer_ok b m s2 ho2) ?_
     refine aops_n hTT (M := []) (n := 5) [pv 92 (V.tup [V.sl 1 (List.length o2) fun (k : Nat) => [V.i (gi o2 k)], V.i 0]), pv 96 (V.sl 1 (List.length o2) fun (k : Nat) => [V.i (gi o2 k)]), pv 97 (V.i 0), pv 18 (V.sl 1 (List.length o2) fun (k : Nat) => [V.i (gi o2 k)]), pv 16 (V.i 0)] (by kernel_rfl) (by kernel_rfl) True.intro ?_
     refine aops_nil (xt_n (hK _ ?_)); clear hK K; refine aw_seq_k fun K hK => ?_; refine aw_seq_k fun K hK => wR 15 ?_
     refine aops_n hTT (M := []) (n := 2) [pv 98 (V.i 15), pv 99 (V.b true)] (by kernel_rfl) (by kernel_rfl) True.intro ?_
     refine aops_nil (xt_n (hK _ ?_)); clear hK K; refine w_true (t := true) (by kernel_rfl) rfl ?_; refine aw_seq_k fun K hK => wR 16 ?_
     refine aops_n hTT (M := []) (n := 9) [pv 100 (V.i 15), pv 101 (V.b true), pv 102 (V.b true), pc 103 ((True ∧ True) ∧ ((true == true) = true → True)) (V.gd (true == true) (V.i (↑F1 : Int))), pc 104 ((True ∧ True) ∧ ((true == true) = true → True)) (V.gd (true == true) (V.sl 2 (List.length l) fun (k : Nat) => [V.i (Prod.fst (gp l k)), V.i (Prod.snd (gp l k))])), pc 105 ((yyWThin8 ∧ True) ∧ ((true == true) = true → True)) (V.gd (true == true) (V.i (↑(List.length l) : Int))), pc 106 ((yyWThin8 ∧ yyWThin8 ∧ True) ∧ ((true == true) = true → True)) (V.gd (true == true) (V.b (decide ((↑F1 : Int) < (↑(List.length l) : Int))))), pc 107 ((true = true → (true == true) = true) ∧ True) (V.b (decide ((↑F1 : Int) < (↑(List.length l) : Int)))), pv 108 (V.b (decide ((↑F1 : Int) < (↑(List.length l) : Int))))] (by kernel_rfl) (by kernel_rfl) ⟨⟨⟨True.intro, True.intro⟩, (fun _ => True.intro)⟩, ⟨⟨True.intro, True.intro⟩, (fun _ => True.intro)⟩, ⟨⟨(by (exact fun h => h)), True.intro⟩, (fun _ => True.intro)⟩, ⟨⟨(by (exact fun h => h)), ⟨(by (exact fun h => h)), True.intro⟩⟩, (fun _ => True.intro)⟩, ⟨(by (exact fun h => h)), True.intro⟩, True.intro⟩ ?_
     refine eG 0 (g := decide ((↑F1 : Int) < (↑(List.length l) : Int)) == true) (fun h => works05_ac) ?_
     refine aops_n hTT (M := []) (n := 2) [pc 110 ((decide ((↑F1 : Int) < (↑(List.length l) : Int)) = true → (decide ((↑F1 : Int) < (↑(List.length l) : Int)) == true) = true) ∧ True) (V.b (decide ((↑F1 : Int) < (↑(List.length l) : Int)) && true)), pv 8 (V.b (decide ((↑F1 : Int) < (↑(List.length l) : Int)) && true))] (by kernel_rfl) (by kernel_rfl) ⟨⟨(by (intro h; rw [h]; rfl)), True.intro⟩, True.intro⟩ ?_
     refine aops_nil (xt_n (hK _ ?_)); clear hK K
     refine aw_ret ?_
     refine xt_r ?_
     refine ret_pure (v' := V.b (decide ((↑F1 : Int) < (↑(List.length l) : Int)) && true)) (.inr rfl) (by kernel_rfl) ?_ (by kernel_rfl)
     simp; omega
    ·
     refine aw_skip ?_
     refine xt_n (hK _ ?_); clear hK K; refine aw_seq_k fun K hK => wR 13 ?_
     refine aops_n hTT (M := []) (n := 2) [pv 87 ((yyWThin6 b)), pv 88 (V.sl 2 (List.length l) fun (k : Nat) => [V.i (Prod.fst (gp l k)), V.i (Prod.snd (gp l k))])] (by kernel_rfl) (by kernel_rfl) True.intro ?_
     refine eC (Outer_no b l s1 ho) ?_
     refine aops_n hTT (M := []) (n := 5) [pv 86 (V.tup [V.nil, V.i 15]), pv 90 V.nil, pv 91 (V.i 15), pv 17 V.nil, pv 13 (V.i 15)] (by kernel_rfl) (by kernel_rfl) True.intro ?_
     refine aops_nil (xt_n (hK _ ?_)); clear hK K; refine aw_seq_k fun K hK => wR 14 ?_
     refine aops_n hTT (M := []) (n := 2) [pv 93 ((yyWThin6 b)), pv 94 (V.sl 2 (List.length m) fun (k : Nat) => [V.i (Prod.fst (gp m k)), V.i (Prod.snd (gp m k))])] (by kernel_rfl) (by kernel_rfl) True.intro ?_
     refine eC (Outer_no b m s2 ho2) ?_
     refine aops_n hTT (M := []) (n := 5) [pv 92 (V.tup [V.nil, V.i 15]), pv 96 V.nil, pv 97 (V.i 15), pv 18 V.nil, pv 16 (V.i 15)] (by kernel_rfl) (by kernel_rfl) True.intro ?_
     refine aops_nil (xt_n (hK _ ?_)); clear hK K; refine aw_seq_k fun K hK => ?_; refine aw_seq_k fun K hK => wR 15 ?_
     refine aops_n hTT (M := []) (n := 2) [pv 98 (V.i 15), pv 99 (V.b true)] (by kernel_rfl) (by kernel_rfl) True.intro ?_
     refine aops_nil (xt_n (hK _ ?_)); clear hK K; refine w_true (t := true) (by kernel_rfl) rfl ?_; refine aw_seq_k fun K hK => wR 16 ?_
     refine aops_n hTT (M := []) (n := 9) [pv 100 (V.i 15), pv 101 (V.b true), pv 102 (V.b true), pc 103 ((True ∧ True) ∧ ((true == true) = true → True)) (V.gd (true == true) (V.i (↑F1 : Int))), pc 104 ((True ∧ True) ∧ ((true == true) = true → True)) (V.gd (true == true) (V.sl 2 (List.length l) fun (k : Nat) => [V.i (Prod.fst (gp l k)), V.i (Prod.snd (gp l k))])), pc 105 ((yyWThin8 ∧ True) ∧ ((true == true) = true → True)) (V.gd (true == true) (V.i (↑(List.length l) : Int))), pc 106 ((yyWThin8 ∧ yyWThin8 ∧ True) ∧ ((true == true) = true → True)) (V.gd (true == true) (V.b (decide ((↑F1 : Int) < (↑(List.length l) : Int))))), pc 107 ((true = true → (true == true) = true) ∧ True) (V.b (decide ((↑F1 : Int) < (↑(List.length l) : Int)))), pv 108 (V.b (decide ((↑F1 : Int) < (↑(List.length l) : Int))))] (by kernel_rfl) (by kernel_rfl) ⟨⟨⟨True.intro, True.intro⟩, (fun _ => True.intro)⟩, ⟨⟨True.intro, True.intro⟩, (fun _ => True.intro)⟩, ⟨⟨(by (exact fun h => h)), True.intro⟩, (fun _ => True.intro)⟩, ⟨⟨(by (exact fun h => h)), ⟨(by (exact fun h => h)), True.intro⟩⟩, (fun _ => True.intro)⟩, ⟨(by (exact fun h => h)), True.intro⟩, True.intro⟩ ?_
     refine eG 0 (g := decide ((↑F1 : Int) < (↑(List.length l) : Int)) == true) (fun h => works05_ac) ?_
     refine aops_n hTT (M := []) (n := 2) [pc 110 ((decide ((↑F1 : Int) < (↑(List.length l) : Int)) = true → (decide ((↑F1 : Int) < (↑(List.length l) : Int)) == true) = true) ∧ True) (V.b (decide ((↑F1 : Int) < (↑(List.length l) : Int)) && true)), pv 8 (V.b (decide ((↑F1 : Int) < (↑(List.length l) : Int)) && true))] (by kernel_rfl) (by kernel_rfl) ⟨⟨(by (intro h; rw [h]; rfl)), True.intro⟩, True.intro⟩ ?_
     refine aops_nil (xt_n (hK _ ?_)); clear hK K
     refine aw_ret ?_
     refine xt_r ?_
     refine ret_pure (v' := V.b (decide ((↑F1 : Int) < (↑(List.length l) : Int)) && true)) (.inr rfl) (by kernel_rfl) ?_ (by kernel_rfl)
     simp; omega
  ·
   refine aops_n hTT (M := []) (n := 5) [pv 20 (V.tup [(yyWThin2 p c), V.b (decide (Prod.snd (cutR c p) = (0 : Int)))]), pv 25 ((yyWThin2 p c)), pv 26 (V.b (decide (Prod.snd (cutR c p) = (0 : Int)))), pv 9 ((yyWThin2 p c)), pv 10 (V.b (decide (Prod.snd (cutR c p) = (0 : Int))))] (by kernel_rfl) (by kernel_rfl) True.intro ?_
   refine aops_nil (xt_n (hK _ ?_)); clear hK K; refine aw_seq_k fun K hK => ?_; refine aw_seq_k fun K hK => wR 4 ?_
   refine aops_n hTT (M := []) (n := 2) [pv 27 (V.b (decide (Prod.snd (cutR c p) = (0 : Int)))), pv 28 (V.b !decide (Prod.snd (cutR c p) = (0 : Int)))] (by kernel_rfl) (by kernel_rfl) True.intro ?_
   refine aops_nil (xt_n (hK _ ?_)); clear hK K
   refine w_cond (t := !decide (Prod.snd (cutR c p) = (0 : Int))) (by kernel_rfl) (fun c1 => ?_) (fun c1 => ?_)
   ·
    refine aw_seq_k fun K hK => ?_
    refine wR 5 ?_
    refine eC (works05_ac) ?_
    refine aops_n hTT (M := []) (n := 1) [pv 8 (V.b true)] (by kernel_rfl) (by kernel_rfl) True.intro ?_
    refine aops_nil (xt_n (hK _ ?_)); clear hK K
    refine aw_ret ?_
    refine xt_r ?_
    refine rP (V.b true)
   ·
    simp at c1
    exact absurd c1 h1
 ·
  refine eC (cut_no c b p 40 (by omega)) ?_
  refine aops_n hTT (M := []) (n := 5) [pv 20 (V.tup [V.nil, V.b false]), pv 25 V.nil, pv 26 (V.b false), pv 9 V.nil, pv 10 (V.b false)] (by kernel_rfl) (by kernel_rfl) True.intro ?_
  refine aops_nil (xt_n (hK _ ?_)); clear hK K; refine aw_seq_k fun K hK => ?_; refine aw_seq_k fun K hK => wR 4 ?_
  refine aops_n hTT (M := []) (n := 2) [pv 27 (V.b false), pv 28 (V.b true)] (by kernel_rfl) (by kernel_rfl) True.intro ?_
  refine aops_nil (xt_n (hK _ ?_)); clear hK K; refine w_true (t := true) (by kernel_rfl) rfl ?_; refine aw_seq_k fun K hK => wR 5 ?_
  refine eC (works05_ac) ?_
  refine aops_n hTT (M := []) (n := 1) [pv 8 (V.b true)] (by kernel_rfl) (by kernel_rfl) True.intro ?_
  refine aops_nil (xt_n (hK _ ?_)); clear hK K
  refine aw_ret ?_
  refine xt_r ?_
  refine rP (V.b true)
def thinSh : List Sh := [(.sl (.fld (.int .i64) (.lst (.int .i64)))), (.fld (.int .i64) (.fld (.int .i64) (.fld (.int .i64) (.fld (.int .i64) (.fld (.int .i64) (.fld (.int .i64) (.lst (.int .i64)))))))), (.int .u16), (.fld (.int .i64) (.fld (.int .i64) (.fld (.int .i64) (.fld (.int .i64) (.fld (.int .i64) (.lst (.int .i64)))))))]
theorem thin_all (x : TL thinSh) (hx : wfL thinSh x) : AC Tryz.prog 3 (valL thinSh x) (V.b true) [] := by
 obtain ⟨p, ⟨h, g, th, wi, sl, je, sty⟩, hf, ⟨b1, b2, b3, b4, b5, b6⟩, _⟩ := x
 obtain ⟨⟨h4, h5⟩, _, hw, _⟩ := hx
 exact thin_law p ⟨h, g, th, wi, sl, je, sty⟩ hf ⟨b1, b2, b3, b4, b5, b6⟩ h4 (wf_ptsT h5) (wf_u16 hw)
end Go.Proofs.YtplnhbenmgclfaaGreatDoor

namespace Go.Proofs.YtplnhbenmgclfaaGreatDoor
open Go.Ab Go.RowKit Go.Dw Go.Shelf Go.ChangeShapes Go.WideShapes Go.ChangeAt Go.Deep
def growsLaid : List (String × DataW Unit) := [("unicode/utf8.acceptRanges", Rows.laid_unicode_utf8_acceptRanges), ("unicode/utf8.first", Rows.laid_unicode_utf8_first)]
theorem gl_of_laid {W : World} (h : laidMetH Tryz.prog growsLaid W) (g : Nat) : R W (fun b => b < W.heap.size) ρ0 (gvals g) (gval g) := .any _ _
theorem lay_met (os : Os) (args : Array Value) : laidMetH Tryz.prog growsLaid ((World.laidAll Tryz.prog os growsLaid).forCall (fun _ _ => 0) ⟨#[], args, []⟩).memory := by
 rw [MakeChecks.laidMetH_plain _ _ _ (by kernel_rfl)]; exact laidMet_laidAll _ (by kernel_rfl) (by kernel_rfl)
end Go.Proofs.YtplnhbenmgclfaaGreatDoor
