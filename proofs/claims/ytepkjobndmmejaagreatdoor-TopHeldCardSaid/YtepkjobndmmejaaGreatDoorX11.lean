/-
  Several texts in one: The small examples of the layers up to 6. No condition. .. The listed variables of the top: they are never read; the start that meets the condition.
-/
import Derived.Test.YtepkjobndmmejaaGreatDoorTie
import Derived.Test.YtepkjobndmmejaaGreatDoorCards
import Derived.ProofKit
import Derived.LaidMore
import Derived.Lay
import Derived.OpenShut
import Derived.Stop.Joined
import Derived.SevenTiedAt
import Derived.Test.YtepkjobndmmejaaGreatDoorAbs42
import Derived.Test.YtepkjobndmmejaaGreatDoorX10
import Derived.Test.YtepkjobndmmejaaGreatDoorX07
import Derived.Test.YtepkjobndmmejaaGreatDoorX04
import Derived.Test.YtepkjobndmmejaaGreatDoorMC
import Derived.Test.YtepkjobndmmejaaGreatDoorX09
namespace Go.Proofs.YtepkjobndmmejaaGreatDoor
open Go.Ab Go.RowKit Go.Dw Go.Shelf
def w6L : List Pt := [(-100, 100), (-100, 90), (-95, 100)]
theorem w6R : AC Tryz.prog 27 [.agg [V.ints [0, 2, 10]], V.pts w6L] (.tup [V.pts [(-100, 92), (-97, 90), (-95, 92)], .i 0]) [] := by
 have A := Read_ac [0, 2, 10] w6L (by decide) (by decide)
 rw [show wallsR [0, 2, 10] w6L = [(-100, 92), (-97, 90), (-95, 92)] by decide +kernel, show checkBoth [0, 2, 10] w6L = 0 by decide +kernel] at A
 exact A
theorem w6B : AC Tryz.prog 23 [V.pts w6L] (.tup [.agg [.i 0, .i 25], .i 0]) [] := by
 have A := Balance_ac w6L (by decide)
 rw [show balArm w6L = (0, 25) by decide +kernel, show checkPts w6L = 0 by decide +kernel] at A
 exact A
abbrev zzT60 : V := V.sl 2 3 fun (i : Nat) => List.take (2 : Nat) (List.drop (i * (2 : Nat)) [V.i (-100), V.i 100, V.i (-100), V.i 90, V.i (-95), V.i 100])
set_option maxRecDepth 100000 in
theorem works06_ac : AC Tryz.prog 10 [] (.b true) [] := by
 refine acI hTT hMX Tryz.func10 Tryz.ntmps10 fun C hC hF => ?_
 refine aw_seq_k fun K hK => wR 2 ?_; refine aX hTT 1 [] True.intro ?_; refine aops_nil (xt_n (hK _ ?_)); clear hK K; refine aw_seq_k fun K hK => wR 3 ?_; refine aX hTT 5 [] True.intro ?_; refine aops_nil (xt_n (hK _ ?_)); clear hK K; refine aw_seq_k fun K hK => wR 4 ?_; refine aX hTT 3 [] True.intro ?_
 refine eC (AC.conv (w6R) (args' := [V.agg [V.sl 1 3 fun (i : Nat) => List.take (1 : Nat) (List.drop (i * (1 : Nat)) [V.i 0, V.i 2, V.i 10])], zzT60]) ⟨?_, ?_, trivial⟩) ?_
 ·
  exact RImp.agg ⟨RImp.lit1 [0, 2, 10], trivial⟩
 ·
  exact gLit3 rfl rfl rfl
 refine aX hTT 5 [] True.intro ?_; refine aops_nil (xt_n (hK _ ?_)); clear hK K; refine aw_seq_k fun K hK => wR 5 ?_; refine aX hTT 1 [] True.intro ?_
 refine eC (AC.conv (w6B) (args' := [zzT60]) ⟨?_, trivial⟩) ?_
 ·
  exact gLit3 rfl rfl rfl
 refine aX hTT 6 [(3, .r (pn 4 (V.ref 400004 0) (400004 : Nat) (Ob.box 66 [V.i 0, V.i 0]))), (4, .r (pw ((0 : Nat) + (2 : Nat) ≤ (2 : Nat)) (400004 : Nat) (Ob.box 66 [V.i 0, V.i 25])))] ⟨(by omega), True.intro⟩ ?_; refine aops_nil (xt_n (hK _ ?_)); clear hK K; refine aw_seq_k fun K hK => wR 6 ?_; refine aX hTT 24 [(3, .c (gA (true == true) True)), (4, .c (gD (true == true) True)), (5, .c ((true = true → (true == true) = true) ∧ True)), (7, .c (gA (true == true) True)), (8, .c (gB (true == true) True)), (9, .c (gD (true == true) True)), (10, .c ((true = true → (true == true) = true) ∧ True)), (12, .c (gA (true == true) True)), (13, .c (gD (true == true) ((0 : Int) ≤ (1 : Int) ∧ (1 : Int) < (↑(3 : Nat) : Int)))), (14, .c (gB (true == true) True)), (15, .c ((True ∧ True ∧ True) ∧ ((true == true) = true → True))), (16, .c (gC (true == true) True)), (17, .c ((true = true → (true == true) = true) ∧ True)), (19, .c (gA (true == true) ((0 : Nat) ≤ (2 : Nat)))), (20, .c (gA (true == true) True)), (21, .c (gC (true == true) True)), (22, .c ((true = true → (true == true) = true) ∧ True))] ⟨⟨⟨True.intro, True.intro⟩, (fun _ => True.intro)⟩, ⟨⟨(by (exact fun h => h)), ⟨True.intro, True.intro⟩⟩, (fun _ => True.intro)⟩, ⟨(by (exact fun h => h)), True.intro⟩, ⟨⟨True.intro, True.intro⟩, (fun _ => True.intro)⟩, ⟨⟨(by (exact fun h => h)), True.intro⟩, (fun _ => True.intro)⟩, ⟨⟨(by (exact fun h => h)), ⟨True.intro, True.intro⟩⟩, (fun _ => True.intro)⟩, ⟨(by (exact fun h => h)), True.intro⟩, ⟨⟨True.intro, True.intro⟩, (fun _ => True.intro)⟩, ⟨⟨(by (exact fun h => h)), ⟨True.intro, True.intro⟩⟩, (by (intro _; simp; done))⟩, ⟨⟨(by (exact fun h => h)), True.intro⟩, (fun _ => True.intro)⟩, ⟨⟨True.intro, ⟨True.intro, True.intro⟩⟩, (fun _ => True.intro)⟩, ⟨⟨(by (exact fun h => h)), ⟨(by (exact fun h => h)), True.intro⟩⟩, (fun _ => True.intro)⟩, ⟨(by (exact fun h => h)), True.intro⟩, ⟨⟨True.intro, True.intro⟩, (by (intro _; simp; done))⟩, ⟨⟨True.intro, True.intro⟩, (fun _ => True.intro)⟩, ⟨⟨(by (exact fun h => h)), ⟨(by (exact fun h => h)), True.intro⟩⟩, (fun _ => True.intro)⟩, ⟨(by (exact fun h => h)), True.intro⟩, True.intro⟩ ?_
 refine eG 0 (g := true == true) (fun _ => works04_ac) ?_
 refine aX hTT 2 [(0, .c ((true = true → (true == true) = true) ∧ True))] ⟨⟨(by (exact fun h => h)), True.intro⟩, True.intro⟩ ?_; refine aops_nil (xt_n (hK _ ?_)); clear hK K
 refine aw_ret ?_
 refine rP (V.b true)
end Go.Proofs.YtepkjobndmmejaaGreatDoor

namespace Go.Proofs.YtepkjobndmmejaaGreatDoor
open Go.Ab Go.RowKit Go.Dw Go.Shelf
theorem wf_ptsT {l : List Pt} (h : ∀ x ∈ l, Sh.wf (.fld (.int .i64) (.lst (.int .i64))) x) : ∀ k, k < l.length → inR2 (gp l k) := fun k hk => by
  have : gp l k = l[k] := by simp [gp, List.getD_eq_getElem?_getD, List.getElem?_eq_getElem hk]
  rw [this]
  obtain ⟨h1, h2⟩ := h _ (List.getElem_mem hk)
  have q1 := wf_i64 h1
  have q2 := wf_i64 h2
  exact ⟨by simp only [inR]; omega, by simp only [inR]; omega⟩
end Go.Proofs.YtepkjobndmmejaaGreatDoor

namespace Go.Proofs.YtepkjobndmmejaaGreatDoor
open Go.Ab Go.RowKit Go.Dw Go.Shelf
abbrev yyWHeld1 (c : Cut) : List V := [V.i (Cut.half c), V.i (Cut.gain c), V.i (Cut.thin c), V.i (Cut.wide c), V.i (Cut.slope c), V.i (Cut.jerk c), V.i (Cut.sty c)]
abbrev yyWHeld0 (c : Cut) : V := V.agg (yyWHeld1 c)
abbrev yyWHeld2 (p : List Pt) : V := V.sl 2 (List.length p) fun (k : Nat) => [V.i (Prod.fst (gp p k)), V.i (Prod.snd (gp p k))]
abbrev yyWHeld3 := ((false == false) = true → (false == false) = true)
abbrev yyWHeld4 := ((true == true) = true → (true == true) = true)
set_option maxRecDepth 100000 in
theorem held_law (p : List Pt) (ce st : Int) (c : Cut) (hl : p.length ≤ bigL) (hr : ∀ k, k < p.length → inR2 (gp p k)) (hce : 0 ≤ ce ∧ ce ≤ 65535) (hst : 0 ≤ st ∧ st ≤ 255) : AC Tryz.prog 5 [V.pts p, .c (.int .u16 ce), .c (.int .u8 st), c.v] (.b true) [] := by
 refine acI hTT hMX Tryz.func5 Tryz.ntmps5 fun C hC hF => ?_
 refine aw_seq_k fun K hK => wR 2 ?_
 refine aops_n hTT (M := []) (n := 2) [pv 7 (V.ptr (yyWHeld1 c)), pv 8 (V.b false)] (by kernel_rfl) (by kernel_rfl) True.intro ?_
 refine aops_nil (xt_n (hK _ ?_)); clear hK K; refine aw_seq_k fun K hK => ?_; refine aw_seq_k fun K hK => wR 3 ?_
 refine aops_n hTT (M := []) (n := 5) [pv 16 ((yyWHeld2 p)), pv 17 (V.i (↑(List.length p) : Int)), pv 18 (V.b (decide ((40 : Int) < (↑(List.length p) : Int)))), pv 19 (V.b (decide ((40 : Int) < (↑(List.length p) : Int)))), pc 20 ((True ∧ True) ∧ ((decide ((40 : Int) < (↑(List.length p) : Int)) == false) = true → True)) (V.gd (decide ((40 : Int) < (↑(List.length p) : Int)) == false) ((yyWHeld0 c)))] (by kernel_rfl) (by kernel_rfl) ⟨⟨⟨True.intro, True.intro⟩, (fun _ => True.intro)⟩, True.intro⟩ ?_
 refine eG 1 (g := decide ((40 : Int) < (↑(List.length p) : Int)) == false) (fun h => refCheck_ac c) ?_
 refine aops_n hTT (M := []) (n := 4) [pc 22 ((((decide ((40 : Int) < (↑(List.length p) : Int)) == false) = true → (decide ((40 : Int) < (↑(List.length p) : Int)) == false) = true) ∧ True ∧ True) ∧ ((decide ((40 : Int) < (↑(List.length p) : Int)) == false) = true → True)) (V.gd (decide ((40 : Int) < (↑(List.length p) : Int)) == false) (V.b !decide (cutE c = (0 : Int)))), pc 23 (True ∧ (decide ((40 : Int) < (↑(List.length p) : Int)) = false → (decide ((40 : Int) < (↑(List.length p) : Int)) == false) = true)) (V.b (decide ((40 : Int) < (↑(List.length p) : Int)) || !decide (cutE c = (0 : Int)))), pv 24 (V.b (decide ((40 : Int) < (↑(List.length p) : Int)) || !decide (cutE c = (0 : Int)))), pc 25 ((True ∧ True) ∧ (((decide ((40 : Int) < (↑(List.length p) : Int)) || !decide (cutE c = (0 : Int))) == false) = true → True)) (V.gd ((decide ((40 : Int) < (↑(List.length p) : Int)) || !decide (cutE c = (0 : Int))) == false) ((yyWHeld2 p)))] (by kernel_rfl) (by kernel_rfl) ⟨⟨⟨(by (exact fun h => h)), ⟨True.intro, True.intro⟩⟩, (fun _ => True.intro)⟩, ⟨True.intro, (by (intro h; rw [h]; rfl))⟩, ⟨⟨True.intro, True.intro⟩, (fun _ => True.intro)⟩, True.intro⟩ ?_
 refine eG 1 (g := (decide ((40 : Int) < (↑(List.length p) : Int)) || !decide (cutE c = (0 : Int))) == false) (fun h => rCheckSamples_ac p hl hr) ?_
 refine aops_n hTT (M := []) (n := 2) [pc 27 (((((decide ((40 : Int) < (↑(List.length p) : Int)) || !decide (cutE c = (0 : Int))) == false) = true → ((decide ((40 : Int) < (↑(List.length p) : Int)) || !decide (cutE c = (0 : Int))) == false) = true) ∧ True ∧ True) ∧ (((decide ((40 : Int) < (↑(List.length p) : Int)) || !decide (cutE c = (0 : Int))) == false) = true → True)) (V.gd ((decide ((40 : Int) < (↑(List.length p) : Int)) || !decide (cutE c = (0 : Int))) == false) (V.b !decide (sChk p = (0 : Int)))), pc 28 (True ∧ ((decide ((40 : Int) < (↑(List.length p) : Int)) || !decide (cutE c = (0 : Int))) = false → ((decide ((40 : Int) < (↑(List.length p) : Int)) || !decide (cutE c = (0 : Int))) == false) = true)) (V.b (decide ((40 : Int) < (↑(List.length p) : Int)) || !decide (cutE c = (0 : Int)) || !decide (sChk p = (0 : Int))))] (by kernel_rfl) (by kernel_rfl) ⟨⟨⟨(by (exact fun h => h)), ⟨True.intro, True.intro⟩⟩, (fun _ => True.intro)⟩, ⟨True.intro, (by (intro h; rw [h]; rfl))⟩, True.intro⟩ ?_
 refine aops_nil (xt_n (hK _ ?_)); clear hK K
 refine w_cond (t := decide ((40 : Int) < (↑(List.length p) : Int)) || !decide (cutE c = (0 : Int)) || !decide (sChk p = (0 : Int))) (by kernel_rfl) (fun c1 => ?_) (fun c1 => ?_)
 ·
  refine aw_seq_k fun K hK => ?_
  refine wR 4 ?_
  refine eC (works06_ac) ?_
  refine aops_n hTT (M := []) (n := 1) [pv 8 (V.b true)] (by kernel_rfl) (by kernel_rfl) True.intro ?_
  refine aops_nil (xt_n (hK _ ?_)); clear hK K
  refine aw_ret ?_
  refine xt_r ?_
  refine rP (V.b true)
 simp at c1
 obtain ⟨n1, n2, n3⟩ : p.length ≤ 40 ∧ cutE c = 0 ∧ sChk p = 0 := ⟨by omega, c1.1.2, c1.2⟩
 have ht : 1 ≤ 1 + ce.tmod 32767 ∧ 1 + ce.tmod 32767 ≤ 32767 := by rw [Int.tmod_eq_emod_of_nonneg hce.1]; omega
 have hg : gainE p (1 + ce.tmod 32767) st = 0 := gainE_ok.2 ⟨needE_ok.2 ⟨progE_sChk n3, ht⟩, hst.1, by omega⟩
 obtain ⟨m1, m2⟩ := lim_amt hg
 refine aw_skip ?_
 refine xt_n (hK _ ?_); clear hK K; refine aw_seq_k fun K hK => wR 4 ?_
 refine aops_n hTT (M := []) (n := 5) [pv 30 (V.c (Value.int IntKind.u16 ce)), pc 31 ((-9223372036854775808 : Int) ≤ ce ∧ ce ≤ (9223372036854775807 : Int)) (V.i ce), pc 32 ((32767 : Int) ≠ (0 : Int)) (V.i (Int.tmod ce (32767 : Int))), pc 33 ((-9223372036854775808 : Int) ≤ (1 : Int) + Int.tmod ce (32767 : Int) ∧ (1 : Int) + Int.tmod ce (32767 : Int) ≤ (9223372036854775807 : Int)) (V.i ((1 : Int) + Int.tmod ce (32767 : Int))), pv 9 (V.i ((1 : Int) + Int.tmod ce (32767 : Int)))] (by kernel_rfl) (by kernel_rfl) ⟨(by omega), (by omega), (by omega), True.intro⟩ ?_
 refine aops_nil (xt_n (hK _ ?_)); clear hK K; refine aw_seq_k fun K hK => wR 5 ?_
 refine aops_n hTT (M := []) (n := 4) [pv 35 ((yyWHeld2 p)), pv 36 (V.i ((1 : Int) + Int.tmod ce (32767 : Int))), pv 37 (V.c (Value.int IntKind.u8 st)), pc 38 ((-9223372036854775808 : Int) ≤ st ∧ st ≤ (9223372036854775807 : Int)) (V.i st)] (by kernel_rfl) (by kernel_rfl) ⟨(by omega), True.intro⟩ ?_
 generalize 1 + ce.tmod 32767 = t at *
 refine eC (Limit_ac p t st hl) ?_
 rw [hg]
 refine aops_n hTT (M := []) (n := 5) [pv 34 (V.tup [V.sl 2 (List.length (limR p t st)) fun (k : Nat) => [V.i (Prod.fst (gp (limR p t st) k)), V.i (Prod.snd (gp (limR p t st) k))], V.i 0]), pv 40 (V.sl 2 (List.length (limR p t st)) fun (k : Nat) => [V.i (Prod.fst (gp (limR p t st) k)), V.i (Prod.snd (gp (limR p t st) k))]), pv 41 (V.i 0), pv 10 (V.sl 2 (List.length (limR p t st)) fun (k : Nat) => [V.i (Prod.fst (gp (limR p t st) k)), V.i (Prod.snd (gp (limR p t st) k))]), pv 11 (V.i 0)] (by kernel_rfl) (by kernel_rfl) True.intro ?_
 refine aops_nil (xt_n (hK _ ?_)); clear hK K; refine aw_seq_k fun K hK => ?_; refine aw_seq_k fun K hK => wR 6 ?_
 refine aops_n hTT (M := []) (n := 2) [pv 42 (V.i 0), pv 43 (V.b false)] (by kernel_rfl) (by kernel_rfl) True.intro ?_
 refine aops_nil (xt_n (hK _ ?_)); clear hK K; refine w_false (t := false) (by kernel_rfl) rfl ?_
 refine aw_skip ?_
 refine xt_n (hK _ ?_); clear hK K; refine aw_seq_k fun K hK => wR 7 ?_
 refine aops_n hTT (M := []) (n := 2) [pv 45 ((yyWHeld0 c)), pv 46 (V.sl 2 (List.length (limR p t st)) fun (k : Nat) => [V.i (Prod.fst (gp (limR p t st) k)), V.i (Prod.snd (gp (limR p t st) k))])] (by kernel_rfl) (by kernel_rfl) True.intro ?_
 generalize limR p t st = q at *
 have hs : sChk q = 0 := sChkA_ok.2 ⟨by omega, m2.mono ht.2⟩
 refine eC (Cut_ac c q (by omega)) ?_
 rw [cutR, if_pos n2, if_pos hs]
 refine aops_n hTT (M := []) (n := 5) [pv 44 (V.tup [V.sl 2 (List.length (List.map (wallP c) q)) fun (k : Nat) => [V.i (Prod.fst (gp (List.map (wallP c) q) k)), V.i (Prod.snd (gp (List.map (wallP c) q) k))], V.i 0]), pv 48 (V.sl 2 (List.length (List.map (wallP c) q)) fun (k : Nat) => [V.i (Prod.fst (gp (List.map (wallP c) q) k)), V.i (Prod.snd (gp (List.map (wallP c) q) k))]), pv 49 (V.i 0), pv 12 (V.sl 2 (List.length (List.map (wallP c) q)) fun (k : Nat) => [V.i (Prod.fst (gp (List.map (wallP c) q) k)), V.i (Prod.snd (gp (List.map (wallP c) q) k))]), pv 11 (V.i 0)] (by kernel_rfl) (by kernel_rfl) True.intro ?_
 refine aops_nil (xt_n (hK _ ?_)); clear hK K; refine aw_seq_k fun K hK => ?_; refine aw_seq_k fun K hK => wR 8 ?_
 refine aops_n hTT (M := []) (n := 9) [pv 50 (V.i 0), pv 51 (V.b false), pv 52 (V.b false), pc 53 ((True ∧ True) ∧ ((false == false) = true → True)) (V.gd (false == false) (V.sl 2 (List.length (List.map (wallP c) q)) fun (k : Nat) => [V.i (Prod.fst (gp (List.map (wallP c) q) k)), V.i (Prod.snd (gp (List.map (wallP c) q) k))])), pc 54 ((yyWHeld3 ∧ True) ∧ ((false == false) = true → True)) (V.gd (false == false) (V.i (↑(List.length (List.map (wallP c) q)) : Int))), pc 55 ((True ∧ True) ∧ ((false == false) = true → True)) (V.gd (false == false) ((yyWHeld2 p))), pc 56 ((yyWHeld3 ∧ True) ∧ ((false == false) = true → True)) (V.gd (false == false) (V.i (↑(List.length p) : Int))), pc 57 ((yyWHeld3 ∧ yyWHeld3 ∧ True) ∧ ((false == false) = true → True)) (V.gd (false == false) (V.b !decide ((↑(List.length (List.map (wallP c) q)) : Int) = (↑(List.length p) : Int)))), pc 58 (True ∧ (false = false → (false == false) = true)) (V.b !decide ((↑(List.length (List.map (wallP c) q)) : Int) = (↑(List.length p) : Int)))] (by kernel_rfl) (by kernel_rfl) ⟨⟨⟨True.intro, True.intro⟩, (fun _ => True.intro)⟩, ⟨⟨(by (exact fun h => h)), True.intro⟩, (fun _ => True.intro)⟩, ⟨⟨True.intro, True.intro⟩, (fun _ => True.intro)⟩, ⟨⟨(by (exact fun h => h)), True.intro⟩, (fun _ => True.intro)⟩, ⟨⟨(by (exact fun h => h)), ⟨(by (exact fun h => h)), True.intro⟩⟩, (fun _ => True.intro)⟩, ⟨True.intro, (by (intro h; rw [h]; rfl))⟩, True.intro⟩ ?_
 refine aops_nil (xt_n (hK _ ?_)); clear hK K
 refine w_cond (t := !decide ((↑(List.length (List.map (wallP c) q)) : Int) = (↑(List.length p) : Int))) (by kernel_rfl) (fun c2 => ?_) (fun c2 => ?_)
 ·
  simp at c2
  omega
 have hg1 := (cutE_ok.1 n2).2.1
 have hb1 : 0 ≤ t * c.gain ∧ t * c.gain ≤ 32767 * 100000 := ⟨Int.mul_nonneg (by omega) hg1.1, Int.le_trans (Int.mul_le_mul_of_nonneg_right ht.2 hg1.1) (Int.mul_le_mul_of_nonneg_left (by omega) (by decide))⟩
 have hb2 : 0 ≤ (t * c.gain).tdiv 1000 ∧ (t * c.gain).tdiv 1000 ≤ 32767 * 100000 := by rw [Int.tdiv_eq_ediv_of_nonneg hb1.1]; omega
 have j1 := held_jump n2 hs (t := t) (by omega) m2
 have j2 := held_bal n2 hs (t := t) (by omega) m2
 have j3 := wall_pts n2 hs
 simp only [chE] at j1 j2
 refine aw_skip ?_
 refine xt_n (hK _ ?_); clear hK K; refine aw_seq_k fun K hK => wR 9 ?_
 refine aops_n hTT (M := []) (n := 7) [pv 59 (V.i t), pv 60 (V.ptr [V.i (Cut.gain c), V.i (Cut.thin c), V.i (Cut.wide c), V.i (Cut.slope c), V.i (Cut.jerk c), V.i (Cut.sty c)]), pv 61 (V.i (Cut.gain c)), pc 62 ((-9223372036854775808 : Int) ≤ t * Cut.gain c ∧ t * Cut.gain c ≤ (9223372036854775807 : Int)) (V.i (t * Cut.gain c)), pc 63 ((0 : Int) < (1000 : Int) ∧ (-9223372036854775808 : Int) ≤ t * Cut.gain c ∧ t * Cut.gain c ≤ (9223372036854775807 : Int)) (V.i (Int.tdiv (t * Cut.gain c) (1000 : Int))), pc 64 ((-9223372036854775808 : Int) ≤ (8 : Int) * Int.tdiv (t * Cut.gain c) (1000 : Int) ∧ (8 : Int) * Int.tdiv (t * Cut.gain c) (1000 : Int) ≤ (9223372036854775807 : Int)) (V.i ((8 : Int) * Int.tdiv (t * Cut.gain c) (1000 : Int))), pv 13 (V.i ((8 : Int) * Int.tdiv (t * Cut.gain c) (1000 : Int)))] (by kernel_rfl) (by kernel_rfl) ⟨(by omega), ⟨(by omega), (by omega)⟩, (by omega), True.intro⟩ ?_
 refine aops_nil (xt_n (hK _ ?_)); clear hK K; refine aw_seq_k fun K hK => wR 10 ?_
 refine aops_n hTT (M := []) (n := 3) [pv 66 (V.i ((8 : Int) * Int.tdiv (t * Cut.gain c) (1000 : Int))), pv 67 (V.agg [V.i ((8 : Int) * Int.tdiv (t * Cut.gain c) (1000 : Int)), V.i 0]), pv 68 (V.sl 2 (List.length (List.map (wallP c) q)) fun (k : Nat) => [V.i (Prod.fst (gp (List.map (wallP c) q) k)), V.i (Prod.snd (gp (List.map (wallP c) q) k))])] (by kernel_rfl) (by kernel_rfl) True.intro ?_
 refine eC (Jump_ac (8 * (t * c.gain).tdiv 1000) 0 (q.map (wallP c)) (by simp; omega) (by decide)) ?_
 rw [j1]
 refine aops_n hTT (M := []) (n := 5) [pv 65 (V.tup [V.i 0, V.i 0, V.i 5]), pv 70 (V.i 0), pv 71 (V.i 0), pv 72 (V.i 5), pv 11 (V.i 5)] (by kernel_rfl) (by kernel_rfl) True.intro ?_
 refine aops_nil (xt_n (hK _ ?_)); clear hK K; refine aw_seq_k fun K hK => wR 11 ?_
 refine aops_n hTT (M := []) (n := 1) [pv 74 (V.sl 2 (List.length (List.map (wallP c) q)) fun (k : Nat) => [V.i (Prod.fst (gp (List.map (wallP c) q) k)), V.i (Prod.snd (gp (List.map (wallP c) q) k))])] (by kernel_rfl) (by kernel_rfl) True.intro ?_
 refine eC (Balance_ac (q.map (wallP c)) (by simp; omega)) ?_
 rw [j3]
 refine aops_n hTT (M := []) (n := 6) [pv 73 (V.tup [V.agg [V.i (Prod.fst (balArm (List.map (wallP c) q))), V.i (Prod.snd (balArm (List.map (wallP c) q)))], V.i 0]), pv 76 (V.agg [V.i (Prod.fst (balArm (List.map (wallP c) q))), V.i (Prod.snd (balArm (List.map (wallP c) q)))]), pv 77 (V.i 0), pn 14 (V.ref 1000014 0) (1000014 : Nat) (Ob.box 66 [V.i 0, V.i 0]), pw ((0 : Nat) + (2 : Nat) ≤ (2 : Nat)) (1000014 : Nat) (Ob.box 66 [V.i (Prod.fst (balArm (List.map (wallP c) q))), V.i (Prod.snd (balArm (List.map (wallP c) q)))]), pv 15 (V.i 0)] (by kernel_rfl) (by kernel_rfl) ⟨(by omega), True.intro⟩ ?_
 refine aops_nil (xt_n (hK _ ?_)); clear hK K; refine aw_seq_k fun K hK => wR 12 ?_
 refine aops_n hTT (M := []) (n := 13) [pv 78 (V.i 5), pv 79 (V.b true), pv 80 (V.b true), pc 81 ((True ∧ True) ∧ ((true == true) = true → True)) (V.gd (true == true) (V.i 0)), pc 82 ((yyWHeld4 ∧ True ∧ True) ∧ ((true == true) = true → True)) (V.gd (true == true) (V.b true)), pc 83 ((true = true → (true == true) = true) ∧ True) (V.b true), pv 84 (V.b true), pc 85 ((True ∧ True) ∧ ((true == true) = true → True)) (V.gd (true == true) (V.ref 1000014 0)), pc 86 ((yyWHeld4 ∧ True) ∧ ((true == true) = true → (0 : Nat) ≤ (2 : Nat))) (V.gd (true == true) (V.i (Prod.fst (balArm (List.map (wallP c) q))))), pc 87 ((True ∧ True) ∧ ((true == true) = true → True)) (V.gd (true == true) (V.i ((8 : Int) * Int.tdiv (t * Cut.gain c) (1000 : Int)))), pc 88 ((yyWHeld4 ∧ yyWHeld4 ∧ True) ∧ ((true == true) = true → True)) (V.gd (true == true) (V.b (decide (Prod.fst (balArm (List.map (wallP c) q)) ≤ (8 : Int) * Int.tdiv (t * Cut.gain c) (1000 : Int))))), pc 89 ((true = true → (true == true) = true) ∧ True) (V.b (decide (Prod.fst (balArm (List.map (wallP c) q)) ≤ (8 : Int) * Int.tdiv (t * Cut.gain c) (1000 : Int)))), pv 90 (V.b (decide (Prod.fst (balArm (List.map (wallP c) q)) ≤ (8 : Int) * Int.tdiv (t * Cut.gain c) (1000 : Int))))] (by kernel_rfl) (by kernel_rfl) ⟨⟨⟨True.intro, True.intro⟩, (fun _ => True.intro)⟩, ⟨⟨(by (exact fun h => h)), ⟨True.intro, True.intro⟩⟩, (fun _ => True.intro)⟩, ⟨(by (exact fun h => h)), True.intro⟩, ⟨⟨True.intro, True.intro⟩, (fun _ => True.intro)⟩, ⟨⟨(by (exact fun h => h)), True.intro⟩, (by (intro _; simp; done))⟩, ⟨⟨True.intro, True.intro⟩, (fun _ => True.intro)⟩, ⟨⟨(by (exact fun h => h)), ⟨(by (exact fun h => h)), True.intro⟩⟩, (fun _ => True.intro)⟩, ⟨(by (exact fun h => h)), True.intro⟩, True.intro⟩ ?_
 refine eG 0 (g := decide (Prod.fst (balArm (List.map (wallP c) q)) ≤ (8 : Int) * Int.tdiv (t * Cut.gain c) (1000 : Int)) == true) (fun h => works06_ac) ?_
 refine aops_n hTT (M := []) (n := 2) [pc 92 ((decide (Prod.fst (balArm (List.map (wallP c) q)) ≤ (8 : Int) * Int.tdiv (t * Cut.gain c) (1000 : Int)) = true → (decide (Prod.fst (balArm (List.map (wallP c) q)) ≤ (8 : Int) * Int.tdiv (t * Cut.gain c) (1000 : Int)) == true) = true) ∧ True) (V.b (decide (Prod.fst (balArm (List.map (wallP c) q)) ≤ (8 : Int) * Int.tdiv (t * Cut.gain c) (1000 : Int)) && true)), pv 8 (V.b (decide (Prod.fst (balArm (List.map (wallP c) q)) ≤ (8 : Int) * Int.tdiv (t * Cut.gain c) (1000 : Int)) && true))] (by kernel_rfl) (by kernel_rfl) ⟨⟨(by (intro h; rw [h]; rfl)), True.intro⟩, True.intro⟩ ?_
 refine aops_nil (xt_n (hK _ ?_)); clear hK K
 refine aw_ret ?_
 refine ret_pure (v' := V.b (decide (Prod.fst (balArm (List.map (wallP c) q)) ≤ (8 : Int) * Int.tdiv (t * Cut.gain c) (1000 : Int)) && true)) (.inr rfl) (by kernel_rfl) ?_ (by kernel_rfl)
 simp [j2]
def heldSh : List Sh := [(.sl (.fld (.int .i64) (.lst (.int .i64)))), (.int .u16), (.int .u8), (.fld (.int .i64) (.fld (.int .i64) (.fld (.int .i64) (.fld (.int .i64) (.fld (.int .i64) (.fld (.int .i64) (.lst (.int .i64))))))))]
theorem held_all (x : TL heldSh) (hx : wfL heldSh x) : AC Tryz.prog 5 (valL heldSh x) (V.b true) [] := by
 obtain ⟨p, ce, st, ⟨h, g, th, wi, sl, je, sty⟩, _⟩ := x
 obtain ⟨⟨h4, h5⟩, ha, hb, _⟩ := hx
 exact held_law p ce st ⟨h, g, th, wi, sl, je, sty⟩ h4 (wf_ptsT h5) (wf_u16 ha) (wf_u8 hb)
end Go.Proofs.YtepkjobndmmejaaGreatDoor

namespace Go.Proofs.YtepkjobndmmejaaGreatDoor
open Go.Ab Go.RowKit Go.Dw Go.Shelf Go.ChangeShapes Go.WideShapes Go.ChangeAt Go.Deep
def growsLaid : List (String × DataW Unit) := [("unicode/utf8.acceptRanges", Rows.laid_unicode_utf8_acceptRanges), ("unicode/utf8.first", Rows.laid_unicode_utf8_first)]
theorem gl_of_laid {W : World} (h : laidMetH Tryz.prog growsLaid W) (g : Nat) : R W (fun b => b < W.heap.size) ρ0 (gvals g) (gval g) := .any _ _
theorem lay_met (os : Os) (args : Array Value) : laidMetH Tryz.prog growsLaid ((World.laidAll Tryz.prog os growsLaid).forCall (fun _ _ => 0) ⟨#[], args, []⟩).memory := by
  rw [MakeChecks.laidMetH_plain _ _ _ (by kernel_rfl)]; exact laidMet_laidAll _ (by kernel_rfl) (by kernel_rfl)
end Go.Proofs.YtepkjobndmmejaaGreatDoor
