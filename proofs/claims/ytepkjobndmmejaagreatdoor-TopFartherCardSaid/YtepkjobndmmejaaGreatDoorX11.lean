/-
  Several texts in one: The small examples of the layers up to 6. No condition. .. The listed variables of the top: they are never read; the start that meets the condition.
-/
import Derived.Test.YtepkjobndmmejaaGreatDoorTie
import Derived.Test.YtepkjobndmmejaaGreatDoorCards
import Derived.ProofKit
import Derived.LaidMore
import Derived.Lay
import Derived.OpenShut
import Derived.Stop.Joined
import Derived.SevenTiedAt
import Derived.Test.YtepkjobndmmejaaGreatDoorAbs42
import Derived.Test.YtepkjobndmmejaaGreatDoorX10
import Derived.Test.YtepkjobndmmejaaGreatDoorX06
import Derived.Test.YtepkjobndmmejaaGreatDoorX05
import Derived.Test.YtepkjobndmmejaaGreatDoorX07
import Derived.Test.YtepkjobndmmejaaGreatDoorMC
namespace Go.Proofs.YtepkjobndmmejaaGreatDoor
open Go.Ab Go.RowKit Go.Dw Go.Shelf
def w6L : List Pt := [(-100, 100), (-100, 90), (-95, 100)]
theorem w6R : AC Tryz.prog 27 [.agg [V.ints [0, 2, 10]], V.pts w6L] (.tup [V.pts [(-100, 92), (-97, 90), (-95, 92)], .i 0]) [] := by
 have A := Read_ac [0, 2, 10] w6L (by decide) (by decide)
 rw [show wallsR [0, 2, 10] w6L = [(-100, 92), (-97, 90), (-95, 92)] by decide +kernel, show checkBoth [0, 2, 10] w6L = 0 by decide +kernel] at A
 exact A
theorem w6B : AC Tryz.prog 23 [V.pts w6L] (.tup [.agg [.i 0, .i 25], .i 0]) [] := by
 have A := Balance_ac w6L (by decide)
 rw [show balArm w6L = (0, 25) by decide +kernel, show checkPts w6L = 0 by decide +kernel] at A
 exact A
abbrev zzT60 : V := V.sl 2 3 fun (i : Nat) => List.take (2 : Nat) (List.drop (i * 2) [V.i (-100), V.i 100, V.i (-100), V.i 90, V.i (-95), V.i 100])
set_option maxRecDepth 100000 in
theorem works06_ac : AC Tryz.prog 10 [] (.b true) [] := by
 refine acI hTT hMX Tryz.func10 Tryz.ntmps10 fun C hC hF => ?_
 refine sK fun K hK => wR 2 ?_; refine aX hTT 1 [] tI ?_; refine nK hK ?_; clear hK K; refine sK fun K hK => wR 3 ?_; refine aX hTT 5 [] tI ?_; refine nK hK ?_; clear hK K; refine sK fun K hK => wR 4 ?_; refine aX hTT 3 [] tI ?_
 refine eC (AC.conv (w6R) (args' := [V.agg [V.sl 1 3 fun (i : Nat) => List.take (1 : Nat) (List.drop (i * 1) [V.i 0, V.i 2, V.i 10])], zzT60]) ⟨?_, ?_, trivial⟩) ?_
 ·
  exact RImp.agg ⟨RImp.lit1 [0, 2, 10], trivial⟩
 ·
  exact gLit3 rfl rfl rfl
 refine aX hTT 5 [] tI ?_; refine nK hK ?_; clear hK K; refine sK fun K hK => wR 5 ?_; refine aX hTT 1 [] tI ?_
 refine eC (AC.conv (w6B) (args' := [zzT60]) ⟨?_, trivial⟩) ?_
 ·
  exact gLit3 rfl rfl rfl
 refine aX hTT 6 [(3, .r (pn 4 (V.ref 400004 0) (400004 : Nat) (Ob.box 66 [V.i 0, V.i 0]))), (4, .r (pw ((0 : Nat) + (2 : Nat) ≤ (2 : Nat)) (400004 : Nat) (Ob.box 66 [V.i 0, V.i 25])))] ⟨oM, tI⟩ ?_; refine nK hK ?_; clear hK K; refine sK fun K hK => wR 6 ?_; refine aX hTT 24 [(3, .c (gA (true == true) True)), (4, .c (gD (true == true) True)), (5, .c ((true = true → (true == true) = true) ∧ True)), (7, .c (gA (true == true) True)), (8, .c (gB (true == true) True)), (9, .c (gD (true == true) True)), (10, .c ((true = true → (true == true) = true) ∧ True)), (12, .c (gA (true == true) True)), (13, .c (gD (true == true) ((0 : Int) ≤ (1 : Int) ∧ (1 : Int) < (↑(3 : Nat) : Int)))), (14, .c (gB (true == true) True)), (15, .c ((True ∧ True ∧ True) ∧ ((true == true) = true → True))), (16, .c (gC (true == true) True)), (17, .c ((true = true → (true == true) = true) ∧ True)), (19, .c (gA (true == true) ((0 : Nat) ≤ (2 : Nat)))), (20, .c (gA (true == true) True)), (21, .c (gC (true == true) True)), (22, .c ((true = true → (true == true) = true) ∧ True))] ⟨⟨⟨tI, tI⟩, (fun _ => tI)⟩, ⟨⟨(by (exact fun h => h)), ⟨tI, tI⟩⟩, (fun _ => tI)⟩, ⟨(by (exact fun h => h)), tI⟩, ⟨⟨tI, tI⟩, (fun _ => tI)⟩, ⟨⟨(by (exact fun h => h)), tI⟩, (fun _ => tI)⟩, ⟨⟨(by (exact fun h => h)), ⟨tI, tI⟩⟩, (fun _ => tI)⟩, ⟨(by (exact fun h => h)), tI⟩, ⟨⟨tI, tI⟩, (fun _ => tI)⟩, ⟨⟨(by (exact fun h => h)), ⟨tI, tI⟩⟩, (by (intro _; simp; done))⟩, ⟨⟨(by (exact fun h => h)), tI⟩, (fun _ => tI)⟩, ⟨⟨tI, ⟨tI, tI⟩⟩, (fun _ => tI)⟩, ⟨⟨(by (exact fun h => h)), ⟨(by (exact fun h => h)), tI⟩⟩, (fun _ => tI)⟩, ⟨(by (exact fun h => h)), tI⟩, ⟨⟨tI, tI⟩, (by (intro _; simp; done))⟩, ⟨⟨tI, tI⟩, (fun _ => tI)⟩, ⟨⟨(by (exact fun h => h)), ⟨(by (exact fun h => h)), tI⟩⟩, (fun _ => tI)⟩, ⟨(by (exact fun h => h)), tI⟩, tI⟩ ?_
 refine eG 0 (g := true == true) (fun _ => works04_ac) ?_
 refine aX hTT 2 [(0, .c ((true = true → (true == true) = true) ∧ True))] ⟨⟨(by (exact fun h => h)), tI⟩, tI⟩ ?_; refine nK hK ?_; clear hK K
 refine aw_ret ?_
 refine rP (V.b true)
end Go.Proofs.YtepkjobndmmejaaGreatDoor

namespace Go.Proofs.YtepkjobndmmejaaGreatDoor
open Go.Ab Go.RowKit Go.Dw Go.Shelf
theorem wf_u32T {x : Int} (h : (Lit.int .u32 x).wf = true) : 0 ≤ x ∧ x ≤ 4294967295 := by
 simp [Lit.wf, IntKind.min, IntKind.max, IntKind.signed, IntKind.bits] at h; omega
end Go.Proofs.YtepkjobndmmejaaGreatDoor

namespace Go.Proofs.YtepkjobndmmejaaGreatDoor
open Go.Ab Go.RowKit Go.Dw Go.Shelf
set_option maxRecDepth 100000 in
theorem lengthOf_ac (n : Int) (hn : 0 ≤ n ∧ n ≤ 1125899906842624) : AC Tryz.prog 16 [.i n] (.i (rootI n)) [] := by
 refine acI hTT hMX Tryz.func16 Tryz.ntmps16 fun C hC hF => ?_
 refine sK fun K hK => wR 2 ?_; refine aX hTT 1 [] tI ?_; refine nK hK ?_; clear hK K; refine sK fun K hK => wR 3 ?_; refine aX hTT 2 [] tI ?_; refine nK hK ?_; clear hK K; refine sK fun K hK => ?_
 refine aw_block ?_
 refine w_loop (fun x : Int × Int => [(0, .i n), (3, .i x.1), (4, .i x.2)]) (fun _ => []) (fun x => 0 ≤ x.1 ∧ x.1 ≤ x.2 ∧ x.2 ≤ 2147483648 ∧ x.1 * x.1 ≤ n ∧ n < (x.2 + 1) * (x.2 + 1)) (fun x => (x.2 - x.1).toNat) (0, 2147483648) ⟨by decide, by decide, by decide, by simp only; omega, by simp only; omega⟩ ?_ ?_
 ·
  show Le _ ⟨mkT [(0, .i n), (3, .i 0), (4, .i 2147483648)], mkS [], 1⟩
  refine le_ren [] (.cons kR (.cons kR (.cons kR .nil))) .nil kR kR
 rintro ⟨lo, hi⟩ ⟨h0, h1, h2, h3, h4⟩
 simp only at h0 h1 h2 h3 h4 ⊢
 have hm := tdiv_bd (lo + hi + 1) (m := 2) (by decide)
 have hm1 : (lo + hi + 1).tdiv 2 = (lo + hi + 1) / 2 := Int.tdiv_eq_ediv_of_nonneg oM
 obtain ⟨p1, p2⟩ := sq_le (a := (lo + hi + 1).tdiv 2) (m := 2147483648) oM oM
 refine sK fun K hK => ?_; refine sK fun K hK => wR 2 ?_; refine aX hTT 3 [] tI ?_; refine nK hK ?_; clear hK K
 refine w_cond (t := decide (lo < hi)) kR (fun c1 => ?_) (fun c1 => ?_)
 ·
  simp at c1
  refine aw_skip ?_
  refine xt_n (hK _ ?_); clear hK K
  refine aw_block ?_
  refine sK fun K hK => wR 3 ?_; refine aX hTT 6 [(2, .i (lo + hi)), (3, .i (lo + hi + 1)), (4, .c ((0 : Int) < (2 : Int) ∧ (-9223372036854775808 : Int) ≤ lo + hi + 1 ∧ lo + hi + 1 ≤ (9223372036854775807 : Int)))] ⟨oM, oM, ⟨oM, oM⟩, tI⟩ ?_; refine nK hK ?_; clear hK K; refine sK fun K hK => wR 4 ?_; refine aX hTT 5 [(2, .i (Int.tdiv (lo + hi + 1) (2 : Int) * Int.tdiv (lo + hi + 1) (2 : Int)))] ⟨oM, tI⟩ ?_; refine nK hK ?_; clear hK K
  refine w_cond (t := decide (Int.tdiv (lo + hi + 1) (2 : Int) * Int.tdiv (lo + hi + 1) (2 : Int) ≤ n)) kR (fun c2 => ?_) (fun c2 => ?_)
  ·
   simp at c2
   refine wR 5 ?_; refine aX hTT 2 [] tI ?_; refine aops_nil ?_; refine xb_n ?_; refine xt_n ?_
   refine ⟨((lo + hi + 1).tdiv 2, hi), ⟨by simp only; omega, by simp only; omega, h2, c2, h4⟩, ?_, by simp only; omega⟩
   show Le _ ⟨mkT [(0, .i n), (3, .i ((lo + hi + 1).tdiv 2)), (4, .i hi)], mkS [], 1⟩
   refine le_ren [] (.cons kR (.cons kR (.cons kR .nil))) .nil kR kR
  ·
   simp at c2
   refine wR 5 ?_; refine aX hTT 3 [(1, .i (Int.tdiv (lo + hi + 1) (2 : Int) - (1 : Int)))] ⟨oM, tI⟩ ?_; refine aops_nil ?_; refine xb_n ?_; refine xt_n ?_
   refine ⟨(lo, (lo + hi + 1).tdiv 2 - 1), ⟨h0, by simp only; omega, by simp only; omega, h3, by simpa using c2⟩, ?_, by simp only; omega⟩
   show Le _ ⟨mkT [(0, .i n), (3, .i lo), (4, .i ((lo + hi + 1).tdiv 2 - 1))], mkS [], 1⟩
   refine le_ren [] (.cons kR (.cons kR (.cons kR .nil))) .nil kR kR
 ·
  simp at c1
  obtain rfl : hi = lo := by omega
  refine aw_exit ?_
  refine xt_x ?_; refine xt_x ?_
  refine xb_same ?_
  refine xt_n ?_; clear hK K; refine hK _ ?_; clear hK K; refine sK fun K hK => wR 3 ?_; refine aX hTT 2 [] tI ?_; refine nK hK ?_; clear hK K
  refine aw_ret ?_
  rw [← root_uniq hn.1 h0 h3 h4]
  refine rP (V.i hi)
theorem gArc_le2 {b per : Int} (h0 : 0 ≤ b ∧ b ≤ 4194304) (hp : 1 ≤ per) : gArc b per ≤ 1125899906842624 := by
 unfold gArc
 have h3 : 113 * 113 ≤ 113 * per * (113 * per) := (sq_le (a := 113) (m := 113 * per) oM oM).2
 have h2 := sq_le (a := 710 * b) (m := 710 * 4194304) oM oM
 rw [Int.tdiv_eq_ediv_of_nonneg h2.1]
 refine Int.le_of_lt_add_one (Int.ediv_lt_of_lt_mul oM ?_)
 have h4 : (1125899906842624 + 1) * (113 * 113) ≤ (1125899906842624 + 1) * (113 * per * (113 * per)) := Int.mul_le_mul_of_nonneg_left h3 (by decide)
 omega
theorem arc_ok {r per : Int} (h0 : 0 ≤ r ∧ r ≤ 4194304) (hp : 1 ≤ per ∧ per ≤ 65536) : plcE r per = 0 ∧ arcR r per = gArc r per := by
 have : plcE r per = 0 := by
  rw [plcE, if_pos]
  simp [betB]; omega
 exact ⟨this, by rw [arcR, if_pos this]⟩
abbrev yyWFar0 (l : List Pt) : V := V.sl 2 (List.length l) fun (k : Nat) => [V.i (Prod.fst (gp l k)), V.i (Prod.snd (gp l k))]
abbrev yyWFar1 := ((false == false) = true → (false == false) = true)
set_option maxRecDepth 100000 in
theorem far_law (l : List Pt) (per x y tip : Int) (hl : l.length ≤ 4611686018427387904) (hx : 0 ≤ x ∧ x ≤ 4294967295) (hy : 0 ≤ y ∧ y ≤ 4294967295) (ht : 0 ≤ tip ∧ tip ≤ 255) : AC Tryz.prog 4 [V.pts l, .i per, .agg [.c (.int .u32 x), .c (.int .u32 y)], .c (.int .u8 tip)] (.b true) [] := by
 refine acI hTT hMX Tryz.func4 Tryz.ntmps4 fun C hC hF => ?_
 refine sK fun K hK => wR 2 ?_
 refine aops_n hTT (M := []) (n := 2) [pv 6 (V.ptr [V.c (Value.int IntKind.u32 x), V.c (Value.int IntKind.u32 y)]), pv 8 (V.b false)] kR kR tI ?_
 refine nK hK ?_; clear hK K; refine sK fun K hK => ?_; refine sK fun K hK => wR 3 ?_
 refine aops_n hTT (M := []) (n := 5) [pv 22 ((yyWFar0 l)), pv 23 (V.i (↑(List.length l) : Int)), pv 24 (V.b (decide ((20 : Int) < (↑(List.length l) : Int)))), pv 25 (V.b (decide ((20 : Int) < (↑(List.length l) : Int)))), pc 26 ((True ∧ True) ∧ ((decide ((20 : Int) < (↑(List.length l) : Int)) == false) = true → True)) (V.gd (decide ((20 : Int) < (↑(List.length l) : Int)) == false) ((yyWFar0 l)))] kR kR ⟨⟨⟨tI, tI⟩, (fun _ => tI)⟩, tI⟩ ?_
 refine eG 1 (g := decide ((20 : Int) < (↑(List.length l) : Int)) == false) (fun h => refCheckPts_ac l hl) ?_
 refine aops_n hTT (M := []) (n := 10) [pc 28 ((((decide ((20 : Int) < (↑(List.length l) : Int)) == false) = true → (decide ((20 : Int) < (↑(List.length l) : Int)) == false) = true) ∧ True ∧ True) ∧ ((decide ((20 : Int) < (↑(List.length l) : Int)) == false) = true → True)) (V.gd (decide ((20 : Int) < (↑(List.length l) : Int)) == false) (V.b !decide (checkPts l = 0))), pc 29 (True ∧ (decide ((20 : Int) < (↑(List.length l) : Int)) = false → (decide ((20 : Int) < (↑(List.length l) : Int)) == false) = true)) (V.b (decide ((20 : Int) < (↑(List.length l) : Int)) || !decide (checkPts l = 0))), pv 30 (V.b (decide ((20 : Int) < (↑(List.length l) : Int)) || !decide (checkPts l = 0))), pc 31 ((True ∧ True) ∧ (((decide ((20 : Int) < (↑(List.length l) : Int)) || !decide (checkPts l = 0)) == false) = true → True)) (V.gd ((decide ((20 : Int) < (↑(List.length l) : Int)) || !decide (checkPts l = 0)) == false) (V.i per)), pc 32 (((((decide ((20 : Int) < (↑(List.length l) : Int)) || !decide (checkPts l = 0)) == false) = true → ((decide ((20 : Int) < (↑(List.length l) : Int)) || !decide (checkPts l = 0)) == false) = true) ∧ True ∧ True) ∧ (((decide ((20 : Int) < (↑(List.length l) : Int)) || !decide (checkPts l = 0)) == false) = true → True)) (V.gd ((decide ((20 : Int) < (↑(List.length l) : Int)) || !decide (checkPts l = 0)) == false) (V.b (decide (per < 1)))), pc 33 (True ∧ ((decide ((20 : Int) < (↑(List.length l) : Int)) || !decide (checkPts l = 0)) = false → ((decide ((20 : Int) < (↑(List.length l) : Int)) || !decide (checkPts l = 0)) == false) = true)) (V.b (decide ((20 : Int) < (↑(List.length l) : Int)) || !decide (checkPts l = 0) || decide (per < 1))), pv 34 (V.b (decide ((20 : Int) < (↑(List.length l) : Int)) || !decide (checkPts l = 0) || decide (per < 1))), pc 35 ((True ∧ True) ∧ (((decide ((20 : Int) < (↑(List.length l) : Int)) || !decide (checkPts l = 0) || decide (per < 1)) == false) = true → True)) (V.gd ((decide ((20 : Int) < (↑(List.length l) : Int)) || !decide (checkPts l = 0) || decide (per < 1)) == false) (V.i per)), pc 36 (((((decide ((20 : Int) < (↑(List.length l) : Int)) || !decide (checkPts l = 0) || decide (per < 1)) == false) = true → ((decide ((20 : Int) < (↑(List.length l) : Int)) || !decide (checkPts l = 0) || decide (per < 1)) == false) = true) ∧ True ∧ True) ∧ (((decide ((20 : Int) < (↑(List.length l) : Int)) || !decide (checkPts l = 0) || decide (per < 1)) == false) = true → True)) (V.gd ((decide ((20 : Int) < (↑(List.length l) : Int)) || !decide (checkPts l = 0) || decide (per < 1)) == false) (V.b (decide ((65536 : Int) < per)))), pc 37 (True ∧ ((decide ((20 : Int) < (↑(List.length l) : Int)) || !decide (checkPts l = 0) || decide (per < 1)) = false → ((decide ((20 : Int) < (↑(List.length l) : Int)) || !decide (checkPts l = 0) || decide (per < 1)) == false) = true)) (V.b (decide ((20 : Int) < (↑(List.length l) : Int)) || !decide (checkPts l = 0) || decide (per < 1) || decide ((65536 : Int) < per)))] kR kR ⟨⟨⟨(by (exact fun h => h)), ⟨tI, tI⟩⟩, (fun _ => tI)⟩, ⟨tI, (by (intro h; rw [h]; rfl))⟩, ⟨⟨tI, tI⟩, (fun _ => tI)⟩, ⟨⟨(by (exact fun h => h)), ⟨tI, tI⟩⟩, (fun _ => tI)⟩, ⟨tI, (by (intro h; rw [h]; rfl))⟩, ⟨⟨tI, tI⟩, (fun _ => tI)⟩, ⟨⟨(by (exact fun h => h)), ⟨tI, tI⟩⟩, (fun _ => tI)⟩, ⟨tI, (by (intro h; rw [h]; rfl))⟩, tI⟩ ?_
 refine nK hK ?_; clear hK K
 refine w_cond (t := decide ((20 : Int) < (↑(List.length l) : Int)) || !decide (checkPts l = 0) || decide (per < 1) || decide ((65536 : Int) < per)) kR (fun c1 => ?_) (fun c1 => ?_)
 ·
  refine sK fun K hK => ?_
  refine wR 4 ?_
  refine eC (works06_ac) ?_
  refine aops_n hTT (M := []) (n := 1) [pv 8 (V.b true)] kR kR tI ?_
  refine nK hK ?_; clear hK K
  refine aw_ret ?_
  refine xt_r ?_
  refine rP (V.b true)
 simp at c1
 have hx2 : 0 ≤ x.tmod 4194305 ∧ x.tmod 4194305 ≤ 4194304 := by rw [Int.tmod_eq_emod_of_nonneg hx.1]; omega
 have hy2 : 0 ≤ y.tmod 4194305 ∧ y.tmod 4194305 ≤ 4194304 := by rw [Int.tmod_eq_emod_of_nonneg hy.1]; omega
 have ha : 0 ≤ min (x.tmod 4194305) (y.tmod 4194305) ∧ min (x.tmod 4194305) (y.tmod 4194305) ≤ 4194304 := by omega
 have hb : 0 ≤ max (x.tmod 4194305) (y.tmod 4194305) ∧ max (x.tmod 4194305) (y.tmod 4194305) ≤ 4194304 := by omega
 have hab : min (x.tmod 4194305) (y.tmod 4194305) ≤ max (x.tmod 4194305) (y.tmod 4194305) := by omega
 have hr : 0 ≤ tip.tmod 61 ∧ tip.tmod 61 ≤ 60 := by rw [Int.tmod_eq_emod_of_nonneg ht.1]; omega
 have hp : 1 ≤ per ∧ per ≤ 65536 := ⟨c1.1.2, c1.2⟩
 have hpts := c1.1.1.2
 have hl20 : l.length ≤ 20 := by omega
 refine aw_skip ?_
 refine xt_n (hK _ ?_); clear hK K; refine sK fun K hK => wD 4 ?_
 refine aops_n hTT (M := []) (n := 10) [pc 39 ((0 : Int) ≤ (0 : Int) ∧ (0 : Int) < (↑(2 : Nat) : Int)) (V.ptr [V.c (Value.int IntKind.u32 x), V.c (Value.int IntKind.u32 y)]), pv 40 (V.c (Value.int IntKind.u32 x)), pc 41 ((-9223372036854775808 : Int) ≤ x ∧ x ≤ 9223372036854775807) (V.i x), pc 42 ((4194305 : Int) ≠ (0 : Int)) (V.i (Int.tmod x (4194305 : Int))), pc 43 ((0 : Int) ≤ (1 : Int) ∧ (1 : Int) < (↑(2 : Nat) : Int)) (V.ptr [V.c (Value.int IntKind.u32 y)]), pv 44 (V.c (Value.int IntKind.u32 y)), pc 45 ((-9223372036854775808 : Int) ≤ y ∧ y ≤ 9223372036854775807) (V.i y), pc 46 ((4194305 : Int) ≠ (0 : Int)) (V.i (Int.tmod y (4194305 : Int))), pv 9 (V.i (Int.tmod x (4194305 : Int))), pv 10 (V.i (Int.tmod y (4194305 : Int)))] kR kR ⟨oM, oM, oM, oM, oM, oM, tI⟩ ?_
 refine aops_nil ⟨kR, ?_⟩; refine xt_n (hK _ ?_); clear hK K; refine sK fun K hK => wR 5 ?_
 refine aops_n hTT (M := []) (n := 8) [pv 47 (V.i (Int.tmod x (4194305 : Int))), pv 48 (V.i (Int.tmod y (4194305 : Int))), pv 49 (V.i (min (Int.tmod x (4194305 : Int)) (Int.tmod y (4194305 : Int)))), pv 50 (V.i (Int.tmod x (4194305 : Int))), pv 51 (V.i (Int.tmod y (4194305 : Int))), pv 52 (V.i (max (Int.tmod x (4194305 : Int)) (Int.tmod y (4194305 : Int)))), pv 9 (V.i (min (Int.tmod x (4194305 : Int)) (Int.tmod y (4194305 : Int)))), pv 10 (V.i (max (Int.tmod x (4194305 : Int)) (Int.tmod y (4194305 : Int))))] kR kR tI ?_
 refine nK hK ?_; clear hK K; refine sK fun K hK => wR 6 ?_
 refine aops_n hTT (M := []) (n := 2) [pv 54 (V.i (min (Int.tmod x (4194305 : Int)) (Int.tmod y (4194305 : Int)))), pv 55 (V.i per)] kR kR tI ?_
 generalize min (x.tmod 4194305) (y.tmod 4194305) = a at ha hab ⊢
 generalize max (x.tmod 4194305) (y.tmod 4194305) = b at hb hab ⊢
 obtain ⟨u1, u2⟩ := arc_ok ha hp
 obtain ⟨v1, v2⟩ := arc_ok hb hp
 have g1 := gArc_up ha.1 hab hp.1
 have g2 := gArc_le2 hb hp.1
 refine eC (Arc_ac a per) ?_
 rw [u1, u2]
 refine aops_n hTT (M := []) (n := 5) [pv 53 (V.tup [V.i (gArc a per), V.i 0]), pv 57 (V.i (gArc a per)), pv 58 (V.i 0), pv 11 (V.i (gArc a per)), pv 12 (V.i 0)] kR kR tI ?_
 refine nK hK ?_; clear hK K; refine sK fun K hK => wR 7 ?_
 refine aops_n hTT (M := []) (n := 2) [pv 60 (V.i b), pv 61 (V.i per)] kR kR tI ?_
 refine eC (Arc_ac b per) ?_
 rw [v1, v2]
 refine aops_n hTT (M := []) (n := 5) [pv 59 (V.tup [V.i (gArc b per), V.i 0]), pv 63 (V.i (gArc b per)), pv 64 (V.i 0), pv 13 (V.i (gArc b per)), pv 14 (V.i 0)] kR kR tI ?_
 refine nK hK ?_; clear hK K; refine sK fun K hK => ?_; refine sK fun K hK => wR 8 ?_
 refine aops_n hTT (M := []) (n := 15) [pv 65 (V.i 0), pv 66 (V.b false), pv 67 (V.b false), pc 68 ((True ∧ True) ∧ ((false == false) = true → True)) (V.gd (false == false) (V.i 0)), pc 69 ((yyWFar1 ∧ True ∧ True) ∧ ((false == false) = true → True)) (V.gd (false == false) (V.b false)), pc 70 (True ∧ (false = false → (false == false) = true)) (V.b false), pv 71 (V.b false), pc 72 ((True ∧ True) ∧ ((false == false) = true → True)) (V.gd (false == false) (V.i (gArc a per))), pc 73 ((yyWFar1 ∧ True ∧ True) ∧ ((false == false) = true → True)) (V.gd (false == false) (V.b (decide (gArc a per < 0)))), pc 74 (True ∧ (false = false → (false == false) = true)) (V.b (decide (gArc a per < 0))), pv 75 (V.b (decide (gArc a per < 0))), pc 76 ((True ∧ True) ∧ ((decide (gArc a per < 0) == false) = true → True)) (V.gd (decide (gArc a per < 0) == false) (V.i (gArc b per))), pc 77 ((True ∧ True) ∧ ((decide (gArc a per < 0) == false) = true → True)) (V.gd (decide (gArc a per < 0) == false) (V.i (gArc a per))), pc 78 ((((decide (gArc a per < 0) == false) = true → (decide (gArc a per < 0) == false) = true) ∧ ((decide (gArc a per < 0) == false) = true → (decide (gArc a per < 0) == false) = true) ∧ True) ∧ ((decide (gArc a per < 0) == false) = true → True)) (V.gd (decide (gArc a per < 0) == false) (V.b (decide (gArc b per < gArc a per)))), pc 79 (True ∧ (decide (gArc a per < 0) = false → (decide (gArc a per < 0) == false) = true)) (V.b (decide (gArc a per < 0) || decide (gArc b per < gArc a per)))] kR kR ⟨⟨⟨tI, tI⟩, (fun _ => tI)⟩, ⟨⟨(by (exact fun h => h)), ⟨tI, tI⟩⟩, (fun _ => tI)⟩, ⟨tI, (by (intro h; rw [h]; rfl))⟩, ⟨⟨tI, tI⟩, (fun _ => tI)⟩, ⟨⟨(by (exact fun h => h)), ⟨tI, tI⟩⟩, (fun _ => tI)⟩, ⟨tI, (by (intro h; rw [h]; rfl))⟩, ⟨⟨tI, tI⟩, (fun _ => tI)⟩, ⟨⟨tI, tI⟩, (fun _ => tI)⟩, ⟨⟨(by (exact fun h => h)), ⟨(by (exact fun h => h)), tI⟩⟩, (fun _ => tI)⟩, ⟨tI, (by (intro h; rw [h]; rfl))⟩, tI⟩ ?_
 refine nK hK ?_; clear hK K
 refine w_cond (t := decide (gArc a per < 0) || decide (gArc b per < gArc a per)) kR (fun c2 => ?_) (fun c2 => ?_)
 ·
  simp at c2
  omega
 refine aw_skip ?_
 refine xt_n (hK _ ?_); clear hK K; refine sK fun K hK => wR 9 ?_
 refine aops_n hTT (M := []) (n := 1) [pv 80 (V.i (gArc a per))] kR kR tI ?_
 refine eC (lengthOf_ac (gArc a per) ⟨g1.1, by omega⟩) ?_
 refine aops_n hTT (M := []) (n := 1) [pv 82 (V.i (gArc b per))] kR kR tI ?_
 refine eC (lengthOf_ac (gArc b per) ⟨by omega, g2⟩) ?_
 have m1 := rootI_mono g1.1 g1.2
 have m2 := (rootI_spec g1.1).1
 have m3 : rootI (gArc b per) ≤ 2147483648 := root_le (rootI_spec (n := gArc b per) oM).1 (b := 2147483648) (by decide) (rootI_spec (n := gArc b per) oM).2.1 oM
 generalize rootI (gArc a per) = near at m1 m2 ⊢
 generalize rootI (gArc b per) = far at m1 m3 ⊢
 refine aops_n hTT (M := []) (n := 2) [pv 15 (V.i near), pv 16 (V.i far)] kR kR tI ?_
 refine nK hK ?_; clear hK K; refine sK fun K hK => wR 10 ?_
 refine aops_n hTT (M := []) (n := 4) [pv 84 (V.c (Value.int IntKind.u8 tip)), pc 85 ((-9223372036854775808 : Int) ≤ tip ∧ tip ≤ 9223372036854775807) (V.i tip), pc 86 ((61 : Int) ≠ (0 : Int)) (V.i (Int.tmod tip (61 : Int))), pv 17 (V.i (Int.tmod tip (61 : Int)))] kR kR ⟨oM, oM, tI⟩ ?_
 refine nK hK ?_; clear hK K; refine sK fun K hK => ?_; refine sK fun K hK => wR 11 ?_
 refine aops_n hTT (M := []) (n := 12) [pv 87 (V.i near), pv 88 (V.b (decide (near < 1))), pv 89 (V.b (decide (near < 1))), pc 90 ((True ∧ True) ∧ ((decide (near < 1) == false) = true → True)) (V.gd (decide (near < 1) == false) (V.i (Int.tmod tip (61 : Int)))), pc 91 ((True ∧ True) ∧ ((decide (near < 1) == false) = true → True)) (V.gd (decide (near < 1) == false) (V.i near)), pc 92 ((((decide (near < 1) == false) = true → (decide (near < 1) == false) = true) ∧ ((decide (near < 1) == false) = true → (decide (near < 1) == false) = true) ∧ True) ∧ ((decide (near < 1) == false) = true → (0 : Int) < near ∧ (-9223372036854775808 : Int) ≤ Int.tmod tip (61 : Int) ∧ Int.tmod tip (61 : Int) ≤ (9223372036854775807 : Int))) (V.gd (decide (near < 1) == false) (V.i (Int.tdiv (Int.tmod tip (61 : Int)) near))), pc 93 ((((decide (near < 1) == false) = true → (decide (near < 1) == false) = true) ∧ True ∧ True) ∧ ((decide (near < 1) == false) = true → True)) (V.gd (decide (near < 1) == false) (V.b (decide ((64 : Int) ≤ Int.tdiv (Int.tmod tip (61 : Int)) near)))), pc 94 (True ∧ (decide (near < 1) = false → (decide (near < 1) == false) = true)) (V.b (decide (near < 1) || decide ((64 : Int) ≤ Int.tdiv (Int.tmod tip (61 : Int)) near))), pv 95 (V.b (decide (near < 1) || decide ((64 : Int) ≤ Int.tdiv (Int.tmod tip (61 : Int)) near))), pc 96 ((True ∧ True) ∧ (((decide (near < 1) || decide ((64 : Int) ≤ Int.tdiv (Int.tmod tip (61 : Int)) near)) == false) = true → True)) (V.gd ((decide (near < 1) || decide ((64 : Int) ≤ Int.tdiv (Int.tmod tip (61 : Int)) near)) == false) (V.i far)), pc 97 (((((decide (near < 1) || decide ((64 : Int) ≤ Int.tdiv (Int.tmod tip (61 : Int)) near)) == false) = true → ((decide (near < 1) || decide ((64 : Int) ≤ Int.tdiv (Int.tmod tip (61 : Int)) near)) == false) = true) ∧ True ∧ True) ∧ (((decide (near < 1) || decide ((64 : Int) ≤ Int.tdiv (Int.tmod tip (61 : Int)) near)) == false) = true → True)) (V.gd ((decide (near < 1) || decide ((64 : Int) ≤ Int.tdiv (Int.tmod tip (61 : Int)) near)) == false) (V.b (decide ((4194304 : Int) < far)))), pc 98 (True ∧ ((decide (near < 1) || decide ((64 : Int) ≤ Int.tdiv (Int.tmod tip (61 : Int)) near)) = false → ((decide (near < 1) || decide ((64 : Int) ≤ Int.tdiv (Int.tmod tip (61 : Int)) near)) == false) = true)) (V.b (decide (near < 1) || decide ((64 : Int) ≤ Int.tdiv (Int.tmod tip (61 : Int)) near) || decide ((4194304 : Int) < far)))] kR kR ⟨⟨⟨tI, tI⟩, (fun _ => tI)⟩, ⟨⟨tI, tI⟩, (fun _ => tI)⟩, ⟨⟨(by (exact fun h => h)), ⟨(by (exact fun h => h)), tI⟩⟩, (by (intro hg; simp at hg; omega))⟩, ⟨⟨(by (exact fun h => h)), ⟨tI, tI⟩⟩, (fun _ => tI)⟩, ⟨tI, (by (intro h; rw [h]; rfl))⟩, ⟨⟨tI, tI⟩, (fun _ => tI)⟩, ⟨⟨(by (exact fun h => h)), ⟨tI, tI⟩⟩, (fun _ => tI)⟩, ⟨tI, (by (intro h; rw [h]; rfl))⟩, tI⟩ ?_
 refine nK hK ?_; clear hK K
 refine w_cond (t := decide (near < 1) || decide ((64 : Int) ≤ Int.tdiv (Int.tmod tip (61 : Int)) near) || decide ((4194304 : Int) < far)) kR (fun c3 => ?_) (fun c3 => ?_)
 ·
  refine sK fun K hK => ?_
  refine wR 12 ?_
  refine eC (works06_ac) ?_
  refine aops_n hTT (M := []) (n := 1) [pv 8 (V.b true)] kR kR tI ?_
  refine nK hK ?_; clear hK K
  refine aw_ret ?_
  refine xt_r ?_
  refine rP (V.b true)
 simp at c3
 generalize tip.tmod 61 = r at hr c3 ⊢
 obtain ⟨⟨n1, n2⟩, n3⟩ := c3
 have hN : eltN r near ≤ 64 := by
  have := (tdiv_bd r (m := near) oM).1 hr.1
  unfold eltN; omega
 have e1 : roundE r near = 0 := roundE_ok.2 ⟨hr.1, by omega, n1, by omega, hN⟩
 have e2 : roundE r far = 0 := roundE_arc n1 m1 n3 e1
 refine aw_skip ?_
 refine xt_n (hK _ ?_); clear hK K; refine sK fun K hK => wR 12 ?_
 refine aops_n hTT (M := []) (n := 2) [pv 101 (V.i r), pv 102 (V.i near)] kR kR tI ?_
 refine eC (Round_ok r near false e1) ?_
 refine aops_n hTT (M := []) (n := 6) [pv 100 (V.tup [V.agg [V.sl 1 (List.length (eltL r near false)) fun (k : Nat) => [V.i (gi (eltL r near false) k)]], V.i 0]), pv 104 (V.agg [V.sl 1 (List.length (eltL r near false)) fun (k : Nat) => [V.i (gi (eltL r near false) k)]]), pv 105 (V.i 0), pn 18 (V.ref 1100018 0) (1100018 : Nat) (Ob.box 27 [V.nil]), pw ((0 : Nat) + (1 : Nat) ≤ (1 : Nat)) (1100018 : Nat) (Ob.box 27 [V.sl 1 (List.length (eltL r near false)) fun (k : Nat) => [V.i (gi (eltL r near false) k)]]), pv 12 (V.i 0)] kR kR ⟨oM, tI⟩ ?_
 refine nK hK ?_; clear hK K; refine sK fun K hK => wR 13 ?_
 refine aops_n hTT (M := []) (n := 2) [pv 107 (V.i r), pv 108 (V.i far)] kR kR tI ?_
 refine eC (Round_ok r far false e2) ?_
 have l1 : (eltL r near false).length ≤ 64 := by rw [eltL_len]; exact hN
 have l2 : (eltL r far false).length ≤ 64 := by rw [eltL_len]; exact (roundE_ok.1 e2).2.2.2.2
 have hbl := blunt_arc hr.1 n1 m1
 refine aops_n hTT (M := []) (n := 6) [pv 106 (V.tup [V.agg [V.sl 1 (List.length (eltL r far false)) fun (k : Nat) => [V.i (gi (eltL r far false) k)]], V.i 0]), pv 110 (V.agg [V.sl 1 (List.length (eltL r far false)) fun (k : Nat) => [V.i (gi (eltL r far false) k)]]), pv 111 (V.i 0), pn 19 (V.ref 1200019 0) (1200019 : Nat) (Ob.box 27 [V.nil]), pw ((0 : Nat) + (1 : Nat) ≤ (1 : Nat)) (1200019 : Nat) (Ob.box 27 [V.sl 1 (List.length (eltL r far false)) fun (k : Nat) => [V.i (gi (eltL r far false) k)]]), pv 14 (V.i 0)] kR kR ⟨oM, tI⟩ ?_
 refine nK hK ?_; clear hK K; refine sK fun K hK => ?_; refine sK fun K hK => wR 14 ?_
 refine aops_n hTT (M := []) (n := 9) [pv 112 (V.i 0), pv 113 (V.b false), pv 114 (V.b false), pc 115 ((True ∧ True) ∧ ((false == false) = true → True)) (V.gd (false == false) (V.i 0)), pc 116 ((yyWFar1 ∧ True ∧ True) ∧ ((false == false) = true → True)) (V.gd (false == false) (V.b false)), pc 117 (True ∧ (false = false → (false == false) = true)) (V.b false), pv 118 (V.b false), pc 119 ((True ∧ True) ∧ ((false == false) = true → (0 : Nat) ≤ (1 : Nat))) (V.gd (false == false) (V.agg [V.sl 1 (List.length (eltL r near false)) fun (k : Nat) => [V.i (gi (eltL r near false) k)]])), pc 120 ((True ∧ True) ∧ ((false == false) = true → (0 : Nat) ≤ (1 : Nat))) (V.gd (false == false) (V.agg [V.sl 1 (List.length (eltL r far false)) fun (k : Nat) => [V.i (gi (eltL r far false) k)]]))] kR kR ⟨⟨⟨tI, tI⟩, (fun _ => tI)⟩, ⟨⟨(by (exact fun h => h)), ⟨tI, tI⟩⟩, (fun _ => tI)⟩, ⟨tI, (by (intro h; rw [h]; rfl))⟩, ⟨⟨tI, tI⟩, (by (intro _; simp; done))⟩, ⟨⟨tI, tI⟩, (by (intro _; simp; done))⟩, tI⟩ ?_
 refine eG 2 (g := false == false) (fun h => refBlunter_ac (eltL r near false) (eltL r far false) l1 l2) ?_
 rw [hbl]
 refine aops_n hTT (M := []) (n := 2) [pc 122 ((yyWFar1 ∧ True) ∧ ((false == false) = true → True)) (V.gd (false == false) (V.b false)), pc 123 (True ∧ (false = false → (false == false) = true)) (V.b false)] kR kR ⟨⟨⟨(by (exact fun h => h)), tI⟩, (fun _ => tI)⟩, ⟨tI, (by (intro h; rw [h]; rfl))⟩, tI⟩ ?_
 refine nK hK ?_; clear hK K; refine w_false (t := false) kR rfl ?_
 refine aw_skip ?_
 refine xt_n (hK _ ?_); clear hK K; refine sK fun K hK => wR 15 ?_
 refine aops_n hTT (M := []) (n := 2) [pc 125 ((0 : Nat) ≤ (1 : Nat)) (V.agg [V.sl 1 (List.length (eltL r near false)) fun (k : Nat) => [V.i (gi (eltL r near false) k)]]), pv 126 ((yyWFar0 l))] kR kR ⟨oM, tI⟩ ?_
 have k1 := checkBoth_of (checkTip_round (up := false) e1) hpts
 have k2 := checkBoth_of (checkTip_round (up := false) e2) hpts
 refine eC (Miss_ac (eltL r near false) l oM hl) ?_
 refine aops_n hTT (M := []) (n := 5) [pv 124 (V.tup [V.i (Prod.fst (missO (eltL r near false) l)), V.i (Prod.fst (Prod.snd (missO (eltL r near false) l))), V.i (Prod.snd (Prod.snd (missO (eltL r near false) l)))]), pv 128 (V.i (Prod.fst (missO (eltL r near false) l))), pv 129 (V.i (Prod.fst (Prod.snd (missO (eltL r near false) l)))), pv 130 (V.i (Prod.snd (Prod.snd (missO (eltL r near false) l)))), pv 12 (V.i (Prod.snd (Prod.snd (missO (eltL r near false) l))))] kR kR tI ?_
 refine nK hK ?_; clear hK K; refine sK fun K hK => wR 16 ?_
 refine aops_n hTT (M := []) (n := 2) [pc 132 ((0 : Nat) ≤ (1 : Nat)) (V.agg [V.sl 1 (List.length (eltL r far false)) fun (k : Nat) => [V.i (gi (eltL r far false) k)]]), pv 133 ((yyWFar0 l))] kR kR ⟨oM, tI⟩ ?_
 refine eC (Miss_ac (eltL r far false) l oM hl) ?_
 have x1 : exactB l near r = true → exactB l far r = true := exact_arc hr.1 n1 m1
 have y1 : missO (eltL r near false) l = missI (eltL r near false) l := by rw [missO, if_pos k1]
 have y2 : missO (eltL r far false) l = missI (eltL r far false) l := by rw [missO, if_pos k2]
 refine aops_n hTT (M := []) (n := 5) [pv 131 (V.tup [V.i (Prod.fst (missO (eltL r far false) l)), V.i (Prod.fst (Prod.snd (missO (eltL r far false) l))), V.i (Prod.snd (Prod.snd (missO (eltL r far false) l)))]), pv 135 (V.i (Prod.fst (missO (eltL r far false) l))), pv 136 (V.i (Prod.fst (Prod.snd (missO (eltL r far false) l)))), pv 137 (V.i (Prod.snd (Prod.snd (missO (eltL r far false) l)))), pv 14 (V.i (Prod.snd (Prod.snd (missO (eltL r far false) l))))] kR kR tI ?_
 refine nK hK ?_; clear hK K; refine sK fun K hK => ?_; refine sK fun K hK => wR 17 ?_
 refine aops_n hTT (M := []) (n := 6) [pv 138 (V.i (Prod.snd (Prod.snd (missO (eltL r near false) l)))), pv 139 (V.b (decide (Prod.snd (Prod.snd (missO (eltL r near false) l)) = 5))), pv 140 (V.b (decide (Prod.snd (Prod.snd (missO (eltL r near false) l)) = 5))), pc 141 ((True ∧ True) ∧ ((decide (Prod.snd (Prod.snd (missO (eltL r near false) l)) = 5) == true) = true → True)) (V.gd (decide (Prod.snd (Prod.snd (missO (eltL r near false) l)) = 5) == true) (V.i (Prod.snd (Prod.snd (missO (eltL r far false) l))))), pc 142 ((((decide (Prod.snd (Prod.snd (missO (eltL r near false) l)) = 5) == true) = true → (decide (Prod.snd (Prod.snd (missO (eltL r near false) l)) = 5) == true) = true) ∧ True ∧ True) ∧ ((decide (Prod.snd (Prod.snd (missO (eltL r near false) l)) = 5) == true) = true → True)) (V.gd (decide (Prod.snd (Prod.snd (missO (eltL r near false) l)) = 5) == true) (V.b !decide (Prod.snd (Prod.snd (missO (eltL r far false) l)) = 5))), pc 143 ((decide (Prod.snd (Prod.snd (missO (eltL r near false) l)) = 5) = true → (decide (Prod.snd (Prod.snd (missO (eltL r near false) l)) = 5) == true) = true) ∧ True) (V.b (decide (Prod.snd (Prod.snd (missO (eltL r near false) l)) = 5) && !decide (Prod.snd (Prod.snd (missO (eltL r far false) l)) = 5)))] kR kR ⟨⟨⟨tI, tI⟩, (fun _ => tI)⟩, ⟨⟨(by (exact fun h => h)), ⟨tI, tI⟩⟩, (fun _ => tI)⟩, ⟨(by (intro h; rw [h]; rfl)), tI⟩, tI⟩ ?_
 refine nK hK ?_; clear hK K
 refine w_cond (t := decide (Prod.snd (Prod.snd (missO (eltL r near false) l)) = 5) && !decide (Prod.snd (Prod.snd (missO (eltL r far false) l)) = 5)) kR (fun c4 => ?_) (fun c4 => ?_)
 ·
  exfalso
  rw [y1, y2] at c4
  simp at c4
  simp only [exactB, decide_eq_true_eq] at x1
  exact c4.2 (x1 c4.1)
 clear c4
 refine aw_skip ?_
 refine xt_n (hK _ ?_); clear hK K; refine sK fun K hK => wR 18 ?_
 refine aops_n hTT (M := []) (n := 3) [pv 145 ((yyWFar0 l)), pv 146 (V.i near), pv 147 (V.i r)] kR kR tI ?_
 obtain ⟨s1, s2⟩ := great_3 hpts e1
 obtain ⟨s3, s4⟩ := great_3 hpts e2
 have hbest := best_arc (l := l) n1 m1 r.toNat
 refine eC (Greatest_ac l near r hl) ?_
 rw [s1, s2]
 refine aops_n hTT (M := []) (n := 5) [pv 144 (V.tup [V.i (best l near (Int.toNat r)), V.i 0]), pv 149 (V.i (best l near (Int.toNat r))), pv 150 (V.i 0), pv 20 (V.i (best l near (Int.toNat r))), pv 12 (V.i 0)] kR kR tI ?_
 refine nK hK ?_; clear hK K; refine sK fun K hK => wR 19 ?_
 refine aops_n hTT (M := []) (n := 3) [pv 152 ((yyWFar0 l)), pv 153 (V.i far), pv 154 (V.i r)] kR kR tI ?_
 refine eC (Greatest_ac l far r hl) ?_
 rw [s3, s4]
 refine aops_n hTT (M := []) (n := 5) [pv 151 (V.tup [V.i (best l far (Int.toNat r)), V.i 0]), pv 156 (V.i (best l far (Int.toNat r))), pv 157 (V.i 0), pv 21 (V.i (best l far (Int.toNat r))), pv 14 (V.i 0)] kR kR tI ?_
 refine nK hK ?_; clear hK K; refine sK fun K hK => wR 20 ?_
 refine aops_n hTT (M := []) (n := 12) [pv 158 (V.i 0), pv 159 (V.b true), pv 160 (V.b true), pc 161 ((True ∧ True) ∧ ((true == true) = true → True)) (V.gd (true == true) (V.i 0)), pc 162 ((((true == true) = true → (true == true) = true) ∧ True ∧ True) ∧ ((true == true) = true → True)) (V.gd (true == true) (V.b true)), pc 163 ((true = true → (true == true) = true) ∧ True) (V.b true), pv 164 (V.b true), pc 165 ((True ∧ True) ∧ ((true == true) = true → True)) (V.gd (true == true) (V.i (best l far (Int.toNat r)))), pc 166 ((True ∧ True) ∧ ((true == true) = true → True)) (V.gd (true == true) (V.i (best l near (Int.toNat r)))), pc 167 ((((true == true) = true → (true == true) = true) ∧ ((true == true) = true → (true == true) = true) ∧ True) ∧ ((true == true) = true → True)) (V.gd (true == true) (V.b (decide (best l near (Int.toNat r) ≤ best l far (Int.toNat r))))), pc 168 ((true = true → (true == true) = true) ∧ True) (V.b (decide (best l near (Int.toNat r) ≤ best l far (Int.toNat r)))), pv 169 (V.b (decide (best l near (Int.toNat r) ≤ best l far (Int.toNat r))))] kR kR ⟨⟨⟨tI, tI⟩, (fun _ => tI)⟩, ⟨⟨(by (exact fun h => h)), ⟨tI, tI⟩⟩, (fun _ => tI)⟩, ⟨(by (exact fun h => h)), tI⟩, ⟨⟨tI, tI⟩, (fun _ => tI)⟩, ⟨⟨tI, tI⟩, (fun _ => tI)⟩, ⟨⟨(by (exact fun h => h)), ⟨(by (exact fun h => h)), tI⟩⟩, (fun _ => tI)⟩, ⟨(by (exact fun h => h)), tI⟩, tI⟩ ?_
 refine eG 0 (g := decide (best l near (Int.toNat r) ≤ best l far (Int.toNat r)) == true) (fun h => works06_ac) ?_
 refine aops_n hTT (M := []) (n := 2) [pc 171 ((decide (best l near (Int.toNat r) ≤ best l far (Int.toNat r)) = true → (decide (best l near (Int.toNat r) ≤ best l far (Int.toNat r)) == true) = true) ∧ True) (V.b (decide (best l near (Int.toNat r) ≤ best l far (Int.toNat r)) && true)), pv 8 (V.b (decide (best l near (Int.toNat r) ≤ best l far (Int.toNat r)) && true))] kR kR ⟨⟨(by (intro h; rw [h]; rfl)), tI⟩, tI⟩ ?_
 refine nK hK ?_; clear hK K
 refine aw_ret ?_
 refine ret_pure (v' := V.b (decide (best l near (Int.toNat r) ≤ best l far (Int.toNat r)) && true)) (.inr rfl) kR ?_ kR
 simp [hbest]
def farSh : List Sh := [(.sl (.fld (.int .i64) (.lst (.int .i64)))), (.int .i64), (.arr 2 (.int .u32)), (.int .u8)]
theorem far_all (x : TL farSh) (hx : wfL farSh x) : AC Tryz.prog 4 (valL farSh x) (V.b true) [] := by
 obtain ⟨l, per, a, tip, _⟩ := x
 obtain ⟨⟨h4, _⟩, _, ⟨ha, hb⟩, ht, _⟩ := hx
 match a, ha, hb with
 | [x, y], _, hb => exact far_law l per x y tip h4 (wf_u32T (hb x (by simp))) (wf_u32T (hb y (by simp))) (wf_u8 ht)
end Go.Proofs.YtepkjobndmmejaaGreatDoor

namespace Go.Proofs.YtepkjobndmmejaaGreatDoor
open Go.Ab Go.RowKit Go.Dw Go.Shelf Go.ChangeShapes Go.WideShapes Go.ChangeAt Go.Deep
def growsLaid : List (String × DataW Unit) := [("unicode/utf8.acceptRanges", Rows.laid_unicode_utf8_acceptRanges), ("unicode/utf8.first", Rows.laid_unicode_utf8_first)]
theorem gl_of_laid {W : World} (h : laidMetH Tryz.prog growsLaid W) (g : Nat) : R W (fun b => b < W.heap.size) ρ0 (gvals g) (gval g) := .any _ _
theorem lay_met (os : Os) (args : Array Value) : laidMetH Tryz.prog growsLaid ((World.laidAll Tryz.prog os growsLaid).forCall (fun _ _ => 0) ⟨#[], args, []⟩).memory := by
 rw [MakeChecks.laidMetH_plain _ _ _ kR]; exact laidMet_laidAll _ kR kR
end Go.Proofs.YtepkjobndmmejaaGreatDoor
