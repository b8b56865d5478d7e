/-
  Several texts in one: Which cutters are valid: the walks of both copies. No condition. .. Takes and programmes: walks of the document's copy. Conditions: told in each theorem.
-/
import Derived.Test.YtpmchnojeloohaaGreatDoorAbs42
import Derived.Test.YtpmchnojeloohaaGreatDoorMC
import Derived.Test.YtpmchnojeloohaaGreatDoorMD
import Derived.Test.YtpmchnojeloohaaGreatDoorX00
import Derived.Test.YtpmchnojeloohaaGreatDoorX01
namespace Go.Proofs.YtpmchnojeloohaaGreatDoor
open Go.Ab Go.RowKit Go.Dw Go.Shelf
theorem eFPAb17 {x c : Bool} (h : x = c) : (x == c) = true := by rw [h]; cases c <;> rfl
def betB (x lo hi : Int) : Bool := decide (lo ≤ x) && decide (x ≤ hi)
set_option maxRecDepth 100000 in
theorem between_ac (x lo hi : Int) : AC Tryz.prog 70 [.i x, .i lo, .i hi] (.b (betB x lo hi)) [] := by
 refine acI hTT hMX Tryz.func70 Tryz.ntmps70 fun C hC hF => ?_
 refine sX hTT 2 1 [] tI ?_; refine sX hTT 3 9 [(4, .c (gA (decide (lo ≤ x) == true) True)), (5, .c (gA (decide (lo ≤ x) == true) True)), (6, .c (gC (decide (lo ≤ x) == true) True)), (7, .c ((decide (lo ≤ x) = true → (decide (lo ≤ x) == true) = true) ∧ True))] ⟨⟨⟨tI, tI⟩, (fun _ => tI)⟩, ⟨⟨tI, tI⟩, (fun _ => tI)⟩, ⟨⟨(by (exact fun h => h)), ⟨(by (exact fun h => h)), tI⟩⟩, (fun _ => tI)⟩, ⟨eFPAb17, tI⟩, tI⟩ ?_
 refine aw_ret ?_
 refine rP (V.b (decide (lo ≤ x) && decide (x ≤ hi)))
set_option maxRecDepth 100000 in
theorem within3_ac (x lo hi : Int) : AC Tryz.prog 35 [.i x, .i lo, .i hi] (.b (betB x lo hi)) [] := by
 refine acI hTT hMX Tryz.func35 Tryz.ntmps35 fun C hC hF => ?_
 refine sX hTT 2 1 [] tI ?_; refine sX hTT 3 9 [(4, .c (gA (decide (lo ≤ x) == true) True)), (5, .c (gA (decide (lo ≤ x) == true) True)), (6, .c (gC (decide (lo ≤ x) == true) True)), (7, .c ((decide (lo ≤ x) = true → (decide (lo ≤ x) == true) = true) ∧ True))] ⟨⟨⟨tI, tI⟩, (fun _ => tI)⟩, ⟨⟨tI, tI⟩, (fun _ => tI)⟩, ⟨⟨(by (exact fun h => h)), ⟨(by (exact fun h => h)), tI⟩⟩, (fun _ => tI)⟩, ⟨eFPAb17, tI⟩, tI⟩ ?_
 refine aw_ret ?_
 refine rP (V.b (decide (lo ≤ x) && decide (x ≤ hi)))
structure Cut where
 half : Int
 gain : Int
 thin : Int
 wide : Int
 slope : Int
 jerk : Int
 sty : Int
def Cut.v (c : Cut) : V := .agg [.i c.half, .i c.gain, .i c.thin, .i c.wide, .i c.slope, .i c.jerk, .i c.sty]
def bnd (c : Cut) : Nat → Int × Int × Int
 | 0 => (c.half, 1, 4096)
 | 1 => (c.gain, 0, 100000)
 | 2 => (c.thin, 0, c.wide)
 | 3 => (c.wide, 0, 1048576)
 | 4 => (c.slope, 0, 10000)
 | 5 => (c.jerk, 0, 1048576)
 | _ => (c.sty, 0, 1024)
def bndB (c : Cut) (j : Nat) : Bool := betB (bnd c j).1 (bnd c j).2.1 (bnd c j).2.2
def cutE (c : Cut) : Int := if (List.range 7).all (bndB c) then 0 else 2
theorem cutE_bad {c : Cut} {j : Nat} (hj : j < 7) (h : bndB c j = false) : cutE c = 2 := by
 rw [cutE, if_neg]
 simp only [Bool.not_eq_true, List.all_eq_false]
 exact ⟨j, by simpa using hj, by simp [h]⟩
theorem cutE_good {c : Cut} (h : ∀ j, j < 7 → bndB c j = true) : cutE c = 0 := by
 rw [cutE, if_pos]
 rw [List.all_eq_true]
 exact fun j hj => h j (by simpa using hj)
theorem cutE_cases (c : Cut) : cutE c = 0 ∨ cutE c = 2 := by unfold cutE; split <;> simp
theorem cutE_ok {c : Cut} : cutE c = 0 ↔ (1 ≤ c.half ∧ c.half ≤ 4096) ∧ (0 ≤ c.gain ∧ c.gain ≤ 100000) ∧ (0 ≤ c.thin ∧ c.thin ≤ c.wide) ∧ (0 ≤ c.wide ∧ c.wide ≤ 1048576) ∧ (0 ≤ c.slope ∧ c.slope ≤ 10000) ∧ (0 ≤ c.jerk ∧ c.jerk ≤ 1048576) ∧ (0 ≤ c.sty ∧ c.sty ≤ 1024) := by
 unfold cutE
 simp [List.range_succ, bndB, bnd, betB]
 omega
abbrev qPAb170 : Prop := (0 : Int) ≤ (0 : Int) ∧ (0 : Int) < (↑(3 : Nat) : Int)
theorem qPAb170_ : qPAb170 := oM
abbrev qPAb171 : Prop := (0 : Nat) ≤ (3 : Nat)
theorem qPAb171_ : qPAb171 := oM
abbrev qPAb172 : Prop := (0 : Int) ≤ (1 : Int) ∧ (1 : Int) < (↑(3 : Nat) : Int)
theorem qPAb172_ : qPAb172 := oM
abbrev qPAb173 : Prop := (1 : Nat) ≤ (3 : Nat)
theorem qPAb173_ : qPAb173 := oM
abbrev qPAb174 : Prop := (0 : Int) ≤ (2 : Int) ∧ (2 : Int) < (↑(3 : Nat) : Int)
theorem qPAb174_ : qPAb174 := oM
abbrev qPAb175 : Prop := (2 : Nat) ≤ (3 : Nat)
theorem qPAb175_ : qPAb175 := oM
abbrev yyPAb170 := (pn 4 (V.ref 200004 0) (200004 : Nat) (Ob.box 144 [V.i 0, V.i 0, V.i 0]))
set_option maxRecDepth 100000 in
theorem cutCheck_ac (c : Cut) : AC Tryz.prog 33 [c.v] (.i (cutE c)) [] := by
 refine acI hTT hMX Tryz.func33 Tryz.ntmps33 fun C hC hF => ?_
 refine sX hTT 2 2 [] tI (sK fun K hK => sX hTT 3 25 [] tI ?_)
 refine aw_block ?_
 refine w_loop (fun k : Nat => [(28, .agg [.i c.half, .i 1, .i 4096, .i c.gain, .i 0, .i 100000, .i c.thin, .i 0, .i c.wide, .i c.wide, .i 0, .i 1048576, .i c.slope, .i 0, .i 10000, .i c.jerk, .i 0, .i 1048576, .i c.sty, .i 0, .i 1024]), (29, .i k)]) (fun _ => [])
  (fun k => k ≤ 7 ∧ ∀ j, j < k → bndB c j = true) (fun k => 7 - k) 0 ⟨by decide, fun j hj => by omega⟩ ?_ ?_
 ·
  refine le_ren [] (.cons kR (.cons kR .nil)) .nil kR kR
 rintro k ⟨hk, hb⟩
 have h7 : k = 0 ∨ k = 1 ∨ k = 2 ∨ k = 3 ∨ k = 4 ∨ k = 5 ∨ k = 6 ∨ k = 7 := by omega
 rcases h7 with rfl | rfl | rfl | rfl | rfl | rfl | rfl | rfl
 ·
  refine sX hTT 2 1 [] tI (sK fun K hK => w_true (t := true) kR rfl ?_)
  refine aw_skip ?_
  refine xt_n (hK _ ?_); clear hK K; refine sK fun K hK => ?_
  refine aw_block ?_
  refine sX hTT 3 3 [(0, .c ((0 : Int) ≤ (↑(0 : Nat) : Int) ∧ (↑(0 : Nat) : Int) < (↑(7 : Nat) : Int))), (1, .r yyPAb170), (2, .r (pw ((0 : Nat) + (3 : Nat) ≤ (3 : Nat)) (200004 : Nat) (Ob.box 144 [V.i (Cut.half c), V.i 1, V.i 4096])))] ⟨oM, oM, tI⟩ (sK fun K hK => wR 4 (aX hTT 6 [(0, .c qPAb170), (1, .c qPAb171), (2, .c qPAb172), (3, .c qPAb173), (4, .c qPAb174), (5, .c qPAb175)] ⟨qPAb170_, qPAb171_, qPAb172_, qPAb173_, qPAb174_, qPAb175_, tI⟩ ?_))
  refine eC (between_ac (bnd c 0).1 (bnd c 0).2.1 (bnd c 0).2.2) ?_
  refine aX hTT 1 [] tI (nK hK ?_); clear hK K
  refine w_cond (t := !betB (Prod.fst (bnd c (0 : Nat))) (Prod.fst (Prod.snd (bnd c (0 : Nat)))) (Prod.snd (Prod.snd (bnd c (0 : Nat))))) kR (fun h2 => ?_) (fun h2 => ?_)
  ·
   refine sX hTT 5 1 [] tI ?_
   refine aw_ret ?_
   refine xb_r ?_
   refine xt_r (xt_r ?_)
   refine xb_r ?_
   refine xt_r ?_
   rw [cutE_bad (j := 0) (by decide) (by simpa [bndB] using h2)]
   refine rP (V.i 2)
  refine aw_skip ?_
  refine xb_n (xt_n (hK _ ?_)); clear hK K; refine wR 5 (aX hTT 2 [(0, .i ((↑(0 : Nat) : Int) + 1))] ⟨oM, tI⟩ (aops_nil (xt_n ?_)))
  refine ⟨1, ⟨by decide, fun i hi => ?_⟩, ?_, by decide⟩
  ·
   by_cases he : i = 0
   ·
    subst he; simpa [bndB] using h2
   ·
    exact hb i oM
  ·
   refine le_ren [] (.cons kR (.cons kR .nil)) .nil kR kR
 ·
  refine sX hTT 2 1 [] tI (sK fun K hK => w_true (t := true) kR rfl ?_)
  refine aw_skip ?_
  refine xt_n (hK _ ?_); clear hK K; refine sK fun K hK => ?_
  refine aw_block ?_
  refine sX hTT 3 3 [(0, .c ((0 : Int) ≤ (↑(1 : Nat) : Int) ∧ (↑(1 : Nat) : Int) < (↑(7 : Nat) : Int))), (1, .r yyPAb170), (2, .r (pw ((0 : Nat) + (3 : Nat) ≤ (3 : Nat)) (200004 : Nat) (Ob.box 144 [V.i (Cut.gain c), V.i 0, V.i 100000])))] ⟨oM, oM, tI⟩ (sK fun K hK => wR 4 (aX hTT 6 [(0, .c qPAb170), (1, .c qPAb171), (2, .c qPAb172), (3, .c qPAb173), (4, .c qPAb174), (5, .c qPAb175)] ⟨qPAb170_, qPAb171_, qPAb172_, qPAb173_, qPAb174_, qPAb175_, tI⟩ ?_))
  refine eC (between_ac (bnd c 1).1 (bnd c 1).2.1 (bnd c 1).2.2) ?_
  refine aX hTT 1 [] tI (nK hK ?_); clear hK K
  refine w_cond (t := !betB (Prod.fst (bnd c (1 : Nat))) (Prod.fst (Prod.snd (bnd c (1 : Nat)))) (Prod.snd (Prod.snd (bnd c (1 : Nat))))) kR (fun h2 => ?_) (fun h2 => ?_)
  ·
   refine sX hTT 5 1 [] tI ?_
   refine aw_ret ?_
   refine xb_r ?_
   refine xt_r (xt_r ?_)
   refine xb_r ?_
   refine xt_r ?_
   rw [cutE_bad (j := 1) (by decide) (by simpa [bndB] using h2)]
   refine rP (V.i 2)
  refine aw_skip ?_
  refine xb_n (xt_n (hK _ ?_)); clear hK K; refine wR 5 (aX hTT 2 [(0, .i ((↑(1 : Nat) : Int) + 1))] ⟨oM, tI⟩ (aops_nil (xt_n ?_)))
  refine ⟨2, ⟨by decide, fun i hi => ?_⟩, ?_, by decide⟩
  ·
   by_cases he : i = 1
   ·
    subst he; simpa [bndB] using h2
   ·
    exact hb i oM
  ·
   refine le_ren [] (.cons kR (.cons kR .nil)) .nil kR kR
 ·
  refine sX hTT 2 1 [] tI (sK fun K hK => w_true (t := true) kR rfl ?_)
  refine aw_skip ?_
  refine xt_n (hK _ ?_); clear hK K; refine sK fun K hK => ?_
  refine aw_block ?_
  refine sX hTT 3 3 [(0, .c ((0 : Int) ≤ (↑(2 : Nat) : Int) ∧ (↑(2 : Nat) : Int) < (↑(7 : Nat) : Int))), (1, .r yyPAb170), (2, .r (pw ((0 : Nat) + (3 : Nat) ≤ (3 : Nat)) (200004 : Nat) (Ob.box 144 [V.i (Cut.thin c), V.i 0, V.i (Cut.wide c)])))] ⟨oM, oM, tI⟩ (sK fun K hK => wR 4 (aX hTT 6 [(0, .c qPAb170), (1, .c qPAb171), (2, .c qPAb172), (3, .c qPAb173), (4, .c qPAb174), (5, .c qPAb175)] ⟨qPAb170_, qPAb171_, qPAb172_, qPAb173_, qPAb174_, qPAb175_, tI⟩ ?_))
  refine eC (between_ac (bnd c 2).1 (bnd c 2).2.1 (bnd c 2).2.2) ?_
  refine aX hTT 1 [] tI (nK hK ?_); clear hK K
  refine w_cond (t := !betB (Prod.fst (bnd c (2 : Nat))) (Prod.fst (Prod.snd (bnd c (2 : Nat)))) (Prod.snd (Prod.snd (bnd c (2 : Nat))))) kR (fun h2 => ?_) (fun h2 => ?_)
  ·
   refine sX hTT 5 1 [] tI ?_
   refine aw_ret ?_
   refine xb_r ?_
   refine xt_r (xt_r ?_)
   refine xb_r ?_
   refine xt_r ?_
   rw [cutE_bad (j := 2) (by decide) (by simpa [bndB] using h2)]
   refine rP (V.i 2)
  refine aw_skip ?_
  refine xb_n (xt_n (hK _ ?_)); clear hK K; refine wR 5 (aX hTT 2 [(0, .i ((↑(2 : Nat) : Int) + 1))] ⟨oM, tI⟩ (aops_nil (xt_n ?_)))
  refine ⟨3, ⟨by decide, fun i hi => ?_⟩, ?_, by decide⟩
  ·
   by_cases he : i = 2
   ·
    subst he; simpa [bndB] using h2
   ·
    exact hb i oM
  ·
   refine le_ren [] (.cons kR (.cons kR .nil)) .nil kR kR
 ·
  refine sX hTT 2 1 [] tI (sK fun K hK => w_true (t := true) kR rfl ?_)
  refine aw_skip ?_
  refine xt_n (hK _ ?_); clear hK K; refine sK fun K hK => ?_
  refine aw_block ?_
  refine sX hTT 3 3 [(0, .c ((0 : Int) ≤ (↑(3 : Nat) : Int) ∧ (↑(3 : Nat) : Int) < (↑(7 : Nat) : Int))), (1, .r yyPAb170), (2, .r (pw ((0 : Nat) + (3 : Nat) ≤ (3 : Nat)) (200004 : Nat) (Ob.box 144 [V.i (Cut.wide c), V.i 0, V.i 1048576])))] ⟨oM, oM, tI⟩ (sK fun K hK => wR 4 (aX hTT 6 [(0, .c qPAb170), (1, .c qPAb171), (2, .c qPAb172), (3, .c qPAb173), (4, .c qPAb174), (5, .c qPAb175)] ⟨qPAb170_, qPAb171_, qPAb172_, qPAb173_, qPAb174_, qPAb175_, tI⟩ ?_))
  refine eC (between_ac (bnd c 3).1 (bnd c 3).2.1 (bnd c 3).2.2) ?_
  refine aX hTT 1 [] tI (nK hK ?_); clear hK K
  refine w_cond (t := !betB (Prod.fst (bnd c (3 : Nat))) (Prod.fst (Prod.snd (bnd c (3 : Nat)))) (Prod.snd (Prod.snd (bnd c (3 : Nat))))) kR (fun h2 => ?_) (fun h2 => ?_)
  ·
   refine sX hTT 5 1 [] tI ?_
   refine aw_ret ?_
   refine xb_r ?_
   refine xt_r (xt_r ?_)
   refine xb_r ?_
   refine xt_r ?_
   rw [cutE_bad (j := 3) (by decide) (by simpa [bndB] using h2)]
   refine rP (V.i 2)
  refine aw_skip ?_
  refine xb_n (xt_n (hK _ ?_)); clear hK K; refine wR 5 (aX hTT 2 [(0, .i ((↑(3 : Nat) : Int) + 1))] ⟨oM, tI⟩ (aops_nil (xt_n ?_)))
  refine ⟨4, ⟨by decide, fun i hi => ?_⟩, ?_, by decide⟩
  ·
   by_cases he : i = 3
   ·
    subst he; simpa [bndB] using h2
   ·
    exact hb i oM
  ·
   refine le_ren [] (.cons kR (.cons kR .nil)) .nil kR kR
 ·
  refine sX hTT 2 1 [] tI (sK fun K hK => w_true (t := true) kR rfl ?_)
  refine aw_skip ?_
  refine xt_n (hK _ ?_); clear hK K; refine sK fun K hK => ?_
  refine aw_block ?_
  refine sX hTT 3 3 [(0, .c ((0 : Int) ≤ (↑(4 : Nat) : Int) ∧ (↑(4 : Nat) : Int) < (↑(7 : Nat) : Int))), (1, .r yyPAb170), (2, .r (pw ((0 : Nat) + (3 : Nat) ≤ (3 : Nat)) (200004 : Nat) (Ob.box 144 [V.i (Cut.slope c), V.i 0, V.i 10000])))] ⟨oM, oM, tI⟩ (sK fun K hK => wR 4 (aX hTT 6 [(0, .c qPAb170), (1, .c qPAb171), (2, .c qPAb172), (3, .c qPAb173), (4, .c qPAb174), (5, .c qPAb175)] ⟨qPAb170_, qPAb171_, qPAb172_, qPAb173_, qPAb174_, qPAb175_, tI⟩ ?_))
  refine eC (between_ac (bnd c 4).1 (bnd c 4).2.1 (bnd c 4).2.2) ?_
  refine aX hTT 1 [] tI (nK hK ?_); clear hK K
  refine w_cond (t := !betB (Prod.fst (bnd c (4 : Nat))) (Prod.fst (Prod.snd (bnd c (4 : Nat)))) (Prod.snd (Prod.snd (bnd c (4 : Nat))))) kR (fun h2 => ?_) (fun h2 => ?_)
  ·
   refine sX hTT 5 1 [] tI ?_
   refine aw_ret ?_
   refine xb_r ?_
   refine xt_r (xt_r ?_)
   refine xb_r ?_
   refine xt_r ?_
   rw [cutE_bad (j := 4) (by decide) (by simpa [bndB] using h2)]
   refine rP (V.i 2)
  refine aw_skip ?_
  refine xb_n (xt_n (hK _ ?_)); clear hK K; refine wR 5 (aX hTT 2 [(0, .i ((↑(4 : Nat) : Int) + 1))] ⟨oM, tI⟩ (aops_nil (xt_n ?_)))
  refine ⟨5, ⟨by decide, fun i hi => ?_⟩, ?_, by decide⟩
  ·
   by_cases he : i = 4
   ·
    subst he; simpa [bndB] using h2
   ·
    exact hb i oM
  ·
   refine le_ren [] (.cons kR (.cons kR .nil)) .nil kR kR
 ·
  refine sX hTT 2 1 [] tI (sK fun K hK => w_true (t := true) kR rfl ?_)
  refine aw_skip ?_
  refine xt_n (hK _ ?_); clear hK K; refine sK fun K hK => ?_
  refine aw_block ?_
  refine sX hTT 3 3 [(0, .c ((0 : Int) ≤ (↑(5 : Nat) : Int) ∧ (↑(5 : Nat) : Int) < (↑(7 : Nat) : Int))), (1, .r yyPAb170), (2, .r (pw ((0 : Nat) + (3 : Nat) ≤ (3 : Nat)) (200004 : Nat) (Ob.box 144 [V.i (Cut.jerk c), V.i 0, V.i 1048576])))] ⟨oM, oM, tI⟩ (sK fun K hK => wR 4 (aX hTT 6 [(0, .c qPAb170), (1, .c qPAb171), (2, .c qPAb172), (3, .c qPAb173), (4, .c qPAb174), (5, .c qPAb175)] ⟨qPAb170_, qPAb171_, qPAb172_, qPAb173_, qPAb174_, qPAb175_, tI⟩ ?_))
  refine eC (between_ac (bnd c 5).1 (bnd c 5).2.1 (bnd c 5).2.2) ?_
  refine aX hTT 1 [] tI (nK hK ?_); clear hK K
  refine w_cond (t := !betB (Prod.fst (bnd c (5 : Nat))) (Prod.fst (Prod.snd (bnd c (5 : Nat)))) (Prod.snd (Prod.snd (bnd c (5 : Nat))))) kR (fun h2 => ?_) (fun h2 => ?_)
  ·
   refine sX hTT 5 1 [] tI ?_
   refine aw_ret ?_
   refine xb_r ?_
   refine xt_r (xt_r ?_)
   refine xb_r ?_
   refine xt_r ?_
   rw [cutE_bad (j := 5) (by decide) (by simpa [bndB] using h2)]
   refine rP (V.i 2)
  refine aw_skip ?_
  refine xb_n (xt_n (hK _ ?_)); clear hK K; refine wR 5 (aX hTT 2 [(0, .i ((↑(5 : Nat) : Int) + 1))] ⟨oM, tI⟩ (aops_nil (xt_n ?_)))
  refine ⟨6, ⟨by decide, fun i hi => ?_⟩, ?_, by decide⟩
  ·
   by_cases he : i = 5
   ·
    subst he; simpa [bndB] using h2
   ·
    exact hb i oM
  ·
   refine le_ren [] (.cons kR (.cons kR .nil)) .nil kR kR
 ·
  refine sX hTT 2 1 [] tI (sK fun K hK => w_true (t := true) kR rfl ?_)
  refine aw_skip ?_
  refine xt_n (hK _ ?_); clear hK K; refine sK fun K hK => ?_
  refine aw_block ?_
  refine sX hTT 3 3 [(0, .c ((0 : Int) ≤ (↑(6 : Nat) : Int) ∧ (↑(6 : Nat) : Int) < (↑(7 : Nat) : Int))), (1, .r yyPAb170), (2, .r (pw ((0 : Nat) + (3 : Nat) ≤ (3 : Nat)) (200004 : Nat) (Ob.box 144 [V.i (Cut.sty c), V.i 0, V.i 1024])))] ⟨oM, oM, tI⟩ (sK fun K hK => wR 4 (aX hTT 6 [(0, .c qPAb170), (1, .c qPAb171), (2, .c qPAb172), (3, .c qPAb173), (4, .c qPAb174), (5, .c qPAb175)] ⟨qPAb170_, qPAb171_, qPAb172_, qPAb173_, qPAb174_, qPAb175_, tI⟩ ?_))
  refine eC (between_ac (bnd c 6).1 (bnd c 6).2.1 (bnd c 6).2.2) ?_
  refine aX hTT 1 [] tI (nK hK ?_); clear hK K
  refine w_cond (t := !betB (Prod.fst (bnd c (6 : Nat))) (Prod.fst (Prod.snd (bnd c (6 : Nat)))) (Prod.snd (Prod.snd (bnd c (6 : Nat))))) kR (fun h2 => ?_) (fun h2 => ?_)
  ·
   refine sX hTT 5 1 [] tI ?_
   refine aw_ret ?_
   refine xb_r ?_
   refine xt_r (xt_r ?_)
   refine xb_r ?_
   refine xt_r ?_
   rw [cutE_bad (j := 6) (by decide) (by simpa [bndB] using h2)]
   refine rP (V.i 2)
  refine aw_skip ?_
  refine xb_n (xt_n (hK _ ?_)); clear hK K; refine wR 5 (aX hTT 2 [(0, .i ((↑(6 : Nat) : Int) + 1))] ⟨oM, tI⟩ (aops_nil (xt_n ?_)))
  refine ⟨7, ⟨by decide, fun i hi => ?_⟩, ?_, by decide⟩
  ·
   by_cases he : i = 6
   ·
    subst he; simpa [bndB] using h2
   ·
    exact hb i oM
  ·
   refine le_ren [] (.cons kR (.cons kR .nil)) .nil kR kR
 ·
  refine sX hTT 2 1 [] tI (sK fun K hK => w_false (t := false) kR rfl ?_)
  refine aw_exit ?_
  refine xt_x ?_; refine xt_x ?_
  refine xb_same ?_
  refine xt_n ?_; clear hK K; refine hK _ ?_; clear hK K; refine sX hTT 3 1 [] tI ?_
  refine aw_ret ?_
  rw [cutE_good hb]
  refine rP (V.i 0)
theorem cut3 (c : Cut) : cutE c = if (!(betB c.half 1 4096) || !(betB c.gain 0 100000) || !(betB c.thin 0 1048576) || !(betB c.wide 0 1048576) || decide (c.wide < c.thin) || !(betB c.slope 0 10000) || !(betB c.jerk 0 1048576) || !(betB c.sty 0 1024)) = true then 2 else 0 := by
 rcases cutE_cases c with h | h
 ·
  rw [h, if_neg]
  have := cutE_ok.1 h
  simp [betB]
  omega
 ·
  rw [h, if_pos]
  have : ¬ cutE c = 0 := by rw [h]; decide
  rw [cutE_ok] at this
  simp [betB]
  omega
abbrev w17B0 (c : Cut) : Bool := (!betB (Cut.half c) (1 : Int) (4096 : Int)) == false
abbrev w17B1 (c : Cut) : Bool := (!betB (Cut.half c) (1 : Int) (4096 : Int) || !betB (Cut.gain c) (0 : Int) (100000 : Int)) == false
abbrev w17B2 (c : Cut) : Bool := (!betB (Cut.half c) (1 : Int) (4096 : Int) || !betB (Cut.gain c) (0 : Int) (100000 : Int) || !betB (Cut.thin c) (0 : Int) (1048576 : Int)) == false
abbrev w17B3 (c : Cut) : Bool := (!betB (Cut.half c) (1 : Int) (4096 : Int) || !betB (Cut.gain c) (0 : Int) (100000 : Int) || !betB (Cut.thin c) (0 : Int) (1048576 : Int) || !betB (Cut.wide c) (0 : Int) (1048576 : Int)) == false
abbrev w17B4 (c : Cut) : Bool := (!betB (Cut.half c) (1 : Int) (4096 : Int) || !betB (Cut.gain c) (0 : Int) (100000 : Int) || !betB (Cut.thin c) (0 : Int) (1048576 : Int) || !betB (Cut.wide c) (0 : Int) (1048576 : Int) || decide (Cut.wide c < Cut.thin c)) == false
abbrev w17B5 (c : Cut) : Bool := (!betB (Cut.half c) (1 : Int) (4096 : Int) || !betB (Cut.gain c) (0 : Int) (100000 : Int) || !betB (Cut.thin c) (0 : Int) (1048576 : Int) || !betB (Cut.wide c) (0 : Int) (1048576 : Int) || decide (Cut.wide c < Cut.thin c) || !betB (Cut.slope c) (0 : Int) (10000 : Int)) == false
abbrev w17B6 (c : Cut) : Bool := (!betB (Cut.half c) (1 : Int) (4096 : Int) || !betB (Cut.gain c) (0 : Int) (100000 : Int) || !betB (Cut.thin c) (0 : Int) (1048576 : Int) || !betB (Cut.wide c) (0 : Int) (1048576 : Int) || decide (Cut.wide c < Cut.thin c) || !betB (Cut.slope c) (0 : Int) (10000 : Int) || !betB (Cut.jerk c) (0 : Int) (1048576 : Int)) == false
set_option maxRecDepth 100000 in
theorem refCheck_ac (c : Cut) : AC Tryz.prog 12 [c.v] (.i (cutE c)) [] := by
 refine acI hTT hMX Tryz.func12 Tryz.ntmps12 fun C hC hF => ?_
 refine sX hTT 2 2 [] tI (sK fun K hK => sK fun K hK => wR 3 (aX hTT 2 [] tI ?_))
 refine eC (within3_ac c.half 1 4096) ?_
 refine aX hTT 4 [(2, .c (gA (w17B0 c) True)), (3, .c (gB (w17B0 c) True))] ⟨⟨⟨tI, tI⟩, (fun _ => tI)⟩, ⟨⟨(by (exact fun h => h)), tI⟩, (fun _ => tI)⟩, tI⟩ ?_
 refine eG 1 (g := (!betB (Cut.half c) (1 : Int) (4096 : Int)) == false) (fun _ => within3_ac c.gain 0 100000) ?_
 refine aX hTT 5 [(0, .c (gB (w17B0 c) True)), (1, .c (True ∧ ((!betB (Cut.half c) (1 : Int) (4096 : Int)) = false → (w17B0 c) = true))), (3, .c (gA (w17B1 c) True)), (4, .c (gB (w17B1 c) True))] ⟨⟨⟨(by (exact fun h => h)), tI⟩, (fun _ => tI)⟩, ⟨tI, eFPAb17⟩, ⟨⟨tI, tI⟩, (fun _ => tI)⟩, ⟨⟨(by (exact fun h => h)), tI⟩, (fun _ => tI)⟩, tI⟩ ?_
 refine eG 1 (g := (!betB (Cut.half c) (1 : Int) (4096 : Int) || !betB (Cut.gain c) (0 : Int) (100000 : Int)) == false) (fun _ => within3_ac c.thin 0 1048576) ?_
 refine aops_n hTT (M := []) (n := 5) [pc 17 ((((w17B1 c) = true → (w17B1 c) = true) ∧ True) ∧ ((w17B1 c) = true → True)) (V.gd (w17B1 c) (V.b !betB (Cut.thin c) (0 : Int) (1048576 : Int))), pc 18 (True ∧ ((!betB (Cut.half c) (1 : Int) (4096 : Int) || !betB (Cut.gain c) (0 : Int) (100000 : Int)) = false → (w17B1 c) = true)) (V.b (!betB (Cut.half c) (1 : Int) (4096 : Int) || !betB (Cut.gain c) (0 : Int) (100000 : Int) || !betB (Cut.thin c) (0 : Int) (1048576 : Int))), pv 19 (V.b (!betB (Cut.half c) (1 : Int) (4096 : Int) || !betB (Cut.gain c) (0 : Int) (100000 : Int) || !betB (Cut.thin c) (0 : Int) (1048576 : Int))), pc 20 ((True ∧ True) ∧ ((w17B2 c) = true → True)) (V.gd (w17B2 c) (V.ptr [V.i (Cut.wide c), V.i (Cut.slope c), V.i (Cut.jerk c), V.i (Cut.sty c)])), pc 21 ((((w17B2 c) = true → (w17B2 c) = true) ∧ True) ∧ ((w17B2 c) = true → True)) (V.gd (w17B2 c) (V.i (Cut.wide c)))] kR kR ⟨⟨⟨(by (exact fun h => h)), tI⟩, (fun _ => tI)⟩, ⟨tI, eFPAb17⟩, ⟨⟨tI, tI⟩, (fun _ => tI)⟩, ⟨⟨(by (exact fun h => h)), tI⟩, (fun _ => tI)⟩, tI⟩ ?_
 refine eG 1 (g := (!betB (Cut.half c) (1 : Int) (4096 : Int) || !betB (Cut.gain c) (0 : Int) (100000 : Int) || !betB (Cut.thin c) (0 : Int) (1048576 : Int)) == false) (fun _ => within3_ac c.wide 0 1048576) ?_
 refine aops_n hTT (M := []) (n := 12) [pc 23 ((((w17B2 c) = true → (w17B2 c) = true) ∧ True) ∧ ((w17B2 c) = true → True)) (V.gd (w17B2 c) (V.b !betB (Cut.wide c) (0 : Int) (1048576 : Int))), pc 24 (True ∧ ((!betB (Cut.half c) (1 : Int) (4096 : Int) || !betB (Cut.gain c) (0 : Int) (100000 : Int) || !betB (Cut.thin c) (0 : Int) (1048576 : Int)) = false → (w17B2 c) = true)) (V.b (!betB (Cut.half c) (1 : Int) (4096 : Int) || !betB (Cut.gain c) (0 : Int) (100000 : Int) || !betB (Cut.thin c) (0 : Int) (1048576 : Int) || !betB (Cut.wide c) (0 : Int) (1048576 : Int))), pv 25 (V.b (!betB (Cut.half c) (1 : Int) (4096 : Int) || !betB (Cut.gain c) (0 : Int) (100000 : Int) || !betB (Cut.thin c) (0 : Int) (1048576 : Int) || !betB (Cut.wide c) (0 : Int) (1048576 : Int))), pc 26 ((True ∧ True) ∧ ((w17B3 c) = true → True)) (V.gd (w17B3 c) (V.ptr [V.i (Cut.thin c), V.i (Cut.wide c), V.i (Cut.slope c), V.i (Cut.jerk c), V.i (Cut.sty c)])), pc 27 ((((w17B3 c) = true → (w17B3 c) = true) ∧ True) ∧ ((w17B3 c) = true → True)) (V.gd (w17B3 c) (V.i (Cut.thin c))), pc 28 ((True ∧ True) ∧ ((w17B3 c) = true → True)) (V.gd (w17B3 c) (V.ptr [V.i (Cut.wide c), V.i (Cut.slope c), V.i (Cut.jerk c), V.i (Cut.sty c)])), pc 29 ((((w17B3 c) = true → (w17B3 c) = true) ∧ True) ∧ ((w17B3 c) = true → True)) (V.gd (w17B3 c) (V.i (Cut.wide c))), pc 30 ((((w17B3 c) = true → (w17B3 c) = true) ∧ ((w17B3 c) = true → (w17B3 c) = true) ∧ True) ∧ ((w17B3 c) = true → True)) (V.gd (w17B3 c) (V.b (decide (Cut.wide c < Cut.thin c)))), pc 31 (True ∧ ((!betB (Cut.half c) (1 : Int) (4096 : Int) || !betB (Cut.gain c) (0 : Int) (100000 : Int) || !betB (Cut.thin c) (0 : Int) (1048576 : Int) || !betB (Cut.wide c) (0 : Int) (1048576 : Int)) = false → (w17B3 c) = true)) (V.b (!betB (Cut.half c) (1 : Int) (4096 : Int) || !betB (Cut.gain c) (0 : Int) (100000 : Int) || !betB (Cut.thin c) (0 : Int) (1048576 : Int) || !betB (Cut.wide c) (0 : Int) (1048576 : Int) || decide (Cut.wide c < Cut.thin c))), pv 32 (V.b (!betB (Cut.half c) (1 : Int) (4096 : Int) || !betB (Cut.gain c) (0 : Int) (100000 : Int) || !betB (Cut.thin c) (0 : Int) (1048576 : Int) || !betB (Cut.wide c) (0 : Int) (1048576 : Int) || decide (Cut.wide c < Cut.thin c))), pc 33 ((True ∧ True) ∧ ((w17B4 c) = true → True)) (V.gd (w17B4 c) (V.ptr [V.i (Cut.slope c), V.i (Cut.jerk c), V.i (Cut.sty c)])), pc 34 ((((w17B4 c) = true → (w17B4 c) = true) ∧ True) ∧ ((w17B4 c) = true → True)) (V.gd (w17B4 c) (V.i (Cut.slope c)))] kR kR ⟨⟨⟨(by (exact fun h => h)), tI⟩, (fun _ => tI)⟩, ⟨tI, eFPAb17⟩, ⟨⟨tI, tI⟩, (fun _ => tI)⟩, ⟨⟨(by (exact fun h => h)), tI⟩, (fun _ => tI)⟩, ⟨⟨tI, tI⟩, (fun _ => tI)⟩, ⟨⟨(by (exact fun h => h)), tI⟩, (fun _ => tI)⟩, ⟨⟨(by (exact fun h => h)), ⟨(by (exact fun h => h)), tI⟩⟩, (fun _ => tI)⟩, ⟨tI, eFPAb17⟩, ⟨⟨tI, tI⟩, (fun _ => tI)⟩, ⟨⟨(by (exact fun h => h)), tI⟩, (fun _ => tI)⟩, tI⟩ ?_
 refine eG 1 (g := (!betB (Cut.half c) (1 : Int) (4096 : Int) || !betB (Cut.gain c) (0 : Int) (100000 : Int) || !betB (Cut.thin c) (0 : Int) (1048576 : Int) || !betB (Cut.wide c) (0 : Int) (1048576 : Int) || decide (Cut.wide c < Cut.thin c)) == false) (fun _ => within3_ac c.slope 0 10000) ?_
 refine aX hTT 5 [(0, .c (gB (w17B4 c) True)), (1, .c (True ∧ ((!betB (Cut.half c) (1 : Int) (4096 : Int) || !betB (Cut.gain c) (0 : Int) (100000 : Int) || !betB (Cut.thin c) (0 : Int) (1048576 : Int) || !betB (Cut.wide c) (0 : Int) (1048576 : Int) || decide (Cut.wide c < Cut.thin c)) = false → (w17B4 c) = true))), (3, .c (gA (w17B5 c) True)), (4, .c (gB (w17B5 c) True))] ⟨⟨⟨(by (exact fun h => h)), tI⟩, (fun _ => tI)⟩, ⟨tI, eFPAb17⟩, ⟨⟨tI, tI⟩, (fun _ => tI)⟩, ⟨⟨(by (exact fun h => h)), tI⟩, (fun _ => tI)⟩, tI⟩ ?_
 refine eG 1 (g := (!betB (Cut.half c) (1 : Int) (4096 : Int) || !betB (Cut.gain c) (0 : Int) (100000 : Int) || !betB (Cut.thin c) (0 : Int) (1048576 : Int) || !betB (Cut.wide c) (0 : Int) (1048576 : Int) || decide (Cut.wide c < Cut.thin c) || !betB (Cut.slope c) (0 : Int) (10000 : Int)) == false) (fun _ => within3_ac c.jerk 0 1048576) ?_
 refine aX hTT 5 [(0, .c (gB (w17B5 c) True)), (1, .c (True ∧ ((!betB (Cut.half c) (1 : Int) (4096 : Int) || !betB (Cut.gain c) (0 : Int) (100000 : Int) || !betB (Cut.thin c) (0 : Int) (1048576 : Int) || !betB (Cut.wide c) (0 : Int) (1048576 : Int) || decide (Cut.wide c < Cut.thin c) || !betB (Cut.slope c) (0 : Int) (10000 : Int)) = false → (w17B5 c) = true))), (3, .c (gA (w17B6 c) True)), (4, .c (gB (w17B6 c) True))] ⟨⟨⟨(by (exact fun h => h)), tI⟩, (fun _ => tI)⟩, ⟨tI, eFPAb17⟩, ⟨⟨tI, tI⟩, (fun _ => tI)⟩, ⟨⟨(by (exact fun h => h)), tI⟩, (fun _ => tI)⟩, tI⟩ ?_
 refine eG 1 (g := (!betB (Cut.half c) (1 : Int) (4096 : Int) || !betB (Cut.gain c) (0 : Int) (100000 : Int) || !betB (Cut.thin c) (0 : Int) (1048576 : Int) || !betB (Cut.wide c) (0 : Int) (1048576 : Int) || decide (Cut.wide c < Cut.thin c) || !betB (Cut.slope c) (0 : Int) (10000 : Int) || !betB (Cut.jerk c) (0 : Int) (1048576 : Int)) == false) (fun _ => within3_ac c.sty 0 1024) ?_
 refine aops_n hTT (M := []) (n := 2) [pc 48 ((((w17B6 c) = true → (w17B6 c) = true) ∧ True) ∧ ((w17B6 c) = true → True)) (V.gd (w17B6 c) (V.b !betB (Cut.sty c) (0 : Int) (1024 : Int))), pc 49 (True ∧ ((!betB (Cut.half c) (1 : Int) (4096 : Int) || !betB (Cut.gain c) (0 : Int) (100000 : Int) || !betB (Cut.thin c) (0 : Int) (1048576 : Int) || !betB (Cut.wide c) (0 : Int) (1048576 : Int) || decide (Cut.wide c < Cut.thin c) || !betB (Cut.slope c) (0 : Int) (10000 : Int) || !betB (Cut.jerk c) (0 : Int) (1048576 : Int)) = false → (w17B6 c) = true)) (V.b (!betB (Cut.half c) (1 : Int) (4096 : Int) || !betB (Cut.gain c) (0 : Int) (100000 : Int) || !betB (Cut.thin c) (0 : Int) (1048576 : Int) || !betB (Cut.wide c) (0 : Int) (1048576 : Int) || decide (Cut.wide c < Cut.thin c) || !betB (Cut.slope c) (0 : Int) (10000 : Int) || !betB (Cut.jerk c) (0 : Int) (1048576 : Int) || !betB (Cut.sty c) (0 : Int) (1024 : Int)))] kR kR ⟨⟨⟨(by (exact fun h => h)), tI⟩, (fun _ => tI)⟩, ⟨tI, eFPAb17⟩, tI⟩ ?_
 refine nK hK ?_; clear hK K
 refine w_cond (t := !betB (Cut.half c) (1 : Int) (4096 : Int) || !betB (Cut.gain c) (0 : Int) (100000 : Int) || !betB (Cut.thin c) (0 : Int) (1048576 : Int) || !betB (Cut.wide c) (0 : Int) (1048576 : Int) || decide (Cut.wide c < Cut.thin c) || !betB (Cut.slope c) (0 : Int) (10000 : Int) || !betB (Cut.jerk c) (0 : Int) (1048576 : Int) || !betB (Cut.sty c) (0 : Int) (1024 : Int)) kR (fun h => ?_) (fun h => ?_)
 ·
  refine sK fun K hK => wR 4 ?_
  refine aops_n hTT (M := []) (n := 1) [pv 2 (V.i 2)] kR kR tI ?_
  refine nK hK ?_; clear hK K
  refine aw_ret ?_
  refine xt_r ?_
  rw [cut3, if_pos h]
  refine rP (V.i 2)
 refine aw_skip ?_
 refine xt_n (hK _ ?_); clear hK K; refine sX hTT 4 1 [] tI ?_
 refine aw_ret ?_
 rw [cut3, if_neg (by rw [h]; decide)]
 refine rP (V.i 0)
end Go.Proofs.YtpmchnojeloohaaGreatDoor

namespace Go.Proofs.YtpmchnojeloohaaGreatDoor
open Go.Ab Go.RowKit Go.Dw Go.Shelf
def gE (p : Pt) : Bool := betB p.1 (-4194304) 4194304 && betB p.2 (-4194304) 4194304
def sE (p : Pt) : Bool := betB p.1 (-32767) 32767 && betB p.2 (-32767) 32767
def gChk (l : List Pt) : Int := if 4096 < l.length then 6 else if l.all gE then 0 else 2
def sChk (l : List Pt) : Int := if 4096 < l.length then 6 else if l.all sE then 0 else 2
theorem gE_iff {p : Pt} : gE p = true ↔ (-4194304 ≤ p.1 ∧ p.1 ≤ 4194304) ∧ -4194304 ≤ p.2 ∧ p.2 ≤ 4194304 := by simp [gE, betB]
theorem sE_iff {p : Pt} : sE p = true ↔ (-32767 ≤ p.1 ∧ p.1 ≤ 32767) ∧ -32767 ≤ p.2 ∧ p.2 ≤ 32767 := by simp [sE, betB]
theorem all_gp {l : List Pt} {f : Pt → Bool} : l.all f = true ↔ ∀ k, k < l.length → f (gp l k) = true := by
 rw [List.all_eq_true]
 constructor
 ·
  intro h k hk
  have : gp l k = l[k] := by simp [gp, List.getD_eq_getElem?_getD, List.getElem?_eq_getElem hk]
  rw [this]; exact h _ (List.getElem_mem hk)
 ·
  intro h x hx
  obtain ⟨k, hk, rfl⟩ := List.getElem_of_mem hx
  have : gp l k = l[k] := by simp [gp, List.getD_eq_getElem?_getD, List.getElem?_eq_getElem hk]
  rw [← this]; exact h k hk
theorem gChk_good {l : List Pt} (h : ¬ 4096 < l.length) (hb : ∀ k, k < l.length → gE (gp l k) = true) : gChk l = 0 := by rw [gChk, if_neg h, if_pos (all_gp.2 hb)]
theorem gChk_ok {l : List Pt} : gChk l = 0 ↔ l.length ≤ 4096 ∧ ∀ k, k < l.length → gE (gp l k) = true := by
 constructor
 ·
  intro h
  unfold gChk at h
  split at h
  ·
   cases h
  ·
   split at h
   ·
    rename_i h1 h2; exact ⟨by omega, all_gp.1 h2⟩
   ·
    cases h
 ·
  rintro ⟨h1, h2⟩; exact gChk_good oM h2
theorem sChk_many {l : List Pt} (h : 4096 < l.length) : sChk l = 6 := by rw [sChk, if_pos h]
theorem sChk_bad {l : List Pt} {k : Nat} (h : ¬ 4096 < l.length) (hk : k < l.length) (hb : sE (gp l k) = false) : sChk l = 2 := by
 rw [sChk, if_neg h, if_neg]
 intro ha
 rw [all_gp.1 ha k hk] at hb
 cases hb
theorem sChk_good {l : List Pt} (h : ¬ 4096 < l.length) (hb : ∀ k, k < l.length → sE (gp l k) = true) : sChk l = 0 := by rw [sChk, if_neg h, if_pos (all_gp.2 hb)]
theorem sChk_ok {l : List Pt} : sChk l = 0 ↔ l.length ≤ 4096 ∧ ∀ k, k < l.length → sE (gp l k) = true := by
 constructor
 ·
  intro h
  unfold sChk at h
  split at h
  ·
   cases h
  ·
   split at h
   ·
    rename_i h1 h2; exact ⟨by omega, all_gp.1 h2⟩
   ·
    cases h
 ·
  rintro ⟨h1, h2⟩; exact sChk_good oM h2
set_option maxRecDepth 100000 in
theorem gEdged_ac (p : Pt) : AC Tryz.prog 43 [.agg [.i p.1, .i p.2]] (.b (gE p)) [] := by
 refine acI hTT hMX Tryz.func43 Tryz.ntmps43 fun C hC hF => ?_
 refine sK fun K hK => wR 2 ?_
 refine aops_n hTT (M := []) (n := 2) [pv (1 : Nat) (V.ptr [V.i (Prod.fst p), V.i (Prod.snd p)]), pv (2 : Nat) (V.b false)] kR kR tI ?_
 refine nK hK ?_; clear hK K; refine sK fun K hK => wR 3 ?_
 refine aops_n hTT (M := []) (n := 2) [pv (3 : Nat) (V.ptr [V.i (Prod.fst p), V.i (Prod.snd p)]), pv (4 : Nat) (V.i (Prod.fst p))] kR kR tI ?_
 refine eC (between_ac p.1 (-4194304) 4194304) ?_
 refine aops_n hTT (M := []) (n := 3) [pv (6 : Nat) (V.b (betB (Prod.fst p) (-4194304 : Int) (4194304 : Int))), pc (7 : Nat) ((True ∧ True) ∧ ((betB (Prod.fst p) (-4194304 : Int) (4194304 : Int) == true) = true → True)) (V.gd (betB (Prod.fst p) (-4194304 : Int) (4194304 : Int) == true) (V.ptr [V.i (Prod.snd p)])), pc (8 : Nat) ((((betB (Prod.fst p) (-4194304 : Int) (4194304 : Int) == true) = true → (betB (Prod.fst p) (-4194304 : Int) (4194304 : Int) == true) = true) ∧ True) ∧ ((betB (Prod.fst p) (-4194304 : Int) (4194304 : Int) == true) = true → True)) (V.gd (betB (Prod.fst p) (-4194304 : Int) (4194304 : Int) == true) (V.i (Prod.snd p)))] kR kR ⟨⟨⟨tI, tI⟩, (fun _ => tI)⟩, ⟨⟨(by (exact fun h => h)), tI⟩, (fun _ => tI)⟩, tI⟩ ?_
 refine eG 1 (g := betB (Prod.fst p) (-4194304 : Int) (4194304 : Int) == true) (fun h => between_ac p.2 (-4194304) 4194304) ?_
 refine aops_n hTT (M := []) (n := 2) [pc (10 : Nat) ((betB (Prod.fst p) (-4194304 : Int) (4194304 : Int) = true → (betB (Prod.fst p) (-4194304 : Int) (4194304 : Int) == true) = true) ∧ True) (V.b (betB (Prod.fst p) (-4194304 : Int) (4194304 : Int) && betB (Prod.snd p) (-4194304 : Int) (4194304 : Int))), pv (2 : Nat) (V.b (betB (Prod.fst p) (-4194304 : Int) (4194304 : Int) && betB (Prod.snd p) (-4194304 : Int) (4194304 : Int)))] kR kR ⟨⟨(by (intro h; rw [h]; rfl)), tI⟩, tI⟩ ?_
 refine nK hK ?_; clear hK K
 refine aw_ret ?_
 refine rP (V.b (betB (Prod.fst p) (-4194304 : Int) (4194304 : Int) && betB (Prod.snd p) (-4194304 : Int) (4194304 : Int)))
set_option maxRecDepth 100000 in
theorem tBetween_ac (x lo hi : Int) : AC Tryz.prog 98 [.i x, .i lo, .i hi] (.b (betB x lo hi)) [] := by
 refine acI hTT hMX Tryz.func98 Tryz.ntmps98 fun C hC hF => ?_
 refine sX hTT 2 1 [] tI ?_; refine sX hTT 3 9 [(4, .c (gA (decide (lo ≤ x) == true) True)), (5, .c (gA (decide (lo ≤ x) == true) True)), (6, .c (gC (decide (lo ≤ x) == true) True)), (7, .c ((decide (lo ≤ x) = true → (decide (lo ≤ x) == true) = true) ∧ True))] ⟨⟨⟨tI, tI⟩, (fun _ => tI)⟩, ⟨⟨tI, tI⟩, (fun _ => tI)⟩, ⟨⟨(by (exact fun h => h)), ⟨(by (exact fun h => h)), tI⟩⟩, (fun _ => tI)⟩, ⟨(by (intro h; rw [h]; rfl)), tI⟩, tI⟩ ?_
 refine aw_ret ?_
 refine rP (V.b (decide (lo ≤ x) && decide (x ≤ hi)))
set_option maxRecDepth 100000 in
theorem tValid_ac (p : Pt) : AC Tryz.prog 69 [.agg [.i p.1, .i p.2]] (.b (sE p)) [] := by
 refine acI hTT hMX Tryz.func69 Tryz.ntmps69 fun C hC hF => ?_
 refine sK fun K hK => wR 2 ?_
 refine aops_n hTT (M := []) (n := 2) [pv (1 : Nat) (V.ptr [V.i (Prod.fst p), V.i (Prod.snd p)]), pv (2 : Nat) (V.b false)] kR kR tI ?_
 refine nK hK ?_; clear hK K; refine sK fun K hK => wR 3 ?_
 refine aops_n hTT (M := []) (n := 2) [pv (3 : Nat) (V.ptr [V.i (Prod.fst p), V.i (Prod.snd p)]), pv (4 : Nat) (V.i (Prod.fst p))] kR kR tI ?_
 refine eC (tBetween_ac p.1 (-32767) 32767) ?_
 refine aops_n hTT (M := []) (n := 3) [pv (6 : Nat) (V.b (betB (Prod.fst p) (-32767 : Int) (32767 : Int))), pc (7 : Nat) ((True ∧ True) ∧ ((betB (Prod.fst p) (-32767 : Int) (32767 : Int) == true) = true → True)) (V.gd (betB (Prod.fst p) (-32767 : Int) (32767 : Int) == true) (V.ptr [V.i (Prod.snd p)])), pc (8 : Nat) ((((betB (Prod.fst p) (-32767 : Int) (32767 : Int) == true) = true → (betB (Prod.fst p) (-32767 : Int) (32767 : Int) == true) = true) ∧ True) ∧ ((betB (Prod.fst p) (-32767 : Int) (32767 : Int) == true) = true → True)) (V.gd (betB (Prod.fst p) (-32767 : Int) (32767 : Int) == true) (V.i (Prod.snd p)))] kR kR ⟨⟨⟨tI, tI⟩, (fun _ => tI)⟩, ⟨⟨(by (exact fun h => h)), tI⟩, (fun _ => tI)⟩, tI⟩ ?_
 refine eG 1 (g := betB (Prod.fst p) (-32767 : Int) (32767 : Int) == true) (fun h => tBetween_ac p.2 (-32767) 32767) ?_
 refine aops_n hTT (M := []) (n := 2) [pc (10 : Nat) ((betB (Prod.fst p) (-32767 : Int) (32767 : Int) = true → (betB (Prod.fst p) (-32767 : Int) (32767 : Int) == true) = true) ∧ True) (V.b (betB (Prod.fst p) (-32767 : Int) (32767 : Int) && betB (Prod.snd p) (-32767 : Int) (32767 : Int))), pv (2 : Nat) (V.b (betB (Prod.fst p) (-32767 : Int) (32767 : Int) && betB (Prod.snd p) (-32767 : Int) (32767 : Int)))] kR kR ⟨⟨(by (intro h; rw [h]; rfl)), tI⟩, tI⟩ ?_
 refine nK hK ?_; clear hK K
 refine aw_ret ?_
 refine rP (V.b (betB (Prod.fst p) (-32767 : Int) (32767 : Int) && betB (Prod.snd p) (-32767 : Int) (32767 : Int)))
set_option maxRecDepth 100000 in
theorem tCheckSamples_ac (l : List Pt) (hl : l.length ≤ 4611686018427387904) : AC Tryz.prog 32 [V.pts l] (.i (sChk l)) [] := by
 refine acI hTT hMX Tryz.func32 Tryz.ntmps32 fun C hC hF => ?_
 refine sX hTT 2 1 [] tI (sK fun K hK => sX hTT 3 3 [] tI ?_)
 refine w_cond (t := decide ((4096 : Int) < (↑(List.length l) : Int))) kR (fun c1 => ?_) (fun c1 => ?_)
 ·
  simp at c1
  refine sX hTT 4 1 [] tI ?_
  refine aw_ret ?_
  refine xt_r ?_
  rw [sChk_many oM]
  refine rP (V.i 6)
 simp at c1
 refine aw_skip ?_
 refine xt_n (hK _ ?_); clear hK K; refine sK fun K hK => sX hTT 4 3 [] tI ?_
 refine aw_block ?_
 refine w_loop (ι := Nat) (fun k => [(8, V.pts l), (9, .i l.length), (10, .i k)]) (fun _ => []) (fun k => k ≤ l.length ∧ ∀ j, j < k → sE (gp l j) = true) (fun k => l.length - k) 0 ⟨Nat.zero_le _, fun j hj => by omega⟩ ?_ ?_
 ·
  refine le_ren [] (.cons kR (.cons kR (.cons kR .nil))) .nil kR kR
 rintro k ⟨hk, hj⟩
 refine sX hTT 2 1 [] tI (sK fun K hK => ?_)
 refine w_cond (t := decide ((↑k : Int) < (↑(List.length l) : Int))) kR (fun c2 => ?_) (fun c2 => ?_)
 ·
  simp at c2
  refine aw_skip ?_
  refine xt_n (hK _ ?_); clear hK K; refine sK fun K hK => ?_
  refine aw_block ?_
  refine sX hTT 3 4 [(0, .c ((0 : Int) ≤ (↑k : Int) ∧ (↑k : Int) < (↑(List.length l) : Int))), (2, .r (pn 4 (V.ref 200004 0) (200004 : Nat) (Ob.box 57 [V.i 0, V.i 0]))), (3, .r (pw ((0 : Nat) + (2 : Nat) ≤ (2 : Nat)) (200004 : Nat) (Ob.box 57 [V.i (Prod.fst (gp l k)), V.i (Prod.snd (gp l k))])))] ⟨oM, oM, tI⟩ (sK fun K hK => wR 4 (aX hTT 1 [(0, .c ((0 : Nat) ≤ (2 : Nat)))] ⟨oM, tI⟩ ?_))
  refine eC (tValid_ac (gp l k)) ?_
  refine aX hTT 1 [] tI (nK hK ?_); clear hK K
  refine w_cond (t := !sE (gp l k)) kR (fun c3 => ?_) (fun c3 => ?_)
  ·
   refine sK fun K hK => ?_
   refine wR 5 (aX hTT 1 [] tI (nK hK ?_)); clear hK K
   refine aw_ret ?_
   refine xb_r ?_
   refine xt_r (xt_r ?_)
   refine xb_r ?_
   refine xt_r ?_
   rw [sChk_bad oM oM (by simpa using c3)]
   refine rP (V.i 2)
  refine aw_skip ?_
  refine xb_n (xt_n (hK _ ?_)); clear hK K; refine wR 5 (aX hTT 2 [(0, .i ((↑k : Int) + 1))] ⟨oM, tI⟩ (aops_nil (xt_n ?_)))
  refine ⟨k + 1, ⟨by omega, fun i hi => ?_⟩, by refine le_ren [] (.cons kR (.cons kR (.cons kR .nil))) .nil kR kR, by omega⟩
  by_cases he : i = k
  ·
   subst he; simpa using c3
  ·
   exact hj i oM
 ·
  simp at c2
  refine aw_exit ?_
  refine xt_x ?_; refine xt_x ?_
  refine xb_same ?_
  refine xt_n ?_; clear hK K; refine hK _ ?_; clear hK K; refine sX hTT 3 1 [] tI ?_
  refine aw_ret ?_
  rw [sChk_good oM fun i hi => hj i oM]
  refine rP (V.i 0)
def wrapAmt (n : Int) : Int := max n (IntKind.i64.wrap (0 - n))
set_option maxRecDepth 100000 in
theorem rAmountW_ac (n : Int) : AC Tryz.prog 87 [.i n] (.i (wrapAmt n)) [] := by
 refine acI hTT hMX Tryz.func87 Tryz.ntmps87 fun C hC hF => ?_
 refine sX hTT 2 1 [] tI (sX hTT 3 5 [(2, .r (pvw 5 (V.i (IntKind.wrap IntKind.i64 ((0 : Int) - n)))))] tI ?_)
 refine aw_ret ?_
 refine rP (V.i (max n (IntKind.wrap IntKind.i64 ((0 : Int) - n))))
theorem wrapAmt_le {n m : Int} (h : inR .i64 n) (hm : 0 ≤ m ∧ m ≤ 4611686018427387904) (h2 : -1099511627776 < n) : wrapAmt n ≤ m ↔ -m ≤ n ∧ n ≤ m := by
 simp only [inR] at h
 have : IntKind.i64.wrap (0 - n) = -n := by
  rw [inR_wrap (k := .i64) (by simp only [inR]; omega)]; omega
 rw [wrapAmt, this]
 omega
def gAmt (n : Int) : Int := max n (-n)
set_option maxRecDepth 100000 in
theorem gAmount_ac (n : Int) (h : -4611686018427387904 ≤ n ∧ n ≤ 4611686018427387904) : AC Tryz.prog 47 [.i n] (.i (gAmt n)) [] := by
 refine acI hTT hMX Tryz.func47 Tryz.ntmps47 fun C hC hF => ?_
 refine sX hTT 2 1 [] tI (sX hTT 3 5 [(2, .i (-n))] ⟨oM, tI⟩ ?_)
 refine aw_ret ?_
 refine rP (V.i (max n (-n)))
set_option maxRecDepth 100000 in
theorem rValid_ac (p : Pt) (h1 : inR .i64 p.1) (h2 : inR .i64 p.2) : AC Tryz.prog 88 [.agg [.i p.1, .i p.2]] (.b (sE p)) [] := by
 refine acI hTT hMX Tryz.func88 Tryz.ntmps88 fun C hC hF => ?_
 refine sX hTT 2 2 [] tI (sK fun K hK => wR 3 (aX hTT 2 [] tI ?_))
 refine eC (rAmountW_ac p.1) ?_
 refine aX hTT 4 [(2, .c (gA (decide (wrapAmt (Prod.fst p) ≤ 32767) == true) True)), (3, .c (gB (decide (wrapAmt (Prod.fst p) ≤ 32767) == true) True))] ⟨⟨⟨tI, tI⟩, (fun _ => tI)⟩, ⟨⟨(by (exact fun h => h)), tI⟩, (fun _ => tI)⟩, tI⟩ ?_
 refine eG 1 (g := decide (wrapAmt (Prod.fst p) ≤ 32767) == true) (fun h => rAmountW_ac p.2) ?_
 refine aX hTT 13 [(0, .c (gD (decide (wrapAmt (Prod.fst p) ≤ 32767) == true) True)), (1, .c ((decide (wrapAmt (Prod.fst p) ≤ 32767) = true → (decide (wrapAmt (Prod.fst p) ≤ 32767) == true) = true) ∧ True)), (3, .c (gA ((decide (wrapAmt (Prod.fst p) ≤ 32767) && decide (wrapAmt (Prod.snd p) ≤ 32767)) == true) True)), (4, .c (gB ((decide (wrapAmt (Prod.fst p) ≤ 32767) && decide (wrapAmt (Prod.snd p) ≤ 32767)) == true) True)), (5, .c (gD ((decide (wrapAmt (Prod.fst p) ≤ 32767) && decide (wrapAmt (Prod.snd p) ≤ 32767)) == true) True)), (6, .c (((decide (wrapAmt (Prod.fst p) ≤ 32767) && decide (wrapAmt (Prod.snd p) ≤ 32767)) = true → ((decide (wrapAmt (Prod.fst p) ≤ 32767) && decide (wrapAmt (Prod.snd p) ≤ 32767)) == true) = true) ∧ True)), (8, .c (gA ((decide (wrapAmt (Prod.fst p) ≤ 32767) && decide (wrapAmt (Prod.snd p) ≤ 32767) && decide ((-1099511627776 : Int) < Prod.fst p)) == true) True)), (9, .c (gB ((decide (wrapAmt (Prod.fst p) ≤ 32767) && decide (wrapAmt (Prod.snd p) ≤ 32767) && decide ((-1099511627776 : Int) < Prod.fst p)) == true) True)), (10, .c (gD ((decide (wrapAmt (Prod.fst p) ≤ 32767) && decide (wrapAmt (Prod.snd p) ≤ 32767) && decide ((-1099511627776 : Int) < Prod.fst p)) == true) True)), (11, .c (((decide (wrapAmt (Prod.fst p) ≤ 32767) && decide (wrapAmt (Prod.snd p) ≤ 32767) && decide ((-1099511627776 : Int) < Prod.fst p)) = true → ((decide (wrapAmt (Prod.fst p) ≤ 32767) && decide (wrapAmt (Prod.snd p) ≤ 32767) && decide ((-1099511627776 : Int) < Prod.fst p)) == true) = true) ∧ True))] ⟨⟨⟨(by (exact fun h => h)), ⟨tI, tI⟩⟩, (fun _ => tI)⟩, ⟨(by (intro h; rw [h]; rfl)), tI⟩, ⟨⟨tI, tI⟩, (fun _ => tI)⟩, ⟨⟨(by (exact fun h => h)), tI⟩, (fun _ => tI)⟩, ⟨⟨(by (exact fun h => h)), ⟨tI, tI⟩⟩, (fun _ => tI)⟩, ⟨(by (intro h; rw [h]; rfl)), tI⟩, ⟨⟨tI, tI⟩, (fun _ => tI)⟩, ⟨⟨(by (exact fun h => h)), tI⟩, (fun _ => tI)⟩, ⟨⟨(by (exact fun h => h)), ⟨tI, tI⟩⟩, (fun _ => tI)⟩, ⟨(by (intro h; rw [h]; rfl)), tI⟩, tI⟩ ?_; refine nK hK ?_; clear hK K
 refine aw_ret ?_
 refine ret_pure (v' := V.b (decide (wrapAmt (Prod.fst p) ≤ 32767) && decide (wrapAmt (Prod.snd p) ≤ 32767) && decide ((-1099511627776 : Int) < Prod.fst p) && decide ((-1099511627776 : Int) < Prod.snd p))) (.inr rfl) kR ?_ kR
 refine vb ?_
 have a1 := wrapAmt_le (n := p.1) (m := 32767) h1 (by decide)
 have a2 := wrapAmt_le (n := p.2) (m := 32767) h2 (by decide)
 have key : ∀ n : Int, (-1099511627776 < n → (wrapAmt n ≤ 32767 ↔ -32767 ≤ n ∧ n ≤ 32767)) → (decide (wrapAmt n ≤ 32767) && decide (-1099511627776 < n)) = (decide (-32767 ≤ n) && decide (n ≤ 32767)) := by
  intro n h
  by_cases hn : -1099511627776 < n
  ·
   simp [h hn, hn]
  ·
   have : ¬ (-32767 ≤ n) := by omega
   simp [hn, this]
 have k1 := key p.1 a1
 have k2 := key p.2 a2
 rw [sE, betB, betB, ← k1, ← k2]
 simp only [Bool.and_assoc, Bool.and_left_comm]
end Go.Proofs.YtpmchnojeloohaaGreatDoor

namespace Go.Proofs.YtpmchnojeloohaaGreatDoor
open Go.Ab Go.RowKit Go.Dw Go.Shelf
abbrev Tk := List UInt8 × List Pt
abbrev Pr := Int × Int × Int × Int × Int × Int × Int
def Pr.tk (x : Pr) : Int := x.1
def Pr.fr (x : Pr) : Int := x.2.1
def Pr.to (x : Pr) : Int := x.2.2.1
def Pr.gap (x : Pr) : Int := x.2.2.2.1
def Pr.inn (x : Pr) : Int := x.2.2.2.2.1
def Pr.out (x : Pr) : Int := x.2.2.2.2.2.1
def Pr.lev (x : Pr) : Int := x.2.2.2.2.2.2
def Pr.c (x : Pr) : List V := [.i x.tk, .i x.fr, .i x.to, .i x.gap, .i x.inn, .i x.out, .i x.lev]
def Pr.long (x : Pr) : Int := x.to - x.fr
def gtk (l : List Tk) (k : Nat) : Tk := l.getD k ([], [])
def gpr (p : List Pr) (k : Nat) : Pr := p.getD k (0, 0, 0, 0, 0, 0, 0)
def nmV (s : List UInt8) : V := .c (.string ⟨s.toArray⟩)
def V.tks (l : List Tk) : V := .sl 2 l.length fun k => [nmV (gtk l k).1, V.pts (gtk l k).2]
def V.prs (p : List Pr) : V := .sl 7 p.length fun k => (gpr p k).c
def gby (s : List UInt8) (k : Nat) : Int := ((s.getD k 0).toNat : Int)
def nmB (s : List UInt8) : Bool := decide (1 ≤ s.length) && decide (s.length ≤ 20) && (List.range s.length).all fun k => chB (gby s k)
theorem strB_gby (s : List UInt8) {k : Nat} (h : k < s.length) : strB ⟨s.toArray⟩ k = gby s k := by
 simp [strB, gby, h]
def tkBad (t : Tk) : Bool := !nmB t.1 || decide (t.2.length = 0) || !t.2.all sE
def tkE (t : Tk) : Int := if 4096 < t.2.length then 6 else if tkBad t then 2 else 0
def dupB (l : List Tk) : Bool := (List.range l.length).any fun i => (List.range i).any fun k => decide ((gtk l i).1 = (gtk l k).1)
def ctE (l : List Tk) : Int := if l.length < 1 ∨ 16 < l.length then 6 else if l.any fun t => decide (4096 < t.2.length) then 6 else if l.any tkBad then 2 else if dupB l then 12 else 0
def prB (l : List Tk) (x : Pr) : Bool := decide (0 ≤ x.tk ∧ x.tk < l.length ∧ 0 ≤ x.fr ∧ x.fr < x.to ∧ x.to ≤ (gtk l x.tk.toNat).2.length ∧ -4096 ≤ x.gap ∧ x.gap ≤ 4096 ∧ 0 ≤ x.inn ∧ x.inn ≤ 1000 ∧ 0 ≤ x.out ∧ x.out ≤ 1000 ∧ 0 ≤ x.lev ∧ x.lev ≤ 4000)
def enN (p : List Pr) : Nat → Int
 | 0 => 0
 | i + 1 => enN p i + (gpr p i).gap + (gpr p i).long
def bgN (p : List Pr) (i : Nat) : Int := enN p i + (gpr p i).gap
theorem enN_succ (p : List Pr) (i : Nat) : enN p (i + 1) = bgN p i + (gpr p i).long := rfl
def plB (p : List Pr) (i : Nat) : Bool :=
 !((decide (i = 0) && decide (bgN p i < 0)) || (decide (0 < i) && (decide ((gpr p i).gap < -(gpr p i).long) || decide ((gpr p i).gap < -(gpr p (i - 1)).long))) || (decide (1 < i) && decide (bgN p i < enN p (i - 1))))
def posB (p : List Pr) : Bool := (List.range p.length).all (plB p) && decide (enN p p.length ≤ 4096)
def cpE (l : List Tk) (p : List Pr) : Int := if ctE l = 0 then (if 32 < p.length then 6 else if p.all (prB l) then (if posB p then 0 else 15) else 2) else ctE l
structure POk (l : List Tk) (p : List Pr) : Prop where
 ct : ctE l = 0
 le : p.length ≤ 32
 pr : ∀ i, i < p.length → prB l (gpr p i) = true
 pl : ∀ i, i < p.length → plB p i = true
 en : enN p p.length ≤ 4096
theorem gpr_mem {p : List Pr} {i : Nat} (h : i < p.length) : gpr p i ∈ p := by
 rw [gpr, List.getD_eq_getElem?_getD, List.getElem?_eq_getElem h]
 exact List.getElem_mem _
theorem gtk_mem {p : List Tk} {i : Nat} (h : i < p.length) : gtk p i ∈ p := by
 rw [gtk, List.getD_eq_getElem?_getD, List.getElem?_eq_getElem h]
 exact List.getElem_mem _
theorem mem_gpr {p : List Pr} {x : Pr} (h : x ∈ p) : ∃ i, i < p.length ∧ gpr p i = x := by
 obtain ⟨i, hi, e⟩ := List.getElem_of_mem h
 exact ⟨i, hi, by rw [gpr, List.getD_eq_getElem?_getD, List.getElem?_eq_getElem hi]; exact e⟩
theorem mem_gtk {p : List Tk} {x : Tk} (h : x ∈ p) : ∃ i, i < p.length ∧ gtk p i = x := by
 obtain ⟨i, hi, e⟩ := List.getElem_of_mem h
 exact ⟨i, hi, by rw [gtk, List.getD_eq_getElem?_getD, List.getElem?_eq_getElem hi]; exact e⟩
theorem cpE_ok {l : List Tk} {p : List Pr} (h : cpE l p = 0) : POk l p := by
 unfold cpE at h
 split at h
 ·
  rename_i h1
  split at h
  ·
   omega
  ·
   rename_i h2
   split at h
   ·
    rename_i h3
    split at h
    ·
     rename_i h4
     simp only [posB, Bool.and_eq_true, decide_eq_true_eq, List.all_eq_true, List.mem_range] at h4
     rw [List.all_eq_true] at h3
     exact ⟨h1, by omega, fun i hi => h3 _ (gpr_mem hi), h4.1, h4.2⟩
    ·
     omega
   ·
    omega
 ·
  contradiction
theorem prB_ok {l : List Tk} {x : Pr} (h : prB l x = true) : 0 ≤ x.tk ∧ x.tk < l.length ∧ 0 ≤ x.fr ∧ x.fr < x.to ∧ x.to ≤ (gtk l x.tk.toNat).2.length ∧ -4096 ≤ x.gap ∧ x.gap ≤ 4096 ∧ 0 ≤ x.inn ∧ x.inn ≤ 1000 ∧ 0 ≤ x.out ∧ x.out ≤ 1000 ∧ 0 ≤ x.lev ∧ x.lev ≤ 4000 := of_decide_eq_true h
theorem ctE_len {l : List Tk} (h : ctE l = 0) : 1 ≤ l.length ∧ l.length ≤ 16 := by
 unfold ctE at h
 split at h
 ·
  omega
 ·
  omega
theorem ctE_tk {l : List Tk} (h : ctE l = 0) {i : Nat} (hi : i < l.length) : nmB (gtk l i).1 = true ∧ 1 ≤ (gtk l i).2.length ∧ (gtk l i).2.length ≤ 4096 ∧ (gtk l i).2.all sE = true := by
 unfold ctE at h
 split at h
 ·
  omega
 ·
  split at h
  ·
   omega
  ·
   rename_i h1
   split at h
   ·
    omega
   ·
    rename_i h2
    have a1 : ¬ 4096 < (gtk l i).2.length := fun h3 => h1 (List.any_eq_true.2 ⟨_, gtk_mem hi, by simpa using h3⟩)
    have a2 : tkBad (gtk l i) = false := by
     cases h3 : tkBad (gtk l i) with
     | false => rfl
     | true => exact absurd (List.any_eq_true.2 ⟨_, gtk_mem hi, h3⟩) h2
    simp only [tkBad, Bool.or_eq_false_iff, Bool.not_eq_false', decide_eq_false_iff_not] at a2
    exact ⟨a2.1.1, by omega, by omega, a2.2⟩
theorem ctE_dup {l : List Tk} (h : ctE l = 0) {i k : Nat} (hi : i < l.length) (hk : k < i) : (gtk l i).1 ≠ (gtk l k).1 := fun e => by
 unfold ctE at h
 split at h
 ·
  omega
 ·
  split at h
  ·
   omega
  ·
   split at h
   ·
    omega
   ·
    split at h
    ·
     omega
    ·
     rename_i h1
     refine h1 ?_
     rw [dupB, List.any_eq_true]
     refine ⟨i, List.mem_range.2 hi, List.any_eq_true.2 ⟨k, List.mem_range.2 hk, by simpa using e⟩⟩
def loud (s : Int) (x : Pr) (k : Int) : Int := (s * x.lev * min (k + 1) (x.inn + 1) * min (x.long - k) (x.out + 1)).tdiv (1000 * (x.inn + 1) * (x.out + 1))
def snd (l : List Tk) (x : Pr) (k : Int) : Pt := (loud (gp (gtk l x.tk.toNat).2 (x.fr + k).toNat).1 x k, loud (gp (gtk l x.tk.toNat).2 (x.fr + k).toNat).2 x k)
def onB (p : List Pr) (i : Nat) (t : Int) : Bool := decide (bgN p i ≤ t) && decide (t < enN p (i + 1))
def rnN (l : List Tk) (p : List Pr) (t : Int) : Nat → Pt
 | 0 => (0, 0)
 | i + 1 => if onB p i t then ((rnN l p t i).1 + (snd l (gpr p i) (t - bgN p i)).1, (rnN l p t i).2 + (snd l (gpr p i) (t - bgN p i)).2) else rnN l p t i
def rndL (l : List Tk) (p : List Pr) : List Pt := (List.range (enN p p.length).toNat).map fun t => rnN l p (t : Nat) p.length
def rnE (l : List Tk) (p : List Pr) : Int := if sChk (rndL l p) = 0 then 0 else 4
end Go.Proofs.YtpmchnojeloohaaGreatDoor

namespace Go.Proofs.YtpmchnojeloohaaGreatDoor
open Go.Ab Go.RowKit Go.Dw Go.Shelf
theorem mul_bd {a b A B : Int} (h1 : -A ≤ a ∧ a ≤ A) (h2 : 0 ≤ b ∧ b ≤ B) (hA : 0 ≤ A) : -(A * B) ≤ a * b ∧ a * b ≤ A * B := by
 have e1 : a * b ≤ A * b := Int.mul_le_mul_of_nonneg_right h1.2 h2.1
 have e2 : A * b ≤ A * B := Int.mul_le_mul_of_nonneg_left h2.2 hA
 have e3 : -A * b ≤ a * b := Int.mul_le_mul_of_nonneg_right h1.1 h2.1
 have e4 : -A * b = -(A * b) := Int.neg_mul _ _
 omega
structure LBd (s lev up down inn out : Int) : Prop where
 b1 : -131068000 ≤ s * lev ∧ s * lev ≤ 131068000
 b2 : -131199068000 ≤ s * lev * up ∧ s * lev * up ≤ 131199068000
 b3 : -131330267068000 ≤ s * lev * up * down ∧ s * lev * up * down ≤ 131330267068000
 l1 : 0 ≤ lev * up ∧ lev * up ≤ 4004000
 l2 : 0 ≤ lev * up * down ∧ lev * up * down ≤ 4008004000
 d1 : 1000 ≤ 1000 * (inn + 1) ∧ 1000 * (inn + 1) ≤ 1001000
 d2 : 1000 ≤ 1000 * (inn + 1) * (out + 1) ∧ 1000 * (inn + 1) * (out + 1) ≤ 1002001000
 q : -131330267068000 ≤ (s * lev * up * down).tdiv (1000 * (inn + 1) * (out + 1)) ∧ (s * lev * up * down).tdiv (1000 * (inn + 1) * (out + 1)) ≤ 131330267068000
theorem tdiv_abs {a b M : Int} (hb : 1 ≤ b) (h : -M ≤ a ∧ a ≤ M) : -M ≤ a.tdiv b ∧ a.tdiv b ≤ M := by
 rcases Int.le_total 0 a with h0 | h0
 ·
  rw [Int.tdiv_eq_ediv_of_nonneg h0]
  have h1 := Int.ediv_nonneg h0 (show 0 ≤ b by omega)
  have h2 := Int.ediv_le_self b h0
  omega
 ·
  have h3 : 0 ≤ -a := by omega
  have h1 := Int.ediv_nonneg h3 (show 0 ≤ b by omega)
  have h2 := Int.ediv_le_self b h3
  have h4 := Int.neg_tdiv (a := -a) (b := b)
  rw [Int.neg_neg] at h4
  rw [h4, Int.tdiv_eq_ediv_of_nonneg h3]
  omega
theorem loud_bd {s lev up down inn out : Int} (h1 : -32767 ≤ s ∧ s ≤ 32767) (h2 : 0 ≤ lev ∧ lev ≤ 4000) (h3 : 0 ≤ up ∧ up ≤ 1001) (h4 : 0 ≤ down ∧ down ≤ 1001) (h5 : 0 ≤ inn ∧ inn ≤ 1000) (h6 : 0 ≤ out ∧ out ≤ 1000) : LBd s lev up down inn out := by
 have a1 := mul_bd h1 h2 (by decide)
 have a2 := mul_bd a1 h3 (by decide)
 have a3 := mul_bd a2 h4 (by decide)
 have c1 := mul_bd (show -4000 ≤ lev ∧ lev ≤ 4000 by omega) h3 (by decide)
 have c1' : 0 ≤ lev * up := Int.mul_nonneg h2.1 h3.1
 have c2 := mul_bd (a := lev * up) (A := 4004000) oM h4 (by decide)
 have c2' : 0 ≤ lev * up * down := Int.mul_nonneg c1' h4.1
 have d2 := mul_bd (a := 1000 * (inn + 1)) (b := out + 1) (A := 1001000) (B := 1001) oM oM (by decide)
 have d2' : 1000 * 1 ≤ 1000 * (inn + 1) * (out + 1) := Int.mul_le_mul oM oM (by decide) oM
 have q := tdiv_abs (a := s * lev * up * down) (b := 1000 * (inn + 1) * (out + 1)) (M := 131330267068000) oM oM
 exact ⟨by omega, by omega, by omega, by omega, by omega, by omega, by omega, q⟩
theorem sE_bd {p : Pt} (h : sE p = true) : (-32767 ≤ p.1 ∧ p.1 ≤ 32767) ∧ -32767 ≤ p.2 ∧ p.2 ≤ 32767 := by
 simp only [sE, betB, Bool.and_eq_true, decide_eq_true_eq] at h
 omega
structure SBd (l : List Tk) (x : Pr) (k : Int) : Prop where
 tk : 0 ≤ x.tk ∧ x.tk.toNat < l.length
 ix : 0 ≤ x.fr + k ∧ (x.fr + k).toNat < (gtk l x.tk.toNat).2.length
 le : (gtk l x.tk.toNat).2.length ≤ 4096
 L : LBd (gp (gtk l x.tk.toNat).2 (x.fr + k).toNat).1 x.lev (min (k + 1) (x.inn + 1)) (min (x.long - k) (x.out + 1)) x.inn x.out
 R : LBd (gp (gtk l x.tk.toNat).2 (x.fr + k).toNat).2 x.lev (min (k + 1) (x.inn + 1)) (min (x.long - k) (x.out + 1)) x.inn x.out
theorem snd_bd {l : List Tk} {x : Pr} {k : Int} (hc : ctE l = 0) (h : prB l x = true) (hk : 0 ≤ k ∧ k < x.long) : SBd l x k := by
 have h1 := prB_ok h
 unfold Pr.long at hk
 have h2 : x.tk.toNat < l.length := by omega
 have h3 := ctE_tk hc h2
 have h4 : (x.fr + k).toNat < (gtk l x.tk.toNat).2.length := by omega
 have h5 : sE (gp (gtk l x.tk.toNat).2 (x.fr + k).toNat) = true := by
  have := List.all_eq_true.1 h3.2.2.2 _ (List.getElem_mem h4)
  rwa [gp, List.getD_eq_getElem?_getD, List.getElem?_eq_getElem h4]
 have h6 := sE_bd h5
 exact ⟨by omega, by omega, h3.2.2.1, loud_bd h6.1 oM oM (by unfold Pr.long; omega) oM oM, loud_bd h6.2 oM oM (by unfold Pr.long; omega) oM oM⟩
theorem snd_le {l : List Tk} {x : Pr} {k : Int} (h : SBd l x k) : (-131330267068000 ≤ (snd l x k).1 ∧ (snd l x k).1 ≤ 131330267068000) ∧ -131330267068000 ≤ (snd l x k).2 ∧ (snd l x k).2 ≤ 131330267068000 := ⟨h.L.q, h.R.q⟩
theorem onB_k {l : List Tk} {p : List Pr} (h : POk l p) {i : Nat} (hi : i < p.length) {t : Int} (ho : onB p i t = true) : SBd l (gpr p i) (t - bgN p i) := by
 simp only [onB, Bool.and_eq_true, decide_eq_true_eq] at ho
 rw [enN_succ] at ho
 exact snd_bd h.ct (h.pr i hi) oM
theorem rnN_bd {l : List Tk} {p : List Pr} (h : POk l p) (t : Int) : ∀ i, i ≤ p.length → (-131330267068000 * (i : Int) ≤ (rnN l p t i).1 ∧ (rnN l p t i).1 ≤ 131330267068000 * i) ∧ -131330267068000 * (i : Int) ≤ (rnN l p t i).2 ∧ (rnN l p t i).2 ≤ 131330267068000 * i
 | 0, _ => by simp [rnN]
 | i + 1, hi => by
  have h1 := rnN_bd h t i oM
  rw [rnN]
  split
  ·
   rename_i h2
   have h3 := snd_le (onB_k h oM h2)
   simp only
   omega
  ·
   omega
structure PV (l : List Tk) (p : List Pr) : Prop where
 ct : ctE l = 0
 le : p.length ≤ 32
 pr : ∀ i, i < p.length → prB l (gpr p i) = true
theorem POk.pv {l : List Tk} {p : List Pr} (h : POk l p) : PV l p := ⟨h.ct, h.le, h.pr⟩
theorem PV.at {l : List Tk} {p : List Pr} (h : PV l p) {i : Nat} (hi : i < p.length) : (1 ≤ (gpr p i).long ∧ (gpr p i).long ≤ 4096) ∧ (-4096 ≤ (gpr p i).gap ∧ (gpr p i).gap ≤ 4096) ∧ (0 ≤ (gpr p i).fr ∧ (gpr p i).fr ≤ 4096) ∧ 0 ≤ (gpr p i).to ∧ (gpr p i).to ≤ 4096 := by
 have h1 := prB_ok (h.pr i hi)
 have h2 : (gpr p i).tk.toNat < l.length := by omega
 have h3 := (ctE_tk h.ct h2).2.2.1
 unfold Pr.long
 omega
theorem PV.any {l : List Tk} {p : List Pr} (h : PV l p) (i : Nat) : (-1000000 ≤ (gpr p i).to ∧ (gpr p i).to ≤ 1000000) ∧ (-1000000 ≤ (gpr p i).fr ∧ (gpr p i).fr ≤ 1000000) ∧ -1000000 ≤ (gpr p i).long ∧ (gpr p i).long ≤ 1000000 := by
 by_cases hi : i < p.length
 ·
  have := h.at hi
  omega
 ·
  have e : gpr p i = (0, 0, 0, 0, 0, 0, 0) := by rw [gpr, List.getD_eq_getElem?_getD, List.getElem?_eq_none oM]; rfl
  rw [e]
  exact ⟨⟨by decide, by decide⟩, ⟨by decide, by decide⟩, by decide, by decide⟩
theorem PV.en {l : List Tk} {p : List Pr} (h : PV l p) : ∀ i, i ≤ p.length → -8192 * (i : Int) ≤ enN p i ∧ enN p i ≤ 8192 * i
 | 0, _ => by simp [enN]
 | i + 1, hi => by
  have := h.en i oM
  have h1 := h.at (i := i) oM
  rw [enN]
  omega
theorem PV.bg {l : List Tk} {p : List Pr} (h : PV l p) {i : Nat} (hi : i < p.length) : -300000 ≤ bgN p i ∧ bgN p i ≤ 300000 ∧ -300000 ≤ enN p i ∧ enN p i ≤ 300000 := by
 have h1 := h.en i oM
 have h2 := h.at hi
 have h3 := h.le
 unfold bgN
 omega
end Go.Proofs.YtpmchnojeloohaaGreatDoor

namespace Go.Proofs.YtpmchnojeloohaaGreatDoor
open Go.Ab Go.RowKit Go.Dw Go.Shelf
theorem plB_ok {p : List Pr} {i : Nat} (h : plB p i = true) : (i = 0 → 0 ≤ bgN p i) ∧ (0 < i → -(gpr p i).long ≤ (gpr p i).gap ∧ -(gpr p (i - 1)).long ≤ (gpr p i).gap) ∧ (1 < i → enN p (i - 1) ≤ bgN p i) := by
 simp only [plB, Bool.not_eq_true', Bool.or_eq_false_iff, Bool.and_eq_false_iff, decide_eq_false_iff_not] at h
 obtain ⟨⟨h1, h2⟩, h3⟩ := h
 refine ⟨fun e => ?_, fun e => ?_, fun e => ?_⟩
 ·
  rcases h1 with h1 | h1
  ·
   exact absurd e h1
  ·
   omega
 ·
  rcases h2 with h2 | ⟨h2, h4⟩
  ·
   exact absurd e h2
  ·
   omega
 ·
  rcases h3 with h3 | h3
  ·
   exact absurd e h3
  ·
   omega
theorem plB_of {p : List Pr} {i : Nat} (h1 : i = 0 → 0 ≤ bgN p i) (h2 : 0 < i → -(gpr p i).long ≤ (gpr p i).gap ∧ -(gpr p (i - 1)).long ≤ (gpr p i).gap) (h3 : 1 < i → enN p (i - 1) ≤ bgN p i) : plB p i = true := by
 simp only [plB, Bool.not_eq_true', Bool.or_eq_false_iff, Bool.and_eq_false_iff, decide_eq_false_iff_not]
 refine ⟨⟨?_, ?_⟩, ?_⟩
 ·
  by_cases e : i = 0
  ·
   exact .inr (by have := h1 e; omega)
  ·
   exact .inl e
 ·
  by_cases e : 0 < i
  ·
   exact .inr (by have := h2 e; omega)
  ·
   exact .inl e
 ·
  by_cases e : 1 < i
  ·
   exact .inr (by have := h3 e; omega)
  ·
   exact .inl e
theorem POk.long {l : List Tk} {p : List Pr} (h : POk l p) {i : Nat} (hi : i < p.length) : 1 ≤ (gpr p i).long := by
 have := prB_ok (h.pr i hi)
 unfold Pr.long
 omega
theorem POk.step {l : List Tk} {p : List Pr} (h : POk l p) {i : Nat} (hi : i < p.length) : enN p i ≤ enN p (i + 1) := by
 have h1 := h.long hi
 obtain ⟨a, b, _⟩ := plB_ok (h.pl i hi)
 rw [enN_succ]
 by_cases e : i = 0
 ·
  have := a e
  subst e
  simp only [enN]
  omega
 ·
  have := b oM
  unfold bgN
  omega
theorem POk.mono {l : List Tk} {p : List Pr} (h : POk l p) {i k : Nat} (hik : i ≤ k) (hk : k ≤ p.length) : enN p i ≤ enN p k := by
 induction k with
 | zero => rw [show i = 0 by omega]; exact Int.le_refl _
 | succ k ih =>
  by_cases e : i = k + 1
  ·
   rw [e]; exact Int.le_refl _
  ·
   have := ih oM oM
   have := h.step (i := k) oM
   omega
theorem POk.nn {l : List Tk} {p : List Pr} (h : POk l p) {i : Nat} (hi : i ≤ p.length) : 0 ≤ enN p i := h.mono (Nat.zero_le i) hi
theorem POk.bg {l : List Tk} {p : List Pr} (h : POk l p) {i : Nat} (hi : i < p.length) : 0 ≤ bgN p i := by
 obtain ⟨a, b, _⟩ := plB_ok (h.pl i hi)
 by_cases e : i = 0
 ·
  exact a e
 ·
  obtain ⟨k, rfl⟩ : ∃ k, i = k + 1 := ⟨i - 1, by omega⟩
  have h1 := b oM
  have h2 := h.bg (i := k) oM
  have h3 := enN_succ p k
  rw [show k + 1 - 1 = k by omega] at h1
  unfold bgN at *
  omega
termination_by i
theorem rndL_len {l : List Tk} {p : List Pr} : (rndL l p).length = (enN p p.length).toNat := by simp [rndL]
theorem rndL_at {l : List Tk} {p : List Pr} {t : Nat} (h : (t : Int) < enN p p.length) : gp (rndL l p) t = rnN l p t p.length := by
 simp [rndL, gp, show t < (enN p p.length).toNat by omega]
def bgL (p : List Pr) : List Int := (List.range p.length).map (bgN p)
theorem bgL_len (p : List Pr) : (bgL p).length = p.length := by simp [bgL]
theorem bgL_at {p : List Pr} {i : Nat} (h : i < p.length) : gi (bgL p) i = bgN p i := by simp [bgL, gi, h]
end Go.Proofs.YtpmchnojeloohaaGreatDoor

namespace Go.Proofs.YtpmchnojeloohaaGreatDoor
open Go.Ab Go.RowKit Go.Dw Go.Shelf
theorem gMul {a b m n : Int} (ha : -m ≤ a ∧ a ≤ m) (hb : -n ≤ b ∧ b ≤ n) : -(m * n) ≤ a * b ∧ a * b ≤ m * n := by
 have h1 : 0 ≤ (m - a) * (n + b) := Int.mul_nonneg oM oM
 have h2 : 0 ≤ (m + a) * (n - b) := Int.mul_nonneg oM oM
 have h3 : 0 ≤ (m - a) * (n - b) := Int.mul_nonneg oM oM
 have h4 : 0 ≤ (m + a) * (n + b) := Int.mul_nonneg oM oM
 simp only [Int.sub_mul, Int.add_mul, Int.mul_add, Int.mul_sub] at h1 h2 h3 h4
 omega
theorem gTd {x m M : Int} (hm : 0 < m) (h : -(M * m) ≤ x ∧ x ≤ M * m) : -M ≤ x.tdiv m ∧ x.tdiv m ≤ M := by
 by_cases hx : 0 ≤ x
 ·
  rw [Int.tdiv_eq_ediv_of_nonneg hx]
  have h1 := Int.ediv_nonneg hx (Int.le_of_lt hm)
  have h2 : x / m ≤ M := by
   have := Int.ediv_le_ediv hm h.2
   rwa [Int.mul_ediv_cancel _ oM] at this
  omega
 ·
  have e : x.tdiv m = -((-x) / m) := by
   have := Int.neg_tdiv (a := -x) (b := m)
   rw [Int.neg_neg] at this
   rw [this, Int.tdiv_eq_ediv_of_nonneg oM]
  have h1 := Int.ediv_nonneg (a := -x) (b := m) oM oM
  have h2 : (-x) / m ≤ M := by
   have := Int.ediv_le_ediv hm (show -x ≤ M * m by omega)
   rwa [Int.mul_ediv_cancel _ oM] at this
  omega
def chE (g n : Int) : Int := (n * g).tdiv 1000
def wallP (c : Cut) (s : Pt) : Pt := (chE c.gain s.2 - c.half, chE c.gain s.1 + c.half)
theorem chE_bd {g n : Int} (hg : 0 ≤ g ∧ g ≤ 100000) (hn : -32768 ≤ n ∧ n ≤ 32768) : -3276800 ≤ chE g n ∧ chE g n ≤ 3276800 := by
 have := gMul (m := 32768) (n := 100000) hn ⟨by omega, hg.2⟩
 exact gTd (by decide) oM
def cutR (c : Cut) (s : List Pt) : List Pt × Int := if cutE c = 0 then (if sChk s = 0 then (s.map (wallP c), 0) else ([], sChk s)) else ([], cutE c)
theorem cutR_1 {c : Cut} {s : List Pt} (h : ¬ cutE c = 0) : cutR c s = ([], cutE c) := by rw [cutR, if_neg h]
theorem cutR_2 {c : Cut} {s : List Pt} (h : cutE c = 0) (h2 : ¬ sChk s = 0) : cutR c s = ([], sChk s) := by rw [cutR, if_pos h, if_neg h2]
theorem cutR_3 {c : Cut} {s : List Pt} (h : cutE c = 0) (h2 : sChk s = 0) : cutR c s = (s.map (wallP c), 0) := by rw [cutR, if_pos h, if_pos h2]
theorem gp_map {f : Pt → Pt} {l : List Pt} {k : Nat} (h : k < l.length) : gp (l.map f) k = f (gp l k) := by
 simp [gp, List.getD_eq_getElem?_getD, List.getElem?_eq_getElem h]
theorem wallP_gE {c : Cut} {s : Pt} (hc : cutE c = 0) (hs : sE s = true) : gE (wallP c s) = true := by
 obtain ⟨⟨a1, a2⟩, ⟨b1, b2⟩, _⟩ := cutE_ok.1 hc
 obtain ⟨h1, h2⟩ := sE_iff.1 hs
 have e1 := chE_bd (n := s.1) ⟨b1, b2⟩ oM
 have e2 := chE_bd (n := s.2) ⟨b1, b2⟩ oM
 rw [gE_iff]
 show (-4194304 ≤ chE c.gain s.2 - c.half ∧ _) ∧ -4194304 ≤ chE c.gain s.1 + c.half ∧ _
 simp only [wallP]
 omega
end Go.Proofs.YtpmchnojeloohaaGreatDoor

namespace Go.Proofs.YtpmchnojeloohaaGreatDoor
open Go.Ab Go.RowKit Go.Dw Go.Shelf
def inR2 (p : Pt) : Prop := inR .i64 p.1 ∧ inR .i64 p.2
set_option maxRecDepth 100000 in
theorem rCheckSamples_ac (l : List Pt) (hl : l.length ≤ 4611686018427387904) (hr : ∀ k, k < l.length → inR2 (gp l k)) : AC Tryz.prog 53 [V.pts l] (.i (sChk l)) [] := by
 refine acI hTT hMX Tryz.func53 Tryz.ntmps53 fun C hC hF => ?_
 refine sX hTT 2 1 [] tI (sK fun K hK => sX hTT 3 3 [] tI ?_)
 refine w_cond (t := decide ((4096 : Int) < (↑(List.length l) : Int))) kR (fun c1 => ?_) (fun c1 => ?_)
 ·
  simp at c1
  refine sX hTT 4 1 [] tI ?_
  refine aw_ret ?_
  refine xt_r ?_
  rw [sChk_many oM]
  refine rP (V.i 6)
 simp at c1
 refine aw_skip ?_
 refine xt_n (hK _ ?_); clear hK K; refine sK fun K hK => sX hTT 4 1 [] tI ?_
 refine aw_block ?_
 refine w_loop (ι := Nat) (fun k => [(0, V.pts l), (3, .i k)]) (fun _ => []) (fun k => k ≤ l.length ∧ ∀ j, j < k → sE (gp l j) = true) (fun k => l.length - k) 0 ⟨Nat.zero_le _, fun j hj => by omega⟩ ?_ ?_
 ·
  refine le_ren [] (.cons kR (.cons kR .nil)) .nil kR kR
 rintro k ⟨hk, hj⟩
 refine sK fun K hK => sX hTT 2 4 [] tI ?_
 refine w_cond (t := decide ((↑k : Int) < (↑(List.length l) : Int))) kR (fun c2 => ?_) (fun c2 => ?_)
 ·
  simp at c2
  obtain ⟨r1, r2⟩ := hr k oM
  refine aw_skip ?_
  refine xt_n (hK _ ?_); clear hK K; refine sK fun K hK => ?_
  refine aw_block ?_
  refine sK fun K hK => wR 3 (aX hTT 4 [(2, .c ((0 : Int) ≤ (↑k : Int) ∧ (↑k : Int) < (↑(List.length l) : Int)))] ⟨oM, tI⟩ ?_)
  refine eC (rValid_ac (gp l k) r1 r2) ?_
  refine aX hTT 1 [] tI (nK hK ?_); clear hK K
  refine w_cond (t := !sE (gp l k)) kR (fun c3 => ?_) (fun c3 => ?_)
  ·
   refine sK fun K hK => ?_
   refine wR 4 (aX hTT 1 [] tI (nK hK ?_)); clear hK K
   refine aw_ret ?_
   refine xb_r ?_
   refine xt_r (xt_r ?_)
   refine xb_r ?_
   refine xt_r ?_
   rw [sChk_bad oM oM (by simpa using c3)]
   refine rP (V.i 2)
  refine aw_skip ?_
  refine xb_n (xt_n (hK _ ?_)); clear hK K; refine wR 4 (aX hTT 3 [(1, .i ((↑k : Int) + 1))] ⟨oM, tI⟩ (aops_nil (xt_n ?_)))
  refine ⟨k + 1, ⟨by omega, fun i hi => ?_⟩, by refine le_ren [] (.cons kR (.cons kR .nil)) .nil kR kR, by omega⟩
  by_cases he : i = k
  ·
   subst he; simpa using c3
  ·
   exact hj i oM
 ·
  simp at c2
  refine aw_exit ?_
  refine xt_x ?_; refine xt_x ?_
  refine xb_same ?_
  refine xt_n ?_; clear hK K; refine hK _ ?_; clear hK K; refine sX hTT 3 1 [] tI ?_
  refine aw_ret ?_
  rw [sChk_good oM fun i hi => hj i oM]
  refine rP (V.i 0)
abbrev yyGA20 (c : Cut) (s : Pt) : List V := [V.i (Int.tdiv (Prod.snd s * Cut.gain c) (1000 : Int) - Cut.half c), V.i (Int.tdiv (Prod.fst s * Cut.gain c) (1000 : Int) + Cut.half c)]
set_option maxRecDepth 100000 in
theorem point_ac (c : Cut) (s : Pt) (hc : cutE c = 0) (hs : (-32768 ≤ s.1 ∧ s.1 ≤ 32768) ∧ -32768 ≤ s.2 ∧ s.2 ≤ 32768) : AC Tryz.prog 34 [c.v, .agg [.i s.1, .i s.2]] (.agg [.i (wallP c s).1, .i (wallP c s).2]) [] := by
 obtain ⟨⟨a1, a2⟩, ⟨b1, b2⟩, _⟩ := cutE_ok.1 hc
 obtain ⟨h1, h2⟩ := hs
 have e1 := chE_bd (n := s.1) ⟨b1, b2⟩ oM
 have e2 := chE_bd (n := s.2) ⟨b1, b2⟩ oM
 have m1 := gMul (m := 32768) (n := 100000) (a := s.1) (b := c.gain) oM ⟨by omega, b2⟩
 have m2 := gMul (m := 32768) (n := 100000) (a := s.2) (b := c.gain) oM ⟨by omega, b2⟩
 unfold chE at e1 e2
 refine acI hTT hMX Tryz.func34 Tryz.ntmps34 fun C hC hF => ?_
 refine sX hTT 2 3 [(2, .r (pn 4 (V.ref 100004 0) (100004 : Nat) (Ob.box 61 [V.i 0, V.i 0])))] tI (sX hTT 3 20 [(4, .i (Prod.snd s * Cut.gain c)), (5, .c ((0 : Int) < (1000 : Int) ∧ (-9223372036854775808 : Int) ≤ Prod.snd s * Cut.gain c ∧ Prod.snd s * Cut.gain c ≤ 9223372036854775807)), (8, .i (Int.tdiv (Prod.snd s * Cut.gain c) (1000 : Int) - Cut.half c)), (13, .i (Prod.fst s * Cut.gain c)), (14, .c ((0 : Int) < (1000 : Int) ∧ (-9223372036854775808 : Int) ≤ Prod.fst s * Cut.gain c ∧ Prod.fst s * Cut.gain c ≤ 9223372036854775807)), (17, .i (Int.tdiv (Prod.fst s * Cut.gain c) (1000 : Int) + Cut.half c)), (19, .r (pw ((0 : Nat) + (2 : Nat) ≤ (2 : Nat)) (100004 : Nat) (Ob.box 61 (yyGA20 c s))))] ⟨oM, ⟨oM, oM⟩, oM, oM, ⟨oM, oM⟩, oM, oM, tI⟩ ?_)
 refine aw_ret ?_
 refine ret_of_le (le_freezeBox (t := (61 : Nat)) (cs := (yyGA20 c s)) 100004 kR kR) ?_
 refine rP (V.agg (yyGA20 c s))
def cutA (c : Cut) (s : List Pt) (k j : Nat) : Int := if j < k then (wallP c (gp s j)).1 else 0
def cutB (c : Cut) (s : List Pt) (k j : Nat) : Int := if j < k then (wallP c (gp s j)).2 else 0
theorem cutAB_set {c : Cut} {s : List Pt} {k : Nat} (i : Nat) : (if i = k then [V.i (wallP c (gp s k)).1, V.i (wallP c (gp s k)).2] else [V.i (cutA c s k i), V.i (cutB c s k i)]) = [V.i (cutA c s (k + 1) i), V.i (cutB c s (k + 1) i)] := by
 unfold cutA cutB
 by_cases h : i = k
 ·
  subst h; rw [if_pos rfl, if_pos oM, if_pos oM]
 ·
  rw [if_neg h]
  by_cases h2 : i < k
  ·
   rw [if_pos h2, if_pos h2, if_pos oM, if_pos oM]
  ·
   rw [if_neg h2, if_neg h2, if_neg oM, if_neg oM]
abbrev zzGA20 : V := V.sl 2 0 fun (k : Nat) => [V.i (Prod.fst (gp [] k)), V.i (Prod.snd (gp [] k))]
abbrev yyGA22 (s : List Pt) : Ob := Ob.row 61 2 (List.length s) fun (x : Nat) => [V.c (Value.int IntKind.i64 0), V.c (Value.int IntKind.i64 0)]
set_option maxRecDepth 100000 in
theorem Cut_ac (c : Cut) (s : List Pt) (hs : s.length ≤ 4611686018427387904) : AC Tryz.prog 11 [c.v, V.pts s] (.tup [V.pts (cutR c s).1, .i (cutR c s).2]) [] := by
 refine acI hTT hMX Tryz.func11 Tryz.ntmps11 fun C hC hF => ?_
 refine sX hTT 2 3 [] tI (sK fun K hK => sK fun K hK => wR 3 (aX hTT 1 [] tI ?_))
 refine eC (cutCheck_ac c) ?_
 refine aX hTT 1 [] tI (nK hK ?_); clear hK K; refine sX hTT 4 2 [] tI ?_
 refine w_cond (t := !decide (cutE c = 0)) kR (fun c1 => ?_) (fun c1 => ?_)
 ·
  simp at c1
  refine sX hTT 5 3 [] tI ?_
  refine aw_ret ?_
  refine xt_r ?_
  rw [cutR_1 c1]
  refine ret_of_le (le_nil 4 (sz := 2) 0 (fun k => [.i (gp [] k).1, .i (gp [] k).2]) kR ?_) ?_
  ·
   rfl
  refine rP (V.tup [zzGA20, V.i (cutE c)])
 simp at c1
 refine aw_skip ?_
 refine xt_n (hK _ ?_); clear hK K; refine sK fun K hK => sK fun K hK => wR 5 (aX hTT 1 [] tI ?_)
 refine eC (tCheckSamples_ac s hs) ?_
 refine aX hTT 1 [] tI (nK hK ?_); clear hK K; refine sX hTT 6 2 [] tI ?_
 refine w_cond (t := !decide (sChk s = 0)) kR (fun c2 => ?_) (fun c2 => ?_)
 ·
  simp at c2
  refine sX hTT 7 3 [] tI ?_
  refine aw_ret ?_
  refine xt_r ?_
  rw [cutR_2 c1 c2]
  refine ret_of_le (le_nil 4 (sz := 2) 0 (fun k => [.i (gp [] k).1, .i (gp [] k).2]) kR ?_) ?_
  ·
   rfl
  refine rP (V.tup [zzGA20, V.i (sChk s)])
 simp at c2
 obtain ⟨l1, l2⟩ := sChk_ok.1 c2
 refine aw_skip ?_
 refine xt_n (hK _ ?_); clear hK K; refine sX hTT 7 4 [(2, .r (PR.mk (some (23 : Nat)) (some ((0 : Int) ≤ (↑(List.length s) : Int) ∧ (↑(List.length s) : Int) ≤ (↑(List.length s) : Int) ∧ (↑(List.length s) : Int) ≤ 1099511627776)) (V.own 600023) [((600023 : Nat), some ((yyGA22 s)))] false))] ⟨⟨oM, oM⟩, tI⟩ (sK fun K hK => sX hTT 8 3 [] tI ?_)
 refine aw_block ?_
 refine w_loop (ι := Nat) (fun k => [(2, .ptr [.i c.half, .i c.gain, .i c.thin, .i c.wide, .i c.slope, .i c.jerk, .i c.sty]), (8, .own 8), (24, V.pts s), (25, .i s.length), (26, .i k)]) (fun k => [(8, .row 61 2 s.length fun j => [.i (cutA c s k j), .i (cutB c s k j)])]) (fun k => k ≤ s.length) (fun k => s.length - k) 0 (Nat.zero_le _) ?_ ?_
 ·
  refine le_ren (sl := [(8, Ob.row 61 2 (List.length s) fun (j : Nat) => [V.i (cutA c s (0 : Nat) j), V.i (cutB c s (0 : Nat) j)])]) [(8, 600023)] (.cons kR (.cons kR (.cons kR (.cons kR (.cons kR .nil))))) (.cons ⟨(yyGA22 s), kR, .row kR (fun _ _ => rfl)⟩ .nil) kR kR
 intro k hk
 refine sX hTT 2 1 [] tI (sK fun K hK => ?_)
 refine w_cond (t := decide ((↑k : Int) < (↑(List.length s) : Int))) kR (fun c3 => ?_) (fun c3 => ?_)
 ·
  simp at c3
  have hsk := sE_iff.1 (l2 k c3)
  refine aw_skip ?_
  refine xt_n (hK _ ?_); clear hK K; refine sK fun K hK => ?_
  refine aw_block ?_
  refine sX hTT 3 6 [(1, .c ((0 : Int) ≤ (↑k : Int) ∧ (↑k : Int) < (↑(List.length s) : Int))), (3, .r (pn 10 (V.ref 200010 0) (200010 : Nat) (Ob.box 57 [V.i 0, V.i 0]))), (5, .r (pw ((0 : Nat) + (2 : Nat) ≤ (2 : Nat)) (200010 : Nat) (Ob.box 57 [V.i (Prod.fst (gp s k)), V.i (Prod.snd (gp s k))])))] ⟨oM, oM, tI⟩ (wR 4 (aX hTT 4 [(3, .c ((0 : Nat) ≤ (2 : Nat)))] ⟨oM, tI⟩ ?_))
  refine eC (point_ac c (gp s k) c1 oM) ?_
  refine aX hTT 2 [(0, .c ((0 : Int) ≤ (↑k : Int) ∧ (↑k : Int) < (↑(List.length s) : Int))), (1, .r (pw (k < List.length s ∧ (0 : Nat) + (2 : Nat) ≤ (2 : Nat)) (8 : Nat) (Ob.row 61 2 (List.length s) fun (j : Nat) => if j = k then [V.i (Prod.fst (wallP c (gp s k))), V.i (Prod.snd (wallP c (gp s k)))] else [V.i (cutA c s k j), V.i (cutB c s k j)])))] ⟨oM, oM, tI⟩ (aops_nil (xb_n (xt_n (hK _ ?_)))); clear hK K; refine wR 5 (aX hTT 2 [(0, .i ((↑k : Int) + 1))] ⟨oM, tI⟩ (aops_nil (xt_n ?_)))
  refine ⟨k + 1, by omega, ?_, by omega⟩
  refine le_ren (tl := [(2, V.ptr [V.i (Cut.half c), V.i (Cut.gain c), V.i (Cut.thin c), V.i (Cut.wide c), V.i (Cut.slope c), V.i (Cut.jerk c), V.i (Cut.sty c)]), (8, V.own 8), (24, V.sl 2 (List.length s) fun (k : Nat) => [V.i (Prod.fst (gp s k)), V.i (Prod.snd (gp s k))]), (25, V.i (↑(List.length s) : Int)), (26, V.i (↑(k + 1) : Int))]) (sl := [(8, Ob.row 61 2 (List.length s) fun (j : Nat) => [V.i (cutA c s (k + 1) j), V.i (cutB c s (k + 1) j)])]) [(8, 8)] (.cons kR (.cons kR (.cons kR (.cons kR (.cons kR .nil))))) (.cons ⟨Ob.row 61 2 (List.length s) fun (j : Nat) => if j = k then [V.i (Prod.fst (wallP c (gp s k))), V.i (Prod.snd (wallP c (gp s k)))] else [V.i (cutA c s k j), V.i (cutB c s k j)], kR, .row kR ?_⟩ .nil) kR kR
  intro i hi
  exact cutAB_set i
 ·
  simp at c3
  obtain rfl : k = s.length := by omega
  refine aw_exit ?_
  refine xt_x ?_; refine xt_x ?_
  refine xb_same ?_
  refine xt_n ?_; clear hK K; refine hK _ ?_; clear hK K; refine sX hTT 3 3 [] tI ?_
  refine aw_ret ?_
  rw [cutR_3 c1 c2]
  refine ret_of_le (le_shut 4 8 (e := (61 : Nat)) (sz := (2 : Nat)) (n := List.length s) (n' := (s.map (wallP c)).length) (row := fun (j : Nat) => [V.i (cutA c s (List.length s) j), V.i (cutB c s (List.length s) j)]) (row' := (fun j => [.i (gp (s.map (wallP c)) j).1, .i (gp (s.map (wallP c)) j).2])) kR kR (fun _ _ => rfl) ?_ ?_) ?_
  ·
   simp
  ·
   intro i hi
   rw [gp_map hi, cutA, cutB, if_pos hi, if_pos hi]
  refine rP (V.tup [V.sl 2 (List.length (List.map (wallP c) s)) fun (j : Nat) => [V.i (Prod.fst (gp (List.map (wallP c) s) j)), V.i (Prod.snd (gp (List.map (wallP c) s) j))], V.i 0])
end Go.Proofs.YtpmchnojeloohaaGreatDoor

namespace Go.Proofs.YtpmchnojeloohaaGreatDoor
open Go.Ab Go.RowKit Go.Dw Go.Shelf
theorem eFNR1 {x c : Bool} (h : x = c) : (x == c) = true := by rw [h]; cases c <;> rfl
theorem nmB_len {s : List UInt8} (h : s.length < 1 ∨ 20 < s.length) : nmB s = false := by
 unfold nmB
 by_cases h1 : 1 ≤ s.length <;> by_cases h2 : s.length ≤ 20 <;> simp [h1, h2]
 omega
theorem nmB_bad {s : List UInt8} {k : Nat} (hk : k < s.length) (h : chB (gby s k) = false) : nmB s = false := by
 unfold nmB
 have : ((List.range s.length).all fun k => chB (gby s k)) = false := by
  rw [List.all_eq_false]
  exact ⟨k, List.mem_range.2 hk, by rw [h]; decide⟩
 rw [this, Bool.and_false]
theorem nmB_ok {s : List UInt8} (h1 : 1 ≤ s.length) (h2 : s.length ≤ 20) (h : ∀ k, k < s.length → chB (gby s k) = true) : nmB s = true := by
 unfold nmB
 simp only [Bool.and_eq_true, decide_eq_true_eq, List.all_eq_true, List.mem_range]
 exact ⟨⟨h1, h2⟩, h⟩
theorem nmB_inv {s : List UInt8} (h : nmB s = true) : 1 ≤ s.length ∧ s.length ≤ 20 ∧ ∀ k, k < s.length → chB (gby s k) = true := by
 unfold nmB at h
 simp only [Bool.and_eq_true, decide_eq_true_eq, List.all_eq_true, List.mem_range] at h
 exact ⟨h.1.1, h.1.2, h.2⟩
abbrev wr1B0 (k : Nat) (s : List UInt8) : Bool := decide ((97 : Int) ≤ strB (ByteArray.mk (List.toArray s)) k) == true
abbrev wr1B1 (s : List UInt8) : Bool := decide ((↑(ByteArray.size (ByteArray.mk (List.toArray s))) : Int) < 1) == false
abbrev wr1B2 (k : Nat) (s : List UInt8) : Bool := decide ((97 : Int) ≤ strB (ByteArray.mk (List.toArray s)) k) && decide (strB (ByteArray.mk (List.toArray s)) k ≤ 122)
abbrev wr1B3 (k : Nat) (s : List UInt8) : Bool := (!(wr1B2 k s)) == true && decide ((48 : Int) ≤ strB (ByteArray.mk (List.toArray s)) k) == true
set_option maxRecDepth 100000 in
theorem rIsName_ac (s : List UInt8) (hl : s.length ≤ 9223372036854775807) : AC Tryz.prog 110 [nmV s] (.b (nmB s)) [] := by
 have hsz := bytes_size s
 refine acI hTT hMX Tryz.func110 Tryz.ntmps110 fun C hC hF => ?_
 refine sX hTT 2 1 [] tI (sK fun K hK => ?_); refine sX hTT 3 8 [(4, .c (gA (wr1B1 s) True)), (5, .c (gB (wr1B1 s) True)), (6, .c (gD (wr1B1 s) True)), (7, .c (True ∧ (decide ((↑(ByteArray.size (ByteArray.mk (List.toArray s))) : Int) < 1) = false → (wr1B1 s) = true)))] ⟨⟨⟨tI, tI⟩, (fun _ => tI)⟩, ⟨⟨(by (exact fun h => h)), tI⟩, (fun _ => tI)⟩, ⟨⟨(by (exact fun h => h)), ⟨tI, tI⟩⟩, (fun _ => tI)⟩, ⟨tI, eFNR1⟩, tI⟩ ?_
 refine w_cond (t := decide ((↑(ByteArray.size (ByteArray.mk (List.toArray s))) : Int) < 1) || decide ((20 : Int) < (↑(ByteArray.size (ByteArray.mk (List.toArray s))) : Int))) kR (fun c1 => ?_) (fun c1 => ?_)
 ·
  rw [hsz] at c1
  have e := nmB_len (s := s) (by simp at c1; omega)
  refine sX hTT 4 1 [] tI ?_
  refine aw_ret ?_
  refine xt_r ?_
  rw [e]
  refine rP (V.b false)
 rw [hsz] at c1
 have h1 : 1 ≤ s.length ∧ s.length ≤ 20 := by simp at c1; omega
 refine aw_skip ?_
 refine xt_n (hK _ ?_); clear hK K; refine sK fun K hK => sX hTT 4 1 [] tI ?_
 refine aw_block ?_
 refine w_loop (ι := Nat) (fun k => [(0, nmV s), (3, .i k)]) (fun _ => []) (fun k => k ≤ s.length ∧ ∀ j, j < k → chB (gby s j) = true) (fun k => s.length - k) 0 ⟨Nat.zero_le _, fun j hj => by omega⟩ ?_ ?_
 ·
  refine le_ren [] (.cons kR (.cons kR .nil)) .nil kR kR
 rintro k ⟨hk, hj⟩
 refine sK fun K hK => sX hTT 2 4 [] tI ?_
 refine w_cond (t := decide ((↑k : Int) < (↑(ByteArray.size (ByteArray.mk (List.toArray s))) : Int))) kR (fun c2 => ?_) (fun c2 => ?_)
 ·
  rw [hsz] at c2
  have hk1 : k < s.length := by simpa using c2
  have e := strB_gby s hk1
  refine aw_skip ?_
  refine xt_n (hK _ ?_); clear hK K; refine sK fun K hK => ?_
  refine aw_block ?_
  refine sX hTT 3 24 [(2, .c ((0 : Int) ≤ (↑k : Int) ∧ (↑k : Int) < (↑(ByteArray.size (ByteArray.mk (List.toArray s))) : Int))), (5, .c (gA (wr1B0 k s) True)), (6, .c (gA (wr1B0 k s) True)), (7, .c (gC (wr1B0 k s) ((0 : Int) ≤ (↑k : Int) ∧ (↑k : Int) < (↑(ByteArray.size (ByteArray.mk (List.toArray s))) : Int)))), (8, .c (gD (wr1B0 k s) True)), (9, .c ((decide ((97 : Int) ≤ strB (ByteArray.mk (List.toArray s)) k) = true → (wr1B0 k s) = true) ∧ True)), (12, .c (gA ((!(wr1B2 k s)) == true) True)), (13, .c (gA ((!(wr1B2 k s)) == true) True)), (14, .c (gC ((!(wr1B2 k s)) == true) ((0 : Int) ≤ (↑k : Int) ∧ (↑k : Int) < (↑(ByteArray.size (ByteArray.mk (List.toArray s))) : Int)))), (15, .c (gD ((!(wr1B2 k s)) == true) True)), (16, .c (gB ((!(wr1B2 k s)) == true) True)), (17, .c (gA (wr1B3 k s) True)), (18, .c (gA (wr1B3 k s) True)), (19, .c (gC (wr1B3 k s) ((0 : Int) ≤ (↑k : Int) ∧ (↑k : Int) < (↑(ByteArray.size (ByteArray.mk (List.toArray s))) : Int)))), (20, .c (gD (wr1B3 k s) True)), (21, .c ((((!(wr1B2 k s)) == true) = true → ((!(wr1B2 k s)) == true) = true) ∧ (((!(wr1B2 k s)) == true) = true → decide ((48 : Int) ≤ strB (ByteArray.mk (List.toArray s)) k) = true → (wr1B3 k s) = true) ∧ (((!(wr1B2 k s)) == true) = true → True))), (22, .c (gB ((!(wr1B2 k s)) == true) True)), (23, .c (((!(wr1B2 k s)) = true → ((!(wr1B2 k s)) == true) = true) ∧ True))] ⟨oM, ⟨⟨tI, tI⟩, (fun _ => tI)⟩, ⟨⟨tI, tI⟩, (fun _ => tI)⟩, ⟨⟨(by (exact fun h => h)), ⟨(by (exact fun h => h)), tI⟩⟩, (by (intro hg; simp at hg; omega))⟩, ⟨⟨(by (exact fun h => h)), ⟨tI, tI⟩⟩, (fun _ => tI)⟩, ⟨eFNR1, tI⟩, ⟨⟨tI, tI⟩, (fun _ => tI)⟩, ⟨⟨tI, tI⟩, (fun _ => tI)⟩, ⟨⟨(by (exact fun h => h)), ⟨(by (exact fun h => h)), tI⟩⟩, (by (intro hg; simp at hg; omega))⟩, ⟨⟨(by (exact fun h => h)), ⟨tI, tI⟩⟩, (fun _ => tI)⟩, ⟨⟨(by (exact fun h => h)), tI⟩, (fun _ => tI)⟩, ⟨⟨tI, tI⟩, (fun _ => tI)⟩, ⟨⟨tI, tI⟩, (fun _ => tI)⟩, ⟨⟨(by (exact fun h => h)), ⟨(by (exact fun h => h)), tI⟩⟩, (by (intro hg; simp at hg; omega))⟩, ⟨⟨(by (exact fun h => h)), ⟨tI, tI⟩⟩, (fun _ => tI)⟩, ⟨(by (exact fun h => h)), ⟨(by (simp; omega)), (fun _ => tI)⟩⟩, ⟨⟨(by (exact fun h => h)), tI⟩, (fun _ => tI)⟩, ⟨eFNR1, tI⟩, tI⟩ ?_
  refine w_cond (t := !(decide ((97 : Int) ≤ strB (ByteArray.mk (List.toArray s)) k) && decide (strB (ByteArray.mk (List.toArray s)) k ≤ 122)) && !(decide ((48 : Int) ≤ strB (ByteArray.mk (List.toArray s)) k) && decide (strB (ByteArray.mk (List.toArray s)) k ≤ 57))) kR (fun c3 => ?_) (fun c3 => ?_)
  ·
   have e2 : chB (gby s k) = false := by
    rw [e] at c3
    revert c3
    unfold chB
    cases (decide (97 ≤ gby s k) && decide (gby s k ≤ 122)) <;> cases (decide (48 ≤ gby s k) && decide (gby s k ≤ 57)) <;> simp
   have e3 := nmB_bad hk1 e2
   refine sX hTT 4 1 [] tI ?_
   refine aw_ret ?_
   refine xb_r ?_
   refine xt_r (xt_r ?_)
   refine xb_r ?_
   refine xt_r ?_
   rw [e3]
   refine rP (V.b false)
  ·
   have e2 : chB (gby s k) = true := by
    rw [e] at c3
    revert c3
    unfold chB
    cases (decide (97 ≤ gby s k) && decide (gby s k ≤ 122)) <;> cases (decide (48 ≤ gby s k) && decide (gby s k ≤ 57)) <;> simp
   refine aw_skip ?_
   refine xb_n (xt_n (hK _ ?_)); clear hK K; refine wR 4 (aX hTT 3 [(1, .i ((↑k : Int) + 1))] ⟨oM, tI⟩ (aops_nil (xt_n ?_)))
   refine ⟨k + 1, ⟨by omega, fun j hj2 => ?_⟩, by refine le_ren [] (.cons kR (.cons kR .nil)) .nil kR kR, by omega⟩
   by_cases e5 : j = k
   ·
    rw [e5]; exact e2
   ·
    exact hj j oM
 ·
  rw [hsz] at c2
  have hk1 : k = s.length := by simp at c2; omega
  have e := nmB_ok h1.1 h1.2 fun j h => hj j oM
  refine aw_exit ?_
  refine xt_x ?_; refine xt_x ?_
  refine xb_same ?_
  refine xt_n ?_; clear hK K; refine hK _ ?_; clear hK K; refine sX hTT 3 1 [] tI ?_
  refine aw_ret ?_
  rw [e]
  refine rP (V.b true)
set_option maxRecDepth 100000 in
theorem rTake_ac (t : Tk) (h1 : t.1.length ≤ 9223372036854775807) (h2 : t.2.length ≤ 4611686018427387904) (h3 : ∀ k, k < t.2.length → inR2 (gp t.2 k)) : AC Tryz.prog 83 [.agg [nmV t.1, V.pts t.2]] (.i (tkE t)) [] := by
 refine acI hTT hMX Tryz.func83 Tryz.ntmps83 fun C hC hF => ?_
 refine sX hTT 2 2 [] tI (sK fun K hK => sX hTT 3 4 [] tI ?_)
 refine w_cond (t := decide ((4096 : Int) < (↑(List.length (Prod.snd t)) : Int))) kR (fun c1 => ?_) (fun c1 => ?_)
 ·
  have e : tkE t = 6 := if_pos (by simp at c1; omega)
  refine sX hTT 4 1 [] tI ?_
  refine aw_ret ?_
  refine xt_r ?_
  rw [e]
  refine rP (V.i 6)
 have n1 : ¬ 4096 < t.2.length := by simp at c1; omega
 refine aw_skip ?_
 refine xt_n (hK _ ?_); clear hK K; refine sK fun K hK => sK fun K hK => wR 4 (aX hTT 2 [] tI ?_)
 refine eC (rIsName_ac t.1 h1) ?_
 refine aX hTT 7 [(2, .c (gA ((!nmB (Prod.fst t)) == false) True)), (3, .c (gB ((!nmB (Prod.fst t)) == false) True)), (4, .c (gB ((!nmB (Prod.fst t)) == false) True)), (5, .c (gD ((!nmB (Prod.fst t)) == false) True)), (6, .c (True ∧ ((!nmB (Prod.fst t)) = false → ((!nmB (Prod.fst t)) == false) = true)))] ⟨⟨⟨tI, tI⟩, (fun _ => tI)⟩, ⟨⟨(by (exact fun h => h)), tI⟩, (fun _ => tI)⟩, ⟨⟨(by (exact fun h => h)), tI⟩, (fun _ => tI)⟩, ⟨⟨(by (exact fun h => h)), ⟨tI, tI⟩⟩, (fun _ => tI)⟩, ⟨tI, eFNR1⟩, tI⟩ ?_; refine nK hK ?_; clear hK K
 refine w_cond (t := !nmB (Prod.fst t) || decide ((↑(List.length (Prod.snd t)) : Int) = 0)) kR (fun c2 => ?_) (fun c2 => ?_)
 ·
  have e : tkE t = 2 := by
   rw [tkE, if_neg n1, if_pos]
   rw [tkBad]
   simp at c2
   rcases c2 with c2 | c2 <;> simp [c2]
  refine sX hTT 5 1 [] tI ?_
  refine aw_ret ?_
  refine xt_r ?_
  rw [e]
  refine rP (V.i 2)
 have e : sChk t.2 = tkE t := by
  simp at c2
  rw [sChk, if_neg n1, tkE, if_neg n1]
  cases h4 : t.2.all sE with
  | true => rw [if_pos rfl, if_neg (by rw [tkBad, h4]; simp [c2])]
  | false => rw [if_neg (by decide), if_pos (by rw [tkBad, h4]; simp)]
 refine aw_skip ?_
 refine xt_n (hK _ ?_); clear hK K; refine sK fun K hK => wR 5 (aX hTT 2 [] tI ?_)
 refine eC (rCheckSamples_ac t.2 h2 h3) ?_
 rw [e]
 refine aX hTT 1 [] tI (nK hK ?_); clear hK K
 refine aw_ret ?_
 refine rP (V.i (tkE t))
end Go.Proofs.YtpmchnojeloohaaGreatDoor
