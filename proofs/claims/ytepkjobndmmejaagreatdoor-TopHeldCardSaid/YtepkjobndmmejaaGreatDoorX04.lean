/-
  Several texts in one: Which cutters are valid: the walks of both copies. No condition. .. The fault of a groove: the walks of the program. Conditions: told in each theorem.
-/
import Derived.Test.YtepkjobndmmejaaGreatDoorAbs42
import Derived.Test.YtepkjobndmmejaaGreatDoorMC
import Derived.Test.YtepkjobndmmejaaGreatDoorMD
import Derived.Test.YtepkjobndmmejaaGreatDoorX00
namespace Go.Proofs.YtepkjobndmmejaaGreatDoor
open Go.Ab Go.RowKit Go.Dw Go.Shelf
def betB (x lo hi : Int) : Bool := decide (lo ≤ x) && decide (x ≤ hi)
set_option maxRecDepth 100000 in
theorem between_ac (x lo hi : Int) : AC Tryz.prog 67 [.i x, .i lo, .i hi] (.b (betB x lo hi)) [] := by
 refine acI hTT hMX Tryz.func67 Tryz.ntmps67 fun C hC hF => ?_
 refine aw_seq_k fun K hK => wR 2 ?_; refine aX hTT 1 [] True.intro ?_; refine aops_nil (xt_n (hK _ ?_)); clear hK K; refine aw_seq_k fun K hK => wR 3 ?_; refine aX hTT 9 [(4, .c (gA (decide (lo ≤ x) == true) True)), (5, .c (gA (decide (lo ≤ x) == true) True)), (6, .c (gC (decide (lo ≤ x) == true) True)), (7, .c ((decide (lo ≤ x) = true → (decide (lo ≤ x) == true) = true) ∧ True))] ⟨⟨⟨True.intro, True.intro⟩, (fun _ => True.intro)⟩, ⟨⟨True.intro, True.intro⟩, (fun _ => True.intro)⟩, ⟨⟨(by (exact fun h => h)), ⟨(by (exact fun h => h)), True.intro⟩⟩, (fun _ => True.intro)⟩, ⟨(by (intro h; rw [h]; rfl)), True.intro⟩, True.intro⟩ ?_; refine aops_nil (xt_n (hK _ ?_)); clear hK K
 refine aw_ret ?_
 refine rP (V.b (decide (lo ≤ x) && decide (x ≤ hi)))
set_option maxRecDepth 100000 in
theorem within3_ac (x lo hi : Int) : AC Tryz.prog 30 [.i x, .i lo, .i hi] (.b (betB x lo hi)) [] := by
 refine acI hTT hMX Tryz.func30 Tryz.ntmps30 fun C hC hF => ?_
 refine aw_seq_k fun K hK => wR 2 ?_; refine aX hTT 1 [] True.intro ?_; refine aops_nil (xt_n (hK _ ?_)); clear hK K; refine aw_seq_k fun K hK => wR 3 ?_; refine aX hTT 9 [(4, .c (gA (decide (lo ≤ x) == true) True)), (5, .c (gA (decide (lo ≤ x) == true) True)), (6, .c (gC (decide (lo ≤ x) == true) True)), (7, .c ((decide (lo ≤ x) = true → (decide (lo ≤ x) == true) = true) ∧ True))] ⟨⟨⟨True.intro, True.intro⟩, (fun _ => True.intro)⟩, ⟨⟨True.intro, True.intro⟩, (fun _ => True.intro)⟩, ⟨⟨(by (exact fun h => h)), ⟨(by (exact fun h => h)), True.intro⟩⟩, (fun _ => True.intro)⟩, ⟨(by (intro h; rw [h]; rfl)), True.intro⟩, True.intro⟩ ?_; refine aops_nil (xt_n (hK _ ?_)); clear hK K
 refine aw_ret ?_
 refine rP (V.b (decide (lo ≤ x) && decide (x ≤ hi)))
structure Cut where
 half : Int
 gain : Int
 thin : Int
 wide : Int
 slope : Int
 jerk : Int
 sty : Int
def Cut.v (c : Cut) : V := .agg [.i c.half, .i c.gain, .i c.thin, .i c.wide, .i c.slope, .i c.jerk, .i c.sty]
def bnd (c : Cut) : Nat → Int × Int × Int
 | 0 => (c.half, 1, 4096)
 | 1 => (c.gain, 0, 100000)
 | 2 => (c.thin, 0, c.wide)
 | 3 => (c.wide, 0, 1048576)
 | 4 => (c.slope, 0, 10000)
 | 5 => (c.jerk, 0, 1048576)
 | _ => (c.sty, 0, 1024)
def bndB (c : Cut) (j : Nat) : Bool := betB (bnd c j).1 (bnd c j).2.1 (bnd c j).2.2
def cutE (c : Cut) : Int := if (List.range 7).all (bndB c) then 0 else 2
theorem cutE_bad {c : Cut} {j : Nat} (hj : j < 7) (h : bndB c j = false) : cutE c = 2 := by
 rw [cutE, if_neg]
 simp only [Bool.not_eq_true, List.all_eq_false]
 exact ⟨j, by simpa using hj, by simp [h]⟩
theorem cutE_good {c : Cut} (h : ∀ j, j < 7 → bndB c j = true) : cutE c = 0 := by
 rw [cutE, if_pos]
 rw [List.all_eq_true]
 exact fun j hj => h j (by simpa using hj)
theorem cutE_cases (c : Cut) : cutE c = 0 ∨ cutE c = 2 := by unfold cutE; split <;> simp
theorem cutE_ok {c : Cut} : cutE c = 0 ↔ (1 ≤ c.half ∧ c.half ≤ 4096) ∧ (0 ≤ c.gain ∧ c.gain ≤ 100000) ∧ (0 ≤ c.thin ∧ c.thin ≤ c.wide) ∧ (0 ≤ c.wide ∧ c.wide ≤ 1048576) ∧ (0 ≤ c.slope ∧ c.slope ≤ 10000) ∧ (0 ≤ c.jerk ∧ c.jerk ≤ 1048576) ∧ (0 ≤ c.sty ∧ c.sty ≤ 1024) := by
 unfold cutE
 simp [List.range_succ, bndB, bnd, betB]
 omega
abbrev qPAb170 : Prop := (0 : Int) ≤ (0 : Int) ∧ (0 : Int) < (↑(3 : Nat) : Int)
theorem qPAb170_ : qPAb170 := (by omega)
abbrev qPAb171 : Prop := (0 : Nat) ≤ (3 : Nat)
theorem qPAb171_ : qPAb171 := (by omega)
abbrev qPAb172 : Prop := (0 : Int) ≤ (1 : Int) ∧ (1 : Int) < (↑(3 : Nat) : Int)
theorem qPAb172_ : qPAb172 := (by omega)
abbrev qPAb173 : Prop := (1 : Nat) ≤ (3 : Nat)
theorem qPAb173_ : qPAb173 := (by omega)
abbrev qPAb174 : Prop := (0 : Int) ≤ (2 : Int) ∧ (2 : Int) < (↑(3 : Nat) : Int)
theorem qPAb174_ : qPAb174 := (by omega)
abbrev qPAb175 : Prop := (2 : Nat) ≤ (3 : Nat)
theorem qPAb175_ : qPAb175 := (by omega)
abbrev yyPAb170 := (pn 4 (V.ref 200004 0) (200004 : Nat) (Ob.box 129 [V.i 0, V.i 0, V.i 0]))
set_option maxRecDepth 100000 in
theorem cutCheck_ac (c : Cut) : AC Tryz.prog 33 [c.v] (.i (cutE c)) [] := by
 refine acI hTT hMX Tryz.func33 Tryz.ntmps33 fun C hC hF => ?_
 refine aw_seq_k fun K hK => wR 2 ?_; refine aX hTT 2 [] True.intro ?_; refine aops_nil (xt_n (hK _ ?_)); clear hK K; refine aw_seq_k fun K hK => ?_; refine aw_seq_k fun K hK => wR 3 ?_; refine aX hTT 25 [] True.intro ?_; refine aops_nil (xt_n (hK _ ?_)); clear hK K
 refine aw_block ?_
 refine w_loop (fun k : Nat => [(28, .agg [.i c.half, .i 1, .i 4096, .i c.gain, .i 0, .i 100000, .i c.thin, .i 0, .i c.wide, .i c.wide, .i 0, .i 1048576, .i c.slope, .i 0, .i 10000, .i c.jerk, .i 0, .i 1048576, .i c.sty, .i 0, .i 1024]), (29, .i k)]) (fun _ => [])
  (fun k => k ≤ 7 ∧ ∀ j, j < k → bndB c j = true) (fun k => 7 - k) 0 ⟨by decide, fun j hj => by omega⟩ ?_ ?_
 ·
  refine le_ren [] (.cons (by kernel_rfl) (.cons (by kernel_rfl) .nil)) .nil (by kernel_rfl) (by kernel_rfl)
 rintro k ⟨hk, hb⟩
 have h7 : k = 0 ∨ k = 1 ∨ k = 2 ∨ k = 3 ∨ k = 4 ∨ k = 5 ∨ k = 6 ∨ k = 7 := by omega
 rcases h7 with rfl | rfl | rfl | rfl | rfl | rfl | rfl | rfl
 ·
  refine aw_seq_k fun K hK => ?_
  refine wR 2 ?_; refine aX hTT 1 [] True.intro ?_; refine aops_nil (xt_n (hK _ ?_)); clear hK K; refine aw_seq_k fun K hK => ?_; refine w_true (t := true) (by kernel_rfl) rfl ?_
  refine aw_skip ?_
  refine xt_n (hK _ ?_); clear hK K; refine aw_seq_k fun K hK => ?_
  refine aw_block ?_
  refine aw_seq_k fun K hK => wR 3 ?_; refine aX hTT 3 [(0, .c ((0 : Int) ≤ (↑(0 : Nat) : Int) ∧ (↑(0 : Nat) : Int) < (↑(7 : Nat) : Int))), (1, .r yyPAb170), (2, .r (pw ((0 : Nat) + (3 : Nat) ≤ (3 : Nat)) (200004 : Nat) (Ob.box 129 [V.i (Cut.half c), V.i 1, V.i 4096])))] ⟨(by omega), (by omega), True.intro⟩ ?_; refine aops_nil (xt_n (hK _ ?_)); clear hK K; refine aw_seq_k fun K hK => wR 4 ?_; refine aX hTT 6 [(0, .c qPAb170), (1, .c qPAb171), (2, .c qPAb172), (3, .c qPAb173), (4, .c qPAb174), (5, .c qPAb175)] ⟨qPAb170_, qPAb171_, qPAb172_, qPAb173_, qPAb174_, qPAb175_, True.intro⟩ ?_
  refine eC (between_ac (bnd c 0).1 (bnd c 0).2.1 (bnd c 0).2.2) ?_
  refine aX hTT 1 [] True.intro ?_; refine aops_nil (xt_n (hK _ ?_)); clear hK K
  refine w_cond (t := !betB (Prod.fst (bnd c (0 : Nat))) (Prod.fst (Prod.snd (bnd c (0 : Nat)))) (Prod.snd (Prod.snd (bnd c (0 : Nat))))) (by kernel_rfl) (fun h2 => ?_) (fun h2 => ?_)
  ·
   refine aw_seq_k fun K hK => ?_
   refine wR 5 ?_; refine aX hTT 1 [] True.intro ?_; refine aops_nil (xt_n (hK _ ?_)); clear hK K
   refine aw_ret ?_
   refine xb_r ?_
   refine xt_r ?_; refine xt_r ?_
   refine xb_r ?_
   refine xt_r ?_
   rw [cutE_bad (j := 0) (by decide) (by simpa [bndB] using h2)]
   refine rP (V.i 2)
  refine aw_skip ?_
  refine xb_n ?_; refine xt_n (hK _ ?_); clear hK K; refine wR 5 ?_; refine aX hTT 2 [(0, .i ((↑(0 : Nat) : Int) + (1 : Int)))] ⟨(by omega), True.intro⟩ ?_; refine aops_nil ?_; refine xt_n ?_
  refine ⟨1, ⟨by decide, fun i hi => ?_⟩, ?_, by decide⟩
  ·
   by_cases he : i = 0
   ·
    subst he; simpa [bndB] using h2
   ·
    exact hb i (by omega)
  ·
   refine le_ren [] (.cons (by kernel_rfl) (.cons (by kernel_rfl) .nil)) .nil (by kernel_rfl) (by kernel_rfl)
 ·
  refine aw_seq_k fun K hK => ?_
  refine wR 2 ?_; refine aX hTT 1 [] True.intro ?_; refine aops_nil (xt_n (hK _ ?_)); clear hK K; refine aw_seq_k fun K hK => ?_; refine w_true (t := true) (by kernel_rfl) rfl ?_
  refine aw_skip ?_
  refine xt_n (hK _ ?_); clear hK K; refine aw_seq_k fun K hK => ?_
  refine aw_block ?_
  refine aw_seq_k fun K hK => wR 3 ?_; refine aX hTT 3 [(0, .c ((0 : Int) ≤ (↑(1 : Nat) : Int) ∧ (↑(1 : Nat) : Int) < (↑(7 : Nat) : Int))), (1, .r yyPAb170), (2, .r (pw ((0 : Nat) + (3 : Nat) ≤ (3 : Nat)) (200004 : Nat) (Ob.box 129 [V.i (Cut.gain c), V.i 0, V.i 100000])))] ⟨(by omega), (by omega), True.intro⟩ ?_; refine aops_nil (xt_n (hK _ ?_)); clear hK K; refine aw_seq_k fun K hK => wR 4 ?_; refine aX hTT 6 [(0, .c qPAb170), (1, .c qPAb171), (2, .c qPAb172), (3, .c qPAb173), (4, .c qPAb174), (5, .c qPAb175)] ⟨qPAb170_, qPAb171_, qPAb172_, qPAb173_, qPAb174_, qPAb175_, True.intro⟩ ?_
  refine eC (between_ac (bnd c 1).1 (bnd c 1).2.1 (bnd c 1).2.2) ?_
  refine aX hTT 1 [] True.intro ?_; refine aops_nil (xt_n (hK _ ?_)); clear hK K
  refine w_cond (t := !betB (Prod.fst (bnd c (1 : Nat))) (Prod.fst (Prod.snd (bnd c (1 : Nat)))) (Prod.snd (Prod.snd (bnd c (1 : Nat))))) (by kernel_rfl) (fun h2 => ?_) (fun h2 => ?_)
  ·
   refine aw_seq_k fun K hK => ?_
   refine wR 5 ?_; refine aX hTT 1 [] True.intro ?_; refine aops_nil (xt_n (hK _ ?_)); clear hK K
   refine aw_ret ?_
   refine xb_r ?_
   refine xt_r ?_; refine xt_r ?_
   refine xb_r ?_
   refine xt_r ?_
   rw [cutE_bad (j := 1) (by decide) (by simpa [bndB] using h2)]
   refine rP (V.i 2)
  refine aw_skip ?_
  refine xb_n ?_; refine xt_n (hK _ ?_); clear hK K; refine wR 5 ?_; refine aX hTT 2 [(0, .i ((↑(1 : Nat) : Int) + (1 : Int)))] ⟨(by omega), True.intro⟩ ?_; refine aops_nil ?_; refine xt_n ?_
  refine ⟨2, ⟨by decide, fun i hi => ?_⟩, ?_, by decide⟩
  ·
   by_cases he : i = 1
   ·
    subst he; simpa [bndB] using h2
   ·
    exact hb i (by omega)
  ·
   refine le_ren [] (.cons (by kernel_rfl) (.cons (by kernel_rfl) .nil)) .nil (by kernel_rfl) (by kernel_rfl)
 ·
  refine aw_seq_k fun K hK => ?_
  refine wR 2 ?_; refine aX hTT 1 [] True.intro ?_; refine aops_nil (xt_n (hK _ ?_)); clear hK K; refine aw_seq_k fun K hK => ?_; refine w_true (t := true) (by kernel_rfl) rfl ?_
  refine aw_skip ?_
  refine xt_n (hK _ ?_); clear hK K; refine aw_seq_k fun K hK => ?_
  refine aw_block ?_
  refine aw_seq_k fun K hK => wR 3 ?_; refine aX hTT 3 [(0, .c ((0 : Int) ≤ (↑(2 : Nat) : Int) ∧ (↑(2 : Nat) : Int) < (↑(7 : Nat) : Int))), (1, .r yyPAb170), (2, .r (pw ((0 : Nat) + (3 : Nat) ≤ (3 : Nat)) (200004 : Nat) (Ob.box 129 [V.i (Cut.thin c), V.i 0, V.i (Cut.wide c)])))] ⟨(by omega), (by omega), True.intro⟩ ?_; refine aops_nil (xt_n (hK _ ?_)); clear hK K; refine aw_seq_k fun K hK => wR 4 ?_; refine aX hTT 6 [(0, .c qPAb170), (1, .c qPAb171), (2, .c qPAb172), (3, .c qPAb173), (4, .c qPAb174), (5, .c qPAb175)] ⟨qPAb170_, qPAb171_, qPAb172_, qPAb173_, qPAb174_, qPAb175_, True.intro⟩ ?_
  refine eC (between_ac (bnd c 2).1 (bnd c 2).2.1 (bnd c 2).2.2) ?_
  refine aX hTT 1 [] True.intro ?_; refine aops_nil (xt_n (hK _ ?_)); clear hK K
  refine w_cond (t := !betB (Prod.fst (bnd c (2 : Nat))) (Prod.fst (Prod.snd (bnd c (2 : Nat)))) (Prod.snd (Prod.snd (bnd c (2 : Nat))))) (by kernel_rfl) (fun h2 => ?_) (fun h2 => ?_)
  ·
   refine aw_seq_k fun K hK => ?_
   refine wR 5 ?_; refine aX hTT 1 [] True.intro ?_; refine aops_nil (xt_n (hK _ ?_)); clear hK K
   refine aw_ret ?_
   refine xb_r ?_
   refine xt_r ?_; refine xt_r ?_
   refine xb_r ?_
   refine xt_r ?_
   rw [cutE_bad (j := 2) (by decide) (by simpa [bndB] using h2)]
   refine rP (V.i 2)
  refine aw_skip ?_
  refine xb_n ?_; refine xt_n (hK _ ?_); clear hK K; refine wR 5 ?_; refine aX hTT 2 [(0, .i ((↑(2 : Nat) : Int) + (1 : Int)))] ⟨(by omega), True.intro⟩ ?_; refine aops_nil ?_; refine xt_n ?_
  refine ⟨3, ⟨by decide, fun i hi => ?_⟩, ?_, by decide⟩
  ·
   by_cases he : i = 2
   ·
    subst he; simpa [bndB] using h2
   ·
    exact hb i (by omega)
  ·
   refine le_ren [] (.cons (by kernel_rfl) (.cons (by kernel_rfl) .nil)) .nil (by kernel_rfl) (by kernel_rfl)
 ·
  refine aw_seq_k fun K hK => ?_
  refine wR 2 ?_; refine aX hTT 1 [] True.intro ?_; refine aops_nil (xt_n (hK _ ?_)); clear hK K; refine aw_seq_k fun K hK => ?_; refine w_true (t := true) (by kernel_rfl) rfl ?_
  refine aw_skip ?_
  refine xt_n (hK _ ?_); clear hK K; refine aw_seq_k fun K hK => ?_
  refine aw_block ?_
  refine aw_seq_k fun K hK => wR 3 ?_; refine aX hTT 3 [(0, .c ((0 : Int) ≤ (↑(3 : Nat) : Int) ∧ (↑(3 : Nat) : Int) < (↑(7 : Nat) : Int))), (1, .r yyPAb170), (2, .r (pw ((0 : Nat) + (3 : Nat) ≤ (3 : Nat)) (200004 : Nat) (Ob.box 129 [V.i (Cut.wide c), V.i 0, V.i 1048576])))] ⟨(by omega), (by omega), True.intro⟩ ?_; refine aops_nil (xt_n (hK _ ?_)); clear hK K; refine aw_seq_k fun K hK => wR 4 ?_; refine aX hTT 6 [(0, .c qPAb170), (1, .c qPAb171), (2, .c qPAb172), (3, .c qPAb173), (4, .c qPAb174), (5, .c qPAb175)] ⟨qPAb170_, qPAb171_, qPAb172_, qPAb173_, qPAb174_, qPAb175_, True.intro⟩ ?_
  refine eC (between_ac (bnd c 3).1 (bnd c 3).2.1 (bnd c 3).2.2) ?_
  refine aX hTT 1 [] True.intro ?_; refine aops_nil (xt_n (hK _ ?_)); clear hK K
  refine w_cond (t := !betB (Prod.fst (bnd c (3 : Nat))) (Prod.fst (Prod.snd (bnd c (3 : Nat)))) (Prod.snd (Prod.snd (bnd c (3 : Nat))))) (by kernel_rfl) (fun h2 => ?_) (fun h2 => ?_)
  ·
   refine aw_seq_k fun K hK => ?_
   refine wR 5 ?_; refine aX hTT 1 [] True.intro ?_; refine aops_nil (xt_n (hK _ ?_)); clear hK K
   refine aw_ret ?_
   refine xb_r ?_
   refine xt_r ?_; refine xt_r ?_
   refine xb_r ?_
   refine xt_r ?_
   rw [cutE_bad (j := 3) (by decide) (by simpa [bndB] using h2)]
   refine rP (V.i 2)
  refine aw_skip ?_
  refine xb_n ?_; refine xt_n (hK _ ?_); clear hK K; refine wR 5 ?_; refine aX hTT 2 [(0, .i ((↑(3 : Nat) : Int) + (1 : Int)))] ⟨(by omega), True.intro⟩ ?_; refine aops_nil ?_; refine xt_n ?_
  refine ⟨4, ⟨by decide, fun i hi => ?_⟩, ?_, by decide⟩
  ·
   by_cases he : i = 3
   ·
    subst he; simpa [bndB] using h2
   ·
    exact hb i (by omega)
  ·
   refine le_ren [] (.cons (by kernel_rfl) (.cons (by kernel_rfl) .nil)) .nil (by kernel_rfl) (by kernel_rfl)
 ·
  refine aw_seq_k fun K hK => ?_
  refine wR 2 ?_; refine aX hTT 1 [] True.intro ?_; refine aops_nil (xt_n (hK _ ?_)); clear hK K; refine aw_seq_k fun K hK => ?_; refine w_true (t := true) (by kernel_rfl) rfl ?_
  refine aw_skip ?_
  refine xt_n (hK _ ?_); clear hK K; refine aw_seq_k fun K hK => ?_
  refine aw_block ?_
  refine aw_seq_k fun K hK => wR 3 ?_; refine aX hTT 3 [(0, .c ((0 : Int) ≤ (↑(4 : Nat) : Int) ∧ (↑(4 : Nat) : Int) < (↑(7 : Nat) : Int))), (1, .r yyPAb170), (2, .r (pw ((0 : Nat) + (3 : Nat) ≤ (3 : Nat)) (200004 : Nat) (Ob.box 129 [V.i (Cut.slope c), V.i 0, V.i 10000])))] ⟨(by omega), (by omega), True.intro⟩ ?_; refine aops_nil (xt_n (hK _ ?_)); clear hK K; refine aw_seq_k fun K hK => wR 4 ?_; refine aX hTT 6 [(0, .c qPAb170), (1, .c qPAb171), (2, .c qPAb172), (3, .c qPAb173), (4, .c qPAb174), (5, .c qPAb175)] ⟨qPAb170_, qPAb171_, qPAb172_, qPAb173_, qPAb174_, qPAb175_, True.intro⟩ ?_
  refine eC (between_ac (bnd c 4).1 (bnd c 4).2.1 (bnd c 4).2.2) ?_
  refine aX hTT 1 [] True.intro ?_; refine aops_nil (xt_n (hK _ ?_)); clear hK K
  refine w_cond (t := !betB (Prod.fst (bnd c (4 : Nat))) (Prod.fst (Prod.snd (bnd c (4 : Nat)))) (Prod.snd (Prod.snd (bnd c (4 : Nat))))) (by kernel_rfl) (fun h2 => ?_) (fun h2 => ?_)
  ·
   refine aw_seq_k fun K hK => ?_
   refine wR 5 ?_; refine aX hTT 1 [] True.intro ?_; refine aops_nil (xt_n (hK _ ?_)); clear hK K
   refine aw_ret ?_
   refine xb_r ?_
   refine xt_r ?_; refine xt_r ?_
   refine xb_r ?_
   refine xt_r ?_
   rw [cutE_bad (j := 4) (by decide) (by simpa [bndB] using h2)]
   refine rP (V.i 2)
  refine aw_skip ?_
  refine xb_n ?_; refine xt_n (hK _ ?_); clear hK K; refine wR 5 ?_; refine aX hTT 2 [(0, .i ((↑(4 : Nat) : Int) + (1 : Int)))] ⟨(by omega), True.intro⟩ ?_; refine aops_nil ?_; refine xt_n ?_
  refine ⟨5, ⟨by decide, fun i hi => ?_⟩, ?_, by decide⟩
  ·
   by_cases he : i = 4
   ·
    subst he; simpa [bndB] using h2
   ·
    exact hb i (by omega)
  ·
   refine le_ren [] (.cons (by kernel_rfl) (.cons (by kernel_rfl) .nil)) .nil (by kernel_rfl) (by kernel_rfl)
 ·
  refine aw_seq_k fun K hK => ?_
  refine wR 2 ?_; refine aX hTT 1 [] True.intro ?_; refine aops_nil (xt_n (hK _ ?_)); clear hK K; refine aw_seq_k fun K hK => ?_; refine w_true (t := true) (by kernel_rfl) rfl ?_
  refine aw_skip ?_
  refine xt_n (hK _ ?_); clear hK K; refine aw_seq_k fun K hK => ?_
  refine aw_block ?_
  refine aw_seq_k fun K hK => wR 3 ?_; refine aX hTT 3 [(0, .c ((0 : Int) ≤ (↑(5 : Nat) : Int) ∧ (↑(5 : Nat) : Int) < (↑(7 : Nat) : Int))), (1, .r yyPAb170), (2, .r (pw ((0 : Nat) + (3 : Nat) ≤ (3 : Nat)) (200004 : Nat) (Ob.box 129 [V.i (Cut.jerk c), V.i 0, V.i 1048576])))] ⟨(by omega), (by omega), True.intro⟩ ?_; refine aops_nil (xt_n (hK _ ?_)); clear hK K; refine aw_seq_k fun K hK => wR 4 ?_; refine aX hTT 6 [(0, .c qPAb170), (1, .c qPAb171), (2, .c qPAb172), (3, .c qPAb173), (4, .c qPAb174), (5, .c qPAb175)] ⟨qPAb170_, qPAb171_, qPAb172_, qPAb173_, qPAb174_, qPAb175_, True.intro⟩ ?_
  refine eC (between_ac (bnd c 5).1 (bnd c 5).2.1 (bnd c 5).2.2) ?_
  refine aX hTT 1 [] True.intro ?_; refine aops_nil (xt_n (hK _ ?_)); clear hK K
  refine w_cond (t := !betB (Prod.fst (bnd c (5 : Nat))) (Prod.fst (Prod.snd (bnd c (5 : Nat)))) (Prod.snd (Prod.snd (bnd c (5 : Nat))))) (by kernel_rfl) (fun h2 => ?_) (fun h2 => ?_)
  ·
   refine aw_seq_k fun K hK => ?_
   refine wR 5 ?_; refine aX hTT 1 [] True.intro ?_; refine aops_nil (xt_n (hK _ ?_)); clear hK K
   refine aw_ret ?_
   refine xb_r ?_
   refine xt_r ?_; refine xt_r ?_
   refine xb_r ?_
   refine xt_r ?_
   rw [cutE_bad (j := 5) (by decide) (by simpa [bndB] using h2)]
   refine rP (V.i 2)
  refine aw_skip ?_
  refine xb_n ?_; refine xt_n (hK _ ?_); clear hK K; refine wR 5 ?_; refine aX hTT 2 [(0, .i ((↑(5 : Nat) : Int) + (1 : Int)))] ⟨(by omega), True.intro⟩ ?_; refine aops_nil ?_; refine xt_n ?_
  refine ⟨6, ⟨by decide, fun i hi => ?_⟩, ?_, by decide⟩
  ·
   by_cases he : i = 5
   ·
    subst he; simpa [bndB] using h2
   ·
    exact hb i (by omega)
  ·
   refine le_ren [] (.cons (by kernel_rfl) (.cons (by kernel_rfl) .nil)) .nil (by kernel_rfl) (by kernel_rfl)
 ·
  refine aw_seq_k fun K hK => ?_
  refine wR 2 ?_; refine aX hTT 1 [] True.intro ?_; refine aops_nil (xt_n (hK _ ?_)); clear hK K; refine aw_seq_k fun K hK => ?_; refine w_true (t := true) (by kernel_rfl) rfl ?_
  refine aw_skip ?_
  refine xt_n (hK _ ?_); clear hK K; refine aw_seq_k fun K hK => ?_
  refine aw_block ?_
  refine aw_seq_k fun K hK => wR 3 ?_; refine aX hTT 3 [(0, .c ((0 : Int) ≤ (↑(6 : Nat) : Int) ∧ (↑(6 : Nat) : Int) < (↑(7 : Nat) : Int))), (1, .r yyPAb170), (2, .r (pw ((0 : Nat) + (3 : Nat) ≤ (3 : Nat)) (200004 : Nat) (Ob.box 129 [V.i (Cut.sty c), V.i 0, V.i 1024])))] ⟨(by omega), (by omega), True.intro⟩ ?_; refine aops_nil (xt_n (hK _ ?_)); clear hK K; refine aw_seq_k fun K hK => wR 4 ?_; refine aX hTT 6 [(0, .c qPAb170), (1, .c qPAb171), (2, .c qPAb172), (3, .c qPAb173), (4, .c qPAb174), (5, .c qPAb175)] ⟨qPAb170_, qPAb171_, qPAb172_, qPAb173_, qPAb174_, qPAb175_, True.intro⟩ ?_
  refine eC (between_ac (bnd c 6).1 (bnd c 6).2.1 (bnd c 6).2.2) ?_
  refine aX hTT 1 [] True.intro ?_; refine aops_nil (xt_n (hK _ ?_)); clear hK K
  refine w_cond (t := !betB (Prod.fst (bnd c (6 : Nat))) (Prod.fst (Prod.snd (bnd c (6 : Nat)))) (Prod.snd (Prod.snd (bnd c (6 : Nat))))) (by kernel_rfl) (fun h2 => ?_) (fun h2 => ?_)
  ·
   refine aw_seq_k fun K hK => ?_
   refine wR 5 ?_; refine aX hTT 1 [] True.intro ?_; refine aops_nil (xt_n (hK _ ?_)); clear hK K
   refine aw_ret ?_
   refine xb_r ?_
   refine xt_r ?_; refine xt_r ?_
   refine xb_r ?_
   refine xt_r ?_
   rw [cutE_bad (j := 6) (by decide) (by simpa [bndB] using h2)]
   refine rP (V.i 2)
  refine aw_skip ?_
  refine xb_n ?_; refine xt_n (hK _ ?_); clear hK K; refine wR 5 ?_; refine aX hTT 2 [(0, .i ((↑(6 : Nat) : Int) + (1 : Int)))] ⟨(by omega), True.intro⟩ ?_; refine aops_nil ?_; refine xt_n ?_
  refine ⟨7, ⟨by decide, fun i hi => ?_⟩, ?_, by decide⟩
  ·
   by_cases he : i = 6
   ·
    subst he; simpa [bndB] using h2
   ·
    exact hb i (by omega)
  ·
   refine le_ren [] (.cons (by kernel_rfl) (.cons (by kernel_rfl) .nil)) .nil (by kernel_rfl) (by kernel_rfl)
 ·
  refine aw_seq_k fun K hK => ?_
  refine wR 2 ?_; refine aX hTT 1 [] True.intro ?_; refine aops_nil (xt_n (hK _ ?_)); clear hK K; refine aw_seq_k fun K hK => ?_; refine w_false (t := false) (by kernel_rfl) rfl ?_
  refine aw_exit ?_
  refine xt_x ?_; refine xt_x ?_
  refine xb_same ?_
  refine xt_n ?_; clear hK K; refine hK _ ?_; clear hK K; refine aw_seq_k fun K hK => wR 3 ?_; refine aX hTT 1 [] True.intro ?_; refine aops_nil (xt_n (hK _ ?_)); clear hK K
  refine aw_ret ?_
  rw [cutE_good hb]
  refine rP (V.i 0)
theorem cut3 (c : Cut) : cutE c = if (!(betB c.half 1 4096) || !(betB c.gain 0 100000) || !(betB c.thin 0 1048576) || !(betB c.wide 0 1048576) || decide (c.wide < c.thin) || !(betB c.slope 0 10000) || !(betB c.jerk 0 1048576) || !(betB c.sty 0 1024)) = true then 2 else 0 := by
 rcases cutE_cases c with h | h
 ·
  rw [h, if_neg]
  have := cutE_ok.1 h
  simp [betB]
  omega
 ·
  rw [h, if_pos]
  have : ¬ cutE c = 0 := by rw [h]; decide
  rw [cutE_ok] at this
  simp [betB]
  omega
set_option maxRecDepth 100000 in
theorem refCheck_ac (c : Cut) : AC Tryz.prog 7 [c.v] (.i (cutE c)) [] := by
 refine acI hTT hMX Tryz.func7 Tryz.ntmps7 fun C hC hF => ?_
 refine aw_seq_k fun K hK => wR 2 ?_; refine aX hTT 2 [] True.intro ?_; refine aops_nil (xt_n (hK _ ?_)); clear hK K; refine aw_seq_k fun K hK => ?_; refine aw_seq_k fun K hK => wR 3 ?_; refine aX hTT 2 [] True.intro ?_
 refine eC (within3_ac c.half 1 4096) ?_
 refine aX hTT 4 [(2, .c (gA ((!betB (Cut.half c) (1 : Int) (4096 : Int)) == false) True)), (3, .c (gB ((!betB (Cut.half c) (1 : Int) (4096 : Int)) == false) True))] ⟨⟨⟨True.intro, True.intro⟩, (fun _ => True.intro)⟩, ⟨⟨(by (exact fun h => h)), True.intro⟩, (fun _ => True.intro)⟩, True.intro⟩ ?_
 refine eG 1 (g := (!betB (Cut.half c) (1 : Int) (4096 : Int)) == false) (fun _ => within3_ac c.gain 0 100000) ?_
 refine aX hTT 5 [(0, .c (gB ((!betB (Cut.half c) (1 : Int) (4096 : Int)) == false) True)), (1, .c (True ∧ ((!betB (Cut.half c) (1 : Int) (4096 : Int)) = false → ((!betB (Cut.half c) (1 : Int) (4096 : Int)) == false) = true))), (3, .c (gA ((!betB (Cut.half c) (1 : Int) (4096 : Int) || !betB (Cut.gain c) (0 : Int) (100000 : Int)) == false) True)), (4, .c (gB ((!betB (Cut.half c) (1 : Int) (4096 : Int) || !betB (Cut.gain c) (0 : Int) (100000 : Int)) == false) True))] ⟨⟨⟨(by (exact fun h => h)), True.intro⟩, (fun _ => True.intro)⟩, ⟨True.intro, (by (intro h; rw [h]; rfl))⟩, ⟨⟨True.intro, True.intro⟩, (fun _ => True.intro)⟩, ⟨⟨(by (exact fun h => h)), True.intro⟩, (fun _ => True.intro)⟩, True.intro⟩ ?_
 refine eG 1 (g := (!betB (Cut.half c) (1 : Int) (4096 : Int) || !betB (Cut.gain c) (0 : Int) (100000 : Int)) == false) (fun _ => within3_ac c.thin 0 1048576) ?_
 refine aops_n hTT (M := []) (n := 5) [pc (17 : Nat) (((((!betB (Cut.half c) (1 : Int) (4096 : Int) || !betB (Cut.gain c) (0 : Int) (100000 : Int)) == false) = true → ((!betB (Cut.half c) (1 : Int) (4096 : Int) || !betB (Cut.gain c) (0 : Int) (100000 : Int)) == false) = true) ∧ True) ∧ (((!betB (Cut.half c) (1 : Int) (4096 : Int) || !betB (Cut.gain c) (0 : Int) (100000 : Int)) == false) = true → True)) (V.gd ((!betB (Cut.half c) (1 : Int) (4096 : Int) || !betB (Cut.gain c) (0 : Int) (100000 : Int)) == false) (V.b !betB (Cut.thin c) (0 : Int) (1048576 : Int))), pc (18 : Nat) (True ∧ ((!betB (Cut.half c) (1 : Int) (4096 : Int) || !betB (Cut.gain c) (0 : Int) (100000 : Int)) = false → ((!betB (Cut.half c) (1 : Int) (4096 : Int) || !betB (Cut.gain c) (0 : Int) (100000 : Int)) == false) = true)) (V.b (!betB (Cut.half c) (1 : Int) (4096 : Int) || !betB (Cut.gain c) (0 : Int) (100000 : Int) || !betB (Cut.thin c) (0 : Int) (1048576 : Int))), pv (19 : Nat) (V.b (!betB (Cut.half c) (1 : Int) (4096 : Int) || !betB (Cut.gain c) (0 : Int) (100000 : Int) || !betB (Cut.thin c) (0 : Int) (1048576 : Int))), pc (20 : Nat) ((True ∧ True) ∧ (((!betB (Cut.half c) (1 : Int) (4096 : Int) || !betB (Cut.gain c) (0 : Int) (100000 : Int) || !betB (Cut.thin c) (0 : Int) (1048576 : Int)) == false) = true → True)) (V.gd ((!betB (Cut.half c) (1 : Int) (4096 : Int) || !betB (Cut.gain c) (0 : Int) (100000 : Int) || !betB (Cut.thin c) (0 : Int) (1048576 : Int)) == false) (V.ptr [V.i (Cut.wide c), V.i (Cut.slope c), V.i (Cut.jerk c), V.i (Cut.sty c)])), pc (21 : Nat) (((((!betB (Cut.half c) (1 : Int) (4096 : Int) || !betB (Cut.gain c) (0 : Int) (100000 : Int) || !betB (Cut.thin c) (0 : Int) (1048576 : Int)) == false) = true → ((!betB (Cut.half c) (1 : Int) (4096 : Int) || !betB (Cut.gain c) (0 : Int) (100000 : Int) || !betB (Cut.thin c) (0 : Int) (1048576 : Int)) == false) = true) ∧ True) ∧ (((!betB (Cut.half c) (1 : Int) (4096 : Int) || !betB (Cut.gain c) (0 : Int) (100000 : Int) || !betB (Cut.thin c) (0 : Int) (1048576 : Int)) == false) = true → True)) (V.gd ((!betB (Cut.half c) (1 : Int) (4096 : Int) || !betB (Cut.gain c) (0 : Int) (100000 : Int) || !betB (Cut.thin c) (0 : Int) (1048576 : Int)) == false) (V.i (Cut.wide c)))] (by kernel_rfl) (by kernel_rfl) ⟨⟨⟨(by (exact fun h => h)), True.intro⟩, (fun _ => True.intro)⟩, ⟨True.intro, (by (intro h; rw [h]; rfl))⟩, ⟨⟨True.intro, True.intro⟩, (fun _ => True.intro)⟩, ⟨⟨(by (exact fun h => h)), True.intro⟩, (fun _ => True.intro)⟩, True.intro⟩ ?_
 refine eG 1 (g := (!betB (Cut.half c) (1 : Int) (4096 : Int) || !betB (Cut.gain c) (0 : Int) (100000 : Int) || !betB (Cut.thin c) (0 : Int) (1048576 : Int)) == false) (fun _ => within3_ac c.wide 0 1048576) ?_
 refine aops_n hTT (M := []) (n := 12) [pc (23 : Nat) (((((!betB (Cut.half c) (1 : Int) (4096 : Int) || !betB (Cut.gain c) (0 : Int) (100000 : Int) || !betB (Cut.thin c) (0 : Int) (1048576 : Int)) == false) = true → ((!betB (Cut.half c) (1 : Int) (4096 : Int) || !betB (Cut.gain c) (0 : Int) (100000 : Int) || !betB (Cut.thin c) (0 : Int) (1048576 : Int)) == false) = true) ∧ True) ∧ (((!betB (Cut.half c) (1 : Int) (4096 : Int) || !betB (Cut.gain c) (0 : Int) (100000 : Int) || !betB (Cut.thin c) (0 : Int) (1048576 : Int)) == false) = true → True)) (V.gd ((!betB (Cut.half c) (1 : Int) (4096 : Int) || !betB (Cut.gain c) (0 : Int) (100000 : Int) || !betB (Cut.thin c) (0 : Int) (1048576 : Int)) == false) (V.b !betB (Cut.wide c) (0 : Int) (1048576 : Int))), pc (24 : Nat) (True ∧ ((!betB (Cut.half c) (1 : Int) (4096 : Int) || !betB (Cut.gain c) (0 : Int) (100000 : Int) || !betB (Cut.thin c) (0 : Int) (1048576 : Int)) = false → ((!betB (Cut.half c) (1 : Int) (4096 : Int) || !betB (Cut.gain c) (0 : Int) (100000 : Int) || !betB (Cut.thin c) (0 : Int) (1048576 : Int)) == false) = true)) (V.b (!betB (Cut.half c) (1 : Int) (4096 : Int) || !betB (Cut.gain c) (0 : Int) (100000 : Int) || !betB (Cut.thin c) (0 : Int) (1048576 : Int) || !betB (Cut.wide c) (0 : Int) (1048576 : Int))), pv (25 : Nat) (V.b (!betB (Cut.half c) (1 : Int) (4096 : Int) || !betB (Cut.gain c) (0 : Int) (100000 : Int) || !betB (Cut.thin c) (0 : Int) (1048576 : Int) || !betB (Cut.wide c) (0 : Int) (1048576 : Int))), pc (26 : Nat) ((True ∧ True) ∧ (((!betB (Cut.half c) (1 : Int) (4096 : Int) || !betB (Cut.gain c) (0 : Int) (100000 : Int) || !betB (Cut.thin c) (0 : Int) (1048576 : Int) || !betB (Cut.wide c) (0 : Int) (1048576 : Int)) == false) = true → True)) (V.gd ((!betB (Cut.half c) (1 : Int) (4096 : Int) || !betB (Cut.gain c) (0 : Int) (100000 : Int) || !betB (Cut.thin c) (0 : Int) (1048576 : Int) || !betB (Cut.wide c) (0 : Int) (1048576 : Int)) == false) (V.ptr [V.i (Cut.thin c), V.i (Cut.wide c), V.i (Cut.slope c), V.i (Cut.jerk c), V.i (Cut.sty c)])), pc (27 : Nat) (((((!betB (Cut.half c) (1 : Int) (4096 : Int) || !betB (Cut.gain c) (0 : Int) (100000 : Int) || !betB (Cut.thin c) (0 : Int) (1048576 : Int) || !betB (Cut.wide c) (0 : Int) (1048576 : Int)) == false) = true → ((!betB (Cut.half c) (1 : Int) (4096 : Int) || !betB (Cut.gain c) (0 : Int) (100000 : Int) || !betB (Cut.thin c) (0 : Int) (1048576 : Int) || !betB (Cut.wide c) (0 : Int) (1048576 : Int)) == false) = true) ∧ True) ∧ (((!betB (Cut.half c) (1 : Int) (4096 : Int) || !betB (Cut.gain c) (0 : Int) (100000 : Int) || !betB (Cut.thin c) (0 : Int) (1048576 : Int) || !betB (Cut.wide c) (0 : Int) (1048576 : Int)) == false) = true → True)) (V.gd ((!betB (Cut.half c) (1 : Int) (4096 : Int) || !betB (Cut.gain c) (0 : Int) (100000 : Int) || !betB (Cut.thin c) (0 : Int) (1048576 : Int) || !betB (Cut.wide c) (0 : Int) (1048576 : Int)) == false) (V.i (Cut.thin c))), pc (28 : Nat) ((True ∧ True) ∧ (((!betB (Cut.half c) (1 : Int) (4096 : Int) || !betB (Cut.gain c) (0 : Int) (100000 : Int) || !betB (Cut.thin c) (0 : Int) (1048576 : Int) || !betB (Cut.wide c) (0 : Int) (1048576 : Int)) == false) = true → True)) (V.gd ((!betB (Cut.half c) (1 : Int) (4096 : Int) || !betB (Cut.gain c) (0 : Int) (100000 : Int) || !betB (Cut.thin c) (0 : Int) (1048576 : Int) || !betB (Cut.wide c) (0 : Int) (1048576 : Int)) == false) (V.ptr [V.i (Cut.wide c), V.i (Cut.slope c), V.i (Cut.jerk c), V.i (Cut.sty c)])), pc (29 : Nat) (((((!betB (Cut.half c) (1 : Int) (4096 : Int) || !betB (Cut.gain c) (0 : Int) (100000 : Int) || !betB (Cut.thin c) (0 : Int) (1048576 : Int) || !betB (Cut.wide c) (0 : Int) (1048576 : Int)) == false) = true → ((!betB (Cut.half c) (1 : Int) (4096 : Int) || !betB (Cut.gain c) (0 : Int) (100000 : Int) || !betB (Cut.thin c) (0 : Int) (1048576 : Int) || !betB (Cut.wide c) (0 : Int) (1048576 : Int)) == false) = true) ∧ True) ∧ (((!betB (Cut.half c) (1 : Int) (4096 : Int) || !betB (Cut.gain c) (0 : Int) (100000 : Int) || !betB (Cut.thin c) (0 : Int) (1048576 : Int) || !betB (Cut.wide c) (0 : Int) (1048576 : Int)) == false) = true → True)) (V.gd ((!betB (Cut.half c) (1 : Int) (4096 : Int) || !betB (Cut.gain c) (0 : Int) (100000 : Int) || !betB (Cut.thin c) (0 : Int) (1048576 : Int) || !betB (Cut.wide c) (0 : Int) (1048576 : Int)) == false) (V.i (Cut.wide c))), pc (30 : Nat) (((((!betB (Cut.half c) (1 : Int) (4096 : Int) || !betB (Cut.gain c) (0 : Int) (100000 : Int) || !betB (Cut.thin c) (0 : Int) (1048576 : Int) || !betB (Cut.wide c) (0 : Int) (1048576 : Int)) == false) = true → ((!betB (Cut.half c) (1 : Int) (4096 : Int) || !betB (Cut.gain c) (0 : Int) (100000 : Int) || !betB (Cut.thin c) (0 : Int) (1048576 : Int) || !betB (Cut.wide c) (0 : Int) (1048576 : Int)) == false) = true) ∧ (((!betB (Cut.half c) (1 : Int) (4096 : Int) || !betB (Cut.gain c) (0 : Int) (100000 : Int) || !betB (Cut.thin c) (0 : Int) (1048576 : Int) || !betB (Cut.wide c) (0 : Int) (1048576 : Int)) == false) = true → ((!betB (Cut.half c) (1 : Int) (4096 : Int) || !betB (Cut.gain c) (0 : Int) (100000 : Int) || !betB (Cut.thin c) (0 : Int) (1048576 : Int) || !betB (Cut.wide c) (0 : Int) (1048576 : Int)) == false) = true) ∧ True) ∧ (((!betB (Cut.half c) (1 : Int) (4096 : Int) || !betB (Cut.gain c) (0 : Int) (100000 : Int) || !betB (Cut.thin c) (0 : Int) (1048576 : Int) || !betB (Cut.wide c) (0 : Int) (1048576 : Int)) == false) = true → True)) (V.gd ((!betB (Cut.half c) (1 : Int) (4096 : Int) || !betB (Cut.gain c) (0 : Int) (100000 : Int) || !betB (Cut.thin c) (0 : Int) (1048576 : Int) || !betB (Cut.wide c) (0 : Int) (1048576 : Int)) == false) (V.b (decide (Cut.wide c < Cut.thin c)))), pc (31 : Nat) (True ∧ ((!betB (Cut.half c) (1 : Int) (4096 : Int) || !betB (Cut.gain c) (0 : Int) (100000 : Int) || !betB (Cut.thin c) (0 : Int) (1048576 : Int) || !betB (Cut.wide c) (0 : Int) (1048576 : Int)) = false → ((!betB (Cut.half c) (1 : Int) (4096 : Int) || !betB (Cut.gain c) (0 : Int) (100000 : Int) || !betB (Cut.thin c) (0 : Int) (1048576 : Int) || !betB (Cut.wide c) (0 : Int) (1048576 : Int)) == false) = true)) (V.b (!betB (Cut.half c) (1 : Int) (4096 : Int) || !betB (Cut.gain c) (0 : Int) (100000 : Int) || !betB (Cut.thin c) (0 : Int) (1048576 : Int) || !betB (Cut.wide c) (0 : Int) (1048576 : Int) || decide (Cut.wide c < Cut.thin c))), pv (32 : Nat) (V.b (!betB (Cut.half c) (1 : Int) (4096 : Int) || !betB (Cut.gain c) (0 : Int) (100000 : Int) || !betB (Cut.thin c) (0 : Int) (1048576 : Int) || !betB (Cut.wide c) (0 : Int) (1048576 : Int) || decide (Cut.wide c < Cut.thin c))), pc (33 : Nat) ((True ∧ True) ∧ (((!betB (Cut.half c) (1 : Int) (4096 : Int) || !betB (Cut.gain c) (0 : Int) (100000 : Int) || !betB (Cut.thin c) (0 : Int) (1048576 : Int) || !betB (Cut.wide c) (0 : Int) (1048576 : Int) || decide (Cut.wide c < Cut.thin c)) == false) = true → True)) (V.gd ((!betB (Cut.half c) (1 : Int) (4096 : Int) || !betB (Cut.gain c) (0 : Int) (100000 : Int) || !betB (Cut.thin c) (0 : Int) (1048576 : Int) || !betB (Cut.wide c) (0 : Int) (1048576 : Int) || decide (Cut.wide c < Cut.thin c)) == false) (V.ptr [V.i (Cut.slope c), V.i (Cut.jerk c), V.i (Cut.sty c)])), pc (34 : Nat) (((((!betB (Cut.half c) (1 : Int) (4096 : Int) || !betB (Cut.gain c) (0 : Int) (100000 : Int) || !betB (Cut.thin c) (0 : Int) (1048576 : Int) || !betB (Cut.wide c) (0 : Int) (1048576 : Int) || decide (Cut.wide c < Cut.thin c)) == false) = true → ((!betB (Cut.half c) (1 : Int) (4096 : Int) || !betB (Cut.gain c) (0 : Int) (100000 : Int) || !betB (Cut.thin c) (0 : Int) (1048576 : Int) || !betB (Cut.wide c) (0 : Int) (1048576 : Int) || decide (Cut.wide c < Cut.thin c)) == false) = true) ∧ True) ∧ (((!betB (Cut.half c) (1 : Int) (4096 : Int) || !betB (Cut.gain c) (0 : Int) (100000 : Int) || !betB (Cut.thin c) (0 : Int) (1048576 : Int) || !betB (Cut.wide c) (0 : Int) (1048576 : Int) || decide (Cut.wide c < Cut.thin c)) == false) = true → True)) (V.gd ((!betB (Cut.half c) (1 : Int) (4096 : Int) || !betB (Cut.gain c) (0 : Int) (100000 : Int) || !betB (Cut.thin c) (0 : Int) (1048576 : Int) || !betB (Cut.wide c) (0 : Int) (1048576 : Int) || decide (Cut.wide c < Cut.thin c)) == false) (V.i (Cut.slope c)))] (by kernel_rfl) (by kernel_rfl) ⟨⟨⟨(by (exact fun h => h)), True.intro⟩, (fun _ => True.intro)⟩, ⟨True.intro, (by (intro h; rw [h]; rfl))⟩, ⟨⟨True.intro, True.intro⟩, (fun _ => True.intro)⟩, ⟨⟨(by (exact fun h => h)), True.intro⟩, (fun _ => True.intro)⟩, ⟨⟨True.intro, True.intro⟩, (fun _ => True.intro)⟩, ⟨⟨(by (exact fun h => h)), True.intro⟩, (fun _ => True.intro)⟩, ⟨⟨(by (exact fun h => h)), ⟨(by (exact fun h => h)), True.intro⟩⟩, (fun _ => True.intro)⟩, ⟨True.intro, (by (intro h; rw [h]; rfl))⟩, ⟨⟨True.intro, True.intro⟩, (fun _ => True.intro)⟩, ⟨⟨(by (exact fun h => h)), True.intro⟩, (fun _ => True.intro)⟩, True.intro⟩ ?_
 refine eG 1 (g := (!betB (Cut.half c) (1 : Int) (4096 : Int) || !betB (Cut.gain c) (0 : Int) (100000 : Int) || !betB (Cut.thin c) (0 : Int) (1048576 : Int) || !betB (Cut.wide c) (0 : Int) (1048576 : Int) || decide (Cut.wide c < Cut.thin c)) == false) (fun _ => within3_ac c.slope 0 10000) ?_
 refine aX hTT 5 [(0, .c (gB ((!betB (Cut.half c) (1 : Int) (4096 : Int) || !betB (Cut.gain c) (0 : Int) (100000 : Int) || !betB (Cut.thin c) (0 : Int) (1048576 : Int) || !betB (Cut.wide c) (0 : Int) (1048576 : Int) || decide (Cut.wide c < Cut.thin c)) == false) True)), (1, .c (True ∧ ((!betB (Cut.half c) (1 : Int) (4096 : Int) || !betB (Cut.gain c) (0 : Int) (100000 : Int) || !betB (Cut.thin c) (0 : Int) (1048576 : Int) || !betB (Cut.wide c) (0 : Int) (1048576 : Int) || decide (Cut.wide c < Cut.thin c)) = false → ((!betB (Cut.half c) (1 : Int) (4096 : Int) || !betB (Cut.gain c) (0 : Int) (100000 : Int) || !betB (Cut.thin c) (0 : Int) (1048576 : Int) || !betB (Cut.wide c) (0 : Int) (1048576 : Int) || decide (Cut.wide c < Cut.thin c)) == false) = true))), (3, .c (gA ((!betB (Cut.half c) (1 : Int) (4096 : Int) || !betB (Cut.gain c) (0 : Int) (100000 : Int) || !betB (Cut.thin c) (0 : Int) (1048576 : Int) || !betB (Cut.wide c) (0 : Int) (1048576 : Int) || decide (Cut.wide c < Cut.thin c) || !betB (Cut.slope c) (0 : Int) (10000 : Int)) == false) True)), (4, .c (gB ((!betB (Cut.half c) (1 : Int) (4096 : Int) || !betB (Cut.gain c) (0 : Int) (100000 : Int) || !betB (Cut.thin c) (0 : Int) (1048576 : Int) || !betB (Cut.wide c) (0 : Int) (1048576 : Int) || decide (Cut.wide c < Cut.thin c) || !betB (Cut.slope c) (0 : Int) (10000 : Int)) == false) True))] ⟨⟨⟨(by (exact fun h => h)), True.intro⟩, (fun _ => True.intro)⟩, ⟨True.intro, (by (intro h; rw [h]; rfl))⟩, ⟨⟨True.intro, True.intro⟩, (fun _ => True.intro)⟩, ⟨⟨(by (exact fun h => h)), True.intro⟩, (fun _ => True.intro)⟩, True.intro⟩ ?_
 refine eG 1 (g := (!betB (Cut.half c) (1 : Int) (4096 : Int) || !betB (Cut.gain c) (0 : Int) (100000 : Int) || !betB (Cut.thin c) (0 : Int) (1048576 : Int) || !betB (Cut.wide c) (0 : Int) (1048576 : Int) || decide (Cut.wide c < Cut.thin c) || !betB (Cut.slope c) (0 : Int) (10000 : Int)) == false) (fun _ => within3_ac c.jerk 0 1048576) ?_
 refine aX hTT 5 [(0, .c (gB ((!betB (Cut.half c) (1 : Int) (4096 : Int) || !betB (Cut.gain c) (0 : Int) (100000 : Int) || !betB (Cut.thin c) (0 : Int) (1048576 : Int) || !betB (Cut.wide c) (0 : Int) (1048576 : Int) || decide (Cut.wide c < Cut.thin c) || !betB (Cut.slope c) (0 : Int) (10000 : Int)) == false) True)), (1, .c (True ∧ ((!betB (Cut.half c) (1 : Int) (4096 : Int) || !betB (Cut.gain c) (0 : Int) (100000 : Int) || !betB (Cut.thin c) (0 : Int) (1048576 : Int) || !betB (Cut.wide c) (0 : Int) (1048576 : Int) || decide (Cut.wide c < Cut.thin c) || !betB (Cut.slope c) (0 : Int) (10000 : Int)) = false → ((!betB (Cut.half c) (1 : Int) (4096 : Int) || !betB (Cut.gain c) (0 : Int) (100000 : Int) || !betB (Cut.thin c) (0 : Int) (1048576 : Int) || !betB (Cut.wide c) (0 : Int) (1048576 : Int) || decide (Cut.wide c < Cut.thin c) || !betB (Cut.slope c) (0 : Int) (10000 : Int)) == false) = true))), (3, .c (gA ((!betB (Cut.half c) (1 : Int) (4096 : Int) || !betB (Cut.gain c) (0 : Int) (100000 : Int) || !betB (Cut.thin c) (0 : Int) (1048576 : Int) || !betB (Cut.wide c) (0 : Int) (1048576 : Int) || decide (Cut.wide c < Cut.thin c) || !betB (Cut.slope c) (0 : Int) (10000 : Int) || !betB (Cut.jerk c) (0 : Int) (1048576 : Int)) == false) True)), (4, .c (gB ((!betB (Cut.half c) (1 : Int) (4096 : Int) || !betB (Cut.gain c) (0 : Int) (100000 : Int) || !betB (Cut.thin c) (0 : Int) (1048576 : Int) || !betB (Cut.wide c) (0 : Int) (1048576 : Int) || decide (Cut.wide c < Cut.thin c) || !betB (Cut.slope c) (0 : Int) (10000 : Int) || !betB (Cut.jerk c) (0 : Int) (1048576 : Int)) == false) True))] ⟨⟨⟨(by (exact fun h => h)), True.intro⟩, (fun _ => True.intro)⟩, ⟨True.intro, (by (intro h; rw [h]; rfl))⟩, ⟨⟨True.intro, True.intro⟩, (fun _ => True.intro)⟩, ⟨⟨(by (exact fun h => h)), True.intro⟩, (fun _ => True.intro)⟩, True.intro⟩ ?_
 refine eG 1 (g := (!betB (Cut.half c) (1 : Int) (4096 : Int) || !betB (Cut.gain c) (0 : Int) (100000 : Int) || !betB (Cut.thin c) (0 : Int) (1048576 : Int) || !betB (Cut.wide c) (0 : Int) (1048576 : Int) || decide (Cut.wide c < Cut.thin c) || !betB (Cut.slope c) (0 : Int) (10000 : Int) || !betB (Cut.jerk c) (0 : Int) (1048576 : Int)) == false) (fun _ => within3_ac c.sty 0 1024) ?_
 refine aops_n hTT (M := []) (n := 2) [pc (48 : Nat) (((((!betB (Cut.half c) (1 : Int) (4096 : Int) || !betB (Cut.gain c) (0 : Int) (100000 : Int) || !betB (Cut.thin c) (0 : Int) (1048576 : Int) || !betB (Cut.wide c) (0 : Int) (1048576 : Int) || decide (Cut.wide c < Cut.thin c) || !betB (Cut.slope c) (0 : Int) (10000 : Int) || !betB (Cut.jerk c) (0 : Int) (1048576 : Int)) == false) = true → ((!betB (Cut.half c) (1 : Int) (4096 : Int) || !betB (Cut.gain c) (0 : Int) (100000 : Int) || !betB (Cut.thin c) (0 : Int) (1048576 : Int) || !betB (Cut.wide c) (0 : Int) (1048576 : Int) || decide (Cut.wide c < Cut.thin c) || !betB (Cut.slope c) (0 : Int) (10000 : Int) || !betB (Cut.jerk c) (0 : Int) (1048576 : Int)) == false) = true) ∧ True) ∧ (((!betB (Cut.half c) (1 : Int) (4096 : Int) || !betB (Cut.gain c) (0 : Int) (100000 : Int) || !betB (Cut.thin c) (0 : Int) (1048576 : Int) || !betB (Cut.wide c) (0 : Int) (1048576 : Int) || decide (Cut.wide c < Cut.thin c) || !betB (Cut.slope c) (0 : Int) (10000 : Int) || !betB (Cut.jerk c) (0 : Int) (1048576 : Int)) == false) = true → True)) (V.gd ((!betB (Cut.half c) (1 : Int) (4096 : Int) || !betB (Cut.gain c) (0 : Int) (100000 : Int) || !betB (Cut.thin c) (0 : Int) (1048576 : Int) || !betB (Cut.wide c) (0 : Int) (1048576 : Int) || decide (Cut.wide c < Cut.thin c) || !betB (Cut.slope c) (0 : Int) (10000 : Int) || !betB (Cut.jerk c) (0 : Int) (1048576 : Int)) == false) (V.b !betB (Cut.sty c) (0 : Int) (1024 : Int))), pc (49 : Nat) (True ∧ ((!betB (Cut.half c) (1 : Int) (4096 : Int) || !betB (Cut.gain c) (0 : Int) (100000 : Int) || !betB (Cut.thin c) (0 : Int) (1048576 : Int) || !betB (Cut.wide c) (0 : Int) (1048576 : Int) || decide (Cut.wide c < Cut.thin c) || !betB (Cut.slope c) (0 : Int) (10000 : Int) || !betB (Cut.jerk c) (0 : Int) (1048576 : Int)) = false → ((!betB (Cut.half c) (1 : Int) (4096 : Int) || !betB (Cut.gain c) (0 : Int) (100000 : Int) || !betB (Cut.thin c) (0 : Int) (1048576 : Int) || !betB (Cut.wide c) (0 : Int) (1048576 : Int) || decide (Cut.wide c < Cut.thin c) || !betB (Cut.slope c) (0 : Int) (10000 : Int) || !betB (Cut.jerk c) (0 : Int) (1048576 : Int)) == false) = true)) (V.b (!betB (Cut.half c) (1 : Int) (4096 : Int) || !betB (Cut.gain c) (0 : Int) (100000 : Int) || !betB (Cut.thin c) (0 : Int) (1048576 : Int) || !betB (Cut.wide c) (0 : Int) (1048576 : Int) || decide (Cut.wide c < Cut.thin c) || !betB (Cut.slope c) (0 : Int) (10000 : Int) || !betB (Cut.jerk c) (0 : Int) (1048576 : Int) || !betB (Cut.sty c) (0 : Int) (1024 : Int)))] (by kernel_rfl) (by kernel_rfl) ⟨⟨⟨(by (exact fun h => h)), True.intro⟩, (fun _ => True.intro)⟩, ⟨True.intro, (by (intro h; rw [h]; rfl))⟩, True.intro⟩ ?_
 refine aops_nil (xt_n (hK _ ?_)); clear hK K
 refine w_cond (t := !betB (Cut.half c) (1 : Int) (4096 : Int) || !betB (Cut.gain c) (0 : Int) (100000 : Int) || !betB (Cut.thin c) (0 : Int) (1048576 : Int) || !betB (Cut.wide c) (0 : Int) (1048576 : Int) || decide (Cut.wide c < Cut.thin c) || !betB (Cut.slope c) (0 : Int) (10000 : Int) || !betB (Cut.jerk c) (0 : Int) (1048576 : Int) || !betB (Cut.sty c) (0 : Int) (1024 : Int)) (by kernel_rfl) (fun h => ?_) (fun h => ?_)
 ·
  refine aw_seq_k fun K hK => ?_
  refine wR 4 ?_
  refine aops_n hTT (M := []) (n := 1) [pv (2 : Nat) (V.i (2 : Int))] (by kernel_rfl) (by kernel_rfl) True.intro ?_
  refine aops_nil (xt_n (hK _ ?_)); clear hK K
  refine aw_ret ?_
  refine xt_r ?_
  rw [cut3, if_pos h]
  refine rP (V.i (2 : Int))
 refine aw_skip ?_
 refine xt_n (hK _ ?_); clear hK K; refine aw_seq_k fun K hK => wR 4 ?_; refine aX hTT 1 [] True.intro ?_; refine aops_nil (xt_n (hK _ ?_)); clear hK K
 refine aw_ret ?_
 rw [cut3, if_neg (by rw [h]; decide)]
 refine rP (V.i (0 : Int))
end Go.Proofs.YtepkjobndmmejaaGreatDoor

namespace Go.Proofs.YtepkjobndmmejaaGreatDoor
open Go.Ab Go.RowKit Go.Dw Go.Shelf
def gE (p : Pt) : Bool := betB p.1 (-4194304) 4194304 && betB p.2 (-4194304) 4194304
def sE (p : Pt) : Bool := betB p.1 (-32767) 32767 && betB p.2 (-32767) 32767
def gChk (l : List Pt) : Int := if 4096 < l.length then 6 else if l.all gE then 0 else 2
def sChk (l : List Pt) : Int := if 4096 < l.length then 6 else if l.all sE then 0 else 2
theorem gE_iff {p : Pt} : gE p = true ↔ (-4194304 ≤ p.1 ∧ p.1 ≤ 4194304) ∧ -4194304 ≤ p.2 ∧ p.2 ≤ 4194304 := by simp [gE, betB]
theorem sE_iff {p : Pt} : sE p = true ↔ (-32767 ≤ p.1 ∧ p.1 ≤ 32767) ∧ -32767 ≤ p.2 ∧ p.2 ≤ 32767 := by simp [sE, betB]
theorem all_gp {l : List Pt} {f : Pt → Bool} : l.all f = true ↔ ∀ k, k < l.length → f (gp l k) = true := by
 rw [List.all_eq_true]
 constructor
 ·
  intro h k hk
  have : gp l k = l[k] := by simp [gp, List.getD_eq_getElem?_getD, List.getElem?_eq_getElem hk]
  rw [this]; exact h _ (List.getElem_mem hk)
 ·
  intro h x hx
  obtain ⟨k, hk, rfl⟩ := List.getElem_of_mem hx
  have : gp l k = l[k] := by simp [gp, List.getD_eq_getElem?_getD, List.getElem?_eq_getElem hk]
  rw [← this]; exact h k hk
theorem gChk_many {l : List Pt} (h : 4096 < l.length) : gChk l = 6 := by rw [gChk, if_pos h]
theorem gChk_bad {l : List Pt} {k : Nat} (h : ¬ 4096 < l.length) (hk : k < l.length) (hb : gE (gp l k) = false) : gChk l = 2 := by
 rw [gChk, if_neg h, if_neg]
 intro ha
 rw [all_gp.1 ha k hk] at hb
 cases hb
theorem gChk_good {l : List Pt} (h : ¬ 4096 < l.length) (hb : ∀ k, k < l.length → gE (gp l k) = true) : gChk l = 0 := by rw [gChk, if_neg h, if_pos (all_gp.2 hb)]
theorem gChk_ok {l : List Pt} : gChk l = 0 ↔ l.length ≤ 4096 ∧ ∀ k, k < l.length → gE (gp l k) = true := by
 constructor
 ·
  intro h
  unfold gChk at h
  split at h
  ·
   cases h
  ·
   split at h
   ·
    rename_i h1 h2; exact ⟨by omega, all_gp.1 h2⟩
   ·
    cases h
 ·
  rintro ⟨h1, h2⟩; exact gChk_good (by omega) h2
theorem sChk_many {l : List Pt} (h : 4096 < l.length) : sChk l = 6 := by rw [sChk, if_pos h]
theorem sChk_bad {l : List Pt} {k : Nat} (h : ¬ 4096 < l.length) (hk : k < l.length) (hb : sE (gp l k) = false) : sChk l = 2 := by
 rw [sChk, if_neg h, if_neg]
 intro ha
 rw [all_gp.1 ha k hk] at hb
 cases hb
theorem sChk_good {l : List Pt} (h : ¬ 4096 < l.length) (hb : ∀ k, k < l.length → sE (gp l k) = true) : sChk l = 0 := by rw [sChk, if_neg h, if_pos (all_gp.2 hb)]
theorem sChk_ok {l : List Pt} : sChk l = 0 ↔ l.length ≤ 4096 ∧ ∀ k, k < l.length → sE (gp l k) = true := by
 constructor
 ·
  intro h
  unfold sChk at h
  split at h
  ·
   cases h
  ·
   split at h
   ·
    rename_i h1 h2; exact ⟨by omega, all_gp.1 h2⟩
   ·
    cases h
 ·
  rintro ⟨h1, h2⟩; exact sChk_good (by omega) h2
set_option maxRecDepth 100000 in
theorem gEdged_ac (p : Pt) : AC Tryz.prog 58 [.agg [.i p.1, .i p.2]] (.b (gE p)) [] := by
 refine acI hTT hMX Tryz.func58 Tryz.ntmps58 fun C hC hF => ?_
 refine aw_seq_k fun K hK => wR 2 ?_
 refine aops_n hTT (M := []) (n := 2) [pv (1 : Nat) (V.ptr [V.i (Prod.fst p), V.i (Prod.snd p)]), pv (2 : Nat) (V.b false)] (by kernel_rfl) (by kernel_rfl) True.intro ?_
 refine aops_nil (xt_n (hK _ ?_)); clear hK K; refine aw_seq_k fun K hK => wR 3 ?_
 refine aops_n hTT (M := []) (n := 2) [pv (3 : Nat) (V.ptr [V.i (Prod.fst p), V.i (Prod.snd p)]), pv (4 : Nat) (V.i (Prod.fst p))] (by kernel_rfl) (by kernel_rfl) True.intro ?_
 refine eC (between_ac p.1 (-4194304) 4194304) ?_
 refine aops_n hTT (M := []) (n := 3) [pv (6 : Nat) (V.b (betB (Prod.fst p) (-4194304 : Int) (4194304 : Int))), pc (7 : Nat) ((True ∧ True) ∧ ((betB (Prod.fst p) (-4194304 : Int) (4194304 : Int) == true) = true → True)) (V.gd (betB (Prod.fst p) (-4194304 : Int) (4194304 : Int) == true) (V.ptr [V.i (Prod.snd p)])), pc (8 : Nat) ((((betB (Prod.fst p) (-4194304 : Int) (4194304 : Int) == true) = true → (betB (Prod.fst p) (-4194304 : Int) (4194304 : Int) == true) = true) ∧ True) ∧ ((betB (Prod.fst p) (-4194304 : Int) (4194304 : Int) == true) = true → True)) (V.gd (betB (Prod.fst p) (-4194304 : Int) (4194304 : Int) == true) (V.i (Prod.snd p)))] (by kernel_rfl) (by kernel_rfl) ⟨⟨⟨True.intro, True.intro⟩, (fun _ => True.intro)⟩, ⟨⟨(by (exact fun h => h)), True.intro⟩, (fun _ => True.intro)⟩, True.intro⟩ ?_
 refine eG 1 (g := betB (Prod.fst p) (-4194304 : Int) (4194304 : Int) == true) (fun h => between_ac p.2 (-4194304) 4194304) ?_
 refine aops_n hTT (M := []) (n := 2) [pc (10 : Nat) ((betB (Prod.fst p) (-4194304 : Int) (4194304 : Int) = true → (betB (Prod.fst p) (-4194304 : Int) (4194304 : Int) == true) = true) ∧ True) (V.b (betB (Prod.fst p) (-4194304 : Int) (4194304 : Int) && betB (Prod.snd p) (-4194304 : Int) (4194304 : Int))), pv (2 : Nat) (V.b (betB (Prod.fst p) (-4194304 : Int) (4194304 : Int) && betB (Prod.snd p) (-4194304 : Int) (4194304 : Int)))] (by kernel_rfl) (by kernel_rfl) ⟨⟨(by (intro h; rw [h]; rfl)), True.intro⟩, True.intro⟩ ?_
 refine aops_nil (xt_n (hK _ ?_)); clear hK K
 refine aw_ret ?_
 refine rP (V.b (betB (Prod.fst p) (-4194304 : Int) (4194304 : Int) && betB (Prod.snd p) (-4194304 : Int) (4194304 : Int)))
set_option maxRecDepth 100000 in
theorem tBetween_ac (x lo hi : Int) : AC Tryz.prog 97 [.i x, .i lo, .i hi] (.b (betB x lo hi)) [] := by
 refine acI hTT hMX Tryz.func97 Tryz.ntmps97 fun C hC hF => ?_
 refine aw_seq_k fun K hK => wR 2 ?_; refine aX hTT 1 [] True.intro ?_; refine aops_nil (xt_n (hK _ ?_)); clear hK K; refine aw_seq_k fun K hK => wR 3 ?_; refine aX hTT 9 [(4, .c (gA (decide (lo ≤ x) == true) True)), (5, .c (gA (decide (lo ≤ x) == true) True)), (6, .c (gC (decide (lo ≤ x) == true) True)), (7, .c ((decide (lo ≤ x) = true → (decide (lo ≤ x) == true) = true) ∧ True))] ⟨⟨⟨True.intro, True.intro⟩, (fun _ => True.intro)⟩, ⟨⟨True.intro, True.intro⟩, (fun _ => True.intro)⟩, ⟨⟨(by (exact fun h => h)), ⟨(by (exact fun h => h)), True.intro⟩⟩, (fun _ => True.intro)⟩, ⟨(by (intro h; rw [h]; rfl)), True.intro⟩, True.intro⟩ ?_; refine aops_nil (xt_n (hK _ ?_)); clear hK K
 refine aw_ret ?_
 refine rP (V.b (decide (lo ≤ x) && decide (x ≤ hi)))
set_option maxRecDepth 100000 in
theorem tValid_ac (p : Pt) : AC Tryz.prog 68 [.agg [.i p.1, .i p.2]] (.b (sE p)) [] := by
 refine acI hTT hMX Tryz.func68 Tryz.ntmps68 fun C hC hF => ?_
 refine aw_seq_k fun K hK => wR 2 ?_
 refine aops_n hTT (M := []) (n := 2) [pv (1 : Nat) (V.ptr [V.i (Prod.fst p), V.i (Prod.snd p)]), pv (2 : Nat) (V.b false)] (by kernel_rfl) (by kernel_rfl) True.intro ?_
 refine aops_nil (xt_n (hK _ ?_)); clear hK K; refine aw_seq_k fun K hK => wR 3 ?_
 refine aops_n hTT (M := []) (n := 2) [pv (3 : Nat) (V.ptr [V.i (Prod.fst p), V.i (Prod.snd p)]), pv (4 : Nat) (V.i (Prod.fst p))] (by kernel_rfl) (by kernel_rfl) True.intro ?_
 refine eC (tBetween_ac p.1 (-32767) 32767) ?_
 refine aops_n hTT (M := []) (n := 3) [pv (6 : Nat) (V.b (betB (Prod.fst p) (-32767 : Int) (32767 : Int))), pc (7 : Nat) ((True ∧ True) ∧ ((betB (Prod.fst p) (-32767 : Int) (32767 : Int) == true) = true → True)) (V.gd (betB (Prod.fst p) (-32767 : Int) (32767 : Int) == true) (V.ptr [V.i (Prod.snd p)])), pc (8 : Nat) ((((betB (Prod.fst p) (-32767 : Int) (32767 : Int) == true) = true → (betB (Prod.fst p) (-32767 : Int) (32767 : Int) == true) = true) ∧ True) ∧ ((betB (Prod.fst p) (-32767 : Int) (32767 : Int) == true) = true → True)) (V.gd (betB (Prod.fst p) (-32767 : Int) (32767 : Int) == true) (V.i (Prod.snd p)))] (by kernel_rfl) (by kernel_rfl) ⟨⟨⟨True.intro, True.intro⟩, (fun _ => True.intro)⟩, ⟨⟨(by (exact fun h => h)), True.intro⟩, (fun _ => True.intro)⟩, True.intro⟩ ?_
 refine eG 1 (g := betB (Prod.fst p) (-32767 : Int) (32767 : Int) == true) (fun h => tBetween_ac p.2 (-32767) 32767) ?_
 refine aops_n hTT (M := []) (n := 2) [pc (10 : Nat) ((betB (Prod.fst p) (-32767 : Int) (32767 : Int) = true → (betB (Prod.fst p) (-32767 : Int) (32767 : Int) == true) = true) ∧ True) (V.b (betB (Prod.fst p) (-32767 : Int) (32767 : Int) && betB (Prod.snd p) (-32767 : Int) (32767 : Int))), pv (2 : Nat) (V.b (betB (Prod.fst p) (-32767 : Int) (32767 : Int) && betB (Prod.snd p) (-32767 : Int) (32767 : Int)))] (by kernel_rfl) (by kernel_rfl) ⟨⟨(by (intro h; rw [h]; rfl)), True.intro⟩, True.intro⟩ ?_
 refine aops_nil (xt_n (hK _ ?_)); clear hK K
 refine aw_ret ?_
 refine rP (V.b (betB (Prod.fst p) (-32767 : Int) (32767 : Int) && betB (Prod.snd p) (-32767 : Int) (32767 : Int)))
set_option maxRecDepth 100000 in
theorem gCheckPoints_ac (l : List Pt) (hl : l.length ≤ 4611686018427387904) : AC Tryz.prog 47 [V.pts l] (.i (gChk l)) [] := by
 refine acI hTT hMX Tryz.func47 Tryz.ntmps47 fun C hC hF => ?_
 refine aw_seq_k fun K hK => wR 2 ?_; refine aX hTT 1 [] True.intro ?_; refine aops_nil (xt_n (hK _ ?_)); clear hK K; refine aw_seq_k fun K hK => ?_; refine aw_seq_k fun K hK => wR 3 ?_; refine aX hTT 3 [] True.intro ?_; refine aops_nil (xt_n (hK _ ?_)); clear hK K
 refine w_cond (t := decide ((4096 : Int) < (↑(List.length l) : Int))) (by kernel_rfl) (fun c1 => ?_) (fun c1 => ?_)
 ·
  simp at c1
  refine aw_seq_k fun K hK => wR 4 ?_; refine aX hTT 1 [] True.intro ?_; refine aops_nil (xt_n (hK _ ?_)); clear hK K
  refine aw_ret ?_
  refine xt_r ?_
  rw [gChk_many (by omega)]
  refine rP (V.i 6)
 simp at c1
 refine aw_skip ?_
 refine xt_n (hK _ ?_); clear hK K; refine aw_seq_k fun K hK => ?_; refine aw_seq_k fun K hK => wR 4 ?_; refine aX hTT 3 [] True.intro ?_; refine aops_nil (xt_n (hK _ ?_)); clear hK K
 refine aw_block ?_
 refine w_loop (ι := Nat) (fun k => [(8, V.pts l), (9, .i l.length), (10, .i k)]) (fun _ => []) (fun k => k ≤ l.length ∧ ∀ j, j < k → gE (gp l j) = true) (fun k => l.length - k) 0 ⟨Nat.zero_le _, fun j hj => by omega⟩ ?_ ?_
 ·
  refine le_ren [] (.cons (by kernel_rfl) (.cons (by kernel_rfl) (.cons (by kernel_rfl) .nil))) .nil (by kernel_rfl) (by kernel_rfl)
 rintro k ⟨hk, hj⟩
 refine aw_seq_k fun K hK => wR 2 ?_; refine aX hTT 1 [] True.intro ?_; refine aops_nil (xt_n (hK _ ?_)); clear hK K; refine aw_seq_k fun K hK => ?_
 refine w_cond (t := decide ((↑k : Int) < (↑(List.length l) : Int))) (by kernel_rfl) (fun c2 => ?_) (fun c2 => ?_)
 ·
  simp at c2
  refine aw_skip ?_
  refine xt_n (hK _ ?_); clear hK K; refine aw_seq_k fun K hK => ?_
  refine aw_block ?_
  refine aw_seq_k fun K hK => wR 3 ?_; refine aX hTT 4 [(0, .c ((0 : Int) ≤ (↑k : Int) ∧ (↑k : Int) < (↑(List.length l) : Int))), (2, .r (pn 4 (V.ref 200004 0) (200004 : Nat) (Ob.box 81 [V.i 0, V.i 0]))), (3, .r (pw ((0 : Nat) + (2 : Nat) ≤ (2 : Nat)) (200004 : Nat) (Ob.box 81 [V.i (Prod.fst (gp l k)), V.i (Prod.snd (gp l k))])))] ⟨(by omega), (by omega), True.intro⟩ ?_; refine aops_nil (xt_n (hK _ ?_)); clear hK K; refine aw_seq_k fun K hK => wR 4 ?_; refine aX hTT 1 [(0, .c ((0 : Nat) ≤ (2 : Nat)))] ⟨(by omega), True.intro⟩ ?_
  refine eC (gEdged_ac (gp l k)) ?_
  refine aX hTT 1 [] True.intro ?_; refine aops_nil (xt_n (hK _ ?_)); clear hK K
  refine w_cond (t := !gE (gp l k)) (by kernel_rfl) (fun c3 => ?_) (fun c3 => ?_)
  ·
   refine aw_seq_k fun K hK => ?_
   refine wR 5 ?_; refine aX hTT 1 [] True.intro ?_; refine aops_nil (xt_n (hK _ ?_)); clear hK K
   refine aw_ret ?_
   refine xb_r ?_
   refine xt_r ?_; refine xt_r ?_
   refine xb_r ?_
   refine xt_r ?_
   rw [gChk_bad (by omega) (by omega) (by simpa using c3)]
   refine rP (V.i 2)
  refine aw_skip ?_
  refine xb_n ?_; refine xt_n (hK _ ?_); clear hK K; refine wR 5 ?_; refine aX hTT 2 [(0, .i ((↑k : Int) + (1 : Int)))] ⟨(by omega), True.intro⟩ ?_; refine aops_nil ?_; refine xt_n ?_
  refine ⟨k + 1, ⟨by omega, fun i hi => ?_⟩, by refine le_ren [] (.cons (by kernel_rfl) (.cons (by kernel_rfl) (.cons (by kernel_rfl) .nil))) .nil (by kernel_rfl) (by kernel_rfl), by omega⟩
  by_cases he : i = k
  ·
   subst he; simpa using c3
  ·
   exact hj i (by omega)
 ·
  simp at c2
  refine aw_exit ?_
  refine xt_x ?_; refine xt_x ?_
  refine xb_same ?_
  refine xt_n ?_; clear hK K; refine hK _ ?_; clear hK K; refine aw_seq_k fun K hK => wR 3 ?_; refine aX hTT 1 [] True.intro ?_; refine aops_nil (xt_n (hK _ ?_)); clear hK K
  refine aw_ret ?_
  rw [gChk_good (by omega) fun i hi => hj i (by omega)]
  refine rP (V.i 0)
set_option maxRecDepth 100000 in
theorem tCheckSamples_ac (l : List Pt) (hl : l.length ≤ 4611686018427387904) : AC Tryz.prog 34 [V.pts l] (.i (sChk l)) [] := by
 refine acI hTT hMX Tryz.func34 Tryz.ntmps34 fun C hC hF => ?_
 refine aw_seq_k fun K hK => wR 2 ?_; refine aX hTT 1 [] True.intro ?_; refine aops_nil (xt_n (hK _ ?_)); clear hK K; refine aw_seq_k fun K hK => ?_; refine aw_seq_k fun K hK => wR 3 ?_; refine aX hTT 3 [] True.intro ?_; refine aops_nil (xt_n (hK _ ?_)); clear hK K
 refine w_cond (t := decide ((4096 : Int) < (↑(List.length l) : Int))) (by kernel_rfl) (fun c1 => ?_) (fun c1 => ?_)
 ·
  simp at c1
  refine aw_seq_k fun K hK => wR 4 ?_; refine aX hTT 1 [] True.intro ?_; refine aops_nil (xt_n (hK _ ?_)); clear hK K
  refine aw_ret ?_
  refine xt_r ?_
  rw [sChk_many (by omega)]
  refine rP (V.i 6)
 simp at c1
 refine aw_skip ?_
 refine xt_n (hK _ ?_); clear hK K; refine aw_seq_k fun K hK => ?_; refine aw_seq_k fun K hK => wR 4 ?_; refine aX hTT 3 [] True.intro ?_; refine aops_nil (xt_n (hK _ ?_)); clear hK K
 refine aw_block ?_
 refine w_loop (ι := Nat) (fun k => [(8, V.pts l), (9, .i l.length), (10, .i k)]) (fun _ => []) (fun k => k ≤ l.length ∧ ∀ j, j < k → sE (gp l j) = true) (fun k => l.length - k) 0 ⟨Nat.zero_le _, fun j hj => by omega⟩ ?_ ?_
 ·
  refine le_ren [] (.cons (by kernel_rfl) (.cons (by kernel_rfl) (.cons (by kernel_rfl) .nil))) .nil (by kernel_rfl) (by kernel_rfl)
 rintro k ⟨hk, hj⟩
 refine aw_seq_k fun K hK => wR 2 ?_; refine aX hTT 1 [] True.intro ?_; refine aops_nil (xt_n (hK _ ?_)); clear hK K; refine aw_seq_k fun K hK => ?_
 refine w_cond (t := decide ((↑k : Int) < (↑(List.length l) : Int))) (by kernel_rfl) (fun c2 => ?_) (fun c2 => ?_)
 ·
  simp at c2
  refine aw_skip ?_
  refine xt_n (hK _ ?_); clear hK K; refine aw_seq_k fun K hK => ?_
  refine aw_block ?_
  refine aw_seq_k fun K hK => wR 3 ?_; refine aX hTT 4 [(0, .c ((0 : Int) ≤ (↑k : Int) ∧ (↑k : Int) < (↑(List.length l) : Int))), (2, .r (pn 4 (V.ref 200004 0) (200004 : Nat) (Ob.box 46 [V.i 0, V.i 0]))), (3, .r (pw ((0 : Nat) + (2 : Nat) ≤ (2 : Nat)) (200004 : Nat) (Ob.box 46 [V.i (Prod.fst (gp l k)), V.i (Prod.snd (gp l k))])))] ⟨(by omega), (by omega), True.intro⟩ ?_; refine aops_nil (xt_n (hK _ ?_)); clear hK K; refine aw_seq_k fun K hK => wR 4 ?_; refine aX hTT 1 [(0, .c ((0 : Nat) ≤ (2 : Nat)))] ⟨(by omega), True.intro⟩ ?_
  refine eC (tValid_ac (gp l k)) ?_
  refine aX hTT 1 [] True.intro ?_; refine aops_nil (xt_n (hK _ ?_)); clear hK K
  refine w_cond (t := !sE (gp l k)) (by kernel_rfl) (fun c3 => ?_) (fun c3 => ?_)
  ·
   refine aw_seq_k fun K hK => ?_
   refine wR 5 ?_; refine aX hTT 1 [] True.intro ?_; refine aops_nil (xt_n (hK _ ?_)); clear hK K
   refine aw_ret ?_
   refine xb_r ?_
   refine xt_r ?_; refine xt_r ?_
   refine xb_r ?_
   refine xt_r ?_
   rw [sChk_bad (by omega) (by omega) (by simpa using c3)]
   refine rP (V.i 2)
  refine aw_skip ?_
  refine xb_n ?_; refine xt_n (hK _ ?_); clear hK K; refine wR 5 ?_; refine aX hTT 2 [(0, .i ((↑k : Int) + (1 : Int)))] ⟨(by omega), True.intro⟩ ?_; refine aops_nil ?_; refine xt_n ?_
  refine ⟨k + 1, ⟨by omega, fun i hi => ?_⟩, by refine le_ren [] (.cons (by kernel_rfl) (.cons (by kernel_rfl) (.cons (by kernel_rfl) .nil))) .nil (by kernel_rfl) (by kernel_rfl), by omega⟩
  by_cases he : i = k
  ·
   subst he; simpa using c3
  ·
   exact hj i (by omega)
 ·
  simp at c2
  refine aw_exit ?_
  refine xt_x ?_; refine xt_x ?_
  refine xb_same ?_
  refine xt_n ?_; clear hK K; refine hK _ ?_; clear hK K; refine aw_seq_k fun K hK => wR 3 ?_; refine aX hTT 1 [] True.intro ?_; refine aops_nil (xt_n (hK _ ?_)); clear hK K
  refine aw_ret ?_
  rw [sChk_good (by omega) fun i hi => hj i (by omega)]
  refine rP (V.i 0)
def wrapAmt (n : Int) : Int := max n (IntKind.i64.wrap (0 - n))
set_option maxRecDepth 100000 in
theorem rAmountW_ac (n : Int) : AC Tryz.prog 63 [.i n] (.i (wrapAmt n)) [] := by
 refine acI hTT hMX Tryz.func63 Tryz.ntmps63 fun C hC hF => ?_
 refine aw_seq_k fun K hK => wR 2 ?_; refine aX hTT 1 [] True.intro ?_; refine aops_nil (xt_n (hK _ ?_)); clear hK K; refine aw_seq_k fun K hK => wR 3 ?_; refine aX hTT 5 [(2, .r (pvw 5 (V.i (IntKind.wrap IntKind.i64 ((0 : Int) - n)))))] True.intro ?_; refine aops_nil (xt_n (hK _ ?_)); clear hK K
 refine aw_ret ?_
 refine rP (V.i (max n (IntKind.wrap IntKind.i64 ((0 : Int) - n))))
theorem wrapAmt_le {n m : Int} (h : inR .i64 n) (hm : 0 ≤ m ∧ m ≤ 4611686018427387904) (h2 : -1099511627776 < n) : wrapAmt n ≤ m ↔ -m ≤ n ∧ n ≤ m := by
 simp only [inR] at h
 have : IntKind.i64.wrap (0 - n) = -n := by
  rw [inR_wrap (k := .i64) (by simp only [inR]; omega)]; omega
 rw [wrapAmt, this]
 omega
def gAmt (n : Int) : Int := max n (-n)
set_option maxRecDepth 100000 in
theorem gAmount_ac (n : Int) (h : -4611686018427387904 ≤ n ∧ n ≤ 4611686018427387904) : AC Tryz.prog 62 [.i n] (.i (gAmt n)) [] := by
 refine acI hTT hMX Tryz.func62 Tryz.ntmps62 fun C hC hF => ?_
 refine aw_seq_k fun K hK => wR 2 ?_; refine aX hTT 1 [] True.intro ?_; refine aops_nil (xt_n (hK _ ?_)); clear hK K; refine aw_seq_k fun K hK => wR 3 ?_; refine aX hTT 5 [(2, .i (-n))] ⟨(by omega), True.intro⟩ ?_; refine aops_nil (xt_n (hK _ ?_)); clear hK K
 refine aw_ret ?_
 refine rP (V.i (max n (-n)))
set_option maxRecDepth 100000 in
theorem rValid_ac (p : Pt) (h1 : inR .i64 p.1) (h2 : inR .i64 p.2) : AC Tryz.prog 31 [.agg [.i p.1, .i p.2]] (.b (sE p)) [] := by
 refine acI hTT hMX Tryz.func31 Tryz.ntmps31 fun C hC hF => ?_
 refine aw_seq_k fun K hK => wR 2 ?_; refine aX hTT 2 [] True.intro ?_; refine aops_nil (xt_n (hK _ ?_)); clear hK K; refine aw_seq_k fun K hK => wR 3 ?_; refine aX hTT 2 [] True.intro ?_
 refine eC (rAmountW_ac p.1) ?_
 refine aX hTT 4 [(2, .c (gA (decide (wrapAmt (Prod.fst p) ≤ (32767 : Int)) == true) True)), (3, .c (gB (decide (wrapAmt (Prod.fst p) ≤ (32767 : Int)) == true) True))] ⟨⟨⟨True.intro, True.intro⟩, (fun _ => True.intro)⟩, ⟨⟨(by (exact fun h => h)), True.intro⟩, (fun _ => True.intro)⟩, True.intro⟩ ?_
 refine eG 1 (g := decide (wrapAmt (Prod.fst p) ≤ (32767 : Int)) == true) (fun h => rAmountW_ac p.2) ?_
 refine aX hTT 13 [(0, .c (gD (decide (wrapAmt (Prod.fst p) ≤ (32767 : Int)) == true) True)), (1, .c ((decide (wrapAmt (Prod.fst p) ≤ (32767 : Int)) = true → (decide (wrapAmt (Prod.fst p) ≤ (32767 : Int)) == true) = true) ∧ True)), (3, .c (gA ((decide (wrapAmt (Prod.fst p) ≤ (32767 : Int)) && decide (wrapAmt (Prod.snd p) ≤ (32767 : Int))) == true) True)), (4, .c (gB ((decide (wrapAmt (Prod.fst p) ≤ (32767 : Int)) && decide (wrapAmt (Prod.snd p) ≤ (32767 : Int))) == true) True)), (5, .c (gD ((decide (wrapAmt (Prod.fst p) ≤ (32767 : Int)) && decide (wrapAmt (Prod.snd p) ≤ (32767 : Int))) == true) True)), (6, .c (((decide (wrapAmt (Prod.fst p) ≤ (32767 : Int)) && decide (wrapAmt (Prod.snd p) ≤ (32767 : Int))) = true → ((decide (wrapAmt (Prod.fst p) ≤ (32767 : Int)) && decide (wrapAmt (Prod.snd p) ≤ (32767 : Int))) == true) = true) ∧ True)), (8, .c (gA ((decide (wrapAmt (Prod.fst p) ≤ (32767 : Int)) && decide (wrapAmt (Prod.snd p) ≤ (32767 : Int)) && decide ((-1099511627776 : Int) < Prod.fst p)) == true) True)), (9, .c (gB ((decide (wrapAmt (Prod.fst p) ≤ (32767 : Int)) && decide (wrapAmt (Prod.snd p) ≤ (32767 : Int)) && decide ((-1099511627776 : Int) < Prod.fst p)) == true) True)), (10, .c (gD ((decide (wrapAmt (Prod.fst p) ≤ (32767 : Int)) && decide (wrapAmt (Prod.snd p) ≤ (32767 : Int)) && decide ((-1099511627776 : Int) < Prod.fst p)) == true) True)), (11, .c (((decide (wrapAmt (Prod.fst p) ≤ (32767 : Int)) && decide (wrapAmt (Prod.snd p) ≤ (32767 : Int)) && decide ((-1099511627776 : Int) < Prod.fst p)) = true → ((decide (wrapAmt (Prod.fst p) ≤ (32767 : Int)) && decide (wrapAmt (Prod.snd p) ≤ (32767 : Int)) && decide ((-1099511627776 : Int) < Prod.fst p)) == true) = true) ∧ True))] ⟨⟨⟨(by (exact fun h => h)), ⟨True.intro, True.intro⟩⟩, (fun _ => True.intro)⟩, ⟨(by (intro h; rw [h]; rfl)), True.intro⟩, ⟨⟨True.intro, True.intro⟩, (fun _ => True.intro)⟩, ⟨⟨(by (exact fun h => h)), True.intro⟩, (fun _ => True.intro)⟩, ⟨⟨(by (exact fun h => h)), ⟨True.intro, True.intro⟩⟩, (fun _ => True.intro)⟩, ⟨(by (intro h; rw [h]; rfl)), True.intro⟩, ⟨⟨True.intro, True.intro⟩, (fun _ => True.intro)⟩, ⟨⟨(by (exact fun h => h)), True.intro⟩, (fun _ => True.intro)⟩, ⟨⟨(by (exact fun h => h)), ⟨True.intro, True.intro⟩⟩, (fun _ => True.intro)⟩, ⟨(by (intro h; rw [h]; rfl)), True.intro⟩, True.intro⟩ ?_; refine aops_nil (xt_n (hK _ ?_)); clear hK K
 refine aw_ret ?_
 refine ret_pure (v' := V.b (decide (wrapAmt (Prod.fst p) ≤ (32767 : Int)) && decide (wrapAmt (Prod.snd p) ≤ (32767 : Int)) && decide ((-1099511627776 : Int) < Prod.fst p) && decide ((-1099511627776 : Int) < Prod.snd p))) (.inr rfl) (by kernel_rfl) ?_ (by kernel_rfl)
 refine vb ?_
 have a1 := wrapAmt_le (n := p.1) (m := 32767) h1 (by decide)
 have a2 := wrapAmt_le (n := p.2) (m := 32767) h2 (by decide)
 have key : ∀ n : Int, (-1099511627776 < n → (wrapAmt n ≤ 32767 ↔ -32767 ≤ n ∧ n ≤ 32767)) → (decide (wrapAmt n ≤ 32767) && decide (-1099511627776 < n)) = (decide (-32767 ≤ n) && decide (n ≤ 32767)) := by
  intro n h
  by_cases hn : -1099511627776 < n
  ·
   simp [h hn, hn]
  ·
   have : ¬ (-32767 ≤ n) := by omega
   simp [hn, this]
 have k1 := key p.1 a1
 have k2 := key p.2 a2
 rw [sE, betB, betB, ← k1, ← k2]
 simp only [Bool.and_assoc, Bool.and_left_comm]
end Go.Proofs.YtepkjobndmmejaaGreatDoor

namespace Go.Proofs.YtepkjobndmmejaaGreatDoor
open Go.Ab Go.RowKit Go.Dw Go.Shelf
theorem gMul {a b m n : Int} (ha : -m ≤ a ∧ a ≤ m) (hb : -n ≤ b ∧ b ≤ n) : -(m * n) ≤ a * b ∧ a * b ≤ m * n := by
 have h1 : 0 ≤ (m - a) * (n + b) := Int.mul_nonneg (by omega) (by omega)
 have h2 : 0 ≤ (m + a) * (n - b) := Int.mul_nonneg (by omega) (by omega)
 have h3 : 0 ≤ (m - a) * (n - b) := Int.mul_nonneg (by omega) (by omega)
 have h4 : 0 ≤ (m + a) * (n + b) := Int.mul_nonneg (by omega) (by omega)
 simp only [Int.sub_mul, Int.add_mul, Int.mul_add, Int.mul_sub] at h1 h2 h3 h4
 omega
theorem gTd {x m M : Int} (hm : 0 < m) (h : -(M * m) ≤ x ∧ x ≤ M * m) : -M ≤ x.tdiv m ∧ x.tdiv m ≤ M := by
 by_cases hx : 0 ≤ x
 ·
  rw [Int.tdiv_eq_ediv_of_nonneg hx]
  have h1 := Int.ediv_nonneg hx (Int.le_of_lt hm)
  have h2 : x / m ≤ M := by
   have := Int.ediv_le_ediv hm h.2
   rwa [Int.mul_ediv_cancel _ (by omega)] at this
  omega
 ·
  have e : x.tdiv m = -((-x) / m) := by
   have := Int.neg_tdiv (a := -x) (b := m)
   rw [Int.neg_neg] at this
   rw [this, Int.tdiv_eq_ediv_of_nonneg (by omega)]
  have h1 := Int.ediv_nonneg (a := -x) (b := m) (by omega) (by omega)
  have h2 : (-x) / m ≤ M := by
   have := Int.ediv_le_ediv hm (show -x ≤ M * m by omega)
   rwa [Int.mul_ediv_cancel _ (by omega)] at this
  omega
def chE (g n : Int) : Int := (n * g).tdiv 1000
def wallP (c : Cut) (s : Pt) : Pt := (chE c.gain s.2 - c.half, chE c.gain s.1 + c.half)
theorem chE_bd {g n : Int} (hg : 0 ≤ g ∧ g ≤ 100000) (hn : -32768 ≤ n ∧ n ≤ 32768) : -3276800 ≤ chE g n ∧ chE g n ≤ 3276800 := by
 have := gMul (m := 32768) (n := 100000) hn ⟨by omega, hg.2⟩
 exact gTd (by decide) (by omega)
def cutR (c : Cut) (s : List Pt) : List Pt × Int := if cutE c = 0 then (if sChk s = 0 then (s.map (wallP c), 0) else ([], sChk s)) else ([], cutE c)
theorem cutR_1 {c : Cut} {s : List Pt} (h : ¬ cutE c = 0) : cutR c s = ([], cutE c) := by rw [cutR, if_neg h]
theorem cutR_2 {c : Cut} {s : List Pt} (h : cutE c = 0) (h2 : ¬ sChk s = 0) : cutR c s = ([], sChk s) := by rw [cutR, if_pos h, if_neg h2]
theorem cutR_3 {c : Cut} {s : List Pt} (h : cutE c = 0) (h2 : sChk s = 0) : cutR c s = (s.map (wallP c), 0) := by rw [cutR, if_pos h, if_pos h2]
theorem gp_map {f : Pt → Pt} {l : List Pt} {k : Nat} (h : k < l.length) : gp (l.map f) k = f (gp l k) := by
 simp [gp, List.getD_eq_getElem?_getD, List.getElem?_eq_getElem h]
theorem gp_out {l : List Pt} {k : Nat} (h : l.length ≤ k) : gp l k = (0, 0) := by
 simp [gp, List.getD_eq_getElem?_getD, List.getElem?_eq_none h]
theorem wallP_gE {c : Cut} {s : Pt} (hc : cutE c = 0) (hs : sE s = true) : gE (wallP c s) = true := by
 obtain ⟨⟨a1, a2⟩, ⟨b1, b2⟩, _⟩ := cutE_ok.1 hc
 obtain ⟨h1, h2⟩ := sE_iff.1 hs
 have e1 := chE_bd (n := s.1) ⟨b1, b2⟩ (by omega)
 have e2 := chE_bd (n := s.2) ⟨b1, b2⟩ (by omega)
 rw [gE_iff]
 show (-4194304 ≤ chE c.gain s.2 - c.half ∧ _) ∧ -4194304 ≤ chE c.gain s.1 + c.half ∧ _
 simp only [wallP]
 omega
end Go.Proofs.YtepkjobndmmejaaGreatDoor

namespace Go.Proofs.YtepkjobndmmejaaGreatDoor
open Go.Ab Go.RowKit Go.Dw Go.Shelf
def inR2 (p : Pt) : Prop := inR .i64 p.1 ∧ inR .i64 p.2
set_option maxRecDepth 100000 in
theorem rCheckSamples_ac (l : List Pt) (hl : l.length ≤ 4611686018427387904) (hr : ∀ k, k < l.length → inR2 (gp l k)) : AC Tryz.prog 8 [V.pts l] (.i (sChk l)) [] := by
 refine acI hTT hMX Tryz.func8 Tryz.ntmps8 fun C hC hF => ?_
 refine aw_seq_k fun K hK => wR 2 ?_; refine aX hTT 1 [] True.intro ?_; refine aops_nil (xt_n (hK _ ?_)); clear hK K; refine aw_seq_k fun K hK => ?_; refine aw_seq_k fun K hK => wR 3 ?_; refine aX hTT 3 [] True.intro ?_; refine aops_nil (xt_n (hK _ ?_)); clear hK K
 refine w_cond (t := decide ((4096 : Int) < (↑(List.length l) : Int))) (by kernel_rfl) (fun c1 => ?_) (fun c1 => ?_)
 ·
  simp at c1
  refine aw_seq_k fun K hK => wR 4 ?_; refine aX hTT 1 [] True.intro ?_; refine aops_nil (xt_n (hK _ ?_)); clear hK K
  refine aw_ret ?_
  refine xt_r ?_
  rw [sChk_many (by omega)]
  refine rP (V.i 6)
 simp at c1
 refine aw_skip ?_
 refine xt_n (hK _ ?_); clear hK K; refine aw_seq_k fun K hK => ?_; refine aw_seq_k fun K hK => wR 4 ?_; refine aX hTT 1 [] True.intro ?_; refine aops_nil (xt_n (hK _ ?_)); clear hK K
 refine aw_block ?_
 refine w_loop (ι := Nat) (fun k => [(0, V.pts l), (3, .i k)]) (fun _ => []) (fun k => k ≤ l.length ∧ ∀ j, j < k → sE (gp l j) = true) (fun k => l.length - k) 0 ⟨Nat.zero_le _, fun j hj => by omega⟩ ?_ ?_
 ·
  refine le_ren [] (.cons (by kernel_rfl) (.cons (by kernel_rfl) .nil)) .nil (by kernel_rfl) (by kernel_rfl)
 rintro k ⟨hk, hj⟩
 refine aw_seq_k fun K hK => ?_; refine aw_seq_k fun K hK => wR 2 ?_; refine aX hTT 4 [] True.intro ?_; refine aops_nil (xt_n (hK _ ?_)); clear hK K
 refine w_cond (t := decide ((↑k : Int) < (↑(List.length l) : Int))) (by kernel_rfl) (fun c2 => ?_) (fun c2 => ?_)
 ·
  simp at c2
  obtain ⟨r1, r2⟩ := hr k (by omega)
  refine aw_skip ?_
  refine xt_n (hK _ ?_); clear hK K; refine aw_seq_k fun K hK => ?_
  refine aw_block ?_
  refine aw_seq_k fun K hK => wR 3 ?_; refine aX hTT 4 [(2, .c ((0 : Int) ≤ (↑k : Int) ∧ (↑k : Int) < (↑(List.length l) : Int)))] ⟨(by omega), True.intro⟩ ?_
  refine eC (rValid_ac (gp l k) r1 r2) ?_
  refine aX hTT 1 [] True.intro ?_; refine aops_nil (xt_n (hK _ ?_)); clear hK K
  refine w_cond (t := !sE (gp l k)) (by kernel_rfl) (fun c3 => ?_) (fun c3 => ?_)
  ·
   refine aw_seq_k fun K hK => ?_
   refine wR 4 ?_; refine aX hTT 1 [] True.intro ?_; refine aops_nil (xt_n (hK _ ?_)); clear hK K
   refine aw_ret ?_
   refine xb_r ?_
   refine xt_r ?_; refine xt_r ?_
   refine xb_r ?_
   refine xt_r ?_
   rw [sChk_bad (by omega) (by omega) (by simpa using c3)]
   refine rP (V.i 2)
  refine aw_skip ?_
  refine xb_n ?_; refine xt_n (hK _ ?_); clear hK K; refine wR 4 ?_; refine aX hTT 3 [(1, .i ((↑k : Int) + (1 : Int)))] ⟨(by omega), True.intro⟩ ?_; refine aops_nil ?_; refine xt_n ?_
  refine ⟨k + 1, ⟨by omega, fun i hi => ?_⟩, by refine le_ren [] (.cons (by kernel_rfl) (.cons (by kernel_rfl) .nil)) .nil (by kernel_rfl) (by kernel_rfl), by omega⟩
  by_cases he : i = k
  ·
   subst he; simpa using c3
  ·
   exact hj i (by omega)
 ·
  simp at c2
  refine aw_exit ?_
  refine xt_x ?_; refine xt_x ?_
  refine xb_same ?_
  refine xt_n ?_; clear hK K; refine hK _ ?_; clear hK K; refine aw_seq_k fun K hK => wR 3 ?_; refine aX hTT 1 [] True.intro ?_; refine aops_nil (xt_n (hK _ ?_)); clear hK K
  refine aw_ret ?_
  rw [sChk_good (by omega) fun i hi => hj i (by omega)]
  refine rP (V.i 0)
abbrev yyGA20 (c : Cut) (s : Pt) : List V := [V.i (Int.tdiv (Prod.snd s * Cut.gain c) (1000 : Int) - Cut.half c), V.i (Int.tdiv (Prod.fst s * Cut.gain c) (1000 : Int) + Cut.half c)]
set_option maxRecDepth 100000 in
theorem point_ac (c : Cut) (s : Pt) (hc : cutE c = 0) (hs : (-32768 ≤ s.1 ∧ s.1 ≤ 32768) ∧ -32768 ≤ s.2 ∧ s.2 ≤ 32768) : AC Tryz.prog 35 [c.v, .agg [.i s.1, .i s.2]] (.agg [.i (wallP c s).1, .i (wallP c s).2]) [] := by
 obtain ⟨⟨a1, a2⟩, ⟨b1, b2⟩, _⟩ := cutE_ok.1 hc
 obtain ⟨h1, h2⟩ := hs
 have e1 := chE_bd (n := s.1) ⟨b1, b2⟩ (by omega)
 have e2 := chE_bd (n := s.2) ⟨b1, b2⟩ (by omega)
 have m1 := gMul (m := 32768) (n := 100000) (a := s.1) (b := c.gain) (by omega) ⟨by omega, b2⟩
 have m2 := gMul (m := 32768) (n := 100000) (a := s.2) (b := c.gain) (by omega) ⟨by omega, b2⟩
 unfold chE at e1 e2
 refine acI hTT hMX Tryz.func35 Tryz.ntmps35 fun C hC hF => ?_
 refine aw_seq_k fun K hK => wR 2 ?_; refine aX hTT 3 [(2, .r (pn 4 (V.ref 100004 0) (100004 : Nat) (Ob.box 81 [V.i 0, V.i 0])))] True.intro ?_; refine aops_nil (xt_n (hK _ ?_)); clear hK K; refine aw_seq_k fun K hK => wR 3 ?_; refine aX hTT 20 [(4, .i (Prod.snd s * Cut.gain c)), (5, .c ((0 : Int) < (1000 : Int) ∧ (-9223372036854775808 : Int) ≤ Prod.snd s * Cut.gain c ∧ Prod.snd s * Cut.gain c ≤ (9223372036854775807 : Int))), (8, .i (Int.tdiv (Prod.snd s * Cut.gain c) (1000 : Int) - Cut.half c)), (13, .i (Prod.fst s * Cut.gain c)), (14, .c ((0 : Int) < (1000 : Int) ∧ (-9223372036854775808 : Int) ≤ Prod.fst s * Cut.gain c ∧ Prod.fst s * Cut.gain c ≤ (9223372036854775807 : Int))), (17, .i (Int.tdiv (Prod.fst s * Cut.gain c) (1000 : Int) + Cut.half c)), (19, .r (pw ((0 : Nat) + (2 : Nat) ≤ (2 : Nat)) (100004 : Nat) (Ob.box 81 (yyGA20 c s))))] ⟨(by omega), ⟨(by omega), (by omega)⟩, (by omega), (by omega), ⟨(by omega), (by omega)⟩, (by omega), (by omega), True.intro⟩ ?_; refine aops_nil (xt_n (hK _ ?_)); clear hK K
 refine aw_ret ?_
 refine ret_of_le (le_freezeBox (t := (81 : Nat)) (cs := (yyGA20 c s)) 100004 (by kernel_rfl) (by kernel_rfl)) ?_
 refine rP (V.agg (yyGA20 c s))
def cutA (c : Cut) (s : List Pt) (k j : Nat) : Int := if j < k then (wallP c (gp s j)).1 else 0
def cutB (c : Cut) (s : List Pt) (k j : Nat) : Int := if j < k then (wallP c (gp s j)).2 else 0
theorem cutAB_set {c : Cut} {s : List Pt} {k : Nat} (i : Nat) : (if i = k then [V.i (wallP c (gp s k)).1, V.i (wallP c (gp s k)).2] else [V.i (cutA c s k i), V.i (cutB c s k i)]) = [V.i (cutA c s (k + 1) i), V.i (cutB c s (k + 1) i)] := by
 unfold cutA cutB
 by_cases h : i = k
 ·
  subst h; rw [if_pos rfl, if_pos (by omega), if_pos (by omega)]
 ·
  rw [if_neg h]
  by_cases h2 : i < k
  ·
   rw [if_pos h2, if_pos h2, if_pos (by omega), if_pos (by omega)]
  ·
   rw [if_neg h2, if_neg h2, if_neg (by omega), if_neg (by omega)]
abbrev zzGA20 : V := V.sl 2 0 fun (k : Nat) => [V.i (Prod.fst (gp [] k)), V.i (Prod.snd (gp [] k))]
abbrev yyGA21 (s : List Pt) : Ob := Ob.row 81 2 (List.length s) fun (x : Nat) => [V.c (Value.int IntKind.i64 0), V.c (Value.int IntKind.i64 0)]
set_option maxRecDepth 100000 in
theorem Cut_ac (c : Cut) (s : List Pt) (hs : s.length ≤ 4611686018427387904) : AC Tryz.prog 11 [c.v, V.pts s] (.tup [V.pts (cutR c s).1, .i (cutR c s).2]) [] := by
 refine acI hTT hMX Tryz.func11 Tryz.ntmps11 fun C hC hF => ?_
 refine aw_seq_k fun K hK => wR 2 ?_; refine aX hTT 3 [] True.intro ?_; refine aops_nil (xt_n (hK _ ?_)); clear hK K; refine aw_seq_k fun K hK => ?_; refine aw_seq_k fun K hK => wR 3 ?_; refine aX hTT 1 [] True.intro ?_
 refine eC (cutCheck_ac c) ?_
 refine aX hTT 1 [] True.intro ?_; refine aops_nil (xt_n (hK _ ?_)); clear hK K; refine aw_seq_k fun K hK => wR 4 ?_; refine aX hTT 2 [] True.intro ?_; refine aops_nil (xt_n (hK _ ?_)); clear hK K
 refine w_cond (t := !decide (cutE c = (0 : Int))) (by kernel_rfl) (fun c1 => ?_) (fun c1 => ?_)
 ·
  simp at c1
  refine aw_seq_k fun K hK => wR 5 ?_; refine aX hTT 3 [] True.intro ?_; refine aops_nil (xt_n (hK _ ?_)); clear hK K
  refine aw_ret ?_
  refine xt_r ?_
  rw [cutR_1 c1]
  refine ret_of_le (le_nil 4 (sz := 2) 0 (fun k => [.i (gp [] k).1, .i (gp [] k).2]) (by kernel_rfl) ?_) ?_
  ·
   rfl
  refine rP (V.tup [zzGA20, V.i (cutE c)])
 simp at c1
 refine aw_skip ?_
 refine xt_n (hK _ ?_); clear hK K; refine aw_seq_k fun K hK => ?_; refine aw_seq_k fun K hK => wR 5 ?_; refine aX hTT 1 [] True.intro ?_
 refine eC (tCheckSamples_ac s hs) ?_
 refine aX hTT 1 [] True.intro ?_; refine aops_nil (xt_n (hK _ ?_)); clear hK K; refine aw_seq_k fun K hK => wR 6 ?_; refine aX hTT 2 [] True.intro ?_; refine aops_nil (xt_n (hK _ ?_)); clear hK K
 refine w_cond (t := !decide (sChk s = (0 : Int))) (by kernel_rfl) (fun c2 => ?_) (fun c2 => ?_)
 ·
  simp at c2
  refine aw_seq_k fun K hK => wR 7 ?_; refine aX hTT 3 [] True.intro ?_; refine aops_nil (xt_n (hK _ ?_)); clear hK K
  refine aw_ret ?_
  refine xt_r ?_
  rw [cutR_2 c1 c2]
  refine ret_of_le (le_nil 4 (sz := 2) 0 (fun k => [.i (gp [] k).1, .i (gp [] k).2]) (by kernel_rfl) ?_) ?_
  ·
   rfl
  refine rP (V.tup [zzGA20, V.i (sChk s)])
 simp at c2
 obtain ⟨l1, l2⟩ := sChk_ok.1 c2
 refine aw_skip ?_
 refine xt_n (hK _ ?_); clear hK K; refine aw_seq_k fun K hK => wR 7 ?_; refine aX hTT 4 [(2, .r (PR.mk (some (23 : Nat)) (some ((0 : Int) ≤ (↑(List.length s) : Int) ∧ (↑(List.length s) : Int) ≤ (↑(List.length s) : Int) ∧ (↑(List.length s) : Int) ≤ (1099511627776 : Int))) (V.own 600023) [((600023 : Nat), some ((yyGA21 s)))] false))] ⟨⟨(by omega), (by omega)⟩, True.intro⟩ ?_; refine aops_nil (xt_n (hK _ ?_)); clear hK K; refine aw_seq_k fun K hK => ?_; refine aw_seq_k fun K hK => wR 8 ?_; refine aX hTT 3 [] True.intro ?_; refine aops_nil (xt_n (hK _ ?_)); clear hK K
 refine aw_block ?_
 refine w_loop (ι := Nat) (fun k => [(2, .ptr [.i c.half, .i c.gain, .i c.thin, .i c.wide, .i c.slope, .i c.jerk, .i c.sty]), (8, .own 8), (24, V.pts s), (25, .i s.length), (26, .i k)]) (fun k => [(8, .row 81 2 s.length fun j => [.i (cutA c s k j), .i (cutB c s k j)])]) (fun k => k ≤ s.length) (fun k => s.length - k) 0 (Nat.zero_le _) ?_ ?_
 ·
  refine le_ren (sl := [(8, Ob.row 81 2 (List.length s) fun (j : Nat) => [V.i (cutA c s (0 : Nat) j), V.i (cutB c s (0 : Nat) j)])]) [(8, 600023)] (.cons (by kernel_rfl) (.cons (by kernel_rfl) (.cons (by kernel_rfl) (.cons (by kernel_rfl) (.cons (by kernel_rfl) .nil))))) (.cons ⟨(yyGA21 s), (by kernel_rfl), .row (by kernel_rfl) (fun _ _ => rfl)⟩ .nil) (by kernel_rfl) (by kernel_rfl)
 intro k hk
 refine aw_seq_k fun K hK => wR 2 ?_; refine aX hTT 1 [] True.intro ?_; refine aops_nil (xt_n (hK _ ?_)); clear hK K; refine aw_seq_k fun K hK => ?_
 refine w_cond (t := decide ((↑k : Int) < (↑(List.length s) : Int))) (by kernel_rfl) (fun c3 => ?_) (fun c3 => ?_)
 ·
  simp at c3
  have hsk := sE_iff.1 (l2 k c3)
  refine aw_skip ?_
  refine xt_n (hK _ ?_); clear hK K; refine aw_seq_k fun K hK => ?_
  refine aw_block ?_
  refine aw_seq_k fun K hK => wR 3 ?_; refine aX hTT 6 [(1, .c ((0 : Int) ≤ (↑k : Int) ∧ (↑k : Int) < (↑(List.length s) : Int))), (3, .r (pn 10 (V.ref 200010 0) (200010 : Nat) (Ob.box 46 [V.i 0, V.i 0]))), (5, .r (pw ((0 : Nat) + (2 : Nat) ≤ (2 : Nat)) (200010 : Nat) (Ob.box 46 [V.i (Prod.fst (gp s k)), V.i (Prod.snd (gp s k))])))] ⟨(by omega), (by omega), True.intro⟩ ?_; refine aops_nil (xt_n (hK _ ?_)); clear hK K; refine wR 4 ?_; refine aX hTT 4 [(3, .c ((0 : Nat) ≤ (2 : Nat)))] ⟨(by omega), True.intro⟩ ?_
  refine eC (point_ac c (gp s k) c1 (by omega)) ?_
  refine aX hTT 2 [(0, .c ((0 : Int) ≤ (↑k : Int) ∧ (↑k : Int) < (↑(List.length s) : Int))), (1, .r (pw (k < List.length s ∧ (0 : Nat) + (2 : Nat) ≤ (2 : Nat)) (8 : Nat) (Ob.row 81 2 (List.length s) fun (j : Nat) => if j = k then [V.i (Prod.fst (wallP c (gp s k))), V.i (Prod.snd (wallP c (gp s k)))] else [V.i (cutA c s k j), V.i (cutB c s k j)])))] ⟨(by omega), (by omega), True.intro⟩ ?_; refine aops_nil ?_; refine xb_n ?_; refine xt_n (hK _ ?_); clear hK K; refine wR 5 ?_; refine aX hTT 2 [(0, .i ((↑k : Int) + (1 : Int)))] ⟨(by omega), True.intro⟩ ?_; refine aops_nil ?_; refine xt_n ?_
  refine ⟨k + 1, by omega, ?_, by omega⟩
  refine le_ren (tl := [(2, V.ptr [V.i (Cut.half c), V.i (Cut.gain c), V.i (Cut.thin c), V.i (Cut.wide c), V.i (Cut.slope c), V.i (Cut.jerk c), V.i (Cut.sty c)]), (8, V.own 8), (24, V.sl 2 (List.length s) fun (k : Nat) => [V.i (Prod.fst (gp s k)), V.i (Prod.snd (gp s k))]), (25, V.i (↑(List.length s) : Int)), (26, V.i (↑(k + (1 : Nat)) : Int))]) (sl := [(8, Ob.row 81 2 (List.length s) fun (j : Nat) => [V.i (cutA c s (k + (1 : Nat)) j), V.i (cutB c s (k + (1 : Nat)) j)])]) [(8, 8)] (.cons (by kernel_rfl) (.cons (by kernel_rfl) (.cons (by kernel_rfl) (.cons (by kernel_rfl) (.cons (by kernel_rfl) .nil))))) (.cons ⟨Ob.row 81 2 (List.length s) fun (j : Nat) => if j = k then [V.i (Prod.fst (wallP c (gp s k))), V.i (Prod.snd (wallP c (gp s k)))] else [V.i (cutA c s k j), V.i (cutB c s k j)], (by kernel_rfl), .row (by kernel_rfl) ?_⟩ .nil) (by kernel_rfl) (by kernel_rfl)
  intro i hi
  exact cutAB_set i
 ·
  simp at c3
  obtain rfl : k = s.length := by omega
  refine aw_exit ?_
  refine xt_x ?_; refine xt_x ?_
  refine xb_same ?_
  refine xt_n ?_; clear hK K; refine hK _ ?_; clear hK K; refine aw_seq_k fun K hK => wR 3 ?_; refine aX hTT 3 [] True.intro ?_; refine aops_nil (xt_n (hK _ ?_)); clear hK K
  refine aw_ret ?_
  rw [cutR_3 c1 c2]
  refine ret_of_le (le_shut 4 8 (e := (81 : Nat)) (sz := (2 : Nat)) (n := List.length s) (n' := (s.map (wallP c)).length) (row := fun (j : Nat) => [V.i (cutA c s (List.length s) j), V.i (cutB c s (List.length s) j)]) (row' := (fun j => [.i (gp (s.map (wallP c)) j).1, .i (gp (s.map (wallP c)) j).2])) (by kernel_rfl) (by kernel_rfl) (fun _ _ => rfl) ?_ ?_) ?_
  ·
   simp
  ·
   intro i hi
   rw [gp_map hi, cutA, cutB, if_pos hi, if_pos hi]
  refine rP (V.tup [V.sl 2 (List.length (List.map (wallP c) s)) fun (j : Nat) => [V.i (Prod.fst (gp (List.map (wallP c) s) j)), V.i (Prod.snd (gp (List.map (wallP c) s) j))], V.i 0])
end Go.Proofs.YtepkjobndmmejaaGreatDoor

namespace Go.Proofs.YtepkjobndmmejaaGreatDoor
open Go.Ab Go.RowKit Go.Dw Go.Shelf
def optP : Option Pt → V
 | none => .c (.pointer none)
 | some p => .ptr [.i p.1, .i p.2]
def stepP (b : Option Pt) (h : Pt) : Int := match b with
 | none => 0
 | some b => max (gAmt (h.1 - b.1)) (gAmt (h.2 - b.2))
def bendP (b : Option Pt) (h : Pt) (a : Option Pt) : Int := match b, a with
 | some b, some a => max (gAmt (b.1 + a.1 - 2 * h.1)) (gAmt (b.2 + a.2 - 2 * h.2))
 | _, _ => 0
def gArc (r per : Int) : Int := (710 * r * (710 * r)).tdiv (113 * per * (113 * per))
def thinB (c : Cut) (h : Pt) : Bool := decide (h.2 - h.1 < c.thin)
def wideB (c : Cut) (h : Pt) : Bool := decide (c.wide < h.2 - h.1)
def steepB (c : Cut) (r per : Int) (b : Option Pt) (h : Pt) : Bool := decide (710 * r * c.slope < 113000 * per * stepP b h)
def suddenB (c : Cut) (b : Option Pt) (h : Pt) (a : Option Pt) : Bool := decide (c.jerk < bendP b h a)
def sharpB (c : Cut) (r per : Int) (b : Option Pt) (h : Pt) (a : Option Pt) : Bool := decide (gArc r per < bendP b h a * c.sty)
def ruleB (c : Cut) (r per : Int) (b : Option Pt) (h : Pt) (a : Option Pt) : Nat → Bool
 | 1 => thinB c h
 | 2 => wideB c h
 | 3 => steepB c r per b h
 | 4 => suddenB c b h a
 | _ => sharpB c r per b h a
def ruleP (c : Cut) (r per : Int) (b : Option Pt) (h : Pt) (a : Option Pt) : Int :=
 if thinB c h then 1 else if wideB c h then 2 else if steepB c r per b h then 3 else if suddenB c b h a then 4 else if sharpB c r per b h a then 5 else 0
def Ed (p : Pt) : Prop := (-4194304 ≤ p.1 ∧ p.1 ≤ 4194304) ∧ -4194304 ≤ p.2 ∧ p.2 ≤ 4194304
def EdO : Option Pt → Prop
 | none => True
 | some p => Ed p
theorem stepP_bd {b : Option Pt} {h : Pt} (hb : EdO b) (hh : Ed h) : 0 ≤ stepP b h ∧ stepP b h ≤ 8388608 := by
 cases b with
 | none => simp [stepP]
 | some b =>
  unfold EdO Ed at hb
  unfold Ed at hh
  simp only [stepP, gAmt]
  omega
theorem bendP_bd {b a : Option Pt} {h : Pt} (hb : EdO b) (hh : Ed h) (ha : EdO a) : 0 ≤ bendP b h a ∧ bendP b h a ≤ 16777216 := by
 cases b with
 | none => simp [bendP]
 | some b =>
  cases a with
  | none => simp [bendP]
  | some a =>
   unfold EdO Ed at hb ha
   unfold Ed at hh
   simp only [bendP, gAmt]
   omega
structure Plc (r per : Int) : Prop where
 r : 0 ≤ r ∧ r ≤ 4194304
 p : 1 ≤ per ∧ per ≤ 65536
theorem way_bd {r per : Int} (h : Plc r per) : (0 ≤ 710 * r ∧ 710 * r ≤ 2977955840) ∧ (0 ≤ 710 * r * (710 * r) ∧ 710 * r * (710 * r) ≤ 8868220984990105600) ∧ (113 ≤ 113 * per ∧ 113 * per ≤ 7405568) ∧ 12769 ≤ 113 * per * (113 * per) ∧ 113 * per * (113 * per) ≤ 54842437402624 := by
 obtain ⟨⟨a, b⟩, c, d⟩ := h
 have h1 : 0 ≤ (710 * r) * (710 * r) := Int.mul_nonneg (by omega) (by omega)
 have h2 : (710 * r) * (710 * r) ≤ 2977955840 * 2977955840 := Int.mul_le_mul (by omega) (by omega) (by omega) (by omega)
 have h3 : 113 * 113 ≤ (113 * per) * (113 * per) := Int.mul_le_mul (by omega) (by omega) (by omega) (by omega)
 have h4 : (113 * per) * (113 * per) ≤ 7405568 * 7405568 := Int.mul_le_mul (by omega) (by omega) (by omega) (by omega)
 have e1 : (2977955840 : Int) * 2977955840 = 8868220984990105600 := by decide
 have e2 : (7405568 : Int) * 7405568 = 54842437402624 := by decide
 exact ⟨by omega, ⟨h1, by omega⟩, by omega, by omega, by omega⟩
end Go.Proofs.YtepkjobndmmejaaGreatDoor

namespace Go.Proofs.YtepkjobndmmejaaGreatDoor
open Go.Ab Go.RowKit Go.Dw Go.Shelf
theorem gLit2 {row : Nat → List V} {x y : Int} (h0 : row 0 = [.i x]) (h1 : row 1 = [.i y]) : RImp (.sl 1 2 row) (V.ints [x, y]) := by
 refine RImp.rows rfl fun i hi => ?_
 rcases (by omega : i = 0 ∨ i = 1) with rfl | rfl
 ·
  exact h0
 ·
  exact h1
set_option maxRecDepth 100000 in
theorem gMost_ac (x y : Int) : AC Tryz.prog 197 [V.ints [x, y]] (.i (max x y)) [] := by
 refine acI hTT hMX Tryz.func197 Tryz.ntmps197 fun C hC hF => ?_
 refine aw_seq_k fun K hK => wR 2 ?_; refine aX hTT 1 [] True.intro ?_; refine aops_nil (xt_n (hK _ ?_)); clear hK K; refine aw_seq_k fun K hK => wR 3 ?_; refine aX hTT 4 [(1, .c ((0 : Int) ≤ (0 : Int) ∧ (0 : Int) < (↑(2 : Nat) : Int)))] ⟨(by omega), True.intro⟩ ?_; refine aops_nil (xt_n (hK _ ?_)); clear hK K; refine aw_seq_k fun K hK => ?_; refine aw_seq_k fun K hK => wR 4 ?_; refine aX hTT 4 [(1, .c ((0 : Int) ≤ (1 : Int) ∧ (1 : Int) ≤ (↑(2 : Nat) : Int) ∧ (↑(2 : Nat) : Int) ≤ (↑(2 : Nat) : Int)))] ⟨⟨(by omega), (by omega)⟩, True.intro⟩ ?_; refine aops_nil (xt_n (hK _ ?_)); clear hK K
 refine aw_block ?_
 refine w_loop (ι := Nat) (fun k => [(3, .i (if k = 0 then x else max x y)), (10, .sl 1 1 fun i => [.i (gi [x, y] (i + 1))]), (11, .i 1), (12, .i k)]) (fun _ => []) (fun k => k ≤ 1) (fun k => 1 - k) 0 (Nat.zero_le _) ?_ ?_
 ·
  refine le_ren [] (.cons (by kernel_rfl) (.cons (by kernel_rfl) (.cons (by kernel_rfl) (.cons (by kernel_rfl) .nil)))) .nil (by kernel_rfl) (by kernel_rfl)
 intro k hk
 rcases (by omega : k = 0 ∨ k = 1) with rfl | rfl
 ·
  refine aw_seq_k fun K hK => ?_
  refine wR 2 ?_; refine aX hTT 1 [] True.intro ?_; refine aops_nil (xt_n (hK _ ?_)); clear hK K; refine aw_seq_k fun K hK => ?_; refine w_true (t := true) (by kernel_rfl) rfl ?_
  refine aw_skip ?_
  refine xt_n (hK _ ?_); clear hK K; refine aw_seq_k fun K hK => ?_
  refine aw_block ?_
  refine aw_seq_k fun K hK => wR 3 ?_; refine aX hTT 3 [(0, .c ((0 : Int) ≤ (↑(0 : Nat) : Int) ∧ (↑(0 : Nat) : Int) < (↑(1 : Nat) : Int)))] ⟨(by omega), True.intro⟩ ?_; refine aops_nil (xt_n (hK _ ?_)); clear hK K; refine wR 4 ?_; refine aX hTT 4 [] True.intro ?_; refine aops_nil ?_; refine xb_n ?_; refine xt_n (hK _ ?_); clear hK K; refine wR 5 ?_; refine aX hTT 2 [(0, .i ((↑(0 : Nat) : Int) + (1 : Int)))] ⟨(by omega), True.intro⟩ ?_; refine aops_nil ?_; refine xt_n ?_
  refine ⟨1, by omega, ?_, by omega⟩
  refine le_ren [] (.cons (by kernel_rfl) (.cons (by kernel_rfl) (.cons (by kernel_rfl) (.cons (by kernel_rfl) .nil)))) .nil (by kernel_rfl) (by kernel_rfl)
 ·
  refine aw_seq_k fun K hK => ?_
  refine wR 2 ?_; refine aX hTT 1 [] True.intro ?_; refine aops_nil (xt_n (hK _ ?_)); clear hK K; refine aw_seq_k fun K hK => ?_; refine w_false (t := false) (by kernel_rfl) rfl ?_
  refine aw_exit ?_
  refine xt_x ?_; refine xt_x ?_
  refine xb_same ?_
  refine xt_n ?_; clear hK K; refine hK _ ?_; clear hK K; refine aw_seq_k fun K hK => wR 3 ?_; refine aX hTT 2 [] True.intro ?_; refine aops_nil (xt_n (hK _ ?_)); clear hK K
  refine aw_ret ?_
  refine rP (V.i (if (1 : Nat) = (0 : Nat) then x else max x y))
def trC (c : Cut) (l : List Pt) (r per : Int) : List V := [.i c.half, .i c.gain, .i c.thin, .i c.wide, .i c.slope, .i c.jerk, .i c.sty, V.pts l, .i r, .i per]
def gNearV (b : Option Pt) (h : Pt) (a : Option Pt) : V := .agg [optP b, .ptr [.i h.1, .i h.2], optP a]
theorem EdO.some {p : Pt} (h : EdO (some p)) : Ed p := h
set_option maxRecDepth 100000 in
theorem width_nn (h : Pt) (hh : Ed h) : AC Tryz.prog 181 [gNearV none h none] (.i (h.2 - h.1)) [] := by
 unfold Ed at hh
 refine acI hTT hMX Tryz.func181 Tryz.ntmps181 fun C hC hF => ?_
 refine aw_seq_k fun K hK => wR 2 ?_; refine aX hTT 2 [] True.intro ?_; refine aops_nil (xt_n (hK _ ?_)); clear hK K; refine aw_seq_k fun K hK => wD 3 ?_; refine aX hTT 12 [(10, .i (Prod.snd h - Prod.fst h))] ⟨(by omega), True.intro⟩ ?_; refine aops_nil ⟨by kernel_rfl, ?_⟩; refine xt_n (hK _ ?_); clear hK K
 refine aw_ret ?_
 refine rP (V.i (Prod.snd h - Prod.fst h))
set_option maxRecDepth 100000 in
theorem width_ns (h a : Pt) (hh : Ed h) : AC Tryz.prog 181 [gNearV none h (some a)] (.i (h.2 - h.1)) [] := by
 unfold Ed at hh
 refine acI hTT hMX Tryz.func181 Tryz.ntmps181 fun C hC hF => ?_
 refine aw_seq_k fun K hK => wR 2 ?_; refine aX hTT 2 [] True.intro ?_; refine aops_nil (xt_n (hK _ ?_)); clear hK K; refine aw_seq_k fun K hK => wD 3 ?_; refine aX hTT 12 [(10, .i (Prod.snd h - Prod.fst h))] ⟨(by omega), True.intro⟩ ?_; refine aops_nil ⟨by kernel_rfl, ?_⟩; refine xt_n (hK _ ?_); clear hK K
 refine aw_ret ?_
 refine rP (V.i (Prod.snd h - Prod.fst h))
set_option maxRecDepth 100000 in
theorem width_sn (b h : Pt) (hh : Ed h) : AC Tryz.prog 181 [gNearV (some b) h none] (.i (h.2 - h.1)) [] := by
 unfold Ed at hh
 refine acI hTT hMX Tryz.func181 Tryz.ntmps181 fun C hC hF => ?_
 refine aw_seq_k fun K hK => wR 2 ?_; refine aX hTT 2 [] True.intro ?_; refine aops_nil (xt_n (hK _ ?_)); clear hK K; refine aw_seq_k fun K hK => wD 3 ?_; refine aX hTT 12 [(10, .i (Prod.snd h - Prod.fst h))] ⟨(by omega), True.intro⟩ ?_; refine aops_nil ⟨by kernel_rfl, ?_⟩; refine xt_n (hK _ ?_); clear hK K
 refine aw_ret ?_
 refine rP (V.i (Prod.snd h - Prod.fst h))
set_option maxRecDepth 100000 in
theorem width_ss (b h a : Pt) (hh : Ed h) : AC Tryz.prog 181 [gNearV (some b) h (some a)] (.i (h.2 - h.1)) [] := by
 unfold Ed at hh
 refine acI hTT hMX Tryz.func181 Tryz.ntmps181 fun C hC hF => ?_
 refine aw_seq_k fun K hK => wR 2 ?_; refine aX hTT 2 [] True.intro ?_; refine aops_nil (xt_n (hK _ ?_)); clear hK K; refine aw_seq_k fun K hK => wD 3 ?_; refine aX hTT 12 [(10, .i (Prod.snd h - Prod.fst h))] ⟨(by omega), True.intro⟩ ?_; refine aops_nil ⟨by kernel_rfl, ?_⟩; refine xt_n (hK _ ?_); clear hK K
 refine aw_ret ?_
 refine rP (V.i (Prod.snd h - Prod.fst h))
theorem width_ac (b : Option Pt) (h : Pt) (a : Option Pt) (hh : Ed h) : AC Tryz.prog 181 [gNearV b h a] (.i (h.2 - h.1)) [] := by
 cases b with
 | none => cases a with
  | none => exact width_nn  h hh
  | some a => exact width_ns  h a hh
 | some b => cases a with
  | none => exact width_sn  b h hh
  | some a => exact width_ss  b h a hh
set_option maxRecDepth 100000 in
theorem step_nn (h : Pt) (hb : EdO none) (hh : Ed h) : AC Tryz.prog 182 [gNearV none h none] (.i (stepP none h)) [] := by
 unfold Ed at hh
 refine acI hTT hMX Tryz.func182 Tryz.ntmps182 fun C hC hF => ?_
 refine aw_seq_k fun K hK => wR 2 ?_; refine aX hTT 2 [] True.intro ?_; refine aops_nil (xt_n (hK _ ?_)); clear hK K; refine aw_seq_k fun K hK => ?_; refine aw_seq_k fun K hK => wR 3 ?_; refine aX hTT 3 [] True.intro ?_; refine aops_nil (xt_n (hK _ ?_)); clear hK K; refine w_true (t := true) (by kernel_rfl) rfl ?_; refine aw_seq_k fun K hK => wR 4 ?_; refine aX hTT 1 [] True.intro ?_; refine aops_nil (xt_n (hK _ ?_)); clear hK K
 refine aw_ret ?_
 refine xt_r ?_
 refine rP (V.i 0)
set_option maxRecDepth 100000 in
theorem step_ns (h a : Pt) (hb : EdO none) (hh : Ed h) : AC Tryz.prog 182 [gNearV none h (some a)] (.i (stepP none h)) [] := by
 unfold Ed at hh
 refine acI hTT hMX Tryz.func182 Tryz.ntmps182 fun C hC hF => ?_
 refine aw_seq_k fun K hK => wR 2 ?_; refine aX hTT 2 [] True.intro ?_; refine aops_nil (xt_n (hK _ ?_)); clear hK K; refine aw_seq_k fun K hK => ?_; refine aw_seq_k fun K hK => wR 3 ?_; refine aX hTT 3 [] True.intro ?_; refine aops_nil (xt_n (hK _ ?_)); clear hK K; refine w_true (t := true) (by kernel_rfl) rfl ?_; refine aw_seq_k fun K hK => wR 4 ?_; refine aX hTT 1 [] True.intro ?_; refine aops_nil (xt_n (hK _ ?_)); clear hK K
 refine aw_ret ?_
 refine xt_r ?_
 refine rP (V.i 0)
set_option maxRecDepth 100000 in
theorem step_sn (b h : Pt) (hb : EdO (some b)) (hh : Ed h) : AC Tryz.prog 182 [gNearV (some b) h none] (.i (stepP (some b) h)) [] := by
 unfold Ed at hh
 have hb2 := hb.some
 unfold Ed at hb2
 refine acI hTT hMX Tryz.func182 Tryz.ntmps182 fun C hC hF => ?_
 refine aw_seq_k fun K hK => wR 2 ?_; refine aX hTT 2 [] True.intro ?_; refine aops_nil (xt_n (hK _ ?_)); clear hK K; refine aw_seq_k fun K hK => ?_; refine aw_seq_k fun K hK => wR 3 ?_; refine aX hTT 3 [] True.intro ?_; refine aops_nil (xt_n (hK _ ?_)); clear hK K; refine w_false (t := false) (by kernel_rfl) rfl ?_
 refine aw_skip ?_
 refine xt_n (hK _ ?_); clear hK K; refine aw_seq_k fun K hK => wD 4 ?_; refine aX hTT 11 [(10, .i (Prod.fst h - Prod.fst b))] ⟨(by omega), True.intro⟩ ?_
 refine eC (gAmount_ac (h.1 - b.1) (by omega)) ?_
 refine aX hTT 11 [(10, .i (Prod.snd h - Prod.snd b))] ⟨(by omega), True.intro⟩ ?_
 refine eC (gAmount_ac (h.2 - b.2) (by omega)) ?_
 refine aX hTT 1 [] True.intro ?_
 refine eC (AC.conv (gMost_ac (gAmt (h.1 - b.1)) (gAmt (h.2 - b.2))) (args' := [V.sl 1 2 fun (i : Nat) => List.take (1 : Nat) (List.drop (i * (1 : Nat)) [V.i (gAmt (Prod.fst h - Prod.fst b)), V.i (gAmt (Prod.snd h - Prod.snd b))])]) ⟨?_, trivial⟩) ?_
 ·
  exact gLit2 rfl rfl
 refine aX hTT 1 [] True.intro ?_; refine aops_nil ⟨by kernel_rfl, ?_⟩; refine xt_n (hK _ ?_); clear hK K
 refine aw_ret ?_
 refine rP (V.i (max (gAmt (Prod.fst h - Prod.fst b)) (gAmt (Prod.snd h - Prod.snd b))))
set_option maxRecDepth 100000 in
theorem step_ss (b h a : Pt) (hb : EdO (some b)) (hh : Ed h) : AC Tryz.prog 182 [gNearV (some b) h (some a)] (.i (stepP (some b) h)) [] := by
 unfold Ed at hh
 have hb2 := hb.some
 unfold Ed at hb2
 refine acI hTT hMX Tryz.func182 Tryz.ntmps182 fun C hC hF => ?_
 refine aw_seq_k fun K hK => wR 2 ?_; refine aX hTT 2 [] True.intro ?_; refine aops_nil (xt_n (hK _ ?_)); clear hK K; refine aw_seq_k fun K hK => ?_; refine aw_seq_k fun K hK => wR 3 ?_; refine aX hTT 3 [] True.intro ?_; refine aops_nil (xt_n (hK _ ?_)); clear hK K; refine w_false (t := false) (by kernel_rfl) rfl ?_
 refine aw_skip ?_
 refine xt_n (hK _ ?_); clear hK K; refine aw_seq_k fun K hK => wD 4 ?_; refine aX hTT 11 [(10, .i (Prod.fst h - Prod.fst b))] ⟨(by omega), True.intro⟩ ?_
 refine eC (gAmount_ac (h.1 - b.1) (by omega)) ?_
 refine aX hTT 11 [(10, .i (Prod.snd h - Prod.snd b))] ⟨(by omega), True.intro⟩ ?_
 refine eC (gAmount_ac (h.2 - b.2) (by omega)) ?_
 refine aX hTT 1 [] True.intro ?_
 refine eC (AC.conv (gMost_ac (gAmt (h.1 - b.1)) (gAmt (h.2 - b.2))) (args' := [V.sl 1 2 fun (i : Nat) => List.take (1 : Nat) (List.drop (i * (1 : Nat)) [V.i (gAmt (Prod.fst h - Prod.fst b)), V.i (gAmt (Prod.snd h - Prod.snd b))])]) ⟨?_, trivial⟩) ?_
 ·
  exact gLit2 rfl rfl
 refine aX hTT 1 [] True.intro ?_; refine aops_nil ⟨by kernel_rfl, ?_⟩; refine xt_n (hK _ ?_); clear hK K
 refine aw_ret ?_
 refine rP (V.i (max (gAmt (Prod.fst h - Prod.fst b)) (gAmt (Prod.snd h - Prod.snd b))))
theorem step_ac (b : Option Pt) (h : Pt) (a : Option Pt) (hb : EdO b) (hh : Ed h) : AC Tryz.prog 182 [gNearV b h a] (.i (stepP b h)) [] := by
 cases b with
 | none => cases a with
  | none => exact step_nn  h hb hh
  | some a => exact step_ns  h a hb hh
 | some b => cases a with
  | none => exact step_sn  b h hb hh
  | some a => exact step_ss  b h a hb hh
set_option maxRecDepth 100000 in
theorem bend_nn (h : Pt) (hb : EdO none) (hh : Ed h) (ha : EdO none) : AC Tryz.prog 183 [gNearV none h none] (.i (bendP none h none)) [] := by
 unfold Ed at hh
 refine acI hTT hMX Tryz.func183 Tryz.ntmps183 fun C hC hF => ?_
 refine aw_seq_k fun K hK => wR 2 ?_; refine aX hTT 2 [] True.intro ?_; refine aops_nil (xt_n (hK _ ?_)); clear hK K; refine aw_seq_k fun K hK => ?_; refine aw_seq_k fun K hK => wR 3 ?_; refine aX hTT 8 [(4, .c (gA (true == false) True)), (5, .c (gB (true == false) True)), (6, .c (gD (true == false) True)), (7, .c (True ∧ (true = false → (true == false) = true)))] ⟨⟨⟨True.intro, True.intro⟩, (fun _ => True.intro)⟩, ⟨⟨(by (exact fun h => h)), True.intro⟩, (fun _ => True.intro)⟩, ⟨⟨(by (exact fun h => h)), ⟨True.intro, True.intro⟩⟩, (fun _ => True.intro)⟩, ⟨True.intro, (by (intro h; simp at h; done))⟩, True.intro⟩ ?_; refine aops_nil (xt_n (hK _ ?_)); clear hK K; refine w_true (t := true) (by kernel_rfl) rfl ?_; refine aw_seq_k fun K hK => wR 4 ?_; refine aX hTT 1 [] True.intro ?_; refine aops_nil (xt_n (hK _ ?_)); clear hK K
 refine aw_ret ?_
 refine xt_r ?_
 refine rP (V.i 0)
set_option maxRecDepth 100000 in
theorem bend_ns (h a : Pt) (hb : EdO none) (hh : Ed h) (ha : EdO (some a)) : AC Tryz.prog 183 [gNearV none h (some a)] (.i (bendP none h (some a))) [] := by
 unfold Ed at hh
 have ha2 := ha.some
 unfold Ed at ha2
 refine acI hTT hMX Tryz.func183 Tryz.ntmps183 fun C hC hF => ?_
 refine aw_seq_k fun K hK => wR 2 ?_; refine aX hTT 2 [] True.intro ?_; refine aops_nil (xt_n (hK _ ?_)); clear hK K; refine aw_seq_k fun K hK => ?_; refine aw_seq_k fun K hK => wR 3 ?_; refine aX hTT 8 [(4, .c (gA (true == false) True)), (5, .c (gB (true == false) True)), (6, .c (gD (true == false) True)), (7, .c (True ∧ (true = false → (true == false) = true)))] ⟨⟨⟨True.intro, True.intro⟩, (fun _ => True.intro)⟩, ⟨⟨(by (exact fun h => h)), True.intro⟩, (fun _ => True.intro)⟩, ⟨⟨(by (exact fun h => h)), ⟨True.intro, True.intro⟩⟩, (fun _ => True.intro)⟩, ⟨True.intro, (by (intro h; simp at h; done))⟩, True.intro⟩ ?_; refine aops_nil (xt_n (hK _ ?_)); clear hK K; refine w_true (t := true) (by kernel_rfl) rfl ?_; refine aw_seq_k fun K hK => wR 4 ?_; refine aX hTT 1 [] True.intro ?_; refine aops_nil (xt_n (hK _ ?_)); clear hK K
 refine aw_ret ?_
 refine xt_r ?_
 refine rP (V.i 0)
set_option maxRecDepth 100000 in
theorem bend_sn (b h : Pt) (hb : EdO (some b)) (hh : Ed h) (ha : EdO none) : AC Tryz.prog 183 [gNearV (some b) h none] (.i (bendP (some b) h none)) [] := by
 unfold Ed at hh
 have hb2 := hb.some
 unfold Ed at hb2
 refine acI hTT hMX Tryz.func183 Tryz.ntmps183 fun C hC hF => ?_
 refine aw_seq_k fun K hK => wR 2 ?_; refine aX hTT 2 [] True.intro ?_; refine aops_nil (xt_n (hK _ ?_)); clear hK K; refine aw_seq_k fun K hK => ?_; refine aw_seq_k fun K hK => wR 3 ?_; refine aX hTT 8 [(4, .c (gA (false == false) True)), (5, .c (gB (false == false) True)), (6, .c (gD (false == false) True)), (7, .c (True ∧ (false = false → (false == false) = true)))] ⟨⟨⟨True.intro, True.intro⟩, (fun _ => True.intro)⟩, ⟨⟨(by (exact fun h => h)), True.intro⟩, (fun _ => True.intro)⟩, ⟨⟨(by (exact fun h => h)), ⟨True.intro, True.intro⟩⟩, (fun _ => True.intro)⟩, ⟨True.intro, (by (intro h; rw [h]; rfl))⟩, True.intro⟩ ?_; refine aops_nil (xt_n (hK _ ?_)); clear hK K; refine w_true (t := true) (by kernel_rfl) rfl ?_; refine aw_seq_k fun K hK => wR 4 ?_; refine aX hTT 1 [] True.intro ?_; refine aops_nil (xt_n (hK _ ?_)); clear hK K
 refine aw_ret ?_
 refine xt_r ?_
 refine rP (V.i 0)
set_option maxRecDepth 100000 in
theorem bend_ss (b h a : Pt) (hb : EdO (some b)) (hh : Ed h) (ha : EdO (some a)) : AC Tryz.prog 183 [gNearV (some b) h (some a)] (.i (bendP (some b) h (some a))) [] := by
 unfold Ed at hh
 have hb2 := hb.some
 unfold Ed at hb2
 have ha2 := ha.some
 unfold Ed at ha2
 refine acI hTT hMX Tryz.func183 Tryz.ntmps183 fun C hC hF => ?_
 refine aw_seq_k fun K hK => wR 2 ?_; refine aX hTT 2 [] True.intro ?_; refine aops_nil (xt_n (hK _ ?_)); clear hK K; refine aw_seq_k fun K hK => ?_; refine aw_seq_k fun K hK => wR 3 ?_; refine aX hTT 8 [(4, .c (gA (false == false) True)), (5, .c (gB (false == false) True)), (6, .c (gD (false == false) True)), (7, .c (True ∧ (false = false → (false == false) = true)))] ⟨⟨⟨True.intro, True.intro⟩, (fun _ => True.intro)⟩, ⟨⟨(by (exact fun h => h)), True.intro⟩, (fun _ => True.intro)⟩, ⟨⟨(by (exact fun h => h)), ⟨True.intro, True.intro⟩⟩, (fun _ => True.intro)⟩, ⟨True.intro, (by (intro h; rw [h]; rfl))⟩, True.intro⟩ ?_; refine aops_nil (xt_n (hK _ ?_)); clear hK K; refine w_false (t := false) (by kernel_rfl) rfl ?_
 refine aw_skip ?_
 refine xt_n (hK _ ?_); clear hK K; refine aw_seq_k fun K hK => wD 4 ?_; refine aX hTT 18 [(10, .i (Prod.fst b + Prod.fst a)), (16, .i ((2 : Int) * Prod.fst h)), (17, .i (Prod.fst b + Prod.fst a - (2 : Int) * Prod.fst h))] ⟨(by omega), (by omega), (by omega), True.intro⟩ ?_
 refine eC (gAmount_ac (b.1 + a.1 - 2 * h.1) (by omega)) ?_
 refine aX hTT 18 [(10, .i (Prod.snd b + Prod.snd a)), (16, .i ((2 : Int) * Prod.snd h)), (17, .i (Prod.snd b + Prod.snd a - (2 : Int) * Prod.snd h))] ⟨(by omega), (by omega), (by omega), True.intro⟩ ?_
 refine eC (gAmount_ac (b.2 + a.2 - 2 * h.2) (by omega)) ?_
 refine aX hTT 1 [] True.intro ?_
 refine eC (AC.conv (gMost_ac (gAmt (b.1 + a.1 - 2 * h.1)) (gAmt (b.2 + a.2 - 2 * h.2))) (args' := [V.sl 1 2 fun (i : Nat) => List.take (1 : Nat) (List.drop (i * (1 : Nat)) [V.i (gAmt (Prod.fst b + Prod.fst a - (2 : Int) * Prod.fst h)), V.i (gAmt (Prod.snd b + Prod.snd a - (2 : Int) * Prod.snd h))])]) ⟨?_, trivial⟩) ?_
 ·
  exact gLit2 rfl rfl
 refine aX hTT 1 [] True.intro ?_; refine aops_nil ⟨by kernel_rfl, ?_⟩; refine xt_n (hK _ ?_); clear hK K
 refine aw_ret ?_
 refine rP (V.i (max (gAmt (Prod.fst b + Prod.fst a - (2 : Int) * Prod.fst h)) (gAmt (Prod.snd b + Prod.snd a - (2 : Int) * Prod.snd h))))
theorem bend_ac (b : Option Pt) (h : Pt) (a : Option Pt) (hb : EdO b) (hh : Ed h) (ha : EdO a) : AC Tryz.prog 183 [gNearV b h a] (.i (bendP b h a)) [] := by
 cases b with
 | none => cases a with
  | none => exact bend_nn  h hb hh ha
  | some a => exact bend_ns  h a hb hh ha
 | some b => cases a with
  | none => exact bend_sn  b h hb hh ha
  | some a => exact bend_ss  b h a hb hh ha
set_option maxRecDepth 100000 in
theorem gArc_ac (c : Cut) (l : List Pt) (r per : Int) (hp : Plc r per) : AC Tryz.prog 44 [.ptr (trC c l r per)] (.i (gArc r per)) [] := by
 obtain ⟨w1, w2, w3, w4⟩ := way_bd hp
 obtain ⟨hr, hq⟩ := hp
 refine acI hTT hMX Tryz.func44 Tryz.ntmps44 fun C hC hF => ?_
 refine aw_seq_k fun K hK => wR 2 ?_; refine aX hTT 1 [] True.intro ?_; refine aops_nil (xt_n (hK _ ?_)); clear hK K; refine aw_seq_k fun K hK => wD 3 ?_; refine aX hTT 12 [(4, .i ((710 : Int) * r)), (9, .i ((113 : Int) * per))] ⟨(by omega), (by omega), True.intro⟩ ?_; refine aops_nil ⟨by kernel_rfl, ?_⟩; refine xt_n (hK _ ?_); clear hK K; refine aw_seq_k fun K hK => wR 4 ?_; refine aX hTT 8 [(2, .i ((710 : Int) * r * ((710 : Int) * r))), (5, .i ((113 : Int) * per * ((113 : Int) * per))), (6, .c ((0 : Int) < (113 : Int) * per * ((113 : Int) * per) ∧ (-9223372036854775808 : Int) ≤ (710 : Int) * r * ((710 : Int) * r) ∧ (710 : Int) * r * ((710 : Int) * r) ≤ (9223372036854775807 : Int)))] ⟨(by omega), (by omega), ⟨(by omega), (by omega)⟩, True.intro⟩ ?_; refine aops_nil (xt_n (hK _ ?_)); clear hK K
 refine aw_ret ?_
 refine rP (V.i (Int.tdiv ((710 : Int) * r * ((710 : Int) * r)) ((113 : Int) * per * ((113 : Int) * per))))
set_option maxRecDepth 100000 in
theorem thin_nn (c : Cut) (l : List Pt) (r per : Int) (h : Pt) (hh : Ed h) : AC Tryz.prog 151 [.ptr (trC c l r per), gNearV none h none] (.b (thinB c h)) [] := by
 refine acI hTT hMX Tryz.func151 Tryz.ntmps151 fun C hC hF => ?_
 refine aw_seq_k fun K hK => wR 2 ?_; refine aX hTT 2 [] True.intro ?_; refine aops_nil (xt_n (hK _ ?_)); clear hK K; refine aw_seq_k fun K hK => wD 3 ?_; refine aX hTT 1 [] True.intro ?_
 refine eC (width_ac none h none hh) ?_
 refine aX hTT 7 [] True.intro ?_; refine aops_nil ⟨by kernel_rfl, ?_⟩; refine xt_n (hK _ ?_); clear hK K
 refine aw_ret ?_
 refine rP (V.b (decide (Prod.snd h - Prod.fst h < Cut.thin c)))
set_option maxRecDepth 100000 in
theorem thin_ns (c : Cut) (l : List Pt) (r per : Int) (h a : Pt) (hh : Ed h) : AC Tryz.prog 151 [.ptr (trC c l r per), gNearV none h (some a)] (.b (thinB c h)) [] := by
 refine acI hTT hMX Tryz.func151 Tryz.ntmps151 fun C hC hF => ?_
 refine aw_seq_k fun K hK => wR 2 ?_; refine aX hTT 2 [] True.intro ?_; refine aops_nil (xt_n (hK _ ?_)); clear hK K; refine aw_seq_k fun K hK => wD 3 ?_; refine aX hTT 1 [] True.intro ?_
 refine eC (width_ac none h (some a) hh) ?_
 refine aX hTT 7 [] True.intro ?_; refine aops_nil ⟨by kernel_rfl, ?_⟩; refine xt_n (hK _ ?_); clear hK K
 refine aw_ret ?_
 refine rP (V.b (decide (Prod.snd h - Prod.fst h < Cut.thin c)))
set_option maxRecDepth 100000 in
theorem thin_sn (c : Cut) (l : List Pt) (r per : Int) (b h : Pt) (hh : Ed h) : AC Tryz.prog 151 [.ptr (trC c l r per), gNearV (some b) h none] (.b (thinB c h)) [] := by
 refine acI hTT hMX Tryz.func151 Tryz.ntmps151 fun C hC hF => ?_
 refine aw_seq_k fun K hK => wR 2 ?_; refine aX hTT 2 [] True.intro ?_; refine aops_nil (xt_n (hK _ ?_)); clear hK K; refine aw_seq_k fun K hK => wD 3 ?_; refine aX hTT 1 [] True.intro ?_
 refine eC (width_ac (some b) h none hh) ?_
 refine aX hTT 7 [] True.intro ?_; refine aops_nil ⟨by kernel_rfl, ?_⟩; refine xt_n (hK _ ?_); clear hK K
 refine aw_ret ?_
 refine rP (V.b (decide (Prod.snd h - Prod.fst h < Cut.thin c)))
set_option maxRecDepth 100000 in
theorem thin_ss (c : Cut) (l : List Pt) (r per : Int) (b h a : Pt) (hh : Ed h) : AC Tryz.prog 151 [.ptr (trC c l r per), gNearV (some b) h (some a)] (.b (thinB c h)) [] := by
 refine acI hTT hMX Tryz.func151 Tryz.ntmps151 fun C hC hF => ?_
 refine aw_seq_k fun K hK => wR 2 ?_; refine aX hTT 2 [] True.intro ?_; refine aops_nil (xt_n (hK _ ?_)); clear hK K; refine aw_seq_k fun K hK => wD 3 ?_; refine aX hTT 1 [] True.intro ?_
 refine eC (width_ac (some b) h (some a) hh) ?_
 refine aX hTT 7 [] True.intro ?_; refine aops_nil ⟨by kernel_rfl, ?_⟩; refine xt_n (hK _ ?_); clear hK K
 refine aw_ret ?_
 refine rP (V.b (decide (Prod.snd h - Prod.fst h < Cut.thin c)))
theorem thin_ac (c : Cut) (l : List Pt) (r per : Int) (b : Option Pt) (h : Pt) (a : Option Pt) (hh : Ed h) : AC Tryz.prog 151 [.ptr (trC c l r per), gNearV b h a] (.b (thinB c h)) [] := by
 cases b with
 | none => cases a with
  | none => exact thin_nn c l r per h hh
  | some a => exact thin_ns c l r per h a hh
 | some b => cases a with
  | none => exact thin_sn c l r per b h hh
  | some a => exact thin_ss c l r per b h a hh
set_option maxRecDepth 100000 in
theorem wide_nn (c : Cut) (l : List Pt) (r per : Int) (h : Pt) (hh : Ed h) : AC Tryz.prog 152 [.ptr (trC c l r per), gNearV none h none] (.b (wideB c h)) [] := by
 refine acI hTT hMX Tryz.func152 Tryz.ntmps152 fun C hC hF => ?_
 refine aw_seq_k fun K hK => wR 2 ?_; refine aX hTT 2 [] True.intro ?_; refine aops_nil (xt_n (hK _ ?_)); clear hK K; refine aw_seq_k fun K hK => wD 3 ?_; refine aX hTT 1 [] True.intro ?_
 refine eC (width_ac none h none hh) ?_
 refine aX hTT 7 [] True.intro ?_; refine aops_nil ⟨by kernel_rfl, ?_⟩; refine xt_n (hK _ ?_); clear hK K
 refine aw_ret ?_
 refine rP (V.b (decide (Cut.wide c < Prod.snd h - Prod.fst h)))
set_option maxRecDepth 100000 in
theorem wide_ns (c : Cut) (l : List Pt) (r per : Int) (h a : Pt) (hh : Ed h) : AC Tryz.prog 152 [.ptr (trC c l r per), gNearV none h (some a)] (.b (wideB c h)) [] := by
 refine acI hTT hMX Tryz.func152 Tryz.ntmps152 fun C hC hF => ?_
 refine aw_seq_k fun K hK => wR 2 ?_; refine aX hTT 2 [] True.intro ?_; refine aops_nil (xt_n (hK _ ?_)); clear hK K; refine aw_seq_k fun K hK => wD 3 ?_; refine aX hTT 1 [] True.intro ?_
 refine eC (width_ac none h (some a) hh) ?_
 refine aX hTT 7 [] True.intro ?_; refine aops_nil ⟨by kernel_rfl, ?_⟩; refine xt_n (hK _ ?_); clear hK K
 refine aw_ret ?_
 refine rP (V.b (decide (Cut.wide c < Prod.snd h - Prod.fst h)))
set_option maxRecDepth 100000 in
theorem wide_sn (c : Cut) (l : List Pt) (r per : Int) (b h : Pt) (hh : Ed h) : AC Tryz.prog 152 [.ptr (trC c l r per), gNearV (some b) h none] (.b (wideB c h)) [] := by
 refine acI hTT hMX Tryz.func152 Tryz.ntmps152 fun C hC hF => ?_
 refine aw_seq_k fun K hK => wR 2 ?_; refine aX hTT 2 [] True.intro ?_; refine aops_nil (xt_n (hK _ ?_)); clear hK K; refine aw_seq_k fun K hK => wD 3 ?_; refine aX hTT 1 [] True.intro ?_
 refine eC (width_ac (some b) h none hh) ?_
 refine aX hTT 7 [] True.intro ?_; refine aops_nil ⟨by kernel_rfl, ?_⟩; refine xt_n (hK _ ?_); clear hK K
 refine aw_ret ?_
 refine rP (V.b (decide (Cut.wide c < Prod.snd h - Prod.fst h)))
set_option maxRecDepth 100000 in
theorem wide_ss (c : Cut) (l : List Pt) (r per : Int) (b h a : Pt) (hh : Ed h) : AC Tryz.prog 152 [.ptr (trC c l r per), gNearV (some b) h (some a)] (.b (wideB c h)) [] := by
 refine acI hTT hMX Tryz.func152 Tryz.ntmps152 fun C hC hF => ?_
 refine aw_seq_k fun K hK => wR 2 ?_; refine aX hTT 2 [] True.intro ?_; refine aops_nil (xt_n (hK _ ?_)); clear hK K; refine aw_seq_k fun K hK => wD 3 ?_; refine aX hTT 1 [] True.intro ?_
 refine eC (width_ac (some b) h (some a) hh) ?_
 refine aX hTT 7 [] True.intro ?_; refine aops_nil ⟨by kernel_rfl, ?_⟩; refine xt_n (hK _ ?_); clear hK K
 refine aw_ret ?_
 refine rP (V.b (decide (Cut.wide c < Prod.snd h - Prod.fst h)))
theorem wide_ac (c : Cut) (l : List Pt) (r per : Int) (b : Option Pt) (h : Pt) (a : Option Pt) (hh : Ed h) : AC Tryz.prog 152 [.ptr (trC c l r per), gNearV b h a] (.b (wideB c h)) [] := by
 cases b with
 | none => cases a with
  | none => exact wide_nn c l r per h hh
  | some a => exact wide_ns c l r per h a hh
 | some b => cases a with
  | none => exact wide_sn c l r per b h hh
  | some a => exact wide_ss c l r per b h a hh
set_option maxRecDepth 100000 in
theorem steep_nn (c : Cut) (l : List Pt) (r per : Int) (h : Pt) (hc : cutE c = 0) (hp : Plc r per) (hb : EdO none) (hh : Ed h) : AC Tryz.prog 153 [.ptr (trC c l r per), gNearV none h none] (.b (steepB c r per none h)) [] := by
 obtain ⟨c1, c2, c3, c4, c5, c6, c7⟩ := cutE_ok.1 hc
 refine acI hTT hMX Tryz.func153 Tryz.ntmps153 fun C hC hF => ?_
 have sb := stepP_bd hb hh
 have m1 := gMul (m := 8388608) (n := 7405568000) (a := stepP none h) (b := 113000 * per) (by omega) (by have := hp.p; omega)
 have m1' : 113000 * per * stepP none h = stepP none h * (113000 * per) := Int.mul_comm _ _
 have m2 := gMul (m := 2977955840) (n := 10000) (a := 710 * r) (b := c.slope) (by have := hp.r; omega) (by omega)
 have hr := hp.r
 have hq := hp.p
 refine aw_seq_k fun K hK => wR 2 ?_; refine aX hTT 2 [] True.intro ?_; refine aops_nil (xt_n (hK _ ?_)); clear hK K; refine aw_seq_k fun K hK => wD 3 ?_; refine aX hTT 6 [(4, .i ((113000 : Int) * per))] ⟨(by omega), True.intro⟩ ?_
 refine eC (step_ac none h none hb hh) ?_
 refine aX hTT 14 [(0, .i ((113000 : Int) * per * stepP none h)), (5, .i ((710 : Int) * r)), (11, .i ((710 : Int) * r * Cut.slope c))] ⟨(by omega), (by omega), (by omega), True.intro⟩ ?_; refine aops_nil ⟨by kernel_rfl, ?_⟩; refine xt_n (hK _ ?_); clear hK K
 refine aw_ret ?_
 refine rP (V.b (decide ((710 : Int) * r * Cut.slope c < (113000 : Int) * per * stepP none h)))
set_option maxRecDepth 100000 in
theorem steep_ns (c : Cut) (l : List Pt) (r per : Int) (h a : Pt) (hc : cutE c = 0) (hp : Plc r per) (hb : EdO none) (hh : Ed h) : AC Tryz.prog 153 [.ptr (trC c l r per), gNearV none h (some a)] (.b (steepB c r per none h)) [] := by
 obtain ⟨c1, c2, c3, c4, c5, c6, c7⟩ := cutE_ok.1 hc
 refine acI hTT hMX Tryz.func153 Tryz.ntmps153 fun C hC hF => ?_
 have sb := stepP_bd hb hh
 have m1 := gMul (m := 8388608) (n := 7405568000) (a := stepP none h) (b := 113000 * per) (by omega) (by have := hp.p; omega)
 have m1' : 113000 * per * stepP none h = stepP none h * (113000 * per) := Int.mul_comm _ _
 have m2 := gMul (m := 2977955840) (n := 10000) (a := 710 * r) (b := c.slope) (by have := hp.r; omega) (by omega)
 have hr := hp.r
 have hq := hp.p
 refine aw_seq_k fun K hK => wR 2 ?_; refine aX hTT 2 [] True.intro ?_; refine aops_nil (xt_n (hK _ ?_)); clear hK K; refine aw_seq_k fun K hK => wD 3 ?_; refine aX hTT 6 [(4, .i ((113000 : Int) * per))] ⟨(by omega), True.intro⟩ ?_
 refine eC (step_ac none h (some a) hb hh) ?_
 refine aX hTT 14 [(0, .i ((113000 : Int) * per * stepP none h)), (5, .i ((710 : Int) * r)), (11, .i ((710 : Int) * r * Cut.slope c))] ⟨(by omega), (by omega), (by omega), True.intro⟩ ?_; refine aops_nil ⟨by kernel_rfl, ?_⟩; refine xt_n (hK _ ?_); clear hK K
 refine aw_ret ?_
 refine rP (V.b (decide ((710 : Int) * r * Cut.slope c < (113000 : Int) * per * stepP none h)))
set_option maxRecDepth 100000 in
theorem steep_sn (c : Cut) (l : List Pt) (r per : Int) (b h : Pt) (hc : cutE c = 0) (hp : Plc r per) (hb : EdO (some b)) (hh : Ed h) : AC Tryz.prog 153 [.ptr (trC c l r per), gNearV (some b) h none] (.b (steepB c r per (some b) h)) [] := by
 obtain ⟨c1, c2, c3, c4, c5, c6, c7⟩ := cutE_ok.1 hc
 refine acI hTT hMX Tryz.func153 Tryz.ntmps153 fun C hC hF => ?_
 have sb := stepP_bd hb hh
 have m1 := gMul (m := 8388608) (n := 7405568000) (a := stepP (some b) h) (b := 113000 * per) (by omega) (by have := hp.p; omega)
 have m1' : 113000 * per * stepP (some b) h = stepP (some b) h * (113000 * per) := Int.mul_comm _ _
 have m2 := gMul (m := 2977955840) (n := 10000) (a := 710 * r) (b := c.slope) (by have := hp.r; omega) (by omega)
 have hr := hp.r
 have hq := hp.p
 refine aw_seq_k fun K hK => wR 2 ?_; refine aX hTT 2 [] True.intro ?_; refine aops_nil (xt_n (hK _ ?_)); clear hK K; refine aw_seq_k fun K hK => wD 3 ?_; refine aX hTT 6 [(4, .i ((113000 : Int) * per))] ⟨(by omega), True.intro⟩ ?_
 refine eC (step_ac (some b) h none hb hh) ?_
 refine aX hTT 14 [(0, .i ((113000 : Int) * per * stepP (some b) h)), (5, .i ((710 : Int) * r)), (11, .i ((710 : Int) * r * Cut.slope c))] ⟨(by omega), (by omega), (by omega), True.intro⟩ ?_; refine aops_nil ⟨by kernel_rfl, ?_⟩; refine xt_n (hK _ ?_); clear hK K
 refine aw_ret ?_
 refine rP (V.b (decide ((710 : Int) * r * Cut.slope c < (113000 : Int) * per * stepP (some b) h)))
set_option maxRecDepth 100000 in
theorem steep_ss (c : Cut) (l : List Pt) (r per : Int) (b h a : Pt) (hc : cutE c = 0) (hp : Plc r per) (hb : EdO (some b)) (hh : Ed h) : AC Tryz.prog 153 [.ptr (trC c l r per), gNearV (some b) h (some a)] (.b (steepB c r per (some b) h)) [] := by
 obtain ⟨c1, c2, c3, c4, c5, c6, c7⟩ := cutE_ok.1 hc
 refine acI hTT hMX Tryz.func153 Tryz.ntmps153 fun C hC hF => ?_
 have sb := stepP_bd hb hh
 have m1 := gMul (m := 8388608) (n := 7405568000) (a := stepP (some b) h) (b := 113000 * per) (by omega) (by have := hp.p; omega)
 have m1' : 113000 * per * stepP (some b) h = stepP (some b) h * (113000 * per) := Int.mul_comm _ _
 have m2 := gMul (m := 2977955840) (n := 10000) (a := 710 * r) (b := c.slope) (by have := hp.r; omega) (by omega)
 have hr := hp.r
 have hq := hp.p
 refine aw_seq_k fun K hK => wR 2 ?_; refine aX hTT 2 [] True.intro ?_; refine aops_nil (xt_n (hK _ ?_)); clear hK K; refine aw_seq_k fun K hK => wD 3 ?_; refine aX hTT 6 [(4, .i ((113000 : Int) * per))] ⟨(by omega), True.intro⟩ ?_
 refine eC (step_ac (some b) h (some a) hb hh) ?_
 refine aX hTT 14 [(0, .i ((113000 : Int) * per * stepP (some b) h)), (5, .i ((710 : Int) * r)), (11, .i ((710 : Int) * r * Cut.slope c))] ⟨(by omega), (by omega), (by omega), True.intro⟩ ?_; refine aops_nil ⟨by kernel_rfl, ?_⟩; refine xt_n (hK _ ?_); clear hK K
 refine aw_ret ?_
 refine rP (V.b (decide ((710 : Int) * r * Cut.slope c < (113000 : Int) * per * stepP (some b) h)))
theorem steep_ac (c : Cut) (l : List Pt) (r per : Int) (b : Option Pt) (h : Pt) (a : Option Pt) (hc : cutE c = 0) (hp : Plc r per) (hb : EdO b) (hh : Ed h) : AC Tryz.prog 153 [.ptr (trC c l r per), gNearV b h a] (.b (steepB c r per b h)) [] := by
 cases b with
 | none => cases a with
  | none => exact steep_nn c l r per h hc hp hb hh
  | some a => exact steep_ns c l r per h a hc hp hb hh
 | some b => cases a with
  | none => exact steep_sn c l r per b h hc hp hb hh
  | some a => exact steep_ss c l r per b h a hc hp hb hh
set_option maxRecDepth 100000 in
theorem sudden_nn (c : Cut) (l : List Pt) (r per : Int) (h : Pt) (hb : EdO none) (hh : Ed h) (ha : EdO none) : AC Tryz.prog 154 [.ptr (trC c l r per), gNearV none h none] (.b (suddenB c none h none)) [] := by
 refine acI hTT hMX Tryz.func154 Tryz.ntmps154 fun C hC hF => ?_
 refine aw_seq_k fun K hK => wR 2 ?_; refine aX hTT 2 [] True.intro ?_; refine aops_nil (xt_n (hK _ ?_)); clear hK K; refine aw_seq_k fun K hK => wD 3 ?_; refine aX hTT 1 [] True.intro ?_
 refine eC (bend_ac none h none hb hh ha) ?_
 refine aX hTT 7 [] True.intro ?_; refine aops_nil ⟨by kernel_rfl, ?_⟩; refine xt_n (hK _ ?_); clear hK K
 refine aw_ret ?_
 refine rP (V.b (decide (Cut.jerk c < bendP none h none)))
set_option maxRecDepth 100000 in
theorem sudden_ns (c : Cut) (l : List Pt) (r per : Int) (h a : Pt) (hb : EdO none) (hh : Ed h) (ha : EdO (some a)) : AC Tryz.prog 154 [.ptr (trC c l r per), gNearV none h (some a)] (.b (suddenB c none h (some a))) [] := by
 refine acI hTT hMX Tryz.func154 Tryz.ntmps154 fun C hC hF => ?_
 refine aw_seq_k fun K hK => wR 2 ?_; refine aX hTT 2 [] True.intro ?_; refine aops_nil (xt_n (hK _ ?_)); clear hK K; refine aw_seq_k fun K hK => wD 3 ?_; refine aX hTT 1 [] True.intro ?_
 refine eC (bend_ac none h (some a) hb hh ha) ?_
 refine aX hTT 7 [] True.intro ?_; refine aops_nil ⟨by kernel_rfl, ?_⟩; refine xt_n (hK _ ?_); clear hK K
 refine aw_ret ?_
 refine rP (V.b (decide (Cut.jerk c < bendP none h (some a))))
set_option maxRecDepth 100000 in
theorem sudden_sn (c : Cut) (l : List Pt) (r per : Int) (b h : Pt) (hb : EdO (some b)) (hh : Ed h) (ha : EdO none) : AC Tryz.prog 154 [.ptr (trC c l r per), gNearV (some b) h none] (.b (suddenB c (some b) h none)) [] := by
 refine acI hTT hMX Tryz.func154 Tryz.ntmps154 fun C hC hF => ?_
 refine aw_seq_k fun K hK => wR 2 ?_; refine aX hTT 2 [] True.intro ?_; refine aops_nil (xt_n (hK _ ?_)); clear hK K; refine aw_seq_k fun K hK => wD 3 ?_; refine aX hTT 1 [] True.intro ?_
 refine eC (bend_ac (some b) h none hb hh ha) ?_
 refine aX hTT 7 [] True.intro ?_; refine aops_nil ⟨by kernel_rfl, ?_⟩; refine xt_n (hK _ ?_); clear hK K
 refine aw_ret ?_
 refine rP (V.b (decide (Cut.jerk c < bendP (some b) h none)))
set_option maxRecDepth 100000 in
theorem sudden_ss (c : Cut) (l : List Pt) (r per : Int) (b h a : Pt) (hb : EdO (some b)) (hh : Ed h) (ha : EdO (some a)) : AC Tryz.prog 154 [.ptr (trC c l r per), gNearV (some b) h (some a)] (.b (suddenB c (some b) h (some a))) [] := by
 refine acI hTT hMX Tryz.func154 Tryz.ntmps154 fun C hC hF => ?_
 refine aw_seq_k fun K hK => wR 2 ?_; refine aX hTT 2 [] True.intro ?_; refine aops_nil (xt_n (hK _ ?_)); clear hK K; refine aw_seq_k fun K hK => wD 3 ?_; refine aX hTT 1 [] True.intro ?_
 refine eC (bend_ac (some b) h (some a) hb hh ha) ?_
 refine aX hTT 7 [] True.intro ?_; refine aops_nil ⟨by kernel_rfl, ?_⟩; refine xt_n (hK _ ?_); clear hK K
 refine aw_ret ?_
 refine rP (V.b (decide (Cut.jerk c < bendP (some b) h (some a))))
theorem sudden_ac (c : Cut) (l : List Pt) (r per : Int) (b : Option Pt) (h : Pt) (a : Option Pt) (hb : EdO b) (hh : Ed h) (ha : EdO a) : AC Tryz.prog 154 [.ptr (trC c l r per), gNearV b h a] (.b (suddenB c b h a)) [] := by
 cases b with
 | none => cases a with
  | none => exact sudden_nn c l r per h hb hh ha
  | some a => exact sudden_ns c l r per h a hb hh ha
 | some b => cases a with
  | none => exact sudden_sn c l r per b h hb hh ha
  | some a => exact sudden_ss c l r per b h a hb hh ha
set_option maxRecDepth 100000 in
theorem sharp_nn (c : Cut) (l : List Pt) (r per : Int) (h : Pt) (hc : cutE c = 0) (hp : Plc r per) (hb : EdO none) (hh : Ed h) (ha : EdO none) : AC Tryz.prog 155 [.ptr (trC c l r per), gNearV none h none] (.b (sharpB c r per none h none)) [] := by
 obtain ⟨c1, c2, c3, c4, c5, c6, c7⟩ := cutE_ok.1 hc
 refine acI hTT hMX Tryz.func155 Tryz.ntmps155 fun C hC hF => ?_
 have sb := bendP_bd hb hh ha
 have m1 := gMul (m := 16777216) (n := 1024) (a := bendP none h none) (b := c.sty) (by omega) (by omega)
 refine aw_seq_k fun K hK => wR 2 ?_; refine aX hTT 2 [] True.intro ?_; refine aops_nil (xt_n (hK _ ?_)); clear hK K; refine aw_seq_k fun K hK => wD 3 ?_; refine aX hTT 1 [] True.intro ?_
 refine eC (bend_ac none h none hb hh ha) ?_
 refine aX hTT 7 [(5, .i (bendP none h none * Cut.sty c))] ⟨(by omega), True.intro⟩ ?_
 refine eC (gArc_ac c l r per hp) ?_
 refine aX hTT 2 [] True.intro ?_; refine aops_nil ⟨by kernel_rfl, ?_⟩; refine xt_n (hK _ ?_); clear hK K
 refine aw_ret ?_
 refine rP (V.b (decide (gArc r per < bendP none h none * Cut.sty c)))
set_option maxRecDepth 100000 in
theorem sharp_ns (c : Cut) (l : List Pt) (r per : Int) (h a : Pt) (hc : cutE c = 0) (hp : Plc r per) (hb : EdO none) (hh : Ed h) (ha : EdO (some a)) : AC Tryz.prog 155 [.ptr (trC c l r per), gNearV none h (some a)] (.b (sharpB c r per none h (some a))) [] := by
 obtain ⟨c1, c2, c3, c4, c5, c6, c7⟩ := cutE_ok.1 hc
 refine acI hTT hMX Tryz.func155 Tryz.ntmps155 fun C hC hF => ?_
 have sb := bendP_bd hb hh ha
 have m1 := gMul (m := 16777216) (n := 1024) (a := bendP none h (some a)) (b := c.sty) (by omega) (by omega)
 refine aw_seq_k fun K hK => wR 2 ?_; refine aX hTT 2 [] True.intro ?_; refine aops_nil (xt_n (hK _ ?_)); clear hK K; refine aw_seq_k fun K hK => wD 3 ?_; refine aX hTT 1 [] True.intro ?_
 refine eC (bend_ac none h (some a) hb hh ha) ?_
 refine aX hTT 7 [(5, .i (bendP none h (some a) * Cut.sty c))] ⟨(by omega), True.intro⟩ ?_
 refine eC (gArc_ac c l r per hp) ?_
 refine aX hTT 2 [] True.intro ?_; refine aops_nil ⟨by kernel_rfl, ?_⟩; refine xt_n (hK _ ?_); clear hK K
 refine aw_ret ?_
 refine rP (V.b (decide (gArc r per < bendP none h (some a) * Cut.sty c)))
set_option maxRecDepth 100000 in
theorem sharp_sn (c : Cut) (l : List Pt) (r per : Int) (b h : Pt) (hc : cutE c = 0) (hp : Plc r per) (hb : EdO (some b)) (hh : Ed h) (ha : EdO none) : AC Tryz.prog 155 [.ptr (trC c l r per), gNearV (some b) h none] (.b (sharpB c r per (some b) h none)) [] := by
 obtain ⟨c1, c2, c3, c4, c5, c6, c7⟩ := cutE_ok.1 hc
 refine acI hTT hMX Tryz.func155 Tryz.ntmps155 fun C hC hF => ?_
 have sb := bendP_bd hb hh ha
 have m1 := gMul (m := 16777216) (n := 1024) (a := bendP (some b) h none) (b := c.sty) (by omega) (by omega)
 refine aw_seq_k fun K hK => wR 2 ?_; refine aX hTT 2 [] True.intro ?_; refine aops_nil (xt_n (hK _ ?_)); clear hK K; refine aw_seq_k fun K hK => wD 3 ?_; refine aX hTT 1 [] True.intro ?_
 refine eC (bend_ac (some b) h none hb hh ha) ?_
 refine aX hTT 7 [(5, .i (bendP (some b) h none * Cut.sty c))] ⟨(by omega), True.intro⟩ ?_
 refine eC (gArc_ac c l r per hp) ?_
 refine aX hTT 2 [] True.intro ?_; refine aops_nil ⟨by kernel_rfl, ?_⟩; refine xt_n (hK _ ?_); clear hK K
 refine aw_ret ?_
 refine rP (V.b (decide (gArc r per < bendP (some b) h none * Cut.sty c)))
set_option maxRecDepth 100000 in
theorem sharp_ss (c : Cut) (l : List Pt) (r per : Int) (b h a : Pt) (hc : cutE c = 0) (hp : Plc r per) (hb : EdO (some b)) (hh : Ed h) (ha : EdO (some a)) : AC Tryz.prog 155 [.ptr (trC c l r per), gNearV (some b) h (some a)] (.b (sharpB c r per (some b) h (some a))) [] := by
 obtain ⟨c1, c2, c3, c4, c5, c6, c7⟩ := cutE_ok.1 hc
 refine acI hTT hMX Tryz.func155 Tryz.ntmps155 fun C hC hF => ?_
 have sb := bendP_bd hb hh ha
 have m1 := gMul (m := 16777216) (n := 1024) (a := bendP (some b) h (some a)) (b := c.sty) (by omega) (by omega)
 refine aw_seq_k fun K hK => wR 2 ?_; refine aX hTT 2 [] True.intro ?_; refine aops_nil (xt_n (hK _ ?_)); clear hK K; refine aw_seq_k fun K hK => wD 3 ?_; refine aX hTT 1 [] True.intro ?_
 refine eC (bend_ac (some b) h (some a) hb hh ha) ?_
 refine aX hTT 7 [(5, .i (bendP (some b) h (some a) * Cut.sty c))] ⟨(by omega), True.intro⟩ ?_
 refine eC (gArc_ac c l r per hp) ?_
 refine aX hTT 2 [] True.intro ?_; refine aops_nil ⟨by kernel_rfl, ?_⟩; refine xt_n (hK _ ?_); clear hK K
 refine aw_ret ?_
 refine rP (V.b (decide (gArc r per < bendP (some b) h (some a) * Cut.sty c)))
theorem sharp_ac (c : Cut) (l : List Pt) (r per : Int) (b : Option Pt) (h : Pt) (a : Option Pt) (hc : cutE c = 0) (hp : Plc r per) (hb : EdO b) (hh : Ed h) (ha : EdO a) : AC Tryz.prog 155 [.ptr (trC c l r per), gNearV b h a] (.b (sharpB c r per b h a)) [] := by
 cases b with
 | none => cases a with
  | none => exact sharp_nn c l r per h hc hp hb hh ha
  | some a => exact sharp_ns c l r per h a hc hp hb hh ha
 | some b => cases a with
  | none => exact sharp_sn c l r per b h hc hp hb hh ha
  | some a => exact sharp_ss c l r per b h a hc hp hb hh ha
theorem ruleP_at {c : Cut} {r per : Int} {b : Option Pt} {h : Pt} {a : Option Pt} {j : Nat} (h1 : 1 ≤ j) (h5 : j ≤ 5) (hj : ∀ i, 1 ≤ i → i < j → ruleB c r per b h a i = false) (q : ruleB c r per b h a j = true) : ruleP c r per b h a = (j : Int) := by
 have e1 := fun h => hj 1 (by omega) h
 have e2 := fun h => hj 2 (by omega) h
 have e3 := fun h => hj 3 (by omega) h
 have e4 := fun h => hj 4 (by omega) h
 simp only [ruleB] at e1 e2 e3 e4
 rcases (by omega : j = 1 ∨ j = 2 ∨ j = 3 ∨ j = 4 ∨ j = 5) with rfl | rfl | rfl | rfl | rfl <;> simp only [ruleB] at q <;> simp [ruleP, q, e1, e2, e3, e4]
theorem ruleP_no {c : Cut} {r per : Int} {b : Option Pt} {h : Pt} {a : Option Pt} (hj : ∀ i, 1 ≤ i → i ≤ 5 → ruleB c r per b h a i = false) : ruleP c r per b h a = 0 := by
 have e1 := hj 1 (by omega) (by omega)
 have e2 := hj 2 (by omega) (by omega)
 have e3 := hj 3 (by omega) (by omega)
 have e4 := hj 4 (by omega) (by omega)
 have e5 := hj 5 (by omega) (by omega)
 simp only [ruleB] at e1 e2 e3 e4 e5
 simp [ruleP, e1, e2, e3, e4, e5]
abbrev qGA30 : Prop := (0 : Int) ≤ (1 : Int) ∧ (1 : Int) < (↑(6 : Nat) : Int)
theorem qGA30_ : qGA30 := (by omega)
abbrev qGA31 : Prop := (0 : Int) ≤ (2 : Int) ∧ (2 : Int) < (↑(6 : Nat) : Int)
theorem qGA31_ : qGA31 := (by omega)
abbrev qGA32 : Prop := (0 : Int) ≤ (3 : Int) ∧ (3 : Int) < (↑(6 : Nat) : Int)
theorem qGA32_ : qGA32 := (by omega)
abbrev qGA33 : Prop := (0 : Int) ≤ (4 : Int) ∧ (4 : Int) < (↑(6 : Nat) : Int)
theorem qGA33_ : qGA33 := (by omega)
abbrev qGA34 : Prop := (0 : Int) ≤ (5 : Int) ∧ (5 : Int) < (↑(6 : Nat) : Int)
theorem qGA34_ : qGA34 := (by omega)
abbrev yyGA30 : List V := [V.c Value.nilFunc, V.fn (Fn.func (151 : Nat)) [] [], V.fn (Fn.func (152 : Nat)) [] [], V.fn (Fn.func (153 : Nat)) [] [], V.fn (Fn.func (154 : Nat)) [] [], V.fn (Fn.func (155 : Nat)) [] []]
set_option maxRecDepth 100000 in
theorem rule_nn (c : Cut) (l : List Pt) (r per : Int) (h : Pt) (hc : cutE c = 0) (hp : Plc r per) (hb : EdO none) (hh : Ed h) (ha : EdO none) : AC Tryz.prog 134 [.ptr (trC c l r per), gNearV none h none] (.i (ruleP c r per none h none)) [] := by
 refine acI hTT hMX Tryz.func134 Tryz.ntmps134 fun C hC hF => ?_
 refine aw_seq_k fun K hK => wR 2 ?_; refine aX hTT 2 [] True.intro ?_; refine aops_nil (xt_n (hK _ ?_)); clear hK K; refine aw_seq_k fun K hK => wR 3 ?_; refine aX hTT 3 [(1, .r (pn 5 (V.ref 200005 0) (200005 : Nat) (Ob.box 231 [V.c Value.nilFunc, V.c Value.nilFunc, V.c Value.nilFunc, V.c Value.nilFunc, V.c Value.nilFunc, V.c Value.nilFunc]))), (2, .r (pw ((0 : Nat) + (6 : Nat) ≤ (6 : Nat)) (200005 : Nat) (Ob.box 231 yyGA30)))] ⟨(by omega), True.intro⟩ ?_; refine aops_nil (xt_n (hK _ ?_)); clear hK K; refine aw_seq_k fun K hK => ?_; refine aw_seq_k fun K hK => wR 4 ?_; refine aX hTT 1 [] True.intro ?_; refine aops_nil (xt_n (hK _ ?_)); clear hK K
 refine aw_block ?_
 refine w_le (le_freezeBox (t := (231 : Nat)) (cs := yyGA30) 200005 (by kernel_rfl) (by kernel_rfl)) ?_
 refine w_loop (ι := Nat) (fun k => [(0, .ptr (trC c l r per)), (3, .ptr [optP none, .ptr [.i h.1, .i h.2], optP none]), (5, .ptr [.c .nilFunc, .fn (.func 151) [] [], .fn (.func 152) [] [], .fn (.func 153) [] [], .fn (.func 154) [] [], .fn (.func 155) [] []]), (6, .i ((k : Int) + 1))]) (fun _ => []) (fun k => k ≤ 5 ∧ ∀ j, 1 ≤ j → j ≤ k → ruleB c r per none h none j = false) (fun k => 5 - k) 0 ⟨by decide, fun j h1 h2 => by omega⟩ ?_ ?_
 ·
  refine le_ren [] (.cons (by kernel_rfl) (.cons (by kernel_rfl) (.cons (by kernel_rfl) (.cons (by kernel_rfl) .nil)))) .nil (by kernel_rfl) (by kernel_rfl)
 rintro k ⟨hk, hj⟩
 rcases (by omega : k = 0 ∨ k = 1 ∨ k = 2 ∨ k = 3 ∨ k = 4 ∨ k = 5) with rfl | rfl | rfl | rfl | rfl | rfl
 ·
  refine aw_seq_k fun K hK => ?_
  refine aw_seq_k fun K hK => wR 2 ?_; refine aX hTT 2 [] True.intro ?_; refine aops_nil (xt_n (hK _ ?_)); clear hK K; refine w_true (t := true) (by kernel_rfl) rfl ?_
  refine aw_skip ?_
  refine xt_n (hK _ ?_); clear hK K; refine aw_seq_k fun K hK => ?_
  refine aw_block ?_
  refine aw_seq_k fun K hK => wD 3 ?_; refine aX hTT 5 [(1, .c qGA30)] ⟨qGA30_, True.intro⟩ ?_
  refine eC (thin_ac c l r per none h none hh) ?_
  refine aops_nil ⟨by kernel_rfl, ?_⟩; refine xt_n (hK _ ?_); clear hK K
  refine w_cond (t := thinB c h) (by kernel_rfl) (fun q => ?_) (fun q => ?_)
  ·
   refine aw_seq_k fun K hK => ?_
   refine wR 4 ?_; refine aX hTT 2 [] True.intro ?_; refine aops_nil (xt_n (hK _ ?_)); clear hK K
   refine aw_ret ?_
   refine xb_r ?_
   refine xt_r ?_; refine xt_r ?_
   refine xb_r ?_
   refine xt_r ?_
   rw [ruleP_at (j := 1) (by decide) (by decide) (fun j h1 h2 => hj j h1 (by omega)) q]
   refine rP (V.i 1)
  ·
   refine aw_skip ?_
   refine xb_n ?_; refine xt_n (hK _ ?_); clear hK K; refine wR 4 ?_; refine aX hTT 3 [(1, .i ((1 : Int) + (1 : Int)))] ⟨(by omega), True.intro⟩ ?_; refine aops_nil ?_; refine xt_n ?_
   refine ⟨1, ⟨by decide, fun j h1 h2 => ?_⟩, by refine le_ren [] (.cons (by kernel_rfl) (.cons (by kernel_rfl) (.cons (by kernel_rfl) (.cons (by kernel_rfl) .nil)))) .nil (by kernel_rfl) (by kernel_rfl), by decide⟩
   rcases Nat.lt_or_ge j 1 with h3 | h3
   ·
    exact hj j h1 (by omega)
   ·
    obtain rfl : j = 1 := by omega
    exact q
 ·
  refine aw_seq_k fun K hK => ?_
  refine aw_seq_k fun K hK => wR 2 ?_; refine aX hTT 2 [] True.intro ?_; refine aops_nil (xt_n (hK _ ?_)); clear hK K; refine w_true (t := true) (by kernel_rfl) rfl ?_
  refine aw_skip ?_
  refine xt_n (hK _ ?_); clear hK K; refine aw_seq_k fun K hK => ?_
  refine aw_block ?_
  refine aw_seq_k fun K hK => wD 3 ?_; refine aX hTT 5 [(1, .c qGA31)] ⟨qGA31_, True.intro⟩ ?_
  refine eC (wide_ac c l r per none h none hh) ?_
  refine aops_nil ⟨by kernel_rfl, ?_⟩; refine xt_n (hK _ ?_); clear hK K
  refine w_cond (t := wideB c h) (by kernel_rfl) (fun q => ?_) (fun q => ?_)
  ·
   refine aw_seq_k fun K hK => ?_
   refine wR 4 ?_; refine aX hTT 2 [] True.intro ?_; refine aops_nil (xt_n (hK _ ?_)); clear hK K
   refine aw_ret ?_
   refine xb_r ?_
   refine xt_r ?_; refine xt_r ?_
   refine xb_r ?_
   refine xt_r ?_
   rw [ruleP_at (j := 2) (by decide) (by decide) (fun j h1 h2 => hj j h1 (by omega)) q]
   refine rP (V.i 2)
  ·
   refine aw_skip ?_
   refine xb_n ?_; refine xt_n (hK _ ?_); clear hK K; refine wR 4 ?_; refine aX hTT 3 [(1, .i ((2 : Int) + (1 : Int)))] ⟨(by omega), True.intro⟩ ?_; refine aops_nil ?_; refine xt_n ?_
   refine ⟨2, ⟨by decide, fun j h1 h2 => ?_⟩, by refine le_ren [] (.cons (by kernel_rfl) (.cons (by kernel_rfl) (.cons (by kernel_rfl) (.cons (by kernel_rfl) .nil)))) .nil (by kernel_rfl) (by kernel_rfl), by decide⟩
   rcases Nat.lt_or_ge j 2 with h3 | h3
   ·
    exact hj j h1 (by omega)
   ·
    obtain rfl : j = 2 := by omega
    exact q
 ·
  refine aw_seq_k fun K hK => ?_
  refine aw_seq_k fun K hK => wR 2 ?_; refine aX hTT 2 [] True.intro ?_; refine aops_nil (xt_n (hK _ ?_)); clear hK K; refine w_true (t := true) (by kernel_rfl) rfl ?_
  refine aw_skip ?_
  refine xt_n (hK _ ?_); clear hK K; refine aw_seq_k fun K hK => ?_
  refine aw_block ?_
  refine aw_seq_k fun K hK => wD 3 ?_; refine aX hTT 5 [(1, .c qGA32)] ⟨qGA32_, True.intro⟩ ?_
  refine eC (steep_ac c l r per none h none hc hp hb hh) ?_
  refine aops_nil ⟨by kernel_rfl, ?_⟩; refine xt_n (hK _ ?_); clear hK K
  refine w_cond (t := steepB c r per none h) (by kernel_rfl) (fun q => ?_) (fun q => ?_)
  ·
   refine aw_seq_k fun K hK => ?_
   refine wR 4 ?_; refine aX hTT 2 [] True.intro ?_; refine aops_nil (xt_n (hK _ ?_)); clear hK K
   refine aw_ret ?_
   refine xb_r ?_
   refine xt_r ?_; refine xt_r ?_
   refine xb_r ?_
   refine xt_r ?_
   rw [ruleP_at (j := 3) (by decide) (by decide) (fun j h1 h2 => hj j h1 (by omega)) q]
   refine rP (V.i 3)
  ·
   refine aw_skip ?_
   refine xb_n ?_; refine xt_n (hK _ ?_); clear hK K; refine wR 4 ?_; refine aX hTT 3 [(1, .i ((3 : Int) + (1 : Int)))] ⟨(by omega), True.intro⟩ ?_; refine aops_nil ?_; refine xt_n ?_
   refine ⟨3, ⟨by decide, fun j h1 h2 => ?_⟩, by refine le_ren [] (.cons (by kernel_rfl) (.cons (by kernel_rfl) (.cons (by kernel_rfl) (.cons (by kernel_rfl) .nil)))) .nil (by kernel_rfl) (by kernel_rfl), by decide⟩
   rcases Nat.lt_or_ge j 3 with h3 | h3
   ·
    exact hj j h1 (by omega)
   ·
    obtain rfl : j = 3 := by omega
    exact q
 ·
  refine aw_seq_k fun K hK => ?_
  refine aw_seq_k fun K hK => wR 2 ?_; refine aX hTT 2 [] True.intro ?_; refine aops_nil (xt_n (hK _ ?_)); clear hK K; refine w_true (t := true) (by kernel_rfl) rfl ?_
  refine aw_skip ?_
  refine xt_n (hK _ ?_); clear hK K; refine aw_seq_k fun K hK => ?_
  refine aw_block ?_
  refine aw_seq_k fun K hK => wD 3 ?_; refine aX hTT 5 [(1, .c qGA33)] ⟨qGA33_, True.intro⟩ ?_
  refine eC (sudden_ac c l r per none h none hb hh ha) ?_
  refine aops_nil ⟨by kernel_rfl, ?_⟩; refine xt_n (hK _ ?_); clear hK K
  refine w_cond (t := suddenB c none h none) (by kernel_rfl) (fun q => ?_) (fun q => ?_)
  ·
   refine aw_seq_k fun K hK => ?_
   refine wR 4 ?_; refine aX hTT 2 [] True.intro ?_; refine aops_nil (xt_n (hK _ ?_)); clear hK K
   refine aw_ret ?_
   refine xb_r ?_
   refine xt_r ?_; refine xt_r ?_
   refine xb_r ?_
   refine xt_r ?_
   rw [ruleP_at (j := 4) (by decide) (by decide) (fun j h1 h2 => hj j h1 (by omega)) q]
   refine rP (V.i 4)
  ·
   refine aw_skip ?_
   refine xb_n ?_; refine xt_n (hK _ ?_); clear hK K; refine wR 4 ?_; refine aX hTT 3 [(1, .i ((4 : Int) + (1 : Int)))] ⟨(by omega), True.intro⟩ ?_; refine aops_nil ?_; refine xt_n ?_
   refine ⟨4, ⟨by decide, fun j h1 h2 => ?_⟩, by refine le_ren [] (.cons (by kernel_rfl) (.cons (by kernel_rfl) (.cons (by kernel_rfl) (.cons (by kernel_rfl) .nil)))) .nil (by kernel_rfl) (by kernel_rfl), by decide⟩
   rcases Nat.lt_or_ge j 4 with h3 | h3
   ·
    exact hj j h1 (by omega)
   ·
    obtain rfl : j = 4 := by omega
    exact q
 ·
  refine aw_seq_k fun K hK => ?_
  refine aw_seq_k fun K hK => wR 2 ?_; refine aX hTT 2 [] True.intro ?_; refine aops_nil (xt_n (hK _ ?_)); clear hK K; refine w_true (t := true) (by kernel_rfl) rfl ?_
  refine aw_skip ?_
  refine xt_n (hK _ ?_); clear hK K; refine aw_seq_k fun K hK => ?_
  refine aw_block ?_
  refine aw_seq_k fun K hK => wD 3 ?_; refine aX hTT 5 [(1, .c qGA34)] ⟨qGA34_, True.intro⟩ ?_
  refine eC (sharp_ac c l r per none h none hc hp hb hh ha) ?_
  refine aops_nil ⟨by kernel_rfl, ?_⟩; refine xt_n (hK _ ?_); clear hK K
  refine w_cond (t := sharpB c r per none h none) (by kernel_rfl) (fun q => ?_) (fun q => ?_)
  ·
   refine aw_seq_k fun K hK => ?_
   refine wR 4 ?_; refine aX hTT 2 [] True.intro ?_; refine aops_nil (xt_n (hK _ ?_)); clear hK K
   refine aw_ret ?_
   refine xb_r ?_
   refine xt_r ?_; refine xt_r ?_
   refine xb_r ?_
   refine xt_r ?_
   rw [ruleP_at (j := 5) (by decide) (by decide) (fun j h1 h2 => hj j h1 (by omega)) q]
   refine rP (V.i 5)
  ·
   refine aw_skip ?_
   refine xb_n ?_; refine xt_n (hK _ ?_); clear hK K; refine wR 4 ?_; refine aX hTT 3 [(1, .i ((5 : Int) + (1 : Int)))] ⟨(by omega), True.intro⟩ ?_; refine aops_nil ?_; refine xt_n ?_
   refine ⟨5, ⟨by decide, fun j h1 h2 => ?_⟩, by refine le_ren [] (.cons (by kernel_rfl) (.cons (by kernel_rfl) (.cons (by kernel_rfl) (.cons (by kernel_rfl) .nil)))) .nil (by kernel_rfl) (by kernel_rfl), by decide⟩
   rcases Nat.lt_or_ge j 5 with h3 | h3
   ·
    exact hj j h1 (by omega)
   ·
    obtain rfl : j = 5 := by omega
    exact q
 ·
  refine aw_seq_k fun K hK => ?_
  refine aw_seq_k fun K hK => wR 2 ?_; refine aX hTT 2 [] True.intro ?_; refine aops_nil (xt_n (hK _ ?_)); clear hK K; refine w_false (t := false) (by kernel_rfl) rfl ?_
  refine aw_exit ?_
  refine xt_x ?_; refine xt_x ?_
  refine xb_same ?_
  refine xt_n ?_; clear hK K; refine hK _ ?_; clear hK K; refine aw_seq_k fun K hK => wR 3 ?_; refine aX hTT 1 [] True.intro ?_; refine aops_nil (xt_n (hK _ ?_)); clear hK K
  refine aw_ret ?_
  rw [ruleP_no fun j h1 h2 => hj j h1 h2]
  refine rP (V.i 0)
set_option maxRecDepth 100000 in
theorem rule_ns (c : Cut) (l : List Pt) (r per : Int) (h a : Pt) (hc : cutE c = 0) (hp : Plc r per) (hb : EdO none) (hh : Ed h) (ha : EdO (some a)) : AC Tryz.prog 134 [.ptr (trC c l r per), gNearV none h (some a)] (.i (ruleP c r per none h (some a))) [] := by
 refine acI hTT hMX Tryz.func134 Tryz.ntmps134 fun C hC hF => ?_
 refine aw_seq_k fun K hK => wR 2 ?_; refine aX hTT 2 [] True.intro ?_; refine aops_nil (xt_n (hK _ ?_)); clear hK K; refine aw_seq_k fun K hK => wR 3 ?_; refine aX hTT 3 [(1, .r (pn 5 (V.ref 200005 0) (200005 : Nat) (Ob.box 231 [V.c Value.nilFunc, V.c Value.nilFunc, V.c Value.nilFunc, V.c Value.nilFunc, V.c Value.nilFunc, V.c Value.nilFunc]))), (2, .r (pw ((0 : Nat) + (6 : Nat) ≤ (6 : Nat)) (200005 : Nat) (Ob.box 231 yyGA30)))] ⟨(by omega), True.intro⟩ ?_; refine aops_nil (xt_n (hK _ ?_)); clear hK K; refine aw_seq_k fun K hK => ?_; refine aw_seq_k fun K hK => wR 4 ?_; refine aX hTT 1 [] True.intro ?_; refine aops_nil (xt_n (hK _ ?_)); clear hK K
 refine aw_block ?_
 refine w_le (le_freezeBox (t := (231 : Nat)) (cs := yyGA30) 200005 (by kernel_rfl) (by kernel_rfl)) ?_
 refine w_loop (ι := Nat) (fun k => [(0, .ptr (trC c l r per)), (3, .ptr [optP none, .ptr [.i h.1, .i h.2], optP (some a)]), (5, .ptr [.c .nilFunc, .fn (.func 151) [] [], .fn (.func 152) [] [], .fn (.func 153) [] [], .fn (.func 154) [] [], .fn (.func 155) [] []]), (6, .i ((k : Int) + 1))]) (fun _ => []) (fun k => k ≤ 5 ∧ ∀ j, 1 ≤ j → j ≤ k → ruleB c r per none h (some a) j = false) (fun k => 5 - k) 0 ⟨by decide, fun j h1 h2 => by omega⟩ ?_ ?_
 ·
  refine le_ren [] (.cons (by kernel_rfl) (.cons (by kernel_rfl) (.cons (by kernel_rfl) (.cons (by kernel_rfl) .nil)))) .nil (by kernel_rfl) (by kernel_rfl)
 rintro k ⟨hk, hj⟩
 rcases (by omega : k = 0 ∨ k = 1 ∨ k = 2 ∨ k = 3 ∨ k = 4 ∨ k = 5) with rfl | rfl | rfl | rfl | rfl | rfl
 ·
  refine aw_seq_k fun K hK => ?_
  refine aw_seq_k fun K hK => wR 2 ?_; refine aX hTT 2 [] True.intro ?_; refine aops_nil (xt_n (hK _ ?_)); clear hK K; refine w_true (t := true) (by kernel_rfl) rfl ?_
  refine aw_skip ?_
  refine xt_n (hK _ ?_); clear hK K; refine aw_seq_k fun K hK => ?_
  refine aw_block ?_
  refine aw_seq_k fun K hK => wD 3 ?_; refine aX hTT 5 [(1, .c qGA30)] ⟨qGA30_, True.intro⟩ ?_
  refine eC (thin_ac c l r per none h (some a) hh) ?_
  refine aops_nil ⟨by kernel_rfl, ?_⟩; refine xt_n (hK _ ?_); clear hK K
  refine w_cond (t := thinB c h) (by kernel_rfl) (fun q => ?_) (fun q => ?_)
  ·
   refine aw_seq_k fun K hK => ?_
   refine wR 4 ?_; refine aX hTT 2 [] True.intro ?_; refine aops_nil (xt_n (hK _ ?_)); clear hK K
   refine aw_ret ?_
   refine xb_r ?_
   refine xt_r ?_; refine xt_r ?_
   refine xb_r ?_
   refine xt_r ?_
   rw [ruleP_at (j := 1) (by decide) (by decide) (fun j h1 h2 => hj j h1 (by omega)) q]
   refine rP (V.i 1)
  ·
   refine aw_skip ?_
   refine xb_n ?_; refine xt_n (hK _ ?_); clear hK K; refine wR 4 ?_; refine aX hTT 3 [(1, .i ((1 : Int) + (1 : Int)))] ⟨(by omega), True.intro⟩ ?_; refine aops_nil ?_; refine xt_n ?_
   refine ⟨1, ⟨by decide, fun j h1 h2 => ?_⟩, by refine le_ren [] (.cons (by kernel_rfl) (.cons (by kernel_rfl) (.cons (by kernel_rfl) (.cons (by kernel_rfl) .nil)))) .nil (by kernel_rfl) (by kernel_rfl), by decide⟩
   rcases Nat.lt_or_ge j 1 with h3 | h3
   ·
    exact hj j h1 (by omega)
   ·
    obtain rfl : j = 1 := by omega
    exact q
 ·
  refine aw_seq_k fun K hK => ?_
  refine aw_seq_k fun K hK => wR 2 ?_; refine aX hTT 2 [] True.intro ?_; refine aops_nil (xt_n (hK _ ?_)); clear hK K; refine w_true (t := true) (by kernel_rfl) rfl ?_
  refine aw_skip ?_
  refine xt_n (hK _ ?_); clear hK K; refine aw_seq_k fun K hK => ?_
  refine aw_block ?_
  refine aw_seq_k fun K hK => wD 3 ?_; refine aX hTT 5 [(1, .c qGA31)] ⟨qGA31_, True.intro⟩ ?_
  refine eC (wide_ac c l r per none h (some a) hh) ?_
  refine aops_nil ⟨by kernel_rfl, ?_⟩; refine xt_n (hK _ ?_); clear hK K
  refine w_cond (t := wideB c h) (by kernel_rfl) (fun q => ?_) (fun q => ?_)
  ·
   refine aw_seq_k fun K hK => ?_
   refine wR 4 ?_; refine aX hTT 2 [] True.intro ?_; refine aops_nil (xt_n (hK _ ?_)); clear hK K
   refine aw_ret ?_
   refine xb_r ?_
   refine xt_r ?_; refine xt_r ?_
   refine xb_r ?_
   refine xt_r ?_
   rw [ruleP_at (j := 2) (by decide) (by decide) (fun j h1 h2 => hj j h1 (by omega)) q]
   refine rP (V.i 2)
  ·
   refine aw_skip ?_
   refine xb_n ?_; refine xt_n (hK _ ?_); clear hK K; refine wR 4 ?_; refine aX hTT 3 [(1, .i ((2 : Int) + (1 : Int)))] ⟨(by omega), True.intro⟩ ?_; refine aops_nil ?_; refine xt_n ?_
   refine ⟨2, ⟨by decide, fun j h1 h2 => ?_⟩, by refine le_ren [] (.cons (by kernel_rfl) (.cons (by kernel_rfl) (.cons (by kernel_rfl) (.cons (by kernel_rfl) .nil)))) .nil (by kernel_rfl) (by kernel_rfl), by decide⟩
   rcases Nat.lt_or_ge j 2 with h3 | h3
   ·
    exact hj j h1 (by omega)
   ·
    obtain rfl : j = 2 := by omega
    exact q
 ·
  refine aw_seq_k fun K hK => ?_
  refine aw_seq_k fun K hK => wR 2 ?_; refine aX hTT 2 [] True.intro ?_; refine aops_nil (xt_n (hK _ ?_)); clear hK K; refine w_true (t := true) (by kernel_rfl) rfl ?_
  refine aw_skip ?_
  refine xt_n (hK _ ?_); clear hK K; refine aw_seq_k fun K hK => ?_
  refine aw_block ?_
  refine aw_seq_k fun K hK => wD 3 ?_; refine aX hTT 5 [(1, .c qGA32)] ⟨qGA32_, True.intro⟩ ?_
  refine eC (steep_ac c l r per none h (some a) hc hp hb hh) ?_
  refine aops_nil ⟨by kernel_rfl, ?_⟩; refine xt_n (hK _ ?_); clear hK K
  refine w_cond (t := steepB c r per none h) (by kernel_rfl) (fun q => ?_) (fun q => ?_)
  ·
   refine aw_seq_k fun K hK => ?_
   refine wR 4 ?_; refine aX hTT 2 [] True.intro ?_; refine aops_nil (xt_n (hK _ ?_)); clear hK K
   refine aw_ret ?_
   refine xb_r ?_
   refine xt_r ?_; refine xt_r ?_
   refine xb_r ?_
   refine xt_r ?_
   rw [ruleP_at (j := 3) (by decide) (by decide) (fun j h1 h2 => hj j h1 (by omega)) q]
   refine rP (V.i 3)
  ·
   refine aw_skip ?_
   refine xb_n ?_; refine xt_n (hK _ ?_); clear hK K; refine wR 4 ?_; refine aX hTT 3 [(1, .i ((3 : Int) + (1 : Int)))] ⟨(by omega), True.intro⟩ ?_; refine aops_nil ?_; refine xt_n ?_
   refine ⟨3, ⟨by decide, fun j h1 h2 => ?_⟩, by refine le_ren [] (.cons (by kernel_rfl) (.cons (by kernel_rfl) (.cons (by kernel_rfl) (.cons (by kernel_rfl) .nil)))) .nil (by kernel_rfl) (by kernel_rfl), by decide⟩
   rcases Nat.lt_or_ge j 3 with h3 | h3
   ·
    exact hj j h1 (by omega)
   ·
    obtain rfl : j = 3 := by omega
    exact q
 ·
  refine aw_seq_k fun K hK => ?_
  refine aw_seq_k fun K hK => wR 2 ?_; refine aX hTT 2 [] True.intro ?_; refine aops_nil (xt_n (hK _ ?_)); clear hK K; refine w_true (t := true) (by kernel_rfl) rfl ?_
  refine aw_skip ?_
  refine xt_n (hK _ ?_); clear hK K; refine aw_seq_k fun K hK => ?_
  refine aw_block ?_
  refine aw_seq_k fun K hK => wD 3 ?_; refine aX hTT 5 [(1, .c qGA33)] ⟨qGA33_, True.intro⟩ ?_
  refine eC (sudden_ac c l r per none h (some a) hb hh ha) ?_
  refine aops_nil ⟨by kernel_rfl, ?_⟩; refine xt_n (hK _ ?_); clear hK K
  refine w_cond (t := suddenB c none h (some a)) (by kernel_rfl) (fun q => ?_) (fun q => ?_)
  ·
   refine aw_seq_k fun K hK => ?_
   refine wR 4 ?_; refine aX hTT 2 [] True.intro ?_; refine aops_nil (xt_n (hK _ ?_)); clear hK K
   refine aw_ret ?_
   refine xb_r ?_
   refine xt_r ?_; refine xt_r ?_
   refine xb_r ?_
   refine xt_r ?_
   rw [ruleP_at (j := 4) (by decide) (by decide) (fun j h1 h2 => hj j h1 (by omega)) q]
   refine rP (V.i 4)
  ·
   refine aw_skip ?_
   refine xb_n ?_; refine xt_n (hK _ ?_); clear hK K; refine wR 4 ?_; refine aX hTT 3 [(1, .i ((4 : Int) + (1 : Int)))] ⟨(by omega), True.intro⟩ ?_; refine aops_nil ?_; refine xt_n ?_
   refine ⟨4, ⟨by decide, fun j h1 h2 => ?_⟩, by refine le_ren [] (.cons (by kernel_rfl) (.cons (by kernel_rfl) (.cons (by kernel_rfl) (.cons (by kernel_rfl) .nil)))) .nil (by kernel_rfl) (by kernel_rfl), by decide⟩
   rcases Nat.lt_or_ge j 4 with h3 | h3
   ·
    exact hj j h1 (by omega)
   ·
    obtain rfl : j = 4 := by omega
    exact q
 ·
  refine aw_seq_k fun K hK => ?_
  refine aw_seq_k fun K hK => wR 2 ?_; refine aX hTT 2 [] True.intro ?_; refine aops_nil (xt_n (hK _ ?_)); clear hK K; refine w_true (t := true) (by kernel_rfl) rfl ?_
  refine aw_skip ?_
  refine xt_n (hK _ ?_); clear hK K; refine aw_seq_k fun K hK => ?_
  refine aw_block ?_
  refine aw_seq_k fun K hK => wD 3 ?_; refine aX hTT 5 [(1, .c qGA34)] ⟨qGA34_, True.intro⟩ ?_
  refine eC (sharp_ac c l r per none h (some a) hc hp hb hh ha) ?_
  refine aops_nil ⟨by kernel_rfl, ?_⟩; refine xt_n (hK _ ?_); clear hK K
  refine w_cond (t := sharpB c r per none h (some a)) (by kernel_rfl) (fun q => ?_) (fun q => ?_)
  ·
   refine aw_seq_k fun K hK => ?_
   refine wR 4 ?_; refine aX hTT 2 [] True.intro ?_; refine aops_nil (xt_n (hK _ ?_)); clear hK K
   refine aw_ret ?_
   refine xb_r ?_
   refine xt_r ?_; refine xt_r ?_
   refine xb_r ?_
   refine xt_r ?_
   rw [ruleP_at (j := 5) (by decide) (by decide) (fun j h1 h2 => hj j h1 (by omega)) q]
   refine rP (V.i 5)
  ·
   refine aw_skip ?_
   refine xb_n ?_; refine xt_n (hK _ ?_); clear hK K; refine wR 4 ?_; refine aX hTT 3 [(1, .i ((5 : Int) + (1 : Int)))] ⟨(by omega), True.intro⟩ ?_; refine aops_nil ?_; refine xt_n ?_
   refine ⟨5, ⟨by decide, fun j h1 h2 => ?_⟩, by refine le_ren [] (.cons (by kernel_rfl) (.cons (by kernel_rfl) (.cons (by kernel_rfl) (.cons (by kernel_rfl) .nil)))) .nil (by kernel_rfl) (by kernel_rfl), by decide⟩
   rcases Nat.lt_or_ge j 5 with h3 | h3
   ·
    exact hj j h1 (by omega)
   ·
    obtain rfl : j = 5 := by omega
    exact q
 ·
  refine aw_seq_k fun K hK => ?_
  refine aw_seq_k fun K hK => wR 2 ?_; refine aX hTT 2 [] True.intro ?_; refine aops_nil (xt_n (hK _ ?_)); clear hK K; refine w_false (t := false) (by kernel_rfl) rfl ?_
  refine aw_exit ?_
  refine xt_x ?_; refine xt_x ?_
  refine xb_same ?_
  refine xt_n ?_; clear hK K; refine hK _ ?_; clear hK K; refine aw_seq_k fun K hK => wR 3 ?_; refine aX hTT 1 [] True.intro ?_; refine aops_nil (xt_n (hK _ ?_)); clear hK K
  refine aw_ret ?_
  rw [ruleP_no fun j h1 h2 => hj j h1 h2]
  refine rP (V.i 0)
set_option maxRecDepth 100000 in
theorem rule_sn (c : Cut) (l : List Pt) (r per : Int) (b h : Pt) (hc : cutE c = 0) (hp : Plc r per) (hb : EdO (some b)) (hh : Ed h) (ha : EdO none) : AC Tryz.prog 134 [.ptr (trC c l r per), gNearV (some b) h none] (.i (ruleP c r per (some b) h none)) [] := by
 refine acI hTT hMX Tryz.func134 Tryz.ntmps134 fun C hC hF => ?_
 refine aw_seq_k fun K hK => wR 2 ?_; refine aX hTT 2 [] True.intro ?_; refine aops_nil (xt_n (hK _ ?_)); clear hK K; refine aw_seq_k fun K hK => wR 3 ?_; refine aX hTT 3 [(1, .r (pn 5 (V.ref 200005 0) (200005 : Nat) (Ob.box 231 [V.c Value.nilFunc, V.c Value.nilFunc, V.c Value.nilFunc, V.c Value.nilFunc, V.c Value.nilFunc, V.c Value.nilFunc]))), (2, .r (pw ((0 : Nat) + (6 : Nat) ≤ (6 : Nat)) (200005 : Nat) (Ob.box 231 yyGA30)))] ⟨(by omega), True.intro⟩ ?_; refine aops_nil (xt_n (hK _ ?_)); clear hK K; refine aw_seq_k fun K hK => ?_; refine aw_seq_k fun K hK => wR 4 ?_; refine aX hTT 1 [] True.intro ?_; refine aops_nil (xt_n (hK _ ?_)); clear hK K
 refine aw_block ?_
 refine w_le (le_freezeBox (t := (231 : Nat)) (cs := yyGA30) 200005 (by kernel_rfl) (by kernel_rfl)) ?_
 refine w_loop (ι := Nat) (fun k => [(0, .ptr (trC c l r per)), (3, .ptr [optP (some b), .ptr [.i h.1, .i h.2], optP none]), (5, .ptr [.c .nilFunc, .fn (.func 151) [] [], .fn (.func 152) [] [], .fn (.func 153) [] [], .fn (.func 154) [] [], .fn (.func 155) [] []]), (6, .i ((k : Int) + 1))]) (fun _ => []) (fun k => k ≤ 5 ∧ ∀ j, 1 ≤ j → j ≤ k → ruleB c r per (some b) h none j = false) (fun k => 5 - k) 0 ⟨by decide, fun j h1 h2 => by omega⟩ ?_ ?_
 ·
  refine le_ren [] (.cons (by kernel_rfl) (.cons (by kernel_rfl) (.cons (by kernel_rfl) (.cons (by kernel_rfl) .nil)))) .nil (by kernel_rfl) (by kernel_rfl)
 rintro k ⟨hk, hj⟩
 rcases (by omega : k = 0 ∨ k = 1 ∨ k = 2 ∨ k = 3 ∨ k = 4 ∨ k = 5) with rfl | rfl | rfl | rfl | rfl | rfl
 ·
  refine aw_seq_k fun K hK => ?_
  refine aw_seq_k fun K hK => wR 2 ?_; refine aX hTT 2 [] True.intro ?_; refine aops_nil (xt_n (hK _ ?_)); clear hK K; refine w_true (t := true) (by kernel_rfl) rfl ?_
  refine aw_skip ?_
  refine xt_n (hK _ ?_); clear hK K; refine aw_seq_k fun K hK => ?_
  refine aw_block ?_
  refine aw_seq_k fun K hK => wD 3 ?_; refine aX hTT 5 [(1, .c qGA30)] ⟨qGA30_, True.intro⟩ ?_
  refine eC (thin_ac c l r per (some b) h none hh) ?_
  refine aops_nil ⟨by kernel_rfl, ?_⟩; refine xt_n (hK _ ?_); clear hK K
  refine w_cond (t := thinB c h) (by kernel_rfl) (fun q => ?_) (fun q => ?_)
  ·
   refine aw_seq_k fun K hK => ?_
   refine wR 4 ?_; refine aX hTT 2 [] True.intro ?_; refine aops_nil (xt_n (hK _ ?_)); clear hK K
   refine aw_ret ?_
   refine xb_r ?_
   refine xt_r ?_; refine xt_r ?_
   refine xb_r ?_
   refine xt_r ?_
   rw [ruleP_at (j := 1) (by decide) (by decide) (fun j h1 h2 => hj j h1 (by omega)) q]
   refine rP (V.i 1)
  ·
   refine aw_skip ?_
   refine xb_n ?_; refine xt_n (hK _ ?_); clear hK K; refine wR 4 ?_; refine aX hTT 3 [(1, .i ((1 : Int) + (1 : Int)))] ⟨(by omega), True.intro⟩ ?_; refine aops_nil ?_; refine xt_n ?_
   refine ⟨1, ⟨by decide, fun j h1 h2 => ?_⟩, by refine le_ren [] (.cons (by kernel_rfl) (.cons (by kernel_rfl) (.cons (by kernel_rfl) (.cons (by kernel_rfl) .nil)))) .nil (by kernel_rfl) (by kernel_rfl), by decide⟩
   rcases Nat.lt_or_ge j 1 with h3 | h3
   ·
    exact hj j h1 (by omega)
   ·
    obtain rfl : j = 1 := by omega
    exact q
 ·
  refine aw_seq_k fun K hK => ?_
  refine aw_seq_k fun K hK => wR 2 ?_; refine aX hTT 2 [] True.intro ?_; refine aops_nil (xt_n (hK _ ?_)); clear hK K; refine w_true (t := true) (by kernel_rfl) rfl ?_
  refine aw_skip ?_
  refine xt_n (hK _ ?_); clear hK K; refine aw_seq_k fun K hK => ?_
  refine aw_block ?_
  refine aw_seq_k fun K hK => wD 3 ?_; refine aX hTT 5 [(1, .c qGA31)] ⟨qGA31_, True.intro⟩ ?_
  refine eC (wide_ac c l r per (some b) h none hh) ?_
  refine aops_nil ⟨by kernel_rfl, ?_⟩; refine xt_n (hK _ ?_); clear hK K
  refine w_cond (t := wideB c h) (by kernel_rfl) (fun q => ?_) (fun q => ?_)
  ·
   refine aw_seq_k fun K hK => ?_
   refine wR 4 ?_; refine aX hTT 2 [] True.intro ?_; refine aops_nil (xt_n (hK _ ?_)); clear hK K
   refine aw_ret ?_
   refine xb_r ?_
   refine xt_r ?_; refine xt_r ?_
   refine xb_r ?_
   refine xt_r ?_
   rw [ruleP_at (j := 2) (by decide) (by decide) (fun j h1 h2 => hj j h1 (by omega)) q]
   refine rP (V.i 2)
  ·
   refine aw_skip ?_
   refine xb_n ?_; refine xt_n (hK _ ?_); clear hK K; refine wR 4 ?_; refine aX hTT 3 [(1, .i ((2 : Int) + (1 : Int)))] ⟨(by omega), True.intro⟩ ?_; refine aops_nil ?_; refine xt_n ?_
   refine ⟨2, ⟨by decide, fun j h1 h2 => ?_⟩, by refine le_ren [] (.cons (by kernel_rfl) (.cons (by kernel_rfl) (.cons (by kernel_rfl) (.cons (by kernel_rfl) .nil)))) .nil (by kernel_rfl) (by kernel_rfl), by decide⟩
   rcases Nat.lt_or_ge j 2 with h3 | h3
   ·
    exact hj j h1 (by omega)
   ·
    obtain rfl : j = 2 := by omega
    exact q
 ·
  refine aw_seq_k fun K hK => ?_
  refine aw_seq_k fun K hK => wR 2 ?_; refine aX hTT 2 [] True.intro ?_; refine aops_nil (xt_n (hK _ ?_)); clear hK K; refine w_true (t := true) (by kernel_rfl) rfl ?_
  refine aw_skip ?_
  refine xt_n (hK _ ?_); clear hK K; refine aw_seq_k fun K hK => ?_
  refine aw_block ?_
  refine aw_seq_k fun K hK => wD 3 ?_; refine aX hTT 5 [(1, .c qGA32)] ⟨qGA32_, True.intro⟩ ?_
  refine eC (steep_ac c l r per (some b) h none hc hp hb hh) ?_
  refine aops_nil ⟨by kernel_rfl, ?_⟩; refine xt_n (hK _ ?_); clear hK K
  refine w_cond (t := steepB c r per (some b) h) (by kernel_rfl) (fun q => ?_) (fun q => ?_)
  ·
   refine aw_seq_k fun K hK => ?_
   refine wR 4 ?_; refine aX hTT 2 [] True.intro ?_; refine aops_nil (xt_n (hK _ ?_)); clear hK K
   refine aw_ret ?_
   refine xb_r ?_
   refine xt_r ?_; refine xt_r ?_
   refine xb_r ?_
   refine xt_r ?_
   rw [ruleP_at (j := 3) (by decide) (by decide) (fun j h1 h2 => hj j h1 (by omega)) q]
   refine rP (V.i 3)
  ·
   refine aw_skip ?_
   refine xb_n ?_; refine xt_n (hK _ ?_); clear hK K; refine wR 4 ?_; refine aX hTT 3 [(1, .i ((3 : Int) + (1 : Int)))] ⟨(by omega), True.intro⟩ ?_; refine aops_nil ?_; refine xt_n ?_
   refine ⟨3, ⟨by decide, fun j h1 h2 => ?_⟩, by refine le_ren [] (.cons (by kernel_rfl) (.cons (by kernel_rfl) (.cons (by kernel_rfl) (.cons (by kernel_rfl) .nil)))) .nil (by kernel_rfl) (by kernel_rfl), by decide⟩
   rcases Nat.lt_or_ge j 3 with h3 | h3
   ·
    exact hj j h1 (by omega)
   ·
    obtain rfl : j = 3 := by omega
    exact q
 ·
  refine aw_seq_k fun K hK => ?_
  refine aw_seq_k fun K hK => wR 2 ?_; refine aX hTT 2 [] True.intro ?_; refine aops_nil (xt_n (hK _ ?_)); clear hK K; refine w_true (t := true) (by kernel_rfl) rfl ?_
  refine aw_skip ?_
  refine xt_n (hK _ ?_); clear hK K; refine aw_seq_k fun K hK => ?_
  refine aw_block ?_
  refine aw_seq_k fun K hK => wD 3 ?_; refine aX hTT 5 [(1, .c qGA33)] ⟨qGA33_, True.intro⟩ ?_
  refine eC (sudden_ac c l r per (some b) h none hb hh ha) ?_
  refine aops_nil ⟨by kernel_rfl, ?_⟩; refine xt_n (hK _ ?_); clear hK K
  refine w_cond (t := suddenB c (some b) h none) (by kernel_rfl) (fun q => ?_) (fun q => ?_)
  ·
   refine aw_seq_k fun K hK => ?_
   refine wR 4 ?_; refine aX hTT 2 [] True.intro ?_; refine aops_nil (xt_n (hK _ ?_)); clear hK K
   refine aw_ret ?_
   refine xb_r ?_
   refine xt_r ?_; refine xt_r ?_
   refine xb_r ?_
   refine xt_r ?_
   rw [ruleP_at (j := 4) (by decide) (by decide) (fun j h1 h2 => hj j h1 (by omega)) q]
   refine rP (V.i 4)
  ·
   refine aw_skip ?_
   refine xb_n ?_; refine xt_n (hK _ ?_); clear hK K; refine wR 4 ?_; refine aX hTT 3 [(1, .i ((4 : Int) + (1 : Int)))] ⟨(by omega), True.intro⟩ ?_; refine aops_nil ?_; refine xt_n ?_
   refine ⟨4, ⟨by decide, fun j h1 h2 => ?_⟩, by refine le_ren [] (.cons (by kernel_rfl) (.cons (by kernel_rfl) (.cons (by kernel_rfl) (.cons (by kernel_rfl) .nil)))) .nil (by kernel_rfl) (by kernel_rfl), by decide⟩
   rcases Nat.lt_or_ge j 4 with h3 | h3
   ·
    exact hj j h1 (by omega)
   ·
    obtain rfl : j = 4 := by omega
    exact q
 ·
  refine aw_seq_k fun K hK => ?_
  refine aw_seq_k fun K hK => wR 2 ?_; refine aX hTT 2 [] True.intro ?_; refine aops_nil (xt_n (hK _ ?_)); clear hK K; refine w_true (t := true) (by kernel_rfl) rfl ?_
  refine aw_skip ?_
  refine xt_n (hK _ ?_); clear hK K; refine aw_seq_k fun K hK => ?_
  refine aw_block ?_
  refine aw_seq_k fun K hK => wD 3 ?_; refine aX hTT 5 [(1, .c qGA34)] ⟨qGA34_, True.intro⟩ ?_
  refine eC (sharp_ac c l r per (some b) h none hc hp hb hh ha) ?_
  refine aops_nil ⟨by kernel_rfl, ?_⟩; refine xt_n (hK _ ?_); clear hK K
  refine w_cond (t := sharpB c r per (some b) h none) (by kernel_rfl) (fun q => ?_) (fun q => ?_)
  ·
   refine aw_seq_k fun K hK => ?_
   refine wR 4 ?_; refine aX hTT 2 [] True.intro ?_; refine aops_nil (xt_n (hK _ ?_)); clear hK K
   refine aw_ret ?_
   refine xb_r ?_
   refine xt_r ?_; refine xt_r ?_
   refine xb_r ?_
   refine xt_r ?_
   rw [ruleP_at (j := 5) (by decide) (by decide) (fun j h1 h2 => hj j h1 (by omega)) q]
   refine rP (V.i 5)
  ·
   refine aw_skip ?_
   refine xb_n ?_; refine xt_n (hK _ ?_); clear hK K; refine wR 4 ?_; refine aX hTT 3 [(1, .i ((5 : Int) + (1 : Int)))] ⟨(by omega), True.intro⟩ ?_; refine aops_nil ?_; refine xt_n ?_
   refine ⟨5, ⟨by decide, fun j h1 h2 => ?_⟩, by refine le_ren [] (.cons (by kernel_rfl) (.cons (by kernel_rfl) (.cons (by kernel_rfl) (.cons (by kernel_rfl) .nil)))) .nil (by kernel_rfl) (by kernel_rfl), by decide⟩
   rcases Nat.lt_or_ge j 5 with h3 | h3
   ·
    exact hj j h1 (by omega)
   ·
    obtain rfl : j = 5 := by omega
    exact q
 ·
  refine aw_seq_k fun K hK => ?_
  refine aw_seq_k fun K hK => wR 2 ?_; refine aX hTT 2 [] True.intro ?_; refine aops_nil (xt_n (hK _ ?_)); clear hK K; refine w_false (t := false) (by kernel_rfl) rfl ?_
  refine aw_exit ?_
  refine xt_x ?_; refine xt_x ?_
  refine xb_same ?_
  refine xt_n ?_; clear hK K; refine hK _ ?_; clear hK K; refine aw_seq_k fun K hK => wR 3 ?_; refine aX hTT 1 [] True.intro ?_; refine aops_nil (xt_n (hK _ ?_)); clear hK K
  refine aw_ret ?_
  rw [ruleP_no fun j h1 h2 => hj j h1 h2]
  refine rP (V.i 0)
set_option maxRecDepth 100000 in
theorem rule_ss (c : Cut) (l : List Pt) (r per : Int) (b h a : Pt) (hc : cutE c = 0) (hp : Plc r per) (hb : EdO (some b)) (hh : Ed h) (ha : EdO (some a)) : AC Tryz.prog 134 [.ptr (trC c l r per), gNearV (some b) h (some a)] (.i (ruleP c r per (some b) h (some a))) [] := by
 refine acI hTT hMX Tryz.func134 Tryz.ntmps134 fun C hC hF => ?_
 refine aw_seq_k fun K hK => wR 2 ?_; refine aX hTT 2 [] True.intro ?_; refine aops_nil (xt_n (hK _ ?_)); clear hK K; refine aw_seq_k fun K hK => wR 3 ?_; refine aX hTT 3 [(1, .r (pn 5 (V.ref 200005 0) (200005 : Nat) (Ob.box 231 [V.c Value.nilFunc, V.c Value.nilFunc, V.c Value.nilFunc, V.c Value.nilFunc, V.c Value.nilFunc, V.c Value.nilFunc]))), (2, .r (pw ((0 : Nat) + (6 : Nat) ≤ (6 : Nat)) (200005 : Nat) (Ob.box 231 yyGA30)))] ⟨(by omega), True.intro⟩ ?_; refine aops_nil (xt_n (hK _ ?_)); clear hK K; refine aw_seq_k fun K hK => ?_; refine aw_seq_k fun K hK => wR 4 ?_; refine aX hTT 1 [] True.intro ?_; refine aops_nil (xt_n (hK _ ?_)); clear hK K
 refine aw_block ?_
 refine w_le (le_freezeBox (t := (231 : Nat)) (cs := yyGA30) 200005 (by kernel_rfl) (by kernel_rfl)) ?_
 refine w_loop (ι := Nat) (fun k => [(0, .ptr (trC c l r per)), (3, .ptr [optP (some b), .ptr [.i h.1, .i h.2], optP (some a)]), (5, .ptr [.c .nilFunc, .fn (.func 151) [] [], .fn (.func 152) [] [], .fn (.func 153) [] [], .fn (.func 154) [] [], .fn (.func 155) [] []]), (6, .i ((k : Int) + 1))]) (fun _ => []) (fun k => k ≤ 5 ∧ ∀ j, 1 ≤ j → j ≤ k → ruleB c r per (some b) h (some a) j = false) (fun k => 5 - k) 0 ⟨by decide, fun j h1 h2 => by omega⟩ ?_ ?_
 ·
  refine le_ren [] (.cons (by kernel_rfl) (.cons (by kernel_rfl) (.cons (by kernel_rfl) (.cons (by kernel_rfl) .nil)))) .nil (by kernel_rfl) (by kernel_rfl)
 rintro k ⟨hk, hj⟩
 rcases (by omega : k = 0 ∨ k = 1 ∨ k = 2 ∨ k = 3 ∨ k = 4 ∨ k = 5) with rfl | rfl | rfl | rfl | rfl | rfl
 ·
  refine aw_seq_k fun K hK => ?_
  refine aw_seq_k fun K hK => wR 2 ?_; refine aX hTT 2 [] True.intro ?_; refine aops_nil (xt_n (hK _ ?_)); clear hK K; refine w_true (t := true) (by kernel_rfl) rfl ?_
  refine aw_skip ?_
  refine xt_n (hK _ ?_); clear hK K; refine aw_seq_k fun K hK => ?_
  refine aw_block ?_
  refine aw_seq_k fun K hK => wD 3 ?_; refine aX hTT 5 [(1, .c qGA30)] ⟨qGA30_, True.intro⟩ ?_
  refine eC (thin_ac c l r per (some b) h (some a) hh) ?_
  refine aops_nil ⟨by kernel_rfl, ?_⟩; refine xt_n (hK _ ?_); clear hK K
  refine w_cond (t := thinB c h) (by kernel_rfl) (fun q => ?_) (fun q => ?_)
  ·
   refine aw_seq_k fun K hK => ?_
   refine wR 4 ?_; refine aX hTT 2 [] True.intro ?_; refine aops_nil (xt_n (hK _ ?_)); clear hK K
   refine aw_ret ?_
   refine xb_r ?_
   refine xt_r ?_; refine xt_r ?_
   refine xb_r ?_
   refine xt_r ?_
   rw [ruleP_at (j := 1) (by decide) (by decide) (fun j h1 h2 => hj j h1 (by omega)) q]
   refine rP (V.i 1)
  ·
   refine aw_skip ?_
   refine xb_n ?_; refine xt_n (hK _ ?_); clear hK K; refine wR 4 ?_; refine aX hTT 3 [(1, .i ((1 : Int) + (1 : Int)))] ⟨(by omega), True.intro⟩ ?_; refine aops_nil ?_; refine xt_n ?_
   refine ⟨1, ⟨by decide, fun j h1 h2 => ?_⟩, by refine le_ren [] (.cons (by kernel_rfl) (.cons (by kernel_rfl) (.cons (by kernel_rfl) (.cons (by kernel_rfl) .nil)))) .nil (by kernel_rfl) (by kernel_rfl), by decide⟩
   rcases Nat.lt_or_ge j 1 with h3 | h3
   ·
    exact hj j h1 (by omega)
   ·
    obtain rfl : j = 1 := by omega
    exact q
 ·
  refine aw_seq_k fun K hK => ?_
  refine aw_seq_k fun K hK => wR 2 ?_; refine aX hTT 2 [] True.intro ?_; refine aops_nil (xt_n (hK _ ?_)); clear hK K; refine w_true (t := true) (by kernel_rfl) rfl ?_
  refine aw_skip ?_
  refine xt_n (hK _ ?_); clear hK K; refine aw_seq_k fun K hK => ?_
  refine aw_block ?_
  refine aw_seq_k fun K hK => wD 3 ?_; refine aX hTT 5 [(1, .c qGA31)] ⟨qGA31_, True.intro⟩ ?_
  refine eC (wide_ac c l r per (some b) h (some a) hh) ?_
  refine aops_nil ⟨by kernel_rfl, ?_⟩; refine xt_n (hK _ ?_); clear hK K
  refine w_cond (t := wideB c h) (by kernel_rfl) (fun q => ?_) (fun q => ?_)
  ·
   refine aw_seq_k fun K hK => ?_
   refine wR 4 ?_; refine aX hTT 2 [] True.intro ?_; refine aops_nil (xt_n (hK _ ?_)); clear hK K
   refine aw_ret ?_
   refine xb_r ?_
   refine xt_r ?_; refine xt_r ?_
   refine xb_r ?_
   refine xt_r ?_
   rw [ruleP_at (j := 2) (by decide) (by decide) (fun j h1 h2 => hj j h1 (by omega)) q]
   refine rP (V.i 2)
  ·
   refine aw_skip ?_
   refine xb_n ?_; refine xt_n (hK _ ?_); clear hK K; refine wR 4 ?_; refine aX hTT 3 [(1, .i ((2 : Int) + (1 : Int)))] ⟨(by omega), True.intro⟩ ?_; refine aops_nil ?_; refine xt_n ?_
   refine ⟨2, ⟨by decide, fun j h1 h2 => ?_⟩, by refine le_ren [] (.cons (by kernel_rfl) (.cons (by kernel_rfl) (.cons (by kernel_rfl) (.cons (by kernel_rfl) .nil)))) .nil (by kernel_rfl) (by kernel_rfl), by decide⟩
   rcases Nat.lt_or_ge j 2 with h3 | h3
   ·
    exact hj j h1 (by omega)
   ·
    obtain rfl : j = 2 := by omega
    exact q
 ·
  refine aw_seq_k fun K hK => ?_
  refine aw_seq_k fun K hK => wR 2 ?_; refine aX hTT 2 [] True.intro ?_; refine aops_nil (xt_n (hK _ ?_)); clear hK K; refine w_true (t := true) (by kernel_rfl) rfl ?_
  refine aw_skip ?_
  refine xt_n (hK _ ?_); clear hK K; refine aw_seq_k fun K hK => ?_
  refine aw_block ?_
  refine aw_seq_k fun K hK => wD 3 ?_; refine aX hTT 5 [(1, .c qGA32)] ⟨qGA32_, True.intro⟩ ?_
  refine eC (steep_ac c l r per (some b) h (some a) hc hp hb hh) ?_
  refine aops_nil ⟨by kernel_rfl, ?_⟩; refine xt_n (hK _ ?_); clear hK K
  refine w_cond (t := steepB c r per (some b) h) (by kernel_rfl) (fun q => ?_) (fun q => ?_)
  ·
   refine aw_seq_k fun K hK => ?_
   refine wR 4 ?_; refine aX hTT 2 [] True.intro ?_; refine aops_nil (xt_n (hK _ ?_)); clear hK K
   refine aw_ret ?_
   refine xb_r ?_
   refine xt_r ?_; refine xt_r ?_
   refine xb_r ?_
   refine xt_r ?_
   rw [ruleP_at (j := 3) (by decide) (by decide) (fun j h1 h2 => hj j h1 (by omega)) q]
   refine rP (V.i 3)
  ·
   refine aw_skip ?_
   refine xb_n ?_; refine xt_n (hK _ ?_); clear hK K; refine wR 4 ?_; refine aX hTT 3 [(1, .i ((3 : Int) + (1 : Int)))] ⟨(by omega), True.intro⟩ ?_; refine aops_nil ?_; refine xt_n ?_
   refine ⟨3, ⟨by decide, fun j h1 h2 => ?_⟩, by refine le_ren [] (.cons (by kernel_rfl) (.cons (by kernel_rfl) (.cons (by kernel_rfl) (.cons (by kernel_rfl) .nil)))) .nil (by kernel_rfl) (by kernel_rfl), by decide⟩
   rcases Nat.lt_or_ge j 3 with h3 | h3
   ·
    exact hj j h1 (by omega)
   ·
    obtain rfl : j = 3 := by omega
    exact q
 ·
  refine aw_seq_k fun K hK => ?_
  refine aw_seq_k fun K hK => wR 2 ?_; refine aX hTT 2 [] True.intro ?_; refine aops_nil (xt_n (hK _ ?_)); clear hK K; refine w_true (t := true) (by kernel_rfl) rfl ?_
  refine aw_skip ?_
  refine xt_n (hK _ ?_); clear hK K; refine aw_seq_k fun K hK => ?_
  refine aw_block ?_
  refine aw_seq_k fun K hK => wD 3 ?_; refine aX hTT 5 [(1, .c qGA33)] ⟨qGA33_, True.intro⟩ ?_
  refine eC (sudden_ac c l r per (some b) h (some a) hb hh ha) ?_
  refine aops_nil ⟨by kernel_rfl, ?_⟩; refine xt_n (hK _ ?_); clear hK K
  refine w_cond (t := suddenB c (some b) h (some a)) (by kernel_rfl) (fun q => ?_) (fun q => ?_)
  ·
   refine aw_seq_k fun K hK => ?_
   refine wR 4 ?_; refine aX hTT 2 [] True.intro ?_; refine aops_nil (xt_n (hK _ ?_)); clear hK K
   refine aw_ret ?_
   refine xb_r ?_
   refine xt_r ?_; refine xt_r ?_
   refine xb_r ?_
   refine xt_r ?_
   rw [ruleP_at (j := 4) (by decide) (by decide) (fun j h1 h2 => hj j h1 (by omega)) q]
   refine rP (V.i 4)
  ·
   refine aw_skip ?_
   refine xb_n ?_; refine xt_n (hK _ ?_); clear hK K; refine wR 4 ?_; refine aX hTT 3 [(1, .i ((4 : Int) + (1 : Int)))] ⟨(by omega), True.intro⟩ ?_; refine aops_nil ?_; refine xt_n ?_
   refine ⟨4, ⟨by decide, fun j h1 h2 => ?_⟩, by refine le_ren [] (.cons (by kernel_rfl) (.cons (by kernel_rfl) (.cons (by kernel_rfl) (.cons (by kernel_rfl) .nil)))) .nil (by kernel_rfl) (by kernel_rfl), by decide⟩
   rcases Nat.lt_or_ge j 4 with h3 | h3
   ·
    exact hj j h1 (by omega)
   ·
    obtain rfl : j = 4 := by omega
    exact q
 ·
  refine aw_seq_k fun K hK => ?_
  refine aw_seq_k fun K hK => wR 2 ?_; refine aX hTT 2 [] True.intro ?_; refine aops_nil (xt_n (hK _ ?_)); clear hK K; refine w_true (t := true) (by kernel_rfl) rfl ?_
  refine aw_skip ?_
  refine xt_n (hK _ ?_); clear hK K; refine aw_seq_k fun K hK => ?_
  refine aw_block ?_
  refine aw_seq_k fun K hK => wD 3 ?_; refine aX hTT 5 [(1, .c qGA34)] ⟨qGA34_, True.intro⟩ ?_
  refine eC (sharp_ac c l r per (some b) h (some a) hc hp hb hh ha) ?_
  refine aops_nil ⟨by kernel_rfl, ?_⟩; refine xt_n (hK _ ?_); clear hK K
  refine w_cond (t := sharpB c r per (some b) h (some a)) (by kernel_rfl) (fun q => ?_) (fun q => ?_)
  ·
   refine aw_seq_k fun K hK => ?_
   refine wR 4 ?_; refine aX hTT 2 [] True.intro ?_; refine aops_nil (xt_n (hK _ ?_)); clear hK K
   refine aw_ret ?_
   refine xb_r ?_
   refine xt_r ?_; refine xt_r ?_
   refine xb_r ?_
   refine xt_r ?_
   rw [ruleP_at (j := 5) (by decide) (by decide) (fun j h1 h2 => hj j h1 (by omega)) q]
   refine rP (V.i 5)
  ·
   refine aw_skip ?_
   refine xb_n ?_; refine xt_n (hK _ ?_); clear hK K; refine wR 4 ?_; refine aX hTT 3 [(1, .i ((5 : Int) + (1 : Int)))] ⟨(by omega), True.intro⟩ ?_; refine aops_nil ?_; refine xt_n ?_
   refine ⟨5, ⟨by decide, fun j h1 h2 => ?_⟩, by refine le_ren [] (.cons (by kernel_rfl) (.cons (by kernel_rfl) (.cons (by kernel_rfl) (.cons (by kernel_rfl) .nil)))) .nil (by kernel_rfl) (by kernel_rfl), by decide⟩
   rcases Nat.lt_or_ge j 5 with h3 | h3
   ·
    exact hj j h1 (by omega)
   ·
    obtain rfl : j = 5 := by omega
    exact q
 ·
  refine aw_seq_k fun K hK => ?_
  refine aw_seq_k fun K hK => wR 2 ?_; refine aX hTT 2 [] True.intro ?_; refine aops_nil (xt_n (hK _ ?_)); clear hK K; refine w_false (t := false) (by kernel_rfl) rfl ?_
  refine aw_exit ?_
  refine xt_x ?_; refine xt_x ?_
  refine xb_same ?_
  refine xt_n ?_; clear hK K; refine hK _ ?_; clear hK K; refine aw_seq_k fun K hK => wR 3 ?_; refine aX hTT 1 [] True.intro ?_; refine aops_nil (xt_n (hK _ ?_)); clear hK K
  refine aw_ret ?_
  rw [ruleP_no fun j h1 h2 => hj j h1 h2]
  refine rP (V.i 0)
theorem rule_ac (c : Cut) (l : List Pt) (r per : Int) (b : Option Pt) (h : Pt) (a : Option Pt) (hc : cutE c = 0) (hp : Plc r per) (hb : EdO b) (hh : Ed h) (ha : EdO a) : AC Tryz.prog 134 [.ptr (trC c l r per), gNearV b h a] (.i (ruleP c r per b h a)) [] := by
 cases b with
 | none => cases a with
  | none => exact rule_nn c l r per h hc hp hb hh ha
  | some a => exact rule_ns c l r per h a hc hp hb hh ha
 | some b => cases a with
  | none => exact rule_sn c l r per b h hc hp hb hh ha
  | some a => exact rule_ss c l r per b h a hc hp hb hh ha
end Go.Proofs.YtepkjobndmmejaaGreatDoor

namespace Go.Proofs.YtepkjobndmmejaaGreatDoor
open Go.Ab Go.RowKit Go.Dw Go.Shelf
def nb (l : List Pt) (i : Nat) : Option Pt := if 0 < i then some (gp l (i - 1)) else none
def na (l : List Pt) (i : Nat) : Option Pt := if i + 1 < l.length then some (gp l (i + 1)) else none
def nearI (l : List Pt) (i : Nat) : V := gNearV (nb l i) (gp l i) (na l i)
abbrev qGA40 : Prop := (0 : Nat) ≤ (3 : Nat)
theorem qGA40_ : qGA40 := (by omega)
abbrev yyGA42 (l : List Pt) (i : Nat) : List V := [V.i (Prod.fst (gp l (Int.toNat ((↑i : Int) - (1 : Int))))), V.i (Prod.snd (gp l (Int.toNat ((↑i : Int) - (1 : Int)))))]
abbrev yyGA44 (l : List Pt) (i : Nat) : V := V.ptr [V.i (Prod.fst (gp l i)), V.i (Prod.snd (gp l i))]
abbrev yyGA43 (l : List Pt) (i : Nat) : V := V.ptr [V.i (Prod.fst (gp l (i + (1 : Nat)))), V.i (Prod.snd (gp l (i + (1 : Nat))))]
abbrev yyGA41 (l : List Pt) (i : Nat) : List V := [V.ptr (yyGA42 l i), (yyGA44 l i), (yyGA43 l i)]
abbrev yyGA40 (l : List Pt) (i : Nat) : Ob := Ob.box 213 (yyGA41 l i)
set_option maxRecDepth 100000 in
theorem at_ac (c : Cut) (l : List Pt) (r per : Int) (i : Nat) (hi : i < l.length) (hl : l.length ≤ 4096) : AC Tryz.prog 150 [.ptr (trC c l r per), .i i] (nearI l i) [] := by
 have e0 : 0 < i → ((i : Int) - 1).toNat = i - 1 := fun _ => by omega
 refine acI hTT hMX Tryz.func150 Tryz.ntmps150 fun C hC hF => ?_
 refine aw_seq_k fun K hK => wR 2 ?_; refine aX hTT 1 [(0, .r (pn 4 (V.ref 100004 0) (100004 : Nat) (Ob.box 213 [V.c (Value.pointer none), V.c (Value.pointer none), V.c (Value.pointer none)])))] True.intro ?_; refine aops_nil (xt_n (hK _ ?_)); clear hK K; refine aw_seq_k fun K hK => wR 3 ?_; refine aX hTT 9 [(5, .c ((0 : Int) ≤ (↑i : Int) ∧ (↑i : Int) < (↑(List.length l) : Int))), (7, .r (pn 5 (V.ref 200005 0) (200005 : Nat) (Ob.box 213 [V.c (Value.pointer none), V.c (Value.pointer none), V.c (Value.pointer none)]))), (8, .r (pw ((0 : Nat) + (3 : Nat) ≤ (3 : Nat)) (200005 : Nat) (Ob.box 213 [V.c (Value.pointer none), (yyGA44 l i), V.c (Value.pointer none)])))] ⟨(by omega), (by omega), True.intro⟩ ?_; refine aops_nil (xt_n (hK _ ?_)); clear hK K; refine aw_seq_k fun K hK => ?_; refine aw_seq_k fun K hK => wR 4 ?_; refine aX hTT 2 [] True.intro ?_; refine aops_nil (xt_n (hK _ ?_)); clear hK K
 refine w_cond (t := decide ((0 : Int) < (↑i : Int))) (by kernel_rfl) (fun c1 => ?_) (fun c1 => ?_)
 ·
  have h1 : 0 < i := by simpa using c1
  refine wR 5 ?_; refine aX hTT 9 [(5, .i ((↑i : Int) - (1 : Int))), (6, .c ((0 : Int) ≤ (↑i : Int) - (1 : Int) ∧ (↑i : Int) - (1 : Int) < (↑(List.length l) : Int))), (8, .r (pw ((0 : Nat) + (1 : Nat) ≤ (3 : Nat)) (200005 : Nat) (Ob.box 213 [V.ptr (yyGA42 l i), (yyGA44 l i), V.c (Value.pointer none)])))] ⟨(by omega), (by omega), (by omega), True.intro⟩ ?_; refine aops_nil (xt_n (hK _ ?_)); clear hK K; refine aw_seq_k fun K hK => ?_; refine aw_seq_k fun K hK => wR 6 ?_; refine aX hTT 8 [(1, .i ((↑i : Int) + (1 : Int)))] ⟨(by omega), True.intro⟩ ?_; refine aops_nil (xt_n (hK _ ?_)); clear hK K
  refine w_cond (t := decide ((↑i : Int) + (1 : Int) < (↑(List.length l) : Int))) (by kernel_rfl) (fun c2 => ?_) (fun c2 => ?_)
  ·
   have h2 : i + 1 < l.length := by simp at c2; omega
   refine wR 7 ?_; refine aX hTT 9 [(5, .i ((↑i : Int) + (1 : Int))), (6, .c ((0 : Int) ≤ (↑i : Int) + (1 : Int) ∧ (↑i : Int) + (1 : Int) < (↑(List.length l) : Int))), (8, .r (pw ((2 : Nat) + (1 : Nat) ≤ (3 : Nat)) (200005 : Nat) ((yyGA40 l i))))] ⟨(by omega), (by omega), (by omega), True.intro⟩ ?_; refine aops_nil (xt_n (hK _ ?_)); clear hK K; refine aw_seq_k fun K hK => wR 8 ?_; refine aX hTT 2 [(0, .c qGA40), (1, .r (pw ((0 : Nat) + (3 : Nat) ≤ (3 : Nat)) (100004 : Nat) ((yyGA40 l i))))] ⟨qGA40_, (by omega), True.intro⟩ ?_; refine aops_nil (xt_n (hK _ ?_)); clear hK K
   refine aw_ret ?_
   refine ret_of_le (le_freezeBox (t := (213 : Nat)) (cs := (yyGA41 l i)) 200005 (by kernel_rfl) (by kernel_rfl)) ?_
   refine ret_of_le (le_freezeBox (t := (213 : Nat)) (cs := (yyGA41 l i)) 100004 (by kernel_rfl) (by kernel_rfl)) ?_
   rw [nearI, nb, na, if_pos h1, if_pos h2, ← e0 h1]
   refine rP (V.agg (yyGA41 l i))
  ·
   have h2 : ¬ i + 1 < l.length := by simp at c2; omega
   refine aw_skip ?_
   refine xt_n (hK _ ?_); clear hK K; refine aw_seq_k fun K hK => wR 7 ?_; refine aX hTT 2 [(0, .c qGA40), (1, .r (pw ((0 : Nat) + (3 : Nat) ≤ (3 : Nat)) (100004 : Nat) (Ob.box 213 [V.ptr (yyGA42 l i), (yyGA44 l i), V.c (Value.pointer none)])))] ⟨qGA40_, (by omega), True.intro⟩ ?_; refine aops_nil (xt_n (hK _ ?_)); clear hK K
   refine aw_ret ?_
   refine ret_of_le (le_freezeBox (t := (213 : Nat)) (cs := [V.ptr (yyGA42 l i), (yyGA44 l i), V.c (Value.pointer none)]) 200005 (by kernel_rfl) (by kernel_rfl)) ?_
   refine ret_of_le (le_freezeBox (t := (213 : Nat)) (cs := [V.ptr (yyGA42 l i), (yyGA44 l i), V.c (Value.pointer none)]) 100004 (by kernel_rfl) (by kernel_rfl)) ?_
   rw [nearI, nb, na, if_pos h1, if_neg h2, ← e0 h1]
   refine rP (V.agg [V.ptr (yyGA42 l i), (yyGA44 l i), V.c (Value.pointer none)])
 ·
  have h1 : ¬ 0 < i := by simpa using c1
  refine aw_skip ?_
  refine xt_n (hK _ ?_); clear hK K; refine aw_seq_k fun K hK => ?_; refine aw_seq_k fun K hK => wR 5 ?_; refine aX hTT 8 [(1, .i ((↑i : Int) + (1 : Int)))] ⟨(by omega), True.intro⟩ ?_; refine aops_nil (xt_n (hK _ ?_)); clear hK K
  refine w_cond (t := decide ((↑i : Int) + (1 : Int) < (↑(List.length l) : Int))) (by kernel_rfl) (fun c2 => ?_) (fun c2 => ?_)
  ·
   have h2 : i + 1 < l.length := by simp at c2; omega
   refine wR 6 ?_; refine aX hTT 9 [(5, .i ((↑i : Int) + (1 : Int))), (6, .c ((0 : Int) ≤ (↑i : Int) + (1 : Int) ∧ (↑i : Int) + (1 : Int) < (↑(List.length l) : Int))), (8, .r (pw ((2 : Nat) + (1 : Nat) ≤ (3 : Nat)) (200005 : Nat) (Ob.box 213 [V.c (Value.pointer none), (yyGA44 l i), (yyGA43 l i)])))] ⟨(by omega), (by omega), (by omega), True.intro⟩ ?_; refine aops_nil (xt_n (hK _ ?_)); clear hK K; refine aw_seq_k fun K hK => wR 7 ?_; refine aX hTT 2 [(0, .c qGA40), (1, .r (pw ((0 : Nat) + (3 : Nat) ≤ (3 : Nat)) (100004 : Nat) (Ob.box 213 [V.c (Value.pointer none), (yyGA44 l i), (yyGA43 l i)])))] ⟨qGA40_, (by omega), True.intro⟩ ?_; refine aops_nil (xt_n (hK _ ?_)); clear hK K
   refine aw_ret ?_
   refine ret_of_le (le_freezeBox (t := (213 : Nat)) (cs := [V.c (Value.pointer none), (yyGA44 l i), (yyGA43 l i)]) 200005 (by kernel_rfl) (by kernel_rfl)) ?_
   refine ret_of_le (le_freezeBox (t := (213 : Nat)) (cs := [V.c (Value.pointer none), (yyGA44 l i), (yyGA43 l i)]) 100004 (by kernel_rfl) (by kernel_rfl)) ?_
   rw [nearI, nb, na, if_neg h1, if_pos h2]
   refine rP (V.agg [V.c (Value.pointer none), (yyGA44 l i), (yyGA43 l i)])
  ·
   have h2 : ¬ i + 1 < l.length := by simp at c2; omega
   refine aw_skip ?_
   refine xt_n (hK _ ?_); clear hK K; refine aw_seq_k fun K hK => wR 6 ?_; refine aX hTT 2 [(0, .c qGA40), (1, .r (pw ((0 : Nat) + (3 : Nat) ≤ (3 : Nat)) (100004 : Nat) (Ob.box 213 [V.c (Value.pointer none), (yyGA44 l i), V.c (Value.pointer none)])))] ⟨qGA40_, (by omega), True.intro⟩ ?_; refine aops_nil (xt_n (hK _ ?_)); clear hK K
   refine aw_ret ?_
   refine ret_of_le (le_freezeBox (t := (213 : Nat)) (cs := [V.c (Value.pointer none), (yyGA44 l i), V.c (Value.pointer none)]) 200005 (by kernel_rfl) (by kernel_rfl)) ?_
   refine ret_of_le (le_freezeBox (t := (213 : Nat)) (cs := [V.c (Value.pointer none), (yyGA44 l i), V.c (Value.pointer none)]) 100004 (by kernel_rfl) (by kernel_rfl)) ?_
   rw [nearI, nb, na, if_neg h1, if_neg h2]
   refine rP (V.agg [V.c (Value.pointer none), (yyGA44 l i), V.c (Value.pointer none)])
abbrev TrO (c : Cut) (l : List Pt) (r per : Int) : Ob := .box 97 (trC c l r per)
def allV (l : List Pt) : List (List V) := (List.range l.length).map fun i : Nat => [V.i i, nearI l i]
theorem allV_get {l : List Pt} {k : Nat} (h : k < l.length) : (allV l)[k]? = some [V.i k, nearI l k] := by simp [allV, h]
theorem allV_len (l : List Pt) : (allV l).length = l.length := by simp [allV]
theorem near_idf (b : Option Pt) (h : Pt) (a : Option Pt) (n : Int) : V.idfL [V.i n, gNearV b h a] = true := by cases b <;> cases a <;> rfl
theorem nearI_idf (l : List Pt) (i : Nat) : V.idf (nearI l i) = true := by
 unfold nearI
 cases nb l i <;> cases na l i <;> rfl
set_option maxRecDepth 100000 in
theorem all_it (c : Cut) (l : List Pt) (r per : Int) (hl : l.length ≤ 4096) : AIt Tryz.prog 149 [.ptr [.ptr (trC c l r per)]] (allV l) := by
 refine ait_intro hTT hMX (fn := Tryz.f149) (N := _) ⟨Tryz.func149, rfl, Tryz.ntmps149, by kernel_rfl⟩ rfl (by simp) fun C Y hC => ?_
 rw [allV_len]
 refine awj_seq_a hC fun K hK => ?_
 refine wR 2 ?_; refine aX hTT 6 [] True.intro ?_; refine aops_nil (xt_n (hK _ ?_)); clear hK K
 refine awj_block ?_
 refine awj_loop (ι := Nat) (fun k => ⟨mkT [(0, .c (.func (.yield Y.l) #[] #[])), (1, .ptr [.ptr (trC c l r per)]), (8, .i l.length), (9, .i k)], mkS [], 1⟩) (fun k => k) (fun k => k ≤ l.length) (fun k => l.length - k) 0 (Nat.zero_le _) ?_ rfl ?_
 ·
  refine le_ren [] (.cons (by kernel_rfl) (.cons (by kernel_rfl) (.cons (by kernel_rfl) (.cons (by kernel_rfl) .nil)))) .nil (by kernel_rfl) (by kernel_rfl)
 intro k hk
 refine awj_seq_a hC fun K hK => ?_
 refine wR 2 ?_; refine aX hTT 1 [] True.intro ?_; refine aops_nil (xt_n (hK _ ?_)); clear hK K
 refine awj_seq_a hC fun K hK => ?_
 refine w_cond (t := decide ((↑k : Int) < (↑(List.length l) : Int))) (by kernel_rfl) (fun c1 => ?_) (fun c1 => ?_)
 ·
  have h1 : k < l.length := by simpa using c1
  refine aw_skip ?_
  refine xt_n (hK _ ?_); clear hK K
  refine awj_seq ?_
  refine awj_block ?_
  refine awj_seq_a hC fun K hK => ?_
  refine wR 3 ?_; refine aX hTT 2 [] True.intro ?_; refine aops_nil (xt_n (hK _ ?_)); clear hK K
  refine awj_seq (awj_yield hC 5 (by kernel_rfl) rfl ?_)
  refine aX hTT 4 [] True.intro ?_
  refine e_call (first := []) (caps := []) (at_ac c l r per k h1 hl) (by kernel_rfl) (by kernel_rfl) (by kernel_rfl) ?_ (by kernel_rfl) ?_
  ·
   exact nearI_idf l k
  refine aops_nil ?_
  refine ⟨by kernel_rfl, ⟨_, allV_get h1, RImp.refl _, RImp.refl _, trivial⟩, near_idf _ _ _ _, ?_, ?_⟩
  ·
   refine aX hTT 1 [] True.intro ?_
   refine aops_nil ?_
   refine xjt_n ?_
   refine awj_cond (t := false) (by kernel_rfl) (fun h => by cases h) (fun _ => ?_)
   refine awj_skip ?_
   refine xjb_n ?_
   refine xjt_n ?_
   refine awj_aw hC ?_
   refine wR 5 ?_; refine aX hTT 2 [(0, .i ((↑k : Int) + (1 : Int)))] ⟨(by omega), True.intro⟩ ?_; refine aops_nil ?_
   refine xjt_n ?_
   refine ⟨rfl, k + 1, by omega, ?_, rfl, by omega⟩
   refine le_ren [] (.cons (by kernel_rfl) (.cons (by kernel_rfl) (.cons (by kernel_rfl) (.cons (by kernel_rfl) .nil)))) .nil (by kernel_rfl) (by kernel_rfl)
  ·
   refine aX hTT 1 [] True.intro ?_
   refine aops_nil ?_
   refine xjt_n ?_
   refine awj_cond (t := true) (by kernel_rfl) (fun _ => ?_) (fun h => by cases h)
   refine awj_ret ?_
   refine xjb_r ?_
   refine xjt_r ?_
   refine xjt_r ?_
   refine xjb_r ?_
   exact ⟨.inr rfl, fun h => (by cases h), fun _ => h1⟩
 ·
  have h1 : k = l.length := by simp at c1; omega
  refine aw_exit ?_
  refine xt_x ?_
  refine xjt_x ?_
  refine xjb_same ?_
  exact ⟨.inl rfl, fun _ => h1, fun h => by cases h⟩
end Go.Proofs.YtepkjobndmmejaaGreatDoor

namespace Go.Proofs.YtepkjobndmmejaaGreatDoor
open Go.Ab Go.RowKit Go.Dw Go.Shelf
theorem nearT_idf (u : V) (b : Option Pt) (h : Pt) (a : Option Pt) (hu : u.idf = true) : V.idfL [u, gNearV b h a] = true := by
 cases b <;> cases a <;> simp [V.idfL, V.idf, gNearV, optP, hu]
def gRule (c : Cut) (l : List Pt) (r per : Int) (i : Nat) : Int := ruleP c r per (nb l i) (gp l i) (na l i)
theorem ruleP_bd (c : Cut) (r per : Int) (b : Option Pt) (h : Pt) (a : Option Pt) : 0 ≤ ruleP c r per b h a ∧ ruleP c r per b h a ≤ 5 := by
 unfold ruleP
 split
 ·
  omega
 split
 ·
  omega
 split
 ·
  omega
 split
 ·
  omega
 split <;> omega
theorem gRule_bd (c : Cut) (l : List Pt) (r per : Int) (i : Nat) : 0 ≤ gRule c l r per i ∧ gRule c l r per i ≤ 5 := ruleP_bd _ _ _ _ _ _
def faultN (c : Cut) (l : List Pt) (r per : Int) : Option Nat := (List.range l.length).find? fun i => decide (0 < gRule c l r per i)
def faultR (c : Cut) (l : List Pt) (r per : Int) : Int × Int := match faultN c l r per with
 | some i => ((i : Int), gRule c l r per i)
 | none => (0, 0)
theorem faultN_none {c : Cut} {l : List Pt} {r per : Int} : faultN c l r per = none ↔ ∀ i, i < l.length → gRule c l r per i = 0 := by
 unfold faultN
 rw [List.find?_eq_none]
 constructor
 ·
  intro h i hi
  have := h i (by simpa using hi)
  have := (gRule_bd c l r per i).1
  simp at *
  omega
 ·
  intro h i hi
  rw [h i (by simpa using hi)]
  decide
theorem faultN_some {c : Cut} {l : List Pt} {r per : Int} {i : Nat} : faultN c l r per = some i ↔ i < l.length ∧ 0 < gRule c l r per i ∧ ∀ j, j < i → gRule c l r per j = 0 := by
 unfold faultN
 rw [List.find?_range_eq_some]
 constructor
 ·
  rintro ⟨h1, h2, h3⟩
  refine ⟨by simpa using h2, by simpa using h1, fun j hj => ?_⟩
  have := h3 j hj
  have := (gRule_bd c l r per j).1
  simp at *
  omega
 ·
  rintro ⟨h1, h2, h3⟩
  exact ⟨by simpa using h2, by simpa using h1, fun j hj => by rw [h3 j hj]; decide⟩
theorem faultR_none {c : Cut} {l : List Pt} {r per : Int} (h : ∀ i, i < l.length → gRule c l r per i = 0) : faultR c l r per = (0, 0) := by rw [faultR, faultN_none.2 h]
theorem faultR_some {c : Cut} {l : List Pt} {r per : Int} {i : Nat} (h1 : i < l.length) (h2 : 0 < gRule c l r per i) (h3 : ∀ j, j < i → gRule c l r per j = 0) : faultR c l r per = ((i : Int), gRule c l r per i) := by rw [faultR, faultN_some.2 ⟨h1, h2, h3⟩]
theorem nb_Ed {l : List Pt} (hl : ∀ k, k < l.length → gE (gp l k) = true) (i : Nat) : EdO (nb l i) := by
 unfold nb
 split
 ·
  by_cases h : i - 1 < l.length
  ·
   exact gE_iff.1 (hl _ h)
  ·
   rw [gp_out (by omega)]; show Ed (0, 0); unfold Ed; simp
 ·
  trivial
theorem na_Ed {l : List Pt} (hl : ∀ k, k < l.length → gE (gp l k) = true) (i : Nat) : EdO (na l i) := by
 unfold na
 split
 ·
  exact gE_iff.1 (hl _ (by assumption))
 ·
  trivial
set_option maxRecDepth 100000 in
theorem all_ac (u : List V) (hu : V.idfL u = true) : AC Tryz.prog 133 [.ptr u] (.fn (.func 149) [] [.ptr [.ptr u]]) [] := by
 refine acI hTT hMX Tryz.func133 Tryz.ntmps133 fun C hC hF => ?_
 refine aw_seq_k fun K hK => wR 2 ?_; refine aX hTT 2 [] True.intro ?_; refine aops_nil (xt_n (hK _ ?_)); clear hK K; refine aw_seq_k fun K hK => wR 3 ?_; refine aX hTT 2 [] True.intro ?_; refine aops_nil (xt_n (hK _ ?_)); clear hK K
 refine aw_ret ?_
 refine rP (V.fn (Fn.func (149 : Nat)) [] [V.ptr [V.ptr u]])
set_option maxRecDepth 100000 in
theorem fault_ac (c : Cut) (l : List Pt) (r per : Int) (hc : cutE c = 0) (hl : gChk l = 0) (hp : Plc r per) : AC Tryz.prog 119 [.ptr (trC c l r per)] (.tup [.i (faultR c l r per).1, .i (faultR c l r per).2]) [] := by
 obtain ⟨l1, l2⟩ := gChk_ok.1 hl
 refine acI hTT hMX Tryz.func119 Tryz.ntmps119 fun C hC hF => ?_
 refine aw_seq_k fun K hK => wR 2 ?_; refine aX hTT 3 [(1, .r (pn 2 (V.ref 100002 0) (100002 : Nat) (Ob.box 3 [V.i 0]))), (2, .r (pn 3 (V.ref 100003 0) (100003 : Nat) (Ob.box 3 [V.i 0])))] True.intro ?_; refine aops_nil (xt_n (hK _ ?_)); clear hK K; refine aw_seq_k fun K hK => ?_; refine aw_seq_k fun K hK => wR 3 ?_; refine aX hTT 1 [] True.intro ?_
 refine eC (all_ac (trC c l r per) (by kernel_rfl)) ?_
 refine aops_nil (xt_n (hK _ ?_)); clear hK K
 refine aw_block ?_
 refine w_rangeI (caps := [V.ptr [V.ptr [V.i (Cut.half c), V.i (Cut.gain c), V.i (Cut.thin c), V.i (Cut.wide c), V.i (Cut.slope c), V.i (Cut.jerk c), V.i (Cut.sty c), V.sl 2 (List.length l) fun (k : Nat) => [V.i (Prod.fst (gp l k)), V.i (Prod.snd (gp l k))], V.i r, V.i per]]]) hF hC ((all_it c l r per l1)) (by kernel_rfl) (by kernel_rfl) ?_ (by kernel_rfl) [500, 501] [(500, 100002), (501, 100003)] [(1, .ptr [.ptr (trC c l r per)]), (2, .ref 500 0), (3, .ref 501 0)] (fun k => ∀ j, j < k → gRule c l r per j = 0) (fun _ => [.box 3 [.i 0], .box 3 [.i 0]]) (fun k e sx => e = .ret ∧ sx = [.box 3 [.i k], .box 3 [.i (gRule c l r per k)]] ∧ 0 < gRule c l r per k ∧ ∀ j, j < k → gRule c l r per j = 0) ?_ (by kernel_rfl) (by kernel_rfl) (by kernel_rfl) (.cons (by kernel_rfl) (.cons (by kernel_rfl) (.cons (by kernel_rfl) .nil))) (.cons ⟨Ob.box 3 [V.i 0], (by kernel_rfl), .box (by kernel_rfl)⟩ (.cons ⟨Ob.box 3 [V.i 0], (by kernel_rfl), .box (by kernel_rfl)⟩ .nil)) (by kernel_rfl) ?_ ?_ ?_ ?_ ?_
 ·
  intro x hx
  simp only [allV, List.mem_map] at hx
  obtain ⟨j, _, rfl⟩ := hx
  rfl
 ·
  intro j hj
  omega
 ·
  intro j o ho
  simp at ho
  rcases ho with rfl | rfl <;> rfl
 ·
  rintro k e sx ⟨_, rfl, _⟩ o ho
  simp at ho
  rcases ho with rfl | rfl <;> rfl
 ·
  rintro C' ⟨lx, hF'⟩ k x hx hok
  have hk : k < l.length := by have := (List.getElem?_eq_some_iff.1 hx).1; rwa [allV_len] at this
  rw [allV_get hk] at hx
  injection hx with hx
  subst hx
  refine aw_seq_k fun K hK => wR 2 ?_; refine aX hTT 1 [] True.intro ?_; refine aops_nil (xt_n (hK _ ?_)); clear hK K; refine wR 3 ?_; refine aX hTT 2 [(0, .r (pn 5 (V.ref 200005 0) (200005 : Nat) (Ob.box 213 [V.c (Value.pointer none), V.c (Value.pointer none), V.c (Value.pointer none)]))), (1, .r (pw ((0 : Nat) + (3 : Nat) ≤ (3 : Nat)) (200005 : Nat) (Ob.box 213 [optP (nb l k), V.ptr [V.i (Prod.fst (gp l k)), V.i (Prod.snd (gp l k))], optP (na l k)])))] ⟨(by omega), True.intro⟩ ?_; refine aops_nil ?_; refine xt_n ?_
  refine aw_block ?_
  refine aw_seq_k fun K hK => wR 4 ?_; refine aX hTT 2 [(1, .c ((0 : Nat) ≤ (3 : Nat)))] ⟨(by omega), True.intro⟩ ?_
  refine e_call (first := []) (caps := []) (rule_ac c l r per (nb l k) (gp l k) (na l k) hc hp (nb_Ed l2 k) (gE_iff.1 (l2 k hk)) (na_Ed l2 k)) (by kernel_rfl) (by kernel_rfl) ?_ (by kernel_rfl) (by kernel_rfl) ?_
  ·
   exact nearT_idf _ _ _ _ (by kernel_rfl)
  refine aX hTT 1 [] True.intro ?_; refine aops_nil (xt_n (hK _ ?_)); clear hK K; refine aw_seq_k fun K hK => wR 5 ?_; refine aX hTT 2 [] True.intro ?_; refine aops_nil (xt_n (hK _ ?_)); clear hK K
  refine w_cond (t := decide ((0 : Int) < ruleP c r per (nb l k) (gp l k) (na l k))) (by kernel_rfl) (fun c1 => ?_) (fun c1 => ?_)
  ·
   have h1 : 0 < gRule c l r per k := by simp at c1; exact c1
   refine aw_seq_k fun K hK => wR 6 ?_; refine aX hTT 4 [(2, .r (pw ((0 : Nat) + (1 : Nat) ≤ (1 : Nat)) (500 : Nat) (Ob.box 3 [V.i (↑k : Int)]))), (3, .r (pw ((0 : Nat) + (1 : Nat) ≤ (1 : Nat)) (501 : Nat) (Ob.box 3 [V.i (ruleP c r per (nb l k) (gp l k) (na l k))])))] ⟨(by omega), (by omega), True.intro⟩ ?_; refine aops_nil (xt_n (hK _ ?_)); clear hK K
   refine aw_ret ?_
   refine xb_r ?_
   refine ⟨_, ⟨rfl, rfl, h1, hok⟩, ?_⟩
   refine le_ren (sl := [(500, Ob.box 3 [V.i (↑k : Int)]), (501, Ob.box 3 [V.i (gRule c l r per k)])]) [] .nil (.cons ⟨Ob.box 3 [V.i (↑k : Int)], (by kernel_rfl), .box (by kernel_rfl)⟩ (.cons ⟨Ob.box 3 [V.i (ruleP c r per (nb l k) (gp l k) (na l k))], (by kernel_rfl), .box (by kernel_rfl)⟩ .nil)) (by kernel_rfl) (by kernel_rfl)
  ·
   have h1 : gRule c l r per k ≤ 0 := by simp at c1; exact c1
   have h2 := (gRule_bd c l r per k).1
   refine aw_skip ?_
   refine xb_n ?_
   refine ⟨fun j hj => ?_, ?_⟩
   ·
    rcases Nat.lt_or_ge j k with h | h
    ·
     exact hok j h
    ·
     obtain rfl : j = k := by omega
     omega
   ·
    refine le_ren (sl := [(500, Ob.box 3 [V.i 0]), (501, Ob.box 3 [V.i 0])]) [] .nil (.cons ⟨Ob.box 3 [V.i 0], (by kernel_rfl), .box (by kernel_rfl)⟩ (.cons ⟨Ob.box 3 [V.i 0], (by kernel_rfl), .box (by kernel_rfl)⟩ .nil)) (by kernel_rfl) (by kernel_rfl)
 ·
  intro hok
  rw [allV_len] at hok
  refine xb_n ?_; refine xt_n (hK _ ?_); clear hK K; refine aw_seq_k fun K hK => wR 2 ?_; refine aX hTT 2 [(0, .r (pw ((0 : Nat) + (1 : Nat) ≤ (1 : Nat)) (500 : Nat) (Ob.box 3 [V.i 0]))), (1, .r (pw ((0 : Nat) + (1 : Nat) ≤ (1 : Nat)) (501 : Nat) (Ob.box 3 [V.i 0])))] ⟨(by omega), (by omega), True.intro⟩ ?_; refine aops_nil (xt_n (hK _ ?_)); clear hK K
  refine aw_ret ?_
  refine ret_of_le (le_freezeBox (t := (3 : Nat)) (cs := [V.i 0]) 500 (by kernel_rfl) (by kernel_rfl)) ?_
  refine ret_of_le (le_freezeBox (t := (3 : Nat)) (cs := [V.i 0]) 501 (by kernel_rfl) (by kernel_rfl)) ?_
  rw [faultR_none hok]
  refine rP (V.tup [V.i 0, V.i 0])
 ·
  rintro k e sx hk ⟨rfl, rfl, h1, h2⟩
  rw [allV_len] at hk
  refine aw_ret ?_
  refine xb_r ?_
  refine xt_r ?_
  refine ret_of_le (le_freezeBox (t := (3 : Nat)) (cs := [V.i (↑k : Int)]) 500 (by kernel_rfl) (by kernel_rfl)) ?_
  refine ret_of_le (le_freezeBox (t := (3 : Nat)) (cs := [V.i (gRule c l r per k)]) 501 (by kernel_rfl) (by kernel_rfl)) ?_
  rw [faultR_some hk h1 h2]
  refine rP (V.tup [V.i (↑k : Int), V.i (gRule c l r per k)])
def plcE (r per : Int) : Int := if betB r 0 4194304 && betB per 1 65536 then 0 else 3
set_option maxRecDepth 100000 in
theorem checkPlace_ac (r per : Int) : AC Tryz.prog 43 [.i r, .i per] (.i (plcE r per)) [] := by
 refine acI hTT hMX Tryz.func43 Tryz.ntmps43 fun C hC hF => ?_
 refine aw_seq_k fun K hK => wR 2 ?_; refine aX hTT 1 [] True.intro ?_; refine aops_nil (xt_n (hK _ ?_)); clear hK K; refine aw_seq_k fun K hK => ?_; refine aw_seq_k fun K hK => wR 3 ?_; refine aX hTT 1 [] True.intro ?_
 refine eC (between_ac r 0 4194304) ?_
 refine aX hTT 3 [(2, .c (gA ((!betB r (0 : Int) (4194304 : Int)) == false) True))] ⟨⟨⟨True.intro, True.intro⟩, (fun _ => True.intro)⟩, True.intro⟩ ?_
 refine eG 1 (g := (!betB r (0 : Int) (4194304 : Int)) == false) (fun h => between_ac per 1 65536) ?_
 refine aX hTT 2 [(0, .c (gB ((!betB r (0 : Int) (4194304 : Int)) == false) True)), (1, .c (True ∧ ((!betB r (0 : Int) (4194304 : Int)) = false → ((!betB r (0 : Int) (4194304 : Int)) == false) = true)))] ⟨⟨⟨(by (exact fun h => h)), True.intro⟩, (fun _ => True.intro)⟩, ⟨True.intro, (by (intro h; rw [h]; rfl))⟩, True.intro⟩ ?_; refine aops_nil (xt_n (hK _ ?_)); clear hK K
 refine w_cond (t := !betB r (0 : Int) (4194304 : Int) || !betB per (1 : Int) (65536 : Int)) (by kernel_rfl) (fun c1 => ?_) (fun c1 => ?_)
 ·
  have e : plcE r per = 3 := by
   cases h1 : betB r 0 4194304 <;> cases h2 : betB per 1 65536 <;> simp [plcE, h1, h2] at c1 ⊢
  refine aw_seq_k fun K hK => wR 4 ?_; refine aX hTT 1 [] True.intro ?_; refine aops_nil (xt_n (hK _ ?_)); clear hK K
  refine aw_ret ?_
  refine xt_r ?_
  rw [e]
  refine rP (V.i 3)
 ·
  have e : plcE r per = 0 := by
   cases h1 : betB r 0 4194304 <;> cases h2 : betB per 1 65536 <;> simp [plcE, h1, h2] at c1 ⊢
  refine aw_skip ?_
  refine xt_n (hK _ ?_); clear hK K; refine aw_seq_k fun K hK => wR 4 ?_; refine aX hTT 1 [] True.intro ?_; refine aops_nil (xt_n (hK _ ?_)); clear hK K
  refine aw_ret ?_
  rw [e]
  refine rP (V.i 0)
def gErr (c : Cut) (l : List Pt) : Int := if cutE c = 0 then gChk l else cutE c
theorem gErr_1 {c : Cut} {l : List Pt} (h : ¬ cutE c = 0) : gErr c l = cutE c := by rw [gErr, if_neg h]
theorem gErr_2 {c : Cut} {l : List Pt} (h : cutE c = 0) : gErr c l = gChk l := by rw [gErr, if_pos h]
theorem gErr_ok {c : Cut} {l : List Pt} (h : gErr c l = 0) : cutE c = 0 ∧ gChk l = 0 := by
 by_cases hc : cutE c = 0
 ·
  rw [gErr_2 hc] at h; exact ⟨hc, h⟩
 ·
  rw [gErr_1 hc] at h; exact absurd h hc
abbrev yyGA50 (c : Cut) (l : List Pt) : Ob := Ob.box 97 [V.i (Cut.half c), V.i (Cut.gain c), V.i (Cut.thin c), V.i (Cut.wide c), V.i (Cut.slope c), V.i (Cut.jerk c), V.i (Cut.sty c), V.sl 2 (List.length l) fun (k : Nat) => [V.i (Prod.fst (gp l k)), V.i (Prod.snd (gp l k))], V.i 0, V.i 0]
set_option maxRecDepth 100000 in
theorem newTrack_ok (c : Cut) (l : List Pt) (hl : l.length ≤ 4611686018427387904) (h : gErr c l = 0) : AC Tryz.prog 116 [c.v, V.pts l] (.tup [.ref 0 0, .i 0]) [TrO c l 0 0] := by
 obtain ⟨h1, h2⟩ := gErr_ok h
 have A1 := cutCheck_ac c
 have A2 := gCheckPoints_ac l hl
 rw [h1] at A1
 rw [h2] at A2
 refine acI hTT hMX Tryz.func116 Tryz.ntmps116 fun C hC hF => ?_
 refine aw_seq_k fun K hK => wR 2 ?_; refine aX hTT 3 [] True.intro ?_; refine aops_nil (xt_n (hK _ ?_)); clear hK K; refine aw_seq_k fun K hK => ?_; refine aw_seq_k fun K hK => wR 3 ?_; refine aX hTT 1 [] True.intro ?_
 refine eC (A1) ?_
 refine aX hTT 1 [] True.intro ?_; refine aops_nil (xt_n (hK _ ?_)); clear hK K; refine aw_seq_k fun K hK => wR 4 ?_; refine aX hTT 2 [] True.intro ?_; refine aops_nil (xt_n (hK _ ?_)); clear hK K; refine w_false (t := false) (by kernel_rfl) rfl ?_
 refine aw_skip ?_
 refine xt_n (hK _ ?_); clear hK K; refine aw_seq_k fun K hK => ?_; refine aw_seq_k fun K hK => wR 5 ?_; refine aX hTT 1 [] True.intro ?_
 refine eC (A2) ?_
 refine aops_x (M := [21]) hTT 1 [] True.intro ?_
 refine aops_nil (xt_n (hK _ ?_)); clear hK K; refine aw_seq_k fun K hK => wR 6 ?_
 refine aops_x (M := [21]) hTT 2 [] True.intro ?_
 refine aops_nil (xt_n (hK _ ?_)); clear hK K; refine w_false (t := false) (by kernel_rfl) rfl ?_
 refine aw_skip ?_
 refine xt_n (hK _ ?_); clear hK K; refine aw_seq_k fun K hK => wR 7 ?_
 refine aops_x (M := [21]) hTT 6 [(3, .r (pn 21 (V.ref 600021 0) (600021 : Nat) ((yyGA50 c l))))] True.intro ?_
 refine aops_nil (xt_n (hK _ ?_)); clear hK K
 refine aw_ret ?_
 refine ret_own [(0, 600021)] [(4, V.ref 0 0), (5, V.i 0)] (.inr rfl) (.cons (by kernel_rfl) (.cons (by kernel_rfl) .nil)) (.cons ⟨(yyGA50 c l), (by kernel_rfl), .box (by kernel_rfl)⟩ .nil) (by kernel_rfl) (by kernel_rfl) (by kernel_rfl) (by kernel_rfl)
set_option maxRecDepth 100000 in
theorem newTrack_no (c : Cut) (l : List Pt) (hl : l.length ≤ 4611686018427387904) (h : ¬ gErr c l = 0) : AC Tryz.prog 116 [c.v, V.pts l] (.tup [.c (.pointer none), .i (gErr c l)]) [] := by
 refine acI hTT hMX Tryz.func116 Tryz.ntmps116 fun C hC hF => ?_
 refine aw_seq_k fun K hK => wR 2 ?_; refine aX hTT 3 [] True.intro ?_; refine aops_nil (xt_n (hK _ ?_)); clear hK K; refine aw_seq_k fun K hK => ?_; refine aw_seq_k fun K hK => wR 3 ?_; refine aX hTT 1 [] True.intro ?_
 refine eC (cutCheck_ac c) ?_
 refine aX hTT 1 [] True.intro ?_; refine aops_nil (xt_n (hK _ ?_)); clear hK K; refine aw_seq_k fun K hK => wR 4 ?_; refine aX hTT 2 [] True.intro ?_; refine aops_nil (xt_n (hK _ ?_)); clear hK K
 refine w_cond (t := !decide (cutE c = (0 : Int))) (by kernel_rfl) (fun c1 => ?_) (fun c1 => ?_)
 ·
  simp at c1
  refine aw_seq_k fun K hK => wR 5 ?_; refine aX hTT 3 [] True.intro ?_; refine aops_nil (xt_n (hK _ ?_)); clear hK K
  refine aw_ret ?_
  refine xt_r ?_
  rw [gErr_1 c1]
  refine rP (V.tup [V.c (Value.pointer none), V.i (cutE c)])
 simp at c1
 refine aw_skip ?_
 refine xt_n (hK _ ?_); clear hK K; refine aw_seq_k fun K hK => ?_; refine aw_seq_k fun K hK => wR 5 ?_; refine aX hTT 1 [] True.intro ?_
 refine eC (gCheckPoints_ac l hl) ?_
 refine aX hTT 1 [] True.intro ?_; refine aops_nil (xt_n (hK _ ?_)); clear hK K; refine aw_seq_k fun K hK => wR 6 ?_; refine aX hTT 2 [] True.intro ?_; refine aops_nil (xt_n (hK _ ?_)); clear hK K
 refine w_cond (t := !decide (gChk l = (0 : Int))) (by kernel_rfl) (fun c2 => ?_) (fun c2 => ?_)
 ·
  refine aw_seq_k fun K hK => ?_
  refine wR 7 ?_; refine aX hTT 3 [] True.intro ?_; refine aops_nil (xt_n (hK _ ?_)); clear hK K
  refine aw_ret ?_
  refine xt_r ?_
  rw [gErr_2 c1]
  refine rP (V.tup [V.c (Value.pointer none), V.i (gChk l)])
 ·
  simp at c2
  rw [gErr_2 c1] at h
  exact absurd c2 h
end Go.Proofs.YtepkjobndmmejaaGreatDoor
