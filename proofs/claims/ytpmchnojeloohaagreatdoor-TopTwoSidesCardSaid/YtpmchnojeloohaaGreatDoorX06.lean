/-
  Several texts in one: Programmes: the walk of take.Split, where all is valid. Conditions: told in each theorem. .. Grooves of the top's laws, and how much of one fits: the walks of the program. Conditions: told in each theorem.
-/
import Derived.Test.YtpmchnojeloohaaGreatDoorAbs42
import Derived.Test.YtpmchnojeloohaaGreatDoorX05
import Derived.Test.YtpmchnojeloohaaGreatDoorX03
import Derived.Test.YtpmchnojeloohaaGreatDoorX04
import Derived.Test.YtpmchnojeloohaaGreatDoorX01
import Derived.Test.YtpmchnojeloohaaGreatDoorX02
import Derived.Test.YtpmchnojeloohaaGreatDoorX00
namespace Go.Proofs.YtpmchnojeloohaaGreatDoor
open Go.Ab Go.RowKit Go.Dw Go.Shelf
theorem strB_yes {p : List Pr} {t : Int} {i : Nat} (hi : i < p.length) (h : (decide (bgN p i < t) && decide (t < enN p (i + 1))) = true) : strB' p t = true := by
 rw [strB', List.any_eq_true]
 exact ⟨i, List.mem_range.2 hi, h⟩
theorem strB_no {p : List Pr} {t : Int} (h : ∀ i, i < p.length → (decide (bgN p i < t) && decide (t < enN p (i + 1))) = false) : strB' p t = false := by
 cases e : strB' p t with
 | false => rfl
 | true =>
  rw [strB', List.any_eq_true] at e
  obtain ⟨i, hi, h1⟩ := e
  rw [h i (List.mem_range.1 hi)] at h1
  cases h1
abbrev yyNT51 := (repV (0 : Nat) [V.c (Value.int IntKind.i64 0), V.c (Value.int IntKind.i64 0), V.c (Value.int IntKind.i64 0), V.c (Value.int IntKind.i64 0), V.c (Value.int IntKind.i64 0), V.c (Value.int IntKind.i64 0), V.c (Value.int IntKind.i64 0)])
abbrev yyNT50 : Ob := Ob.row 80 7 0 fun (i : Nat) => List.take (7 : Nat) (List.drop (i * 7) yyNT51)
set_option maxHeartbeats 4000000 in
set_option maxRecDepth 100000 in
theorem Split_ac (l : List Tk) (p : List Pr) (t : Int) (h : POk l p) (t0 : 0 ≤ t) (t1 : t ≤ enN p p.length) : AC Tryz.prog 8 [V.tks l, V.prs p, .i t] (if strB' p t = true then .tup [.nil, .nil, .i 10] else .tup [V.prs (p.take (cutN p t p.length)), V.prs (secL p (cutN p t p.length) t), .i 0]) [] := by
 have hp := h.le
 have hv := h.pv
 have he := h.en
 refine acI hTT hMX Tryz.func8 Tryz.ntmps8 fun C hC hF => ?_
 refine sK fun K hK => wR 2 ?_; refine aX hTT 3 [] tI ?_; refine nK hK ?_; clear hK K; refine sK fun K hK => wR 3 ?_; refine aX hTT 2 [] tI ?_
 refine eC (newP_ac l p h) ?_
 refine aX hTT 5 [] tI ?_; refine nK hK ?_; clear hK K; refine sK fun K hK => ?_; refine sK fun K hK => wR 4 ?_; refine aX hTT 2 [] tI ?_; refine nK hK ?_; clear hK K; refine w_false (t := false) kR rfl ?_
 refine aw_skip ?_
 refine xt_n (hK _ ?_); clear hK K; refine sK fun K hK => ?_; refine sK fun K hK => wR 5 ?_; refine aX hTT 10 [(3, .c (gA (decide (t < 0) == false) True)), (4, .c (gA (decide (t < 0) == false) True)), (5, .c (gB (decide (t < 0) == false) True)), (6, .c (gB (decide (t < 0) == false) True)), (7, .c (gB (decide (t < 0) == false) True)), (8, .c (gC (decide (t < 0) == false) True)), (9, .c (True ∧ (decide (t < 0) = false → (decide (t < 0) == false) = true)))] ⟨⟨⟨tI, tI⟩, (fun _ => tI)⟩, ⟨⟨tI, tI⟩, (fun _ => tI)⟩, ⟨⟨(by (exact fun h => h)), tI⟩, (fun _ => tI)⟩, ⟨⟨(by (exact fun h => h)), tI⟩, (fun _ => tI)⟩, ⟨⟨(by (exact fun h => h)), tI⟩, (fun _ => tI)⟩, ⟨⟨(by (exact fun h => h)), ⟨(by (exact fun h => h)), tI⟩⟩, (fun _ => tI)⟩, ⟨tI, (by (intro h; rw [h]; rfl))⟩, tI⟩ ?_; refine nK hK ?_; clear hK K
 refine w_cond (t := decide (t < 0) || decide (enN p (List.length p) < t)) kR (fun c1 => ?_) (fun c1 => ?_)
 ·
  simp at c1
  omega
 refine aw_skip ?_
 refine xt_n (hK _ ?_); clear hK K; refine sK fun K hK => wR 6 ?_; refine aX hTT 1 [] tI ?_; refine nK hK ?_; clear hK K; refine sK fun K hK => ?_; refine sK fun K hK => wR 7 ?_; refine aX hTT 6 [] tI ?_; refine nK hK ?_; clear hK K
 refine aw_block ?_
 refine w_loop (ι := Nat) (fun k => [(1, V.prs p), (2, .i t), (9, V.prog l p), (11, .i (cutN p t k)), (38, V.pls p), (39, .i p.length), (40, .i k)]) (fun _ => []) (fun k => k ≤ p.length ∧ ∀ i, i < k → (decide (bgN p i < t) && decide (t < enN p (i + 1))) = false) (fun k => p.length - k) 0 ⟨Nat.zero_le _, fun i hi => by omega⟩ ?_ ?_
 ·
  refine le_ren [] (.cons kR (.cons kR (.cons kR (.cons kR (.cons kR (.cons kR (.cons kR .nil))))))) .nil kR kR
 rintro k ⟨hk, hno⟩
 have hcl := cutN_le p t k
 refine sK fun K hK => wR 2 ?_; refine aX hTT 1 [] tI ?_; refine nK hK ?_; clear hK K; refine sK fun K hK => ?_
 refine w_cond (t := decide ((↑k : Int) < (↑(List.length p) : Int))) kR (fun c2 => ?_) (fun c2 => ?_)
 ·
  have hk1 : k < p.length := by simpa using c2
  have b := hv.bg hk1
  have b2 := h.mono (i := k + 1) (k := p.length) oM (Nat.le_refl _)
  have e1 : cutN p t (k + 1) = cutN p t k + if enN p (k + 1) ≤ t then 1 else 0 := rfl
  refine aw_skip ?_
  refine xt_n (hK _ ?_); clear hK K; refine sK fun K hK => ?_
  refine aw_block ?_
  refine sK fun K hK => wR 3 ?_; refine aX hTT 4 [(0, .c ((0 : Int) ≤ (↑k : Int) ∧ (↑k : Int) < (↑(List.length p) : Int))), (2, .r (pn 13 (V.ref 200013 0) (200013 : Nat) (Ob.box 82 [V.i 0, V.i 0, V.i 0, V.i 0, V.i 0, V.i 0, V.i 0, V.i 0, V.i 0, V.i 0]))), (3, .r (pw ((0 : Nat) + (10 : Nat) ≤ (10 : Nat)) (200013 : Nat) (Ob.box 82 [V.i (Pr.tk (gpr p k)), V.i (Pr.fr (gpr p k)), V.i (Pr.to (gpr p k)), V.i (Pr.gap (gpr p k)), V.i (Pr.inn (gpr p k)), V.i (Pr.out (gpr p k)), V.i (Pr.lev (gpr p k)), V.i (↑k : Int), V.i (bgN p k), V.i (enN p (k + 1))])))] ⟨oM, oM, tI⟩ ?_; refine nK hK ?_; clear hK K; refine sK fun K hK => ?_; refine sK fun K hK => wR 4 ?_; refine aX hTT 10 [(1, .c ((8 : Nat) ≤ (10 : Nat))), (5, .c (gA (decide (bgN p k < t) == true) True)), (6, .c (gA (decide (bgN p k < t) == true) True)), (7, .c (gB (decide (bgN p k < t) == true) ((9 : Nat) ≤ (10 : Nat)))), (8, .c (gC (decide (bgN p k < t) == true) True)), (9, .c ((decide (bgN p k < t) = true → (decide (bgN p k < t) == true) = true) ∧ True))] ⟨oM, ⟨⟨tI, tI⟩, (fun _ => tI)⟩, ⟨⟨tI, tI⟩, (fun _ => tI)⟩, ⟨⟨(by (exact fun h => h)), tI⟩, (by (intro _; simp; done))⟩, ⟨⟨(by (exact fun h => h)), ⟨(by (exact fun h => h)), tI⟩⟩, (fun _ => tI)⟩, ⟨(by (intro h; rw [h]; rfl)), tI⟩, tI⟩ ?_; refine nK hK ?_; clear hK K
  refine w_cond (t := decide (bgN p k < t) && decide (t < enN p (k + 1))) kR (fun c3 => ?_) (fun c3 => ?_)
  ·
   have hy := strB_yes hk1 c3
   refine sK fun K hK => wR 5 ?_; refine aX hTT 3 [] tI ?_; refine nK hK ?_; clear hK K
   refine aw_ret ?_
   refine xt_r ?_
   refine xb_r ?_
   refine xt_r ?_; refine xt_r ?_
   refine xb_r ?_
   refine xt_r ?_
   rw [if_pos hy]
   refine rP (V.tup [V.nil, V.nil, V.i 10])
  refine aw_skip ?_
  refine xt_n (hK _ ?_); clear hK K; refine sK fun K hK => wR 5 ?_; refine aX hTT 4 [(1, .c ((9 : Nat) ≤ (10 : Nat)))] ⟨oM, tI⟩ ?_; refine nK hK ?_; clear hK K
  refine w_cond (t := decide (enN p (k + 1) ≤ t)) kR (fun c4 => ?_) (fun c4 => ?_)
  ·
   have e2 : enN p (k + 1) ≤ t := by simpa using c4
   rw [if_pos e2] at e1
   refine wR 6 ?_; refine aX hTT 3 [(1, .i ((↑(cutN p t k) : Int) + 1))] ⟨oM, tI⟩ ?_; refine aops_nil ?_; refine xb_n ?_; refine xt_n (hK _ ?_); clear hK K; refine wR 7 ?_; refine aX hTT 2 [(0, .i ((↑k : Int) + 1))] ⟨oM, tI⟩ ?_; refine aops_nil ?_; refine xt_n ?_
   refine ⟨k + 1, ⟨by omega, fun i hi => ?_⟩, ?_, by omega⟩
   ·
    by_cases e : i = k
    ·
     rw [e]; exact c3
    ·
     exact hno i oM
   ·
    rw [e1]
    refine le_ren [] (.cons kR (.cons kR (.cons kR (.cons kR (.cons kR (.cons kR (.cons kR .nil))))))) .nil kR kR
  ·
   have e2 : ¬ enN p (k + 1) ≤ t := by simpa using c4
   rw [if_neg e2, Nat.add_zero] at e1
   refine aw_skip ?_
   refine xb_n ?_; refine xt_n (hK _ ?_); clear hK K; refine wR 6 ?_; refine aX hTT 2 [(0, .i ((↑k : Int) + 1))] ⟨oM, tI⟩ ?_; refine aops_nil ?_; refine xt_n ?_
   refine ⟨k + 1, ⟨by omega, fun i hi => ?_⟩, ?_, by omega⟩
   ·
    by_cases e : i = k
    ·
     rw [e]; exact c3
    ·
     exact hno i oM
   ·
    rw [e1]
    refine le_ren [] (.cons kR (.cons kR (.cons kR (.cons kR (.cons kR (.cons kR (.cons kR .nil))))))) .nil kR kR
 obtain rfl : k = p.length := by simp at c2; omega
 have hn := strB_no hno
 have hs := split_ok h t0 t1 hn
 obtain ⟨n, hnn⟩ : ∃ n, n = cutN p t p.length := ⟨_, rfl⟩
 rw [← hnn] at hs hcl ⊢
 have hl2 := secL_len (p := p) (n := n) (t := t)
 have hl1 : (p.take n).length = n := by rw [List.length_take]; omega
 refine aw_exit ?_
 refine xt_x ?_; refine xt_x ?_
 refine xb_same ?_
 refine xt_n ?_; clear hK K; refine hK _ ?_; clear hK K; refine sK fun K hK => wD 3 ?_
 refine aops_x (M := [61, 66]) hTT 12 [(0, .r (pn 61 (V.own 200061) (200061 : Nat) (yyNT50))), (3, .c ((0 : Int) ≤ (0 : Int) ∧ (0 : Int) ≤ (↑n : Int) ∧ (↑n : Int) ≤ (↑(List.length p) : Int))), (4, .r (PR.mk (some (65 : Nat)) (some ((0 : Nat) + (n - 0) ≤ 1099511627776)) (V.own 200065) [((200061 : Nat), none), ((200065 : Nat), some (Ob.row 80 7 ((0 : Nat) + (n - 0)) (appRow (0 : Nat) (fun (i : Nat) => List.take (7 : Nat) (List.drop (i * 7) yyNT51)) fun (i : Nat) => Pr.c (gpr p (i + 0)))))] false)), (5, .r (pn 66 (V.own 200066) (200066 : Nat) (yyNT50))), (8, .c ((0 : Int) ≤ (↑n : Int) ∧ (↑n : Int) ≤ (↑(List.length p) : Int) ∧ (↑(List.length p) : Int) ≤ (↑(List.length p) : Int))), (9, .r (PR.mk (some (70 : Nat)) (some ((0 : Nat) + (List.length p - n) ≤ 1099511627776)) (V.own 200070) [((200066 : Nat), none), ((200070 : Nat), some (Ob.row 80 7 ((0 : Nat) + (List.length p - n)) (appRow (0 : Nat) (fun (i : Nat) => List.take (7 : Nat) (List.drop (i * 7) yyNT51)) fun (i : Nat) => Pr.c (gpr p (i + n)))))] false))] ⟨⟨oM, oM⟩, oM, ⟨oM, oM⟩, oM, tI⟩ ?_
 refine aops_nil ⟨kR, ?_⟩; refine xt_n (hK _ ?_); clear hK K; refine sK fun K hK => ?_; refine sK fun K hK => wR 4 ?_
 refine aops_x (M := [61, 66]) hTT 3 [] tI ?_
 refine nK hK ?_; clear hK K
 refine w_le (s' := ⟨mkT [(2, .i t), (9, V.prog l p), (11, .i n), (14, .own 1), (15, .own 2), (73, .b (decide ((0 : Int) < ((p.length - n : Nat) : Int))))], mkS [(1, .row 80 7 n fun i => (gpr p i).c), (2, .row 80 7 (p.length - n) fun i => (gpr p (n + i)).c)], 1⟩) ?_ ?_
 ·
  refine le_ren (tl := [(2, V.i t), (9, V.ptr [V.sl 2 (List.length l) fun (k : Nat) => [nmV (Prod.fst (gtk l k)), V.pts (Prod.snd (gtk l k))], V.sl 10 (List.length p) fun (k : Nat) => plC p k, V.i (enN p (List.length p))]), (11, V.i (↑n : Int)), (14, V.own 1), (15, V.own 2), (73, V.b (decide ((0 : Int) < (↑(List.length p - n) : Int))))]) (sl := [(1, Ob.row 80 7 n fun (i : Nat) => Pr.c (gpr p i)), (2, Ob.row 80 7 (List.length p - n) fun (i : Nat) => Pr.c (gpr p (n + i)))]) [(1, 200065), (2, 200070)] (.cons kR (.cons kR (.cons kR (.cons kR (.cons kR (.cons ?_ .nil)))))) (.cons ⟨Ob.row 80 7 ((0 : Nat) + (n - 0)) (appRow (0 : Nat) (fun (i : Nat) => List.take (7 : Nat) (List.drop (i * 7) yyNT51)) fun (i : Nat) => Pr.c (gpr p (i + 0))), kR, .row oM (fun _ _ => rfl)⟩ (.cons ⟨Ob.row 80 7 ((0 : Nat) + (List.length p - n)) (appRow (0 : Nat) (fun (i : Nat) => List.take (7 : Nat) (List.drop (i * 7) yyNT51)) fun (i : Nat) => Pr.c (gpr p (i + n))), kR, .row oM ?_⟩ .nil)) kR kR
  ·
   show V.b (decide ((0 : Int) < ((0 + (p.length - n) : Nat) : Int))) = V.b (decide ((0 : Int) < ((p.length - n : Nat) : Int)))
   rw [Nat.zero_add]
  ·
   intro i hi
   rw [appRow, if_neg oM, Nat.sub_zero]
   show (gpr p (i + n)).c = V.renL _ ((gpr p (n + i)).c)
   rw [Nat.add_comm i n]
   rfl
 have hnn2 : ¬ strB' p t = true := by rw [hn]; decide
 refine w_cond (t := decide ((0 : Int) < (↑(List.length p - n) : Int))) kR (fun c3 => ?_) (fun c3 => ?_)
 ·
  have n1 : n < p.length := by simp at c3; omega
  have b := hv.bg n1
  refine wR 2 ?_; refine aX hTT 14 [(6, .c ((0 : Int) ≤ (↑n : Int) ∧ (↑n : Int) < (↑(List.length p) : Int))), (10, .i (bgN p n - t)), (11, .c ((0 : Int) ≤ (0 : Int) ∧ (0 : Int) < (↑(List.length p - n) : Int))), (13, .r (pw ((0 : Nat) < List.length p - n ∧ (3 : Nat) + (1 : Nat) ≤ (7 : Nat)) (2 : Nat) (Ob.row 80 7 (List.length p - n) fun (j : Nat) => if j = 0 then [V.i (Pr.tk (gpr p (n + 0))), V.i (Pr.fr (gpr p (n + 0))), V.i (Pr.to (gpr p (n + 0))), V.i (bgN p n - t), V.i (Pr.inn (gpr p (n + 0))), V.i (Pr.out (gpr p (n + 0))), V.i (Pr.lev (gpr p (n + 0)))] else Pr.c (gpr p (n + j)))))] ⟨oM, oM, oM, oM, tI⟩ ?_; refine nK hK ?_; clear hK K; refine sK fun K hK => ?_
  refine w_le (s' := ⟨mkT [(14, .own 1), (15, .own 2)], mkS [(1, .row 80 7 n fun i => (gpr p i).c), (2, .row 80 7 (p.length - n) fun i => (gpr (secL p n t) i).c)], 1⟩) ?_ ?_
  ·
   refine le_ren (tl := [(14, V.own 1), (15, V.own 2)]) (sl := [(1, Ob.row 80 7 n fun (i : Nat) => Pr.c (gpr p i)), (2, Ob.row 80 7 (List.length p - n) fun (i : Nat) => Pr.c (gpr (secL p n t) i))]) [(1, 1), (2, 2)] (.cons kR (.cons kR .nil)) (.cons ⟨Ob.row 80 7 n fun (i : Nat) => Pr.c (gpr p i), kR, .row kR (fun _ _ => rfl)⟩ (.cons ⟨Ob.row 80 7 (List.length p - n) fun (j : Nat) => if j = 0 then [V.i (Pr.tk (gpr p (n + 0))), V.i (Pr.fr (gpr p (n + 0))), V.i (Pr.to (gpr p (n + 0))), V.i (bgN p n - t), V.i (Pr.inn (gpr p (n + 0))), V.i (Pr.out (gpr p (n + 0))), V.i (Pr.lev (gpr p (n + 0)))] else Pr.c (gpr p (n + j)), kR, .row kR ?_⟩ .nil)) kR kR
   intro i hi
   show _ = V.renL _ ((gpr (secL p n t) i).c)
   rw [secL_at hi]
   by_cases e : i = 0
   ·
    rw [if_pos e, if_pos e]; rfl
   ·
    rw [if_neg e, if_neg e]; rfl
  refine w_le (le_shut 14 1 (e := (80 : Nat)) (sz := (7 : Nat)) (n := n) (n' := (p.take n).length) (row := fun (i : Nat) => Pr.c (gpr p i)) (row' := (fun k => (gpr (p.take n) k).c)) kR kR (fun _ _ => rfl) ?_ ?_) ?_
  ·
   exact hl1.symm
  ·
   intro i hi
   rw [gpr_take hi]
  refine w_le (le_shut 15 2 (e := (80 : Nat)) (sz := (7 : Nat)) (n := List.length p - n) (n' := (secL p n t).length) (row := fun (i : Nat) => Pr.c (gpr (secL p n t) i)) (row' := (fun k => (gpr (secL p n t) k).c)) kR kR (fun _ _ => rfl) ?_ ?_) ?_
  ·
   exact hl2.symm
  ·
   exact fun _ _ => rfl
  refine wR 2 ?_; refine aX hTT 5 [] tI ?_; refine nK hK ?_; clear hK K
  refine aw_ret ?_
  rw [if_neg hnn2, ← hnn]
  refine rP (V.tup [V.sl 7 (List.length (List.take n p)) fun (k : Nat) => Pr.c (gpr (List.take n p) k), V.sl 7 (List.length (secL p n t)) fun (k : Nat) => Pr.c (gpr (secL p n t) k), V.i 0])
 ·
  have n1 : p.length - n = 0 := by simp at c3; omega
  refine w_le (le_shut 14 1 (e := (80 : Nat)) (sz := (7 : Nat)) (n := n) (n' := (p.take n).length) (row := fun (i : Nat) => Pr.c (gpr p i)) (row' := (fun k => (gpr (p.take n) k).c)) kR kR (fun _ _ => rfl) ?_ ?_) ?_
  ·
   exact hl1.symm
  ·
   intro i hi
   rw [gpr_take hi]
  refine w_le (le_shut 15 2 (e := (80 : Nat)) (sz := (7 : Nat)) (n := List.length p - n) (n' := (secL p n t).length) (row := fun (i : Nat) => Pr.c (gpr p (n + i))) (row' := (fun k => (gpr (secL p n t) k).c)) kR kR (fun _ _ => rfl) ?_ ?_) ?_
  ·
   exact hl2.symm
  ·
   intro i hi
   omega
  refine aw_skip ?_
  refine xt_n (hK _ ?_); clear hK K; refine sK fun K hK => wR 2 ?_; refine aX hTT 5 [] tI ?_; refine nK hK ?_; clear hK K
  refine aw_ret ?_
  rw [if_neg hnn2, ← hnn]
  refine rP (V.tup [V.sl 7 (List.length (List.take n p)) fun (k : Nat) => Pr.c (gpr (List.take n p) k), V.sl 7 (List.length (secL p n t)) fun (k : Nat) => Pr.c (gpr (secL p n t) k), V.i 0])
end Go.Proofs.YtpmchnojeloohaaGreatDoor

namespace Go.Proofs.YtpmchnojeloohaaGreatDoor
open Go.Ab Go.RowKit Go.Dw Go.Shelf
theorem eFTL1 {x c : Bool} (h : x = c) : (x == c) = true := by rw [h]; cases c <;> rfl
def Bl.c (b : Bl) : List V := [.i b.per, .i b.rim, .i b.core, .i b.land, .i b.slow, .i b.fast]
abbrev Bl.v (b : Bl) : V := .agg b.c
def blE (b : Bl) : Int := if betB b.per 1 65536 && betB b.rim 0 4194304 && betB b.core 0 b.rim && betB b.land 0 65536 && betB b.fast 0 65536 && betB b.slow 0 b.fast then 0 else 2
theorem blE_ok {b : Bl} : blE b = 0 ↔ b.ok := by
 unfold blE Bl.ok
 constructor
 ·
  intro h
  split at h
  ·
   rename_i h1
   simp [betB] at h1
   omega
  ·
   cases h
 ·
  intro h
  rw [if_pos]
  simp [betB]
  omega
theorem blE_2 {b : Bl} (h : ¬ b.ok) : blE b = 2 := by
 have h1 : blE b ≠ 0 := fun e => h (blE_ok.1 e)
 unfold blE at h1 ⊢
 split
 ·
  rename_i h2; rw [if_pos h2] at h1; exact absurd rfl h1
 ·
  rfl
set_option maxRecDepth 100000 in
theorem lBetween_ac (x lo hi : Int) : AC Tryz.prog 99 [.i x, .i lo, .i hi] (.b (betB x lo hi)) [] := by
 refine acI hTT hMX Tryz.func99 Tryz.ntmps99 fun C hC hF => ?_
 refine sK fun K hK => wR 2 ?_; refine aX hTT 1 [] tI ?_; refine nK hK ?_; clear hK K; refine sK fun K hK => wR 3 ?_; refine aX hTT 9 [(4, .c (gA (decide (lo ≤ x) == true) True)), (5, .c (gA (decide (lo ≤ x) == true) True)), (6, .c (gC (decide (lo ≤ x) == true) True)), (7, .c ((decide (lo ≤ x) = true → (decide (lo ≤ x) == true) = true) ∧ True))] ⟨⟨⟨tI, tI⟩, (fun _ => tI)⟩, ⟨⟨tI, tI⟩, (fun _ => tI)⟩, ⟨⟨(by (exact fun h => h)), ⟨(by (exact fun h => h)), tI⟩⟩, (fun _ => tI)⟩, ⟨eFTL1, tI⟩, tI⟩ ?_; refine nK hK ?_; clear hK K
 refine aw_ret ?_
 refine rP (V.b (decide (lo ≤ x) && decide (x ≤ hi)))
abbrev wl1B0 (i : Nat) : Bool := decide ((↑i : Int) < 0) == false
abbrev wl1B1 (b : Bl) : Bool := (!betB (Bl.per b) (1 : Int) (65536 : Int)) == false
abbrev wl1B2 (i : Nat) (l : List Pt) : Bool := decide ((↑i : Int) < 0) || decide ((↑(List.length l) : Int) ≤ (↑i : Int))
abbrev wl1B3 (b : Bl) : Bool := (!betB (Bl.per b) (1 : Int) (65536 : Int) || !betB (Bl.rim b) (0 : Int) (4194304 : Int)) == false
abbrev wl1B4 (b : Bl) : Bool := (!betB (Bl.per b) (1 : Int) (65536 : Int) || !betB (Bl.rim b) (0 : Int) (4194304 : Int) || !betB (Bl.core b) (0 : Int) (Bl.rim b)) == false
abbrev wl1B5 (b : Bl) : Bool := (!betB (Bl.per b) (1 : Int) (65536 : Int) || !betB (Bl.rim b) (0 : Int) (4194304 : Int) || !betB (Bl.core b) (0 : Int) (Bl.rim b) || !betB (Bl.land b) (0 : Int) (65536 : Int)) == false
abbrev wl1B6 (b : Bl) : Bool := (!betB (Bl.per b) (1 : Int) (65536 : Int) || !betB (Bl.rim b) (0 : Int) (4194304 : Int) || !betB (Bl.core b) (0 : Int) (Bl.rim b) || !betB (Bl.land b) (0 : Int) (65536 : Int) || !betB (Bl.fast b) (0 : Int) (65536 : Int)) == false
set_option maxRecDepth 100000 in
theorem lCheck_ac (b : Bl) : AC Tryz.prog 62 [b.v] (.i (blE b)) [] := by
 refine acI hTT hMX Tryz.func62 Tryz.ntmps62 fun C hC hF => ?_
 refine sK fun K hK => wR 2 ?_; refine aX hTT 2 [] tI ?_; refine nK hK ?_; clear hK K; refine sK fun K hK => ?_; refine sK fun K hK => wR 3 ?_; refine aX hTT 2 [] tI ?_
 refine eC (lBetween_ac b.per 1 65536) ?_
 refine aX hTT 4 [(2, .c (gA (wl1B1 b) True)), (3, .c (gB (wl1B1 b) True))] ⟨⟨⟨tI, tI⟩, (fun _ => tI)⟩, ⟨⟨(by (exact fun h => h)), tI⟩, (fun _ => tI)⟩, tI⟩ ?_
 refine eG 1 (g := (!betB (Bl.per b) (1 : Int) (65536 : Int)) == false) (fun h => lBetween_ac b.rim 0 4194304) ?_
 refine aX hTT 7 [(0, .c (gB (wl1B1 b) True)), (1, .c (True ∧ ((!betB (Bl.per b) (1 : Int) (65536 : Int)) = false → (wl1B1 b) = true))), (3, .c (gA (wl1B3 b) True)), (4, .c (gB (wl1B3 b) True)), (5, .c (gA (wl1B3 b) True)), (6, .c (gB (wl1B3 b) True))] ⟨⟨⟨(by (exact fun h => h)), tI⟩, (fun _ => tI)⟩, ⟨tI, eFTL1⟩, ⟨⟨tI, tI⟩, (fun _ => tI)⟩, ⟨⟨(by (exact fun h => h)), tI⟩, (fun _ => tI)⟩, ⟨⟨tI, tI⟩, (fun _ => tI)⟩, ⟨⟨(by (exact fun h => h)), tI⟩, (fun _ => tI)⟩, tI⟩ ?_
 refine eG 2 (g := (!betB (Bl.per b) (1 : Int) (65536 : Int) || !betB (Bl.rim b) (0 : Int) (4194304 : Int)) == false) (fun h => lBetween_ac b.core 0 b.rim) ?_
 refine aX hTT 5 [(0, .c (gB (wl1B3 b) True)), (1, .c (True ∧ ((!betB (Bl.per b) (1 : Int) (65536 : Int) || !betB (Bl.rim b) (0 : Int) (4194304 : Int)) = false → (wl1B3 b) = true))), (3, .c (gA (wl1B4 b) True)), (4, .c (gB (wl1B4 b) True))] ⟨⟨⟨(by (exact fun h => h)), tI⟩, (fun _ => tI)⟩, ⟨tI, eFTL1⟩, ⟨⟨tI, tI⟩, (fun _ => tI)⟩, ⟨⟨(by (exact fun h => h)), tI⟩, (fun _ => tI)⟩, tI⟩ ?_
 refine eG 1 (g := (!betB (Bl.per b) (1 : Int) (65536 : Int) || !betB (Bl.rim b) (0 : Int) (4194304 : Int) || !betB (Bl.core b) (0 : Int) (Bl.rim b)) == false) (fun h => lBetween_ac b.land 0 65536) ?_
 refine aX hTT 5 [(0, .c (gB (wl1B4 b) True)), (1, .c (True ∧ ((!betB (Bl.per b) (1 : Int) (65536 : Int) || !betB (Bl.rim b) (0 : Int) (4194304 : Int) || !betB (Bl.core b) (0 : Int) (Bl.rim b)) = false → (wl1B4 b) = true))), (3, .c (gA (wl1B5 b) True)), (4, .c (gB (wl1B5 b) True))] ⟨⟨⟨(by (exact fun h => h)), tI⟩, (fun _ => tI)⟩, ⟨tI, eFTL1⟩, ⟨⟨tI, tI⟩, (fun _ => tI)⟩, ⟨⟨(by (exact fun h => h)), tI⟩, (fun _ => tI)⟩, tI⟩ ?_
 refine eG 1 (g := (!betB (Bl.per b) (1 : Int) (65536 : Int) || !betB (Bl.rim b) (0 : Int) (4194304 : Int) || !betB (Bl.core b) (0 : Int) (Bl.rim b) || !betB (Bl.land b) (0 : Int) (65536 : Int)) == false) (fun h => lBetween_ac b.fast 0 65536) ?_
 refine aX hTT 7 [(0, .c (gB (wl1B5 b) True)), (1, .c (True ∧ ((!betB (Bl.per b) (1 : Int) (65536 : Int) || !betB (Bl.rim b) (0 : Int) (4194304 : Int) || !betB (Bl.core b) (0 : Int) (Bl.rim b) || !betB (Bl.land b) (0 : Int) (65536 : Int)) = false → (wl1B5 b) = true))), (3, .c (gA (wl1B6 b) True)), (4, .c (gB (wl1B6 b) True)), (5, .c (gA (wl1B6 b) True)), (6, .c (gB (wl1B6 b) True))] ⟨⟨⟨(by (exact fun h => h)), tI⟩, (fun _ => tI)⟩, ⟨tI, eFTL1⟩, ⟨⟨tI, tI⟩, (fun _ => tI)⟩, ⟨⟨(by (exact fun h => h)), tI⟩, (fun _ => tI)⟩, ⟨⟨tI, tI⟩, (fun _ => tI)⟩, ⟨⟨(by (exact fun h => h)), tI⟩, (fun _ => tI)⟩, tI⟩ ?_
 refine eG 2 (g := (!betB (Bl.per b) (1 : Int) (65536 : Int) || !betB (Bl.rim b) (0 : Int) (4194304 : Int) || !betB (Bl.core b) (0 : Int) (Bl.rim b) || !betB (Bl.land b) (0 : Int) (65536 : Int) || !betB (Bl.fast b) (0 : Int) (65536 : Int)) == false) (fun h => lBetween_ac b.slow 0 b.fast) ?_
 refine aX hTT 2 [(0, .c (gB (wl1B6 b) True)), (1, .c (True ∧ ((!betB (Bl.per b) (1 : Int) (65536 : Int) || !betB (Bl.rim b) (0 : Int) (4194304 : Int) || !betB (Bl.core b) (0 : Int) (Bl.rim b) || !betB (Bl.land b) (0 : Int) (65536 : Int) || !betB (Bl.fast b) (0 : Int) (65536 : Int)) = false → (wl1B6 b) = true)))] ⟨⟨⟨(by (exact fun h => h)), tI⟩, (fun _ => tI)⟩, ⟨tI, eFTL1⟩, tI⟩ ?_; refine nK hK ?_; clear hK K
 refine w_cond (t := !betB (Bl.per b) (1 : Int) (65536 : Int) || !betB (Bl.rim b) (0 : Int) (4194304 : Int) || !betB (Bl.core b) (0 : Int) (Bl.rim b) || !betB (Bl.land b) (0 : Int) (65536 : Int) || !betB (Bl.fast b) (0 : Int) (65536 : Int) || !betB (Bl.slow b) (0 : Int) (Bl.fast b)) kR (fun c1 => ?_) (fun c1 => ?_)
 ·
  refine sK fun K hK => wR 4 ?_
  refine aops_n hTT (M := []) (n := 1) [pv 2 (V.i 2)] kR kR tI ?_
  refine nK hK ?_; clear hK K
  refine aw_ret ?_
  refine xt_r ?_
  have e : blE b = 2 := by
   rw [blE, if_neg]
   intro h
   simp only [Bool.and_eq_true] at h
   simp [h.1.1.1.1.1, h.1.1.1.1.2, h.1.1.1.2, h.1.1.2, h.1.2, h.2] at c1
  rw [e]
  refine rP (V.i 2)
 ·
  refine aw_skip ?_
  refine xt_n (hK _ ?_); clear hK K; refine sK fun K hK => wR 4 ?_
  refine aops_n hTT (M := []) (n := 1) [pv 2 (V.i 0)] kR kR tI ?_
  refine nK hK ?_; clear hK K
  refine aw_ret ?_
  have e : blE b = 0 := by
   rw [blE, if_pos]
   simpa [and_assoc] using c1
  rw [e]
  refine rP (V.i 0)
def sdC (b : Bl) (l : List Pt) : List V := b.c ++ [V.pts l, .i b.per]
structure SOk (b : Bl) (l : List Pt) : Prop where
 b0 : blE b = 0
 l0 : gChk l = 0
theorem SOk.bl {b : Bl} {l : List Pt} (h : SOk b l) : b.ok := blE_ok.1 h.b0
theorem SOk.pt {b : Bl} {l : List Pt} (h : SOk b l) (k : Nat) (hk : k < l.length) : (-4194304 ≤ (gp l k).1 ∧ (gp l k).1 ≤ 4194304) ∧ -4194304 ≤ (gp l k).2 ∧ (gp l k).2 ≤ 4194304 := gE_iff.1 ((gChk_ok.1 h.l0).2 k hk)
theorem SOk.len {b : Bl} {l : List Pt} (h : SOk b l) : l.length ≤ 4096 := (gChk_ok.1 h.l0).1
abbrev yyTL14 (l : List Pt) : V := V.sl 2 (List.length l) fun (k : Nat) => [V.i (Prod.fst (gp l k)), V.i (Prod.snd (gp l k))]
abbrev yyTL11 (b : Bl) (l : List Pt) : List V := [V.i (Bl.per b), V.i (Bl.rim b), V.i (Bl.core b), V.i (Bl.land b), V.i (Bl.slow b), V.i (Bl.fast b), (yyTL14 l), V.i (Bl.per b)]
abbrev yyTL10 (b : Bl) (l : List Pt) : V := V.ptr (yyTL11 b l)
abbrev yyTL13 (b : Bl) : V := V.agg [V.i (Bl.per b), V.i (Bl.rim b), V.i (Bl.core b), V.i (Bl.land b), V.i (Bl.slow b), V.i (Bl.fast b)]
set_option maxRecDepth 100000 in
theorem newSide_ok (b : Bl) (l : List Pt) (h : SOk b l) : AC Tryz.prog 28 [b.v, V.pts l] (.tup [.ptr (sdC b l), .i 0]) [] := by
 have hl := h.len
 refine acI hTT hMX Tryz.func28 Tryz.ntmps28 fun C hC hF => ?_
 refine sK fun K hK => wR 2 ?_; refine aX hTT 3 [] tI ?_; refine nK hK ?_; clear hK K; refine sK fun K hK => ?_; refine sK fun K hK => wR 3 ?_
 refine aops_n hTT (M := []) (n := 1) [pv 8 ((yyTL13 b))] kR kR tI ?_
 refine eC (lCheck_ac b) ?_
 rw [h.b0]
 refine aX hTT 1 [] tI ?_; refine nK hK ?_; clear hK K; refine sK fun K hK => wR 4 ?_; refine aX hTT 2 [] tI ?_; refine nK hK ?_; clear hK K; refine w_false (t := false) kR rfl ?_
 refine aw_skip ?_
 refine xt_n (hK _ ?_); clear hK K; refine sK fun K hK => ?_; refine sK fun K hK => wR 5 ?_; refine aX hTT 1 [] tI ?_
 refine eC (gCheckPoints_ac l oM) ?_
 rw [h.l0]
 refine aX hTT 1 [] tI ?_; refine nK hK ?_; clear hK K; refine sK fun K hK => wR 6 ?_; refine aX hTT 2 [] tI ?_; refine nK hK ?_; clear hK K; refine w_false (t := false) kR rfl ?_
 refine aw_skip ?_
 refine xt_n (hK _ ?_); clear hK K; refine sK fun K hK => wR 7 ?_; refine aX hTT 8 [] tI ?_; refine nK hK ?_; clear hK K
 refine aw_ret ?_
 refine rP (V.tup [(yyTL10 b l), V.i 0])
def edC (e : BE) : List V := [.i e.rule, .i e.at', .i e.f, .i e.t, .i e.w]
def rimC (b : Bl) (l : List Pt) (i : Nat) : List V := [.i 1, .i i, .i (-1), .i i, .i (rimI b l i)]
abbrev yyTL15 (b : Bl) (l : List Pt) : V := V.ptr [(yyTL14 l), V.i (Bl.per b)]
abbrev yyTL16 (b : Bl) (l : List Pt) (i : Nat) : List V := [V.i 1, V.i (↑i : Int), V.i (-1), V.i (↑i : Int), V.i (Bl.rim b - Prod.snd (gp l i))]
abbrev qTL1b0 : Prop := (0 : Nat) ≤ (5 : Nat)
theorem qTL1b0_ : qTL1b0 := oM
set_option maxRecDepth 100000 in
theorem edge1_ac (b : Bl) (l : List Pt) (h : SOk b l) (i : Nat) (hi : i < l.length) : AC Tryz.prog 63 [.ptr (sdC b l), .i 1, .i i] (.tup [.agg (rimC b l i), .b true]) [] := by
 obtain ⟨⟨q1, q2⟩, ⟨q3, q4⟩, ⟨q5, q6⟩, ⟨q7, q8⟩, ⟨q9, q10⟩, q11, q12⟩ := h.bl
 obtain ⟨⟨p1, p2⟩, p3, p4⟩ := h.pt i hi
 have hl := h.len
 refine acI hTT hMX Tryz.func63 Tryz.ntmps63 fun C hC hF => ?_
 refine sK fun K hK => wR 2 ?_; refine aX hTT 2 [(0, .r (pn 6 (V.ref 100006 0) (100006 : Nat) (Ob.box 132 [V.i 0, V.i 0, V.i 0, V.i 0, V.i 0])))] tI ?_; refine nK hK ?_; clear hK K; refine sK fun K hK => wR 3 ?_; refine aX hTT 8 [(6, .r (pn 8 (V.ref 200008 0) (200008 : Nat) (Ob.box 132 [V.i 0, V.i 0, V.i 0, V.i 0, V.i 0]))), (7, .r (pw ((0 : Nat) + (5 : Nat) ≤ (5 : Nat)) (200008 : Nat) (Ob.box 132 [V.i 1, V.i (↑i : Int), V.i (↑i : Int), V.i (↑i : Int), V.i 0])))] ⟨oM, tI⟩ ?_; refine nK hK ?_; clear hK K; refine sK fun K hK => ?_; refine sK fun K hK => wR 4 ?_; refine aX hTT 11 [(3, .c (gA (wl1B0 i) True)), (4, .c (gA (wl1B0 i) True)), (5, .c (gB (wl1B0 i) True)), (6, .c (gB (wl1B0 i) True)), (7, .c (gB (wl1B0 i) True)), (8, .c (gB (wl1B0 i) True)), (9, .c (gC (wl1B0 i) True)), (10, .c (True ∧ (decide ((↑i : Int) < 0) = false → (wl1B0 i) = true)))] ⟨⟨⟨tI, tI⟩, (fun _ => tI)⟩, ⟨⟨tI, tI⟩, (fun _ => tI)⟩, ⟨⟨(by (exact fun h => h)), tI⟩, (fun _ => tI)⟩, ⟨⟨(by (exact fun h => h)), tI⟩, (fun _ => tI)⟩, ⟨⟨(by (exact fun h => h)), tI⟩, (fun _ => tI)⟩, ⟨⟨(by (exact fun h => h)), tI⟩, (fun _ => tI)⟩, ⟨⟨(by (exact fun h => h)), ⟨(by (exact fun h => h)), tI⟩⟩, (fun _ => tI)⟩, ⟨tI, eFTL1⟩, tI⟩ ?_; refine nK hK ?_; clear hK K
 refine w_cond (t := decide ((↑i : Int) < 0) || decide ((↑(List.length l) : Int) ≤ (↑i : Int))) kR (fun c1 => ?_) (fun c1 => ?_)
 ·
  simp at c1
  omega
 clear c1
 refine aw_skip ?_
 refine xt_n (hK _ ?_); clear hK K; refine sK fun K hK => wR 5 ?_; refine aX hTT 9 [(5, .c ((0 : Int) ≤ (↑i : Int) ∧ (↑i : Int) < (↑(List.length l) : Int))), (7, .r (pn 9 (V.ref 400009 0) (400009 : Nat) (Ob.box 61 [V.i 0, V.i 0]))), (8, .r (pw ((0 : Nat) + (2 : Nat) ≤ (2 : Nat)) (400009 : Nat) (Ob.box 61 [V.i (Prod.fst (gp l i)), V.i (Prod.snd (gp l i))])))] ⟨oM, oM, tI⟩ ?_; refine nK hK ?_; clear hK K; refine sK fun K hK => ?_; refine sK fun K hK => wR 6 ?_; refine aX hTT 1 [] tI ?_; refine nK hK ?_; clear hK K
 refine aw_block ?_
 refine sK fun K hK => wR 7 ?_; refine aX hTT 2 [] tI ?_; refine nK hK ?_; clear hK K; refine w_true (t := true) kR rfl ?_; refine wD 8 ?_; refine aX hTT 12 [(6, .c ((1 : Nat) ≤ (2 : Nat))), (7, .i (Bl.rim b - Prod.snd (gp l i))), (9, .r (pw ((2 : Nat) + (1 : Nat) ≤ (5 : Nat)) (200008 : Nat) (Ob.box 132 [V.i 1, V.i (↑i : Int), V.i (-1), V.i (↑i : Int), V.i 0]))), (11, .r (pw ((4 : Nat) + (1 : Nat) ≤ (5 : Nat)) (200008 : Nat) (Ob.box 132 (yyTL16 b l i))))] ⟨oM, oM, oM, oM, tI⟩ ?_; refine aops_nil ⟨kR, ?_⟩; refine xb_n ?_; refine xt_n (hK _ ?_); clear hK K; refine sK fun K hK => wR 9 ?_; refine aX hTT 3 [(0, .c qTL1b0), (1, .r (pw ((0 : Nat) + (5 : Nat) ≤ (5 : Nat)) (100006 : Nat) (Ob.box 132 (yyTL16 b l i))))] ⟨qTL1b0_, oM, tI⟩ ?_; refine nK hK ?_; clear hK K
 refine aw_ret ?_
 refine rP (V.tup [V.agg (yyTL16 b l i), V.b true])
abbrev yyTL17 (b : Bl) (l : List Pt) (i : Nat) : List V := [V.i 2, V.i (↑i : Int), V.i (↑i : Int), V.i (-1), V.i (Prod.fst (gp l i) - Bl.core b)]
set_option maxRecDepth 100000 in
theorem edge2_ac (b : Bl) (l : List Pt) (h : SOk b l) (i : Nat) (hi : i < l.length) : AC Tryz.prog 63 [.ptr (sdC b l), .i 2, .i i] (.tup [.agg [.i 2, .i i, .i i, .i (-1), .i ((gp l i).1 - b.core)], .b true]) [] := by
 obtain ⟨⟨q1, q2⟩, ⟨q3, q4⟩, ⟨q5, q6⟩, ⟨q7, q8⟩, ⟨q9, q10⟩, q11, q12⟩ := h.bl
 obtain ⟨⟨p1, p2⟩, p3, p4⟩ := h.pt i hi
 have hl := h.len
 refine acI hTT hMX Tryz.func63 Tryz.ntmps63 fun C hC hF => ?_
 refine sK fun K hK => wR 2 ?_; refine aX hTT 2 [(0, .r (pn 6 (V.ref 100006 0) (100006 : Nat) (Ob.box 132 [V.i 0, V.i 0, V.i 0, V.i 0, V.i 0])))] tI ?_; refine nK hK ?_; clear hK K; refine sK fun K hK => wR 3 ?_; refine aX hTT 8 [(6, .r (pn 8 (V.ref 200008 0) (200008 : Nat) (Ob.box 132 [V.i 0, V.i 0, V.i 0, V.i 0, V.i 0]))), (7, .r (pw ((0 : Nat) + (5 : Nat) ≤ (5 : Nat)) (200008 : Nat) (Ob.box 132 [V.i 2, V.i (↑i : Int), V.i (↑i : Int), V.i (↑i : Int), V.i 0])))] ⟨oM, tI⟩ ?_; refine nK hK ?_; clear hK K; refine sK fun K hK => ?_; refine sK fun K hK => wR 4 ?_; refine aX hTT 11 [(3, .c (gA (wl1B0 i) True)), (4, .c (gA (wl1B0 i) True)), (5, .c (gB (wl1B0 i) True)), (6, .c (gB (wl1B0 i) True)), (7, .c (gB (wl1B0 i) True)), (8, .c (gB (wl1B0 i) True)), (9, .c (gC (wl1B0 i) True)), (10, .c (True ∧ (decide ((↑i : Int) < 0) = false → (wl1B0 i) = true)))] ⟨⟨⟨tI, tI⟩, (fun _ => tI)⟩, ⟨⟨tI, tI⟩, (fun _ => tI)⟩, ⟨⟨(by (exact fun h => h)), tI⟩, (fun _ => tI)⟩, ⟨⟨(by (exact fun h => h)), tI⟩, (fun _ => tI)⟩, ⟨⟨(by (exact fun h => h)), tI⟩, (fun _ => tI)⟩, ⟨⟨(by (exact fun h => h)), tI⟩, (fun _ => tI)⟩, ⟨⟨(by (exact fun h => h)), ⟨(by (exact fun h => h)), tI⟩⟩, (fun _ => tI)⟩, ⟨tI, eFTL1⟩, tI⟩ ?_; refine nK hK ?_; clear hK K
 refine w_cond (t := decide ((↑i : Int) < 0) || decide ((↑(List.length l) : Int) ≤ (↑i : Int))) kR (fun c1 => ?_) (fun c1 => ?_)
 ·
  simp at c1
  omega
 clear c1
 refine aw_skip ?_
 refine xt_n (hK _ ?_); clear hK K; refine sK fun K hK => wR 5 ?_; refine aX hTT 9 [(5, .c ((0 : Int) ≤ (↑i : Int) ∧ (↑i : Int) < (↑(List.length l) : Int))), (7, .r (pn 9 (V.ref 400009 0) (400009 : Nat) (Ob.box 61 [V.i 0, V.i 0]))), (8, .r (pw ((0 : Nat) + (2 : Nat) ≤ (2 : Nat)) (400009 : Nat) (Ob.box 61 [V.i (Prod.fst (gp l i)), V.i (Prod.snd (gp l i))])))] ⟨oM, oM, tI⟩ ?_; refine nK hK ?_; clear hK K; refine sK fun K hK => ?_; refine sK fun K hK => wR 6 ?_; refine aX hTT 1 [] tI ?_; refine nK hK ?_; clear hK K
 refine aw_block ?_
 refine sK fun K hK => wR 7 ?_; refine aX hTT 2 [] tI ?_; refine nK hK ?_; clear hK K; refine w_false (t := false) kR rfl ?_; refine sK fun K hK => wR 8 ?_; refine aX hTT 2 [] tI ?_; refine nK hK ?_; clear hK K; refine w_true (t := true) kR rfl ?_; refine wD 9 ?_; refine aX hTT 12 [(1, .c ((0 : Nat) ≤ (2 : Nat))), (7, .i (Prod.fst (gp l i) - Bl.core b)), (9, .r (pw ((3 : Nat) + (1 : Nat) ≤ (5 : Nat)) (200008 : Nat) (Ob.box 132 [V.i 2, V.i (↑i : Int), V.i (↑i : Int), V.i (-1), V.i 0]))), (11, .r (pw ((4 : Nat) + (1 : Nat) ≤ (5 : Nat)) (200008 : Nat) (Ob.box 132 (yyTL17 b l i))))] ⟨oM, oM, oM, oM, tI⟩ ?_; refine aops_nil ⟨kR, ?_⟩; refine xb_n ?_; refine xt_n (hK _ ?_); clear hK K; refine sK fun K hK => wR 10 ?_; refine aX hTT 3 [(0, .c qTL1b0), (1, .r (pw ((0 : Nat) + (5 : Nat) ≤ (5 : Nat)) (100006 : Nat) (Ob.box 132 (yyTL17 b l i))))] ⟨qTL1b0_, oM, tI⟩ ?_; refine nK hK ?_; clear hK K
 refine aw_ret ?_
 refine rP (V.tup [V.agg (yyTL17 b l i), V.b true])
abbrev yyTL18 (b : Bl) (i : Nat) : List V := [V.i 3, V.i (↑i : Int), V.i ((↑i : Int) - 1), V.i (↑i : Int), V.i (-Bl.slow b)]
set_option maxRecDepth 100000 in
theorem edge3_ac (b : Bl) (l : List Pt) (h : SOk b l) (i : Nat) (hi : i < l.length) (h0 : 0 < i) : AC Tryz.prog 63 [.ptr (sdC b l), .i 3, .i i] (.tup [.agg (edC (slowE b i)), .b true]) [] := by
 obtain ⟨⟨q1, q2⟩, ⟨q3, q4⟩, ⟨q5, q6⟩, ⟨q7, q8⟩, ⟨q9, q10⟩, q11, q12⟩ := h.bl
 obtain ⟨⟨p1, p2⟩, p3, p4⟩ := h.pt i hi
 have hl := h.len
 have e1 : ((i - 1 : Nat) : Int) = (i : Int) - 1 := by omega
 refine acI hTT hMX Tryz.func63 Tryz.ntmps63 fun C hC hF => ?_
 refine sK fun K hK => wR 2 ?_
 refine aops_n hTT (M := []) (n := 2) [pn 6 (V.ref 100006 0) (100006 : Nat) (Ob.box 132 [V.i 0, V.i 0, V.i 0, V.i 0, V.i 0]), pv 7 (V.b false)] kR kR tI ?_
 refine nK hK ?_; clear hK K; refine sK fun K hK => wR 3 ?_
 refine aops_n hTT (M := []) (n := 8) [pv 10 (V.i 3), pv 11 (V.i (↑i : Int)), pv 12 (V.agg [V.i 3, V.i (↑i : Int)]), pv 13 (V.i (↑i : Int)), pv 14 (V.i (↑i : Int)), pv 15 (V.agg [V.i 3, V.i (↑i : Int), V.i (↑i : Int), V.i (↑i : Int), V.i 0]), pn 8 (V.ref 200008 0) (200008 : Nat) (Ob.box 132 [V.i 0, V.i 0, V.i 0, V.i 0, V.i 0]), pw ((0 : Nat) + (5 : Nat) ≤ (5 : Nat)) (200008 : Nat) (Ob.box 132 [V.i 3, V.i (↑i : Int), V.i (↑i : Int), V.i (↑i : Int), V.i 0])] kR kR ⟨oM, tI⟩ ?_
 refine nK hK ?_; clear hK K; refine sK fun K hK => ?_; refine sK fun K hK => wR 4 ?_
 refine aops_n hTT (M := []) (n := 11) [pv 16 (V.i (↑i : Int)), pv 17 (V.b (decide ((↑i : Int) < 0))), pv 18 (V.b (decide ((↑i : Int) < 0))), pc 19 ((True ∧ True) ∧ ((wl1B0 i) = true → True)) (V.gd (wl1B0 i) (V.i (↑i : Int))), pc 20 ((True ∧ True) ∧ ((wl1B0 i) = true → True)) (V.gd (wl1B0 i) ((yyTL10 b l))), pc 21 ((((wl1B0 i) = true → (wl1B0 i) = true) ∧ True) ∧ ((wl1B0 i) = true → True)) (V.gd (wl1B0 i) ((yyTL10 b l))), pc 22 ((((wl1B0 i) = true → (wl1B0 i) = true) ∧ True) ∧ ((wl1B0 i) = true → True)) (V.gd (wl1B0 i) ((yyTL15 b l))), pc 23 ((((wl1B0 i) = true → (wl1B0 i) = true) ∧ True) ∧ ((wl1B0 i) = true → True)) (V.gd (wl1B0 i) ((yyTL14 l))), pc 24 ((((wl1B0 i) = true → (wl1B0 i) = true) ∧ True) ∧ ((wl1B0 i) = true → True)) (V.gd (wl1B0 i) (V.i (↑(List.length l) : Int))), pc 25 ((((wl1B0 i) = true → (wl1B0 i) = true) ∧ ((wl1B0 i) = true → (wl1B0 i) = true) ∧ True) ∧ ((wl1B0 i) = true → True)) (V.gd (wl1B0 i) (V.b (decide ((↑(List.length l) : Int) ≤ (↑i : Int))))), pc 26 (True ∧ (decide ((↑i : Int) < 0) = false → (wl1B0 i) = true)) (V.b (wl1B2 i l))] kR kR ⟨⟨⟨tI, tI⟩, (fun _ => tI)⟩, ⟨⟨tI, tI⟩, (fun _ => tI)⟩, ⟨⟨(by (exact fun h => h)), tI⟩, (fun _ => tI)⟩, ⟨⟨(by (exact fun h => h)), tI⟩, (fun _ => tI)⟩, ⟨⟨(by (exact fun h => h)), tI⟩, (fun _ => tI)⟩, ⟨⟨(by (exact fun h => h)), tI⟩, (fun _ => tI)⟩, ⟨⟨(by (exact fun h => h)), ⟨(by (exact fun h => h)), tI⟩⟩, (fun _ => tI)⟩, ⟨tI, eFTL1⟩, tI⟩ ?_
 refine nK hK ?_; clear hK K
 refine w_cond (t := decide ((↑i : Int) < 0) || decide ((↑(List.length l) : Int) ≤ (↑i : Int))) kR (fun c1 => ?_) (fun c1 => ?_)
 ·
  simp at c1
  omega
 clear c1
 refine aw_skip ?_
 refine xt_n (hK _ ?_); clear hK K; refine sK fun K hK => wR 5 ?_
 refine aops_n hTT (M := []) (n := 9) [pv 28 ((yyTL10 b l)), pv 29 ((yyTL10 b l)), pv 30 ((yyTL15 b l)), pv 31 ((yyTL14 l)), pv 32 (V.i (↑i : Int)), pc 33 ((0 : Int) ≤ (↑i : Int) ∧ (↑i : Int) < (↑(List.length l) : Int)) (V.ptr [V.i (Prod.fst (gp l i)), V.i (Prod.snd (gp l i))]), pv 34 (V.agg [V.i (Prod.fst (gp l i)), V.i (Prod.snd (gp l i))]), pn 9 (V.ref 400009 0) (400009 : Nat) (Ob.box 61 [V.i 0, V.i 0]), pw ((0 : Nat) + (2 : Nat) ≤ (2 : Nat)) (400009 : Nat) (Ob.box 61 [V.i (Prod.fst (gp l i)), V.i (Prod.snd (gp l i))])] kR kR ⟨oM, oM, tI⟩ ?_
 refine nK hK ?_; clear hK K; refine sK fun K hK => ?_; refine sK fun K hK => wR 6 ?_
 refine aops_n hTT (M := []) (n := 1) [pv 35 (V.i 3)] kR kR tI ?_
 refine nK hK ?_; clear hK K
 refine aw_block ?_
 refine sK fun K hK => wR 7 ?_
 refine aops_n hTT (M := []) (n := 2) [pv 38 (V.b false), pv 37 (V.b false)] kR kR tI ?_
 refine nK hK ?_; clear hK K; refine w_false (t := false) kR rfl ?_; refine sK fun K hK => wR 8 ?_
 refine aops_n hTT (M := []) (n := 2) [pv 50 (V.b false), pv 49 (V.b false)] kR kR tI ?_
 refine nK hK ?_; clear hK K; refine w_false (t := false) kR rfl ?_; refine sK fun K hK => wR 9 ?_
 refine aops_n hTT (M := []) (n := 2) [pv 62 (V.b true), pv 61 (V.b true)] kR kR tI ?_
 refine nK hK ?_; clear hK K; refine w_true (t := true) kR rfl ?_; refine sK fun K hK => wD 10 ?_
 refine aops_n hTT (M := []) (n := 12) [pv 63 (V.i (↑i : Int)), pc 64 ((-9223372036854775808 : Int) ≤ (↑i : Int) - 1 ∧ (↑i : Int) - 1 ≤ (9223372036854775807 : Int)) (V.i ((↑i : Int) - 1)), pv 65 ((yyTL10 b l)), pv 66 ((yyTL10 b l)), pv 67 ((yyTL10 b l)), pv 68 (V.ptr [V.i (Bl.slow b), V.i (Bl.fast b), (yyTL14 l), V.i (Bl.per b)]), pv 69 (V.i (Bl.slow b)), pc 70 ((-9223372036854775808 : Int) ≤ -Bl.slow b ∧ -Bl.slow b ≤ 9223372036854775807) (V.i (-Bl.slow b)), pv 71 (V.ref 200008 2), pw ((2 : Nat) + (1 : Nat) ≤ (5 : Nat)) (200008 : Nat) (Ob.box 132 [V.i 3, V.i (↑i : Int), V.i ((↑i : Int) - 1), V.i (↑i : Int), V.i 0]), pv 72 (V.ref 200008 4), pw ((4 : Nat) + (1 : Nat) ≤ (5 : Nat)) (200008 : Nat) (Ob.box 132 (yyTL18 b i))] kR kR ⟨oM, oM, oM, oM, tI⟩ ?_
 refine aops_nil ⟨kR, ?_⟩; refine xt_n (hK _ ?_); clear hK K; refine sK fun K hK => wR 11 ?_
 refine aops_n hTT (M := []) (n := 5) [pc 73 ((0 : Nat) ≤ (5 : Nat)) (V.agg (yyTL18 b i)), pv 74 (V.i (↑i : Int)), pv 75 (V.b (decide ((0 : Int) < (↑i : Int)))), pw ((0 : Nat) + (5 : Nat) ≤ (5 : Nat)) (100006 : Nat) (Ob.box 132 (yyTL18 b i)), pv 7 (V.b (decide ((0 : Int) < (↑i : Int))))] kR kR ⟨oM, oM, tI⟩ ?_
 refine nK hK ?_; clear hK K
 refine aw_ret ?_
 refine xb_r ?_
 refine xt_r ?_
 rw [edC, slowE, e1]
 refine ret_pure (v' := V.tup [V.agg (yyTL18 b i), V.b (decide ((0 : Int) < (↑i : Int)))]) (.inr rfl) kR ?_ kR
 simpa using h0
set_option maxRecDepth 100000 in
theorem edge3z_ac (b : Bl) (l : List Pt) (h : SOk b l) (i : Nat) (hi : i < l.length) (h0 : i = 0) : AC Tryz.prog 63 [.ptr (sdC b l), .i 3, .i i] (.tup [.agg [.i 3, .i i, .i ((i : Int) - 1), .i i, .i (-b.slow)], .b false]) [] := by
 obtain ⟨⟨q1, q2⟩, ⟨q3, q4⟩, ⟨q5, q6⟩, ⟨q7, q8⟩, ⟨q9, q10⟩, q11, q12⟩ := h.bl
 obtain ⟨⟨p1, p2⟩, p3, p4⟩ := h.pt i hi
 have hl := h.len
 refine acI hTT hMX Tryz.func63 Tryz.ntmps63 fun C hC hF => ?_
 refine sK fun K hK => wR 2 ?_; refine aX hTT 2 [(0, .r (pn 6 (V.ref 100006 0) (100006 : Nat) (Ob.box 132 [V.i 0, V.i 0, V.i 0, V.i 0, V.i 0])))] tI ?_; refine nK hK ?_; clear hK K; refine sK fun K hK => wR 3 ?_; refine aX hTT 8 [(6, .r (pn 8 (V.ref 200008 0) (200008 : Nat) (Ob.box 132 [V.i 0, V.i 0, V.i 0, V.i 0, V.i 0]))), (7, .r (pw ((0 : Nat) + (5 : Nat) ≤ (5 : Nat)) (200008 : Nat) (Ob.box 132 [V.i 3, V.i (↑i : Int), V.i (↑i : Int), V.i (↑i : Int), V.i 0])))] ⟨oM, tI⟩ ?_; refine nK hK ?_; clear hK K; refine sK fun K hK => ?_; refine sK fun K hK => wR 4 ?_; refine aX hTT 11 [(3, .c (gA (wl1B0 i) True)), (4, .c (gA (wl1B0 i) True)), (5, .c (gB (wl1B0 i) True)), (6, .c (gB (wl1B0 i) True)), (7, .c (gB (wl1B0 i) True)), (8, .c (gB (wl1B0 i) True)), (9, .c (gC (wl1B0 i) True)), (10, .c (True ∧ (decide ((↑i : Int) < 0) = false → (wl1B0 i) = true)))] ⟨⟨⟨tI, tI⟩, (fun _ => tI)⟩, ⟨⟨tI, tI⟩, (fun _ => tI)⟩, ⟨⟨(by (exact fun h => h)), tI⟩, (fun _ => tI)⟩, ⟨⟨(by (exact fun h => h)), tI⟩, (fun _ => tI)⟩, ⟨⟨(by (exact fun h => h)), tI⟩, (fun _ => tI)⟩, ⟨⟨(by (exact fun h => h)), tI⟩, (fun _ => tI)⟩, ⟨⟨(by (exact fun h => h)), ⟨(by (exact fun h => h)), tI⟩⟩, (fun _ => tI)⟩, ⟨tI, eFTL1⟩, tI⟩ ?_; refine nK hK ?_; clear hK K
 refine w_cond (t := decide ((↑i : Int) < 0) || decide ((↑(List.length l) : Int) ≤ (↑i : Int))) kR (fun c1 => ?_) (fun c1 => ?_)
 ·
  simp at c1
  omega
 clear c1
 refine aw_skip ?_
 refine xt_n (hK _ ?_); clear hK K; refine sK fun K hK => wR 5 ?_; refine aX hTT 9 [(5, .c ((0 : Int) ≤ (↑i : Int) ∧ (↑i : Int) < (↑(List.length l) : Int))), (7, .r (pn 9 (V.ref 400009 0) (400009 : Nat) (Ob.box 61 [V.i 0, V.i 0]))), (8, .r (pw ((0 : Nat) + (2 : Nat) ≤ (2 : Nat)) (400009 : Nat) (Ob.box 61 [V.i (Prod.fst (gp l i)), V.i (Prod.snd (gp l i))])))] ⟨oM, oM, tI⟩ ?_; refine nK hK ?_; clear hK K; refine sK fun K hK => ?_; refine sK fun K hK => wR 6 ?_; refine aX hTT 1 [] tI ?_; refine nK hK ?_; clear hK K
 refine aw_block ?_
 refine sK fun K hK => wR 7 ?_; refine aX hTT 2 [] tI ?_; refine nK hK ?_; clear hK K; refine w_false (t := false) kR rfl ?_; refine sK fun K hK => wR 8 ?_; refine aX hTT 2 [] tI ?_; refine nK hK ?_; clear hK K; refine w_false (t := false) kR rfl ?_; refine sK fun K hK => wR 9 ?_; refine aX hTT 2 [] tI ?_; refine nK hK ?_; clear hK K; refine w_true (t := true) kR rfl ?_; refine sK fun K hK => wD 10 ?_; refine aX hTT 12 [(1, .i ((↑i : Int) - 1)), (7, .i (-Bl.slow b)), (9, .r (pw ((2 : Nat) + (1 : Nat) ≤ (5 : Nat)) (200008 : Nat) (Ob.box 132 [V.i 3, V.i (↑i : Int), V.i ((↑i : Int) - 1), V.i (↑i : Int), V.i 0]))), (11, .r (pw ((4 : Nat) + (1 : Nat) ≤ (5 : Nat)) (200008 : Nat) (Ob.box 132 (yyTL18 b i))))] ⟨oM, oM, oM, oM, tI⟩ ?_; refine aops_nil ⟨kR, ?_⟩; refine xt_n (hK _ ?_); clear hK K; refine sK fun K hK => wR 11 ?_; refine aX hTT 5 [(0, .c qTL1b0), (3, .r (pw ((0 : Nat) + (5 : Nat) ≤ (5 : Nat)) (100006 : Nat) (Ob.box 132 (yyTL18 b i))))] ⟨qTL1b0_, oM, tI⟩ ?_; refine nK hK ?_; clear hK K
 refine aw_ret ?_
 refine xb_r ?_
 refine xt_r ?_
 refine ret_pure (v' := V.tup [V.agg (yyTL18 b i), V.b (decide ((0 : Int) < (↑i : Int)))]) (.inr rfl) kR ?_ kR
 simp [h0]
abbrev yyTL19 (b : Bl) (i : Nat) : List V := [V.i 4, V.i (↑i : Int), V.i (↑i : Int), V.i ((↑i : Int) - 1), V.i (Bl.fast b)]
set_option maxRecDepth 100000 in
theorem edge4_ac (b : Bl) (l : List Pt) (h : SOk b l) (i : Nat) (hi : i < l.length) (h0 : 0 < i) : AC Tryz.prog 63 [.ptr (sdC b l), .i 4, .i i] (.tup [.agg (edC (fastE b i)), .b true]) [] := by
 obtain ⟨⟨q1, q2⟩, ⟨q3, q4⟩, ⟨q5, q6⟩, ⟨q7, q8⟩, ⟨q9, q10⟩, q11, q12⟩ := h.bl
 obtain ⟨⟨p1, p2⟩, p3, p4⟩ := h.pt i hi
 have hl := h.len
 have e1 : ((i - 1 : Nat) : Int) = (i : Int) - 1 := by omega
 refine acI hTT hMX Tryz.func63 Tryz.ntmps63 fun C hC hF => ?_
 refine sK fun K hK => wR 2 ?_
 refine aops_n hTT (M := []) (n := 2) [pn 6 (V.ref 100006 0) (100006 : Nat) (Ob.box 132 [V.i 0, V.i 0, V.i 0, V.i 0, V.i 0]), pv 7 (V.b false)] kR kR tI ?_
 refine nK hK ?_; clear hK K; refine sK fun K hK => wR 3 ?_
 refine aops_n hTT (M := []) (n := 8) [pv 10 (V.i 4), pv 11 (V.i (↑i : Int)), pv 12 (V.agg [V.i 4, V.i (↑i : Int)]), pv 13 (V.i (↑i : Int)), pv 14 (V.i (↑i : Int)), pv 15 (V.agg [V.i 4, V.i (↑i : Int), V.i (↑i : Int), V.i (↑i : Int), V.i 0]), pn 8 (V.ref 200008 0) (200008 : Nat) (Ob.box 132 [V.i 0, V.i 0, V.i 0, V.i 0, V.i 0]), pw ((0 : Nat) + (5 : Nat) ≤ (5 : Nat)) (200008 : Nat) (Ob.box 132 [V.i 4, V.i (↑i : Int), V.i (↑i : Int), V.i (↑i : Int), V.i 0])] kR kR ⟨oM, tI⟩ ?_
 refine nK hK ?_; clear hK K; refine sK fun K hK => ?_; refine sK fun K hK => wR 4 ?_
 refine aops_n hTT (M := []) (n := 11) [pv 16 (V.i (↑i : Int)), pv 17 (V.b (decide ((↑i : Int) < 0))), pv 18 (V.b (decide ((↑i : Int) < 0))), pc 19 ((True ∧ True) ∧ ((wl1B0 i) = true → True)) (V.gd (wl1B0 i) (V.i (↑i : Int))), pc 20 ((True ∧ True) ∧ ((wl1B0 i) = true → True)) (V.gd (wl1B0 i) ((yyTL10 b l))), pc 21 ((((wl1B0 i) = true → (wl1B0 i) = true) ∧ True) ∧ ((wl1B0 i) = true → True)) (V.gd (wl1B0 i) ((yyTL10 b l))), pc 22 ((((wl1B0 i) = true → (wl1B0 i) = true) ∧ True) ∧ ((wl1B0 i) = true → True)) (V.gd (wl1B0 i) ((yyTL15 b l))), pc 23 ((((wl1B0 i) = true → (wl1B0 i) = true) ∧ True) ∧ ((wl1B0 i) = true → True)) (V.gd (wl1B0 i) ((yyTL14 l))), pc 24 ((((wl1B0 i) = true → (wl1B0 i) = true) ∧ True) ∧ ((wl1B0 i) = true → True)) (V.gd (wl1B0 i) (V.i (↑(List.length l) : Int))), pc 25 ((((wl1B0 i) = true → (wl1B0 i) = true) ∧ ((wl1B0 i) = true → (wl1B0 i) = true) ∧ True) ∧ ((wl1B0 i) = true → True)) (V.gd (wl1B0 i) (V.b (decide ((↑(List.length l) : Int) ≤ (↑i : Int))))), pc 26 (True ∧ (decide ((↑i : Int) < 0) = false → (wl1B0 i) = true)) (V.b (wl1B2 i l))] kR kR ⟨⟨⟨tI, tI⟩, (fun _ => tI)⟩, ⟨⟨tI, tI⟩, (fun _ => tI)⟩, ⟨⟨(by (exact fun h => h)), tI⟩, (fun _ => tI)⟩, ⟨⟨(by (exact fun h => h)), tI⟩, (fun _ => tI)⟩, ⟨⟨(by (exact fun h => h)), tI⟩, (fun _ => tI)⟩, ⟨⟨(by (exact fun h => h)), tI⟩, (fun _ => tI)⟩, ⟨⟨(by (exact fun h => h)), ⟨(by (exact fun h => h)), tI⟩⟩, (fun _ => tI)⟩, ⟨tI, eFTL1⟩, tI⟩ ?_
 refine nK hK ?_; clear hK K
 refine w_cond (t := decide ((↑i : Int) < 0) || decide ((↑(List.length l) : Int) ≤ (↑i : Int))) kR (fun c1 => ?_) (fun c1 => ?_)
 ·
  simp at c1
  omega
 clear c1
 refine aw_skip ?_
 refine xt_n (hK _ ?_); clear hK K; refine sK fun K hK => wR 5 ?_
 refine aops_n hTT (M := []) (n := 9) [pv 28 ((yyTL10 b l)), pv 29 ((yyTL10 b l)), pv 30 ((yyTL15 b l)), pv 31 ((yyTL14 l)), pv 32 (V.i (↑i : Int)), pc 33 ((0 : Int) ≤ (↑i : Int) ∧ (↑i : Int) < (↑(List.length l) : Int)) (V.ptr [V.i (Prod.fst (gp l i)), V.i (Prod.snd (gp l i))]), pv 34 (V.agg [V.i (Prod.fst (gp l i)), V.i (Prod.snd (gp l i))]), pn 9 (V.ref 400009 0) (400009 : Nat) (Ob.box 61 [V.i 0, V.i 0]), pw ((0 : Nat) + (2 : Nat) ≤ (2 : Nat)) (400009 : Nat) (Ob.box 61 [V.i (Prod.fst (gp l i)), V.i (Prod.snd (gp l i))])] kR kR ⟨oM, oM, tI⟩ ?_
 refine nK hK ?_; clear hK K; refine sK fun K hK => ?_; refine sK fun K hK => wR 6 ?_
 refine aops_n hTT (M := []) (n := 1) [pv 35 (V.i 4)] kR kR tI ?_
 refine nK hK ?_; clear hK K
 refine aw_block ?_
 refine sK fun K hK => wR 7 ?_
 refine aops_n hTT (M := []) (n := 2) [pv 38 (V.b false), pv 37 (V.b false)] kR kR tI ?_
 refine nK hK ?_; clear hK K; refine w_false (t := false) kR rfl ?_; refine sK fun K hK => wR 8 ?_
 refine aops_n hTT (M := []) (n := 2) [pv 50 (V.b false), pv 49 (V.b false)] kR kR tI ?_
 refine nK hK ?_; clear hK K; refine w_false (t := false) kR rfl ?_; refine sK fun K hK => wR 9 ?_
 refine aops_n hTT (M := []) (n := 2) [pv 62 (V.b false), pv 61 (V.b false)] kR kR tI ?_
 refine nK hK ?_; clear hK K; refine w_false (t := false) kR rfl ?_; refine sK fun K hK => wR 10 ?_
 refine aops_n hTT (M := []) (n := 2) [pv 77 (V.b true), pv 76 (V.b true)] kR kR tI ?_
 refine nK hK ?_; clear hK K; refine w_true (t := true) kR rfl ?_; refine sK fun K hK => wD 11 ?_
 refine aops_n hTT (M := []) (n := 11) [pv 78 (V.i (↑i : Int)), pc 79 ((-9223372036854775808 : Int) ≤ (↑i : Int) - 1 ∧ (↑i : Int) - 1 ≤ (9223372036854775807 : Int)) (V.i ((↑i : Int) - 1)), pv 80 ((yyTL10 b l)), pv 81 ((yyTL10 b l)), pv 82 ((yyTL10 b l)), pv 83 (V.ptr [V.i (Bl.fast b), (yyTL14 l), V.i (Bl.per b)]), pv 84 (V.i (Bl.fast b)), pv 85 (V.ref 200008 3), pw ((3 : Nat) + (1 : Nat) ≤ (5 : Nat)) (200008 : Nat) (Ob.box 132 [V.i 4, V.i (↑i : Int), V.i (↑i : Int), V.i ((↑i : Int) - 1), V.i 0]), pv 86 (V.ref 200008 4), pw ((4 : Nat) + (1 : Nat) ≤ (5 : Nat)) (200008 : Nat) (Ob.box 132 (yyTL19 b i))] kR kR ⟨oM, oM, oM, tI⟩ ?_
 refine aops_nil ⟨kR, ?_⟩; refine xt_n (hK _ ?_); clear hK K; refine sK fun K hK => wR 12 ?_
 refine aops_n hTT (M := []) (n := 5) [pc 87 ((0 : Nat) ≤ (5 : Nat)) (V.agg (yyTL19 b i)), pv 88 (V.i (↑i : Int)), pv 89 (V.b (decide ((0 : Int) < (↑i : Int)))), pw ((0 : Nat) + (5 : Nat) ≤ (5 : Nat)) (100006 : Nat) (Ob.box 132 (yyTL19 b i)), pv 7 (V.b (decide ((0 : Int) < (↑i : Int))))] kR kR ⟨oM, oM, tI⟩ ?_
 refine nK hK ?_; clear hK K
 refine aw_ret ?_
 refine xb_r ?_
 refine xt_r ?_
 rw [edC, fastE, e1]
 refine ret_pure (v' := V.tup [V.agg (yyTL19 b i), V.b (decide ((0 : Int) < (↑i : Int)))]) (.inr rfl) kR ?_ kR
 simpa using h0
abbrev yyTL111 (b : Bl) (l : List Pt) (i : Nat) : List V := [V.i 5, V.i (↑i : Int), V.i ((↑i : Int) - Bl.per b), V.i (↑i : Int), V.i (Prod.fst (gp l (Int.toNat ((↑i : Int) - Bl.per b))) - Prod.snd (gp l i) - Bl.land b)]
abbrev yyTL110 (b : Bl) (l : List Pt) (i : Nat) : Ob := Ob.box 132 (yyTL111 b l i)
abbrev yyTL112 (b : Bl) (l : List Pt) (i : Nat) : V := V.ptr [V.i (Prod.fst (gp l (Int.toNat ((↑i : Int) - Bl.per b)))), V.i (Prod.snd (gp l (Int.toNat ((↑i : Int) - Bl.per b))))]
set_option maxRecDepth 100000 in
theorem edge5_ac (b : Bl) (l : List Pt) (h : SOk b l) (i : Nat) (hi : i < l.length) (h0 : b.per.toNat ≤ i) : AC Tryz.prog 63 [.ptr (sdC b l), .i 5, .i i] (.tup [.agg (edC (landE b l i)), .b true]) [] := by
 obtain ⟨⟨q1, q2⟩, ⟨q3, q4⟩, ⟨q5, q6⟩, ⟨q7, q8⟩, ⟨q9, q10⟩, q11, q12⟩ := h.bl
 obtain ⟨⟨p1, p2⟩, p3, p4⟩ := h.pt i hi
 have hl := h.len
 have hj : i - b.per.toNat < l.length := by omega
 obtain ⟨⟨r1, r2⟩, r3, r4⟩ := h.pt ((i : Int) - b.per).toNat oM
 have e1 : ((i - b.per.toNat : Nat) : Int) = (i : Int) - b.per := by omega
 have e2 : ((i : Int) - b.per).toNat = i - b.per.toNat := by omega
 refine acI hTT hMX Tryz.func63 Tryz.ntmps63 fun C hC hF => ?_
 refine sK fun K hK => wR 2 ?_
 refine aops_n hTT (M := []) (n := 2) [pn 6 (V.ref 100006 0) (100006 : Nat) (Ob.box 132 [V.i 0, V.i 0, V.i 0, V.i 0, V.i 0]), pv 7 (V.b false)] kR kR tI ?_
 refine nK hK ?_; clear hK K; refine sK fun K hK => wR 3 ?_
 refine aops_n hTT (M := []) (n := 8) [pv 10 (V.i 5), pv 11 (V.i (↑i : Int)), pv 12 (V.agg [V.i 5, V.i (↑i : Int)]), pv 13 (V.i (↑i : Int)), pv 14 (V.i (↑i : Int)), pv 15 (V.agg [V.i 5, V.i (↑i : Int), V.i (↑i : Int), V.i (↑i : Int), V.i 0]), pn 8 (V.ref 200008 0) (200008 : Nat) (Ob.box 132 [V.i 0, V.i 0, V.i 0, V.i 0, V.i 0]), pw ((0 : Nat) + (5 : Nat) ≤ (5 : Nat)) (200008 : Nat) (Ob.box 132 [V.i 5, V.i (↑i : Int), V.i (↑i : Int), V.i (↑i : Int), V.i 0])] kR kR ⟨oM, tI⟩ ?_
 refine nK hK ?_; clear hK K; refine sK fun K hK => ?_; refine sK fun K hK => wR 4 ?_
 refine aops_n hTT (M := []) (n := 11) [pv 16 (V.i (↑i : Int)), pv 17 (V.b (decide ((↑i : Int) < 0))), pv 18 (V.b (decide ((↑i : Int) < 0))), pc 19 ((True ∧ True) ∧ ((wl1B0 i) = true → True)) (V.gd (wl1B0 i) (V.i (↑i : Int))), pc 20 ((True ∧ True) ∧ ((wl1B0 i) = true → True)) (V.gd (wl1B0 i) ((yyTL10 b l))), pc 21 ((((wl1B0 i) = true → (wl1B0 i) = true) ∧ True) ∧ ((wl1B0 i) = true → True)) (V.gd (wl1B0 i) ((yyTL10 b l))), pc 22 ((((wl1B0 i) = true → (wl1B0 i) = true) ∧ True) ∧ ((wl1B0 i) = true → True)) (V.gd (wl1B0 i) ((yyTL15 b l))), pc 23 ((((wl1B0 i) = true → (wl1B0 i) = true) ∧ True) ∧ ((wl1B0 i) = true → True)) (V.gd (wl1B0 i) ((yyTL14 l))), pc 24 ((((wl1B0 i) = true → (wl1B0 i) = true) ∧ True) ∧ ((wl1B0 i) = true → True)) (V.gd (wl1B0 i) (V.i (↑(List.length l) : Int))), pc 25 ((((wl1B0 i) = true → (wl1B0 i) = true) ∧ ((wl1B0 i) = true → (wl1B0 i) = true) ∧ True) ∧ ((wl1B0 i) = true → True)) (V.gd (wl1B0 i) (V.b (decide ((↑(List.length l) : Int) ≤ (↑i : Int))))), pc 26 (True ∧ (decide ((↑i : Int) < 0) = false → (wl1B0 i) = true)) (V.b (wl1B2 i l))] kR kR ⟨⟨⟨tI, tI⟩, (fun _ => tI)⟩, ⟨⟨tI, tI⟩, (fun _ => tI)⟩, ⟨⟨(by (exact fun h => h)), tI⟩, (fun _ => tI)⟩, ⟨⟨(by (exact fun h => h)), tI⟩, (fun _ => tI)⟩, ⟨⟨(by (exact fun h => h)), tI⟩, (fun _ => tI)⟩, ⟨⟨(by (exact fun h => h)), tI⟩, (fun _ => tI)⟩, ⟨⟨(by (exact fun h => h)), ⟨(by (exact fun h => h)), tI⟩⟩, (fun _ => tI)⟩, ⟨tI, eFTL1⟩, tI⟩ ?_
 refine nK hK ?_; clear hK K
 refine w_cond (t := decide ((↑i : Int) < 0) || decide ((↑(List.length l) : Int) ≤ (↑i : Int))) kR (fun c1 => ?_) (fun c1 => ?_)
 ·
  simp at c1
  omega
 clear c1
 refine aw_skip ?_
 refine xt_n (hK _ ?_); clear hK K; refine sK fun K hK => wR 5 ?_
 refine aops_n hTT (M := []) (n := 9) [pv 28 ((yyTL10 b l)), pv 29 ((yyTL10 b l)), pv 30 ((yyTL15 b l)), pv 31 ((yyTL14 l)), pv 32 (V.i (↑i : Int)), pc 33 ((0 : Int) ≤ (↑i : Int) ∧ (↑i : Int) < (↑(List.length l) : Int)) (V.ptr [V.i (Prod.fst (gp l i)), V.i (Prod.snd (gp l i))]), pv 34 (V.agg [V.i (Prod.fst (gp l i)), V.i (Prod.snd (gp l i))]), pn 9 (V.ref 400009 0) (400009 : Nat) (Ob.box 61 [V.i 0, V.i 0]), pw ((0 : Nat) + (2 : Nat) ≤ (2 : Nat)) (400009 : Nat) (Ob.box 61 [V.i (Prod.fst (gp l i)), V.i (Prod.snd (gp l i))])] kR kR ⟨oM, oM, tI⟩ ?_
 refine nK hK ?_; clear hK K; refine sK fun K hK => ?_; refine sK fun K hK => wR 6 ?_
 refine aops_n hTT (M := []) (n := 1) [pv 35 (V.i 5)] kR kR tI ?_
 refine nK hK ?_; clear hK K
 refine aw_block ?_
 refine sK fun K hK => wR 7 ?_
 refine aops_n hTT (M := []) (n := 2) [pv 38 (V.b false), pv 37 (V.b false)] kR kR tI ?_
 refine nK hK ?_; clear hK K; refine w_false (t := false) kR rfl ?_; refine sK fun K hK => wR 8 ?_
 refine aops_n hTT (M := []) (n := 2) [pv 50 (V.b false), pv 49 (V.b false)] kR kR tI ?_
 refine nK hK ?_; clear hK K; refine w_false (t := false) kR rfl ?_; refine sK fun K hK => wR 9 ?_
 refine aops_n hTT (M := []) (n := 2) [pv 62 (V.b false), pv 61 (V.b false)] kR kR tI ?_
 refine nK hK ?_; clear hK K; refine w_false (t := false) kR rfl ?_; refine sK fun K hK => wR 10 ?_
 refine aops_n hTT (M := []) (n := 2) [pv 77 (V.b false), pv 76 (V.b false)] kR kR tI ?_
 refine nK hK ?_; clear hK K; refine w_false (t := false) kR rfl ?_; refine sK fun K hK => wR 11 ?_
 refine aops_n hTT (M := []) (n := 2) [pv 91 (V.b true), pv 90 (V.b true)] kR kR tI ?_
 refine nK hK ?_; clear hK K; refine w_true (t := true) kR rfl ?_; refine sK fun K hK => ?_; refine sK fun K hK => wR 12 ?_
 refine aops_n hTT (M := []) (n := 6) [pv 92 (V.i (↑i : Int)), pv 93 ((yyTL10 b l)), pv 94 ((yyTL10 b l)), pv 95 (V.ptr [V.i (Bl.per b)]), pv 96 (V.i (Bl.per b)), pv 97 (V.b (decide ((↑i : Int) < Bl.per b)))] kR kR tI ?_
 refine nK hK ?_; clear hK K
 refine w_cond (t := decide ((↑i : Int) < Bl.per b)) kR (fun c2 => ?_) (fun c2 => ?_)
 ·
  simp at c2
  omega
 clear c2
 refine aw_skip ?_
 refine xt_n (hK _ ?_); clear hK K; refine wD 13 ?_
 refine aops_n hTT (M := []) (n := 32) [pv 99 (V.i (↑i : Int)), pv 100 ((yyTL10 b l)), pv 101 ((yyTL10 b l)), pv 102 (V.ptr [V.i (Bl.per b)]), pv 103 (V.i (Bl.per b)), pc 104 ((-9223372036854775808 : Int) ≤ (↑i : Int) - Bl.per b ∧ (↑i : Int) - Bl.per b ≤ 9223372036854775807) (V.i ((↑i : Int) - Bl.per b)), pv 105 ((yyTL10 b l)), pv 106 ((yyTL10 b l)), pv 107 ((yyTL15 b l)), pv 108 ((yyTL14 l)), pv 109 (V.i (↑i : Int)), pv 110 ((yyTL10 b l)), pv 111 ((yyTL10 b l)), pv 112 (V.ptr [V.i (Bl.per b)]), pv 113 (V.i (Bl.per b)), pc 114 ((-9223372036854775808 : Int) ≤ (↑i : Int) - Bl.per b ∧ (↑i : Int) - Bl.per b ≤ 9223372036854775807) (V.i ((↑i : Int) - Bl.per b)), pc 115 ((0 : Int) ≤ (↑i : Int) - Bl.per b ∧ (↑i : Int) - Bl.per b < (↑(List.length l) : Int)) ((yyTL112 b l i)), pv 116 ((yyTL112 b l i)), pv 117 (V.i (Prod.fst (gp l (Int.toNat ((↑i : Int) - Bl.per b))))), pv 118 (V.ref 400009 1), pc 119 ((1 : Nat) ≤ (2 : Nat)) (V.i (Prod.snd (gp l i))), pc 120 ((-9223372036854775808 : Int) ≤ Prod.fst (gp l (Int.toNat ((↑i : Int) - Bl.per b))) - Prod.snd (gp l i) ∧ Prod.fst (gp l (Int.toNat ((↑i : Int) - Bl.per b))) - Prod.snd (gp l i) ≤ 9223372036854775807) (V.i (Prod.fst (gp l (Int.toNat ((↑i : Int) - Bl.per b))) - Prod.snd (gp l i))), pv 121 ((yyTL10 b l)), pv 122 ((yyTL10 b l)), pv 123 ((yyTL10 b l)), pv 124 (V.ptr [V.i (Bl.land b), V.i (Bl.slow b), V.i (Bl.fast b), (yyTL14 l), V.i (Bl.per b)]), pv 125 (V.i (Bl.land b)), pc 126 ((-9223372036854775808 : Int) ≤ Prod.fst (gp l (Int.toNat ((↑i : Int) - Bl.per b))) - Prod.snd (gp l i) - Bl.land b ∧ Prod.fst (gp l (Int.toNat ((↑i : Int) - Bl.per b))) - Prod.snd (gp l i) - Bl.land b ≤ 9223372036854775807) (V.i (Prod.fst (gp l (Int.toNat ((↑i : Int) - Bl.per b))) - Prod.snd (gp l i) - Bl.land b)), pv 127 (V.ref 200008 2), pw ((2 : Nat) + (1 : Nat) ≤ (5 : Nat)) (200008 : Nat) (Ob.box 132 [V.i 5, V.i (↑i : Int), V.i ((↑i : Int) - Bl.per b), V.i (↑i : Int), V.i 0]), pv 128 (V.ref 200008 4), pw ((4 : Nat) + (1 : Nat) ≤ (5 : Nat)) (200008 : Nat) ((yyTL110 b l i))] kR kR ⟨oM, oM, oM, oM, oM, oM, oM, oM, tI⟩ ?_
 refine aops_nil ⟨kR, ?_⟩; refine xb_n ?_; refine xt_n (hK _ ?_); clear hK K; refine sK fun K hK => wR 14 ?_
 refine aops_n hTT (M := []) (n := 3) [pc 129 ((0 : Nat) ≤ (5 : Nat)) (V.agg (yyTL111 b l i)), pw ((0 : Nat) + (5 : Nat) ≤ (5 : Nat)) (100006 : Nat) ((yyTL110 b l i)), pv 7 (V.b true)] kR kR ⟨oM, oM, tI⟩ ?_
 refine nK hK ?_; clear hK K
 refine aw_ret ?_
 rw [edC, landE, e1, ← e2]
 refine rP (V.tup [V.agg (yyTL111 b l i), V.b true])
abbrev yyTL114 (i : Nat) : List V := [V.i 5, V.i (↑i : Int), V.i (↑i : Int), V.i (↑i : Int), V.i 0]
abbrev yyTL113 (i : Nat) : V := V.agg (yyTL114 i)
set_option maxRecDepth 100000 in
theorem edge5z_ac (b : Bl) (l : List Pt) (h : SOk b l) (i : Nat) (hi : i < l.length) (h0 : i < b.per.toNat) : AC Tryz.prog 63 [.ptr (sdC b l), .i 5, .i i] (.tup [.agg [.i 5, .i i, .i i, .i i, .i 0], .b false]) [] := by
 obtain ⟨⟨q1, q2⟩, ⟨q3, q4⟩, ⟨q5, q6⟩, ⟨q7, q8⟩, ⟨q9, q10⟩, q11, q12⟩ := h.bl
 obtain ⟨⟨p1, p2⟩, p3, p4⟩ := h.pt i hi
 have hl := h.len
 refine acI hTT hMX Tryz.func63 Tryz.ntmps63 fun C hC hF => ?_
 refine sK fun K hK => wR 2 ?_; refine aX hTT 2 [(0, .r (pn 6 (V.ref 100006 0) (100006 : Nat) (Ob.box 132 [V.i 0, V.i 0, V.i 0, V.i 0, V.i 0])))] tI ?_; refine nK hK ?_; clear hK K; refine sK fun K hK => wR 3 ?_; refine aX hTT 8 [(6, .r (pn 8 (V.ref 200008 0) (200008 : Nat) (Ob.box 132 [V.i 0, V.i 0, V.i 0, V.i 0, V.i 0]))), (7, .r (pw ((0 : Nat) + (5 : Nat) ≤ (5 : Nat)) (200008 : Nat) (Ob.box 132 (yyTL114 i))))] ⟨oM, tI⟩ ?_; refine nK hK ?_; clear hK K; refine sK fun K hK => ?_; refine sK fun K hK => wR 4 ?_; refine aX hTT 11 [(3, .c (gA (wl1B0 i) True)), (4, .c (gA (wl1B0 i) True)), (5, .c (gB (wl1B0 i) True)), (6, .c (gB (wl1B0 i) True)), (7, .c (gB (wl1B0 i) True)), (8, .c (gB (wl1B0 i) True)), (9, .c (gC (wl1B0 i) True)), (10, .c (True ∧ (decide ((↑i : Int) < 0) = false → (wl1B0 i) = true)))] ⟨⟨⟨tI, tI⟩, (fun _ => tI)⟩, ⟨⟨tI, tI⟩, (fun _ => tI)⟩, ⟨⟨(by (exact fun h => h)), tI⟩, (fun _ => tI)⟩, ⟨⟨(by (exact fun h => h)), tI⟩, (fun _ => tI)⟩, ⟨⟨(by (exact fun h => h)), tI⟩, (fun _ => tI)⟩, ⟨⟨(by (exact fun h => h)), tI⟩, (fun _ => tI)⟩, ⟨⟨(by (exact fun h => h)), ⟨(by (exact fun h => h)), tI⟩⟩, (fun _ => tI)⟩, ⟨tI, eFTL1⟩, tI⟩ ?_; refine nK hK ?_; clear hK K
 refine w_cond (t := decide ((↑i : Int) < 0) || decide ((↑(List.length l) : Int) ≤ (↑i : Int))) kR (fun c1 => ?_) (fun c1 => ?_)
 ·
  simp at c1
  omega
 clear c1
 refine aw_skip ?_
 refine xt_n (hK _ ?_); clear hK K; refine sK fun K hK => wR 5 ?_; refine aX hTT 9 [(5, .c ((0 : Int) ≤ (↑i : Int) ∧ (↑i : Int) < (↑(List.length l) : Int))), (7, .r (pn 9 (V.ref 400009 0) (400009 : Nat) (Ob.box 61 [V.i 0, V.i 0]))), (8, .r (pw ((0 : Nat) + (2 : Nat) ≤ (2 : Nat)) (400009 : Nat) (Ob.box 61 [V.i (Prod.fst (gp l i)), V.i (Prod.snd (gp l i))])))] ⟨oM, oM, tI⟩ ?_; refine nK hK ?_; clear hK K; refine sK fun K hK => ?_; refine sK fun K hK => wR 6 ?_; refine aX hTT 1 [] tI ?_; refine nK hK ?_; clear hK K
 refine aw_block ?_
 refine sK fun K hK => wR 7 ?_; refine aX hTT 2 [] tI ?_; refine nK hK ?_; clear hK K; refine w_false (t := false) kR rfl ?_; refine sK fun K hK => wR 8 ?_; refine aX hTT 2 [] tI ?_; refine nK hK ?_; clear hK K; refine w_false (t := false) kR rfl ?_; refine sK fun K hK => wR 9 ?_; refine aX hTT 2 [] tI ?_; refine nK hK ?_; clear hK K; refine w_false (t := false) kR rfl ?_; refine sK fun K hK => wR 10 ?_; refine aX hTT 2 [] tI ?_; refine nK hK ?_; clear hK K; refine w_false (t := false) kR rfl ?_; refine sK fun K hK => wR 11 ?_; refine aX hTT 2 [] tI ?_; refine nK hK ?_; clear hK K; refine w_true (t := true) kR rfl ?_; refine sK fun K hK => ?_; refine sK fun K hK => wR 12 ?_; refine aX hTT 6 [] tI ?_; refine nK hK ?_; clear hK K
 refine w_cond (t := decide ((↑i : Int) < Bl.per b)) kR (fun c2 => ?_) (fun c2 => ?_)
 ·
  refine sK fun K hK => wR 13 ?_; refine aX hTT 3 [(0, .c qTL1b0), (1, .r (pw ((0 : Nat) + (5 : Nat) ≤ (5 : Nat)) (100006 : Nat) (Ob.box 132 (yyTL114 i))))] ⟨qTL1b0_, oM, tI⟩ ?_; refine nK hK ?_; clear hK K
  refine aw_ret ?_
  refine xt_r ?_
  refine xb_r ?_
  refine xt_r ?_
  refine rP (V.tup [(yyTL113 i), V.b false])
 ·
  simp at c2
  omega
end Go.Proofs.YtpmchnojeloohaaGreatDoor

namespace Go.Proofs.YtpmchnojeloohaaGreatDoor
open Go.Ab Go.RowKit Go.Dw Go.Shelf
def edV (e : BE) : List V := [.agg (edC e)]
def edgesV (b : Bl) (l : List Pt) : List (List V) := (edgesL b l).map edV
theorem inEs_succ (b : Bl) (l : List Pt) (n : Nat) : inEs b l (n + 1) = inEs b l n ++ inE b l n := by
 unfold inEs
 rw [List.range_succ, List.flatMap_append]
 simp
theorem inE_len (b : Bl) (l : List Pt) (i : Nat) : (inE b l i).length = (if 0 < i then 1 else 0) + if b.per.toNat ≤ i then 1 else 0 := by
 unfold inE
 split <;> split <;> simp
theorem inEs_le (b : Bl) (l : List Pt) {i n : Nat} (h : i ≤ n) : (inEs b l i).length ≤ (inEs b l n).length := by
 induction n with
 | zero => rw [show i = 0 by omega]; exact Nat.le_refl _
 | succ n ih =>
  by_cases hi : i = n + 1
  ·
   rw [hi]; exact Nat.le_refl _
  ·
   have := ih oM
   rw [inEs_succ, List.length_append]; omega
theorem inEs_get (b : Bl) (l : List Pt) {i n m : Nat} {e : BE} (h : i < n) (he : (inE b l i)[m]? = some e) : (inEs b l n)[(inEs b l i).length + m]? = some e := by
 induction n with
 | zero => omega
 | succ n ih =>
  rw [inEs_succ]
  have hm : m < (inE b l i).length := (List.getElem?_eq_some_iff.1 he).1
  by_cases hi : i = n
  ·
   subst hi
   rw [List.getElem?_append_right oM, Nat.add_sub_cancel_left]; exact he
  ·
   have := ih oM
   rw [List.getElem?_append_left (List.getElem?_eq_some_iff.1 this).1]
   exact this
theorem edges_in {b : Bl} {l : List Pt} {i m : Nat} {e : BE} (h : i < l.length) (he : (inE b l i)[m]? = some e) : (edgesV b l)[(inEs b l i).length + m]? = some (edV e) := by
 have h1 := inEs_get b l h he
 unfold edgesV edgesL
 rw [List.getElem?_map, List.getElem?_append_left (List.getElem?_eq_some_iff.1 h1).1, h1]
 rfl
theorem edges_out {b : Bl} {l : List Pt} {m : Nat} (h : m < l.length - 1) : (edgesV b l)[(inEs b l l.length).length + m]? = some (edV (fastE b (l.length - 1 - m))) := by
 unfold edgesV edgesL
 rw [List.getElem?_map, List.getElem?_append_right oM, Nat.add_sub_cancel_left]
 simp [outEs, h]
theorem edgesV_len (b : Bl) (l : List Pt) : (edgesV b l).length = (inEs b l l.length).length + (l.length - 1) := by
 simp [edgesV, edgesL, outEs]
theorem inE_0 {b : Bl} {l : List Pt} {i : Nat} (h : 0 < i) : (inE b l i)[0]? = some (slowE b i) := by simp [inE, h]
theorem inE_1 {b : Bl} {l : List Pt} {i : Nat} (h : b.per.toNat ≤ i) : (inE b l i)[if 0 < i then 1 else 0]? = some (landE b l i) := by
 unfold inE
 by_cases h0 : 0 < i
 ·
  rw [if_pos h0, if_pos h0, if_pos h]; rfl
 ·
  rw [if_neg h0, if_neg h0, if_pos h]; rfl
def cntE (b : Bl) (l : List Pt) (i : Nat) : Nat → Nat
 | 0 => 0
 | 1 => if 0 < i then 1 else 0
 | _ => (inE b l i).length
abbrev qTL20 : Prop := (0 : Int) ≤ (↑(0 : Nat) : Int) ∧ (↑(0 : Nat) : Int) < (↑(2 : Nat) : Int)
theorem qTL20_ : qTL20 := oM
abbrev qTL21 : Prop := (0 : Int) ≤ (↑(1 : Nat) : Int) ∧ (↑(1 : Nat) : Int) < (↑(2 : Nat) : Int)
theorem qTL21_ : qTL21 := oM
abbrev yyTL20 := (pn 7 (V.ref 300007 0) (300007 : Nat) (Ob.box 132 [V.i 0, V.i 0, V.i 0, V.i 0, V.i 0]))
set_option maxRecDepth 100000 in
theorem edges_it (b : Bl) (l : List Pt) (h : SOk b l) : AIt Tryz.prog 100 [.ptr [.ptr (sdC b l)]] (edgesV b l) := by
 have hl := h.len
 have hp := h.bl.1
 refine ait_intro hTT hMX (fn := Tryz.f100) (N := _) ⟨Tryz.func100, rfl, Tryz.ntmps100, kR⟩ rfl (by simp) fun C Y hC => ?_
 rw [edgesV_len]
 refine awj_seq_a hC fun K hK => ?_
 refine wR 2 ?_; refine aX hTT 6 [] tI ?_; refine nK hK ?_; clear hK K
 refine awj_seq ?_
 refine awj_seq_a hC fun K hK => ?_
 refine wR 3 ?_; refine aX hTT 2 [] tI ?_; refine nK hK ?_; clear hK K
 refine awj_block ?_
 refine awj_loop (ι := Nat) (fun i => ⟨mkT [(0, .c (.func (.yield Y.l) #[] #[])), (1, .ptr [.ptr (sdC b l)]), (3, .i l.length), (17, .i l.length), (18, .i i)], mkS [], 1⟩) (fun i => (inEs b l i).length) (fun i => i ≤ l.length) (fun i => l.length - i) 0 (Nat.zero_le _) ?_ rfl ?_
 ·
  refine le_ren [] (.cons kR (.cons kR (.cons kR (.cons kR (.cons kR .nil))))) .nil kR kR
 intro i hi
 refine awj_seq_a hC fun K hK => ?_
 refine wR 2 ?_; refine aX hTT 1 [] tI ?_; refine nK hK ?_; clear hK K
 refine awj_seq_a hC fun K hK => ?_
 refine w_cond (t := decide ((↑i : Int) < (↑(List.length l) : Int))) kR (fun c1 => ?_) (fun c1 => ?_)
 ·
  have h1 : i < l.length := by simpa using c1
  have hk0 : (inEs b l i).length + (inE b l i).length ≤ (inEs b l l.length).length := by
   have := inEs_le b l (i := i + 1) (n := l.length) oM
   rw [inEs_succ, List.length_append] at this
   exact this
  have hil := inE_len b l i
  refine aw_skip ?_
  refine xt_n (hK _ ?_); clear hK K
  refine awj_seq ?_
  refine awj_block ?_
  refine awj_seq_a hC fun K hK => ?_
  refine wR 3 ?_; refine aX hTT 2 [] tI ?_; refine nK hK ?_; clear hK K
  refine awj_seq_a hC fun K hK => ?_
  refine wR 4 ?_; refine aX hTT 2 [] tI ?_; refine nK hK ?_; clear hK K
  refine awj_block ?_
  refine awj_loop (ι := Nat) (fun j => ⟨mkT [(0, .c (.func (.yield Y.l) #[] #[])), (1, .ptr [.ptr (sdC b l)]), (3, .i l.length), (4, .i i), (17, .i l.length), (18, .i i), (21, .agg [.i 3, .i 5]), (22, .i j)], mkS [], 1⟩) (fun j => (inEs b l i).length + cntE b l i j) (fun j => j ≤ 2) (fun j => 2 - j) 0 (by decide) ?_ rfl ?_
  ·
   refine le_ren [] (.cons kR (.cons kR (.cons kR (.cons kR (.cons kR (.cons kR (.cons kR (.cons kR .nil)))))))) .nil kR kR
  intro j hj
  refine awj_seq_a hC fun K hK => ?_
  refine wR 2 ?_; refine aX hTT 1 [] tI ?_; refine nK hK ?_; clear hK K
  refine awj_seq_a hC fun K hK => ?_
  refine w_cond (t := decide ((↑j : Int) < 2)) kR (fun c2 => ?_) (fun c2 => ?_)
  ·
   have h2 : j = 0 ∨ j = 1 := by simp at c2; omega
   rcases h2 with rfl | rfl
   ·
    by_cases h0 : 0 < i
    ·
     refine aw_skip ?_
     refine xt_n (hK _ ?_); clear hK K
     refine awj_seq ?_
     refine awj_block ?_
     refine awj_seq_a hC fun K hK => ?_
     refine wR 3 ?_; refine aX hTT 2 [(0, .c qTL20)] ⟨qTL20_, tI⟩ ?_; refine nK hK ?_; clear hK K
     refine awj_seq_a hC fun K hK => ?_
     refine wR 4 ?_; refine aX hTT 3 [] tI ?_
     refine eC (edge3_ac b l h i h1 h0) ?_
     refine aX hTT 6 [(3, .r yyTL20), (4, .r (pw ((0 : Nat) + (5 : Nat) ≤ (5 : Nat)) (300007 : Nat) (Ob.box 132 [V.i (BE.rule (slowE b i)), V.i (BE.at' (slowE b i)), V.i (↑(BE.f (slowE b i)) : Int), V.i (↑(BE.t (slowE b i)) : Int), V.i (BE.w (slowE b i))])))] ⟨oM, tI⟩ ?_; refine nK hK ?_; clear hK K
     refine awj_seq (awj_yieldG hC 4 kR rfl ?_)
     refine aX hTT 4 [(2, .c (gA (true == true) True)), (3, .c (gA (true == true) ((0 : Nat) ≤ (5 : Nat))))] ⟨⟨⟨tI, tI⟩, (fun _ => tI)⟩, ⟨⟨tI, tI⟩, (by (intro _; simp; done))⟩, tI⟩ ?_; refine aops_nil ?_
     refine ⟨kR, kR, by kernel_rfl, ⟨_, edges_in h1 (inE_0 h0), RImp.refl _, trivial⟩, rfl, ?_, ?_⟩
     ·
      refine aX hTT 2 [(0, .c (gA (true == true) True)), (1, .c ((true = true → (true == true) = true) ∧ True))] ⟨⟨⟨tI, tI⟩, (fun _ => tI)⟩, ⟨(by (exact fun h => h)), tI⟩, tI⟩ ?_
      refine aops_nil ?_
      refine xjt_n ?_
      refine awj_cond (t := false) kR (fun h => by cases h) (fun _ => ?_)
      refine awj_skip ?_
      refine xjb_n ?_
      refine xjt_n ?_
      refine awj_aw hC ?_
      refine wR 6 ?_; refine aX hTT 2 [(0, .i ((↑(0 : Nat) : Int) + 1))] ⟨oM, tI⟩ ?_; refine aops_nil ?_
      refine xjt_n ?_
      refine ⟨rfl, 1, by decide, ?_, by simp [cntE, h0], by decide⟩
      refine le_ren [] (.cons kR (.cons kR (.cons kR (.cons kR (.cons kR (.cons kR (.cons kR (.cons kR .nil)))))))) .nil kR kR
     ·
      refine aX hTT 2 [(0, .c (gA (true == true) True)), (1, .c ((true = true → (true == true) = true) ∧ True))] ⟨⟨⟨tI, tI⟩, (fun _ => tI)⟩, ⟨(by (exact fun h => h)), tI⟩, tI⟩ ?_
      refine aops_nil ?_
      refine xjt_n ?_
      refine awj_cond (t := true) kR (fun _ => ?_) (fun h => by cases h)
      refine awj_ret ?_
      refine xjb_r ?_
      refine xjt_r ?_
      refine xjt_r ?_
      refine xjb_r ?_
      refine xjb_r ?_
      refine xjt_r ?_
      refine xjt_r ?_
      refine xjb_r ?_
      refine xjt_r ?_
      exact ⟨.inr rfl, fun h => (by cases h), fun _ => by simp only [cntE]; rw [if_pos h0] at hil; omega⟩
    ·
     refine aw_skip ?_
     refine xt_n (hK _ ?_); clear hK K
     refine awj_seq ?_
     refine awj_block ?_
     refine awj_seq_a hC fun K hK => ?_
     refine wR 3 ?_; refine aX hTT 2 [(0, .c qTL20)] ⟨qTL20_, tI⟩ ?_; refine nK hK ?_; clear hK K
     refine awj_seq_a hC fun K hK => ?_
     refine wR 4 ?_; refine aX hTT 3 [] tI ?_
     refine eC (edge3z_ac b l h i h1 oM) ?_
     refine aX hTT 6 [(3, .r yyTL20), (4, .r (pw ((0 : Nat) + (5 : Nat) ≤ (5 : Nat)) (300007 : Nat) (Ob.box 132 [V.i 3, V.i (↑i : Int), V.i ((↑i : Int) - 1), V.i (↑i : Int), V.i (-Bl.slow b)])))] ⟨oM, tI⟩ ?_; refine nK hK ?_; clear hK K
     refine awj_seq_a hC fun K hK => ?_
     refine wR 5 ?_; refine aX hTT 4 [(2, .c (gA (false == true) True)), (3, .c (gA (false == true) ((0 : Nat) ≤ (5 : Nat))))] ⟨⟨⟨tI, tI⟩, (fun _ => tI)⟩, ⟨⟨tI, tI⟩, (by (intro _; simp; done))⟩, tI⟩ ?_
     refine aops_gfb kR rfl ?_
     refine aX hTT 2 [(0, .c ((((false == true) = true → false = true) ∧ True) ∧ ((false == true) = true → True))), (1, .c ((false = true → (false == true) = true) ∧ True))] ⟨⟨⟨(by (exact fun h => h)), tI⟩, (fun _ => tI)⟩, ⟨(by (exact fun h => h)), tI⟩, tI⟩ ?_; refine nK hK ?_; clear hK K
     refine awj_cond (t := false) kR (fun h => by cases h) (fun _ => ?_)
     refine awj_skip ?_
     refine xjb_n ?_
     refine xjt_n ?_
     refine awj_aw hC ?_
     refine wR 6 ?_; refine aX hTT 2 [(0, .i ((↑(0 : Nat) : Int) + 1))] ⟨oM, tI⟩ ?_; refine aops_nil ?_
     refine xjt_n ?_
     refine ⟨rfl, 1, by decide, ?_, by simp [cntE, h0], by decide⟩
     refine le_ren [] (.cons kR (.cons kR (.cons kR (.cons kR (.cons kR (.cons kR (.cons kR (.cons kR .nil)))))))) .nil kR kR
   ·
    by_cases h0 : b.per.toNat ≤ i
    ·
     refine aw_skip ?_
     refine xt_n (hK _ ?_); clear hK K
     refine awj_seq ?_
     refine awj_block ?_
     refine awj_seq_a hC fun K hK => ?_
     refine wR 3 ?_; refine aX hTT 2 [(0, .c qTL21)] ⟨qTL21_, tI⟩ ?_; refine nK hK ?_; clear hK K
     refine awj_seq_a hC fun K hK => ?_
     refine wR 4 ?_; refine aX hTT 3 [] tI ?_
     refine eC (edge5_ac b l h i h1 h0) ?_
     refine aX hTT 6 [(3, .r yyTL20), (4, .r (pw ((0 : Nat) + (5 : Nat) ≤ (5 : Nat)) (300007 : Nat) (Ob.box 132 [V.i (BE.rule (landE b l i)), V.i (BE.at' (landE b l i)), V.i (↑(BE.f (landE b l i)) : Int), V.i (↑(BE.t (landE b l i)) : Int), V.i (BE.w (landE b l i))])))] ⟨oM, tI⟩ ?_; refine nK hK ?_; clear hK K
     refine awj_seq (awj_yieldG hC 4 kR rfl ?_)
     refine aX hTT 4 [(2, .c (gA (true == true) True)), (3, .c (gA (true == true) ((0 : Nat) ≤ (5 : Nat))))] ⟨⟨⟨tI, tI⟩, (fun _ => tI)⟩, ⟨⟨tI, tI⟩, (by (intro _; simp; done))⟩, tI⟩ ?_; refine aops_nil ?_
     refine ⟨kR, kR, by kernel_rfl, ⟨_, edges_in h1 (inE_1 h0), RImp.refl _, trivial⟩, rfl, ?_, ?_⟩
     ·
      refine aX hTT 2 [(0, .c (gA (true == true) True)), (1, .c ((true = true → (true == true) = true) ∧ True))] ⟨⟨⟨tI, tI⟩, (fun _ => tI)⟩, ⟨(by (exact fun h => h)), tI⟩, tI⟩ ?_
      refine aops_nil ?_
      refine xjt_n ?_
      refine awj_cond (t := false) kR (fun h => by cases h) (fun _ => ?_)
      refine awj_skip ?_
      refine xjb_n ?_
      refine xjt_n ?_
      refine awj_aw hC ?_
      refine wR 6 ?_; refine aX hTT 2 [(0, .i ((↑(1 : Nat) : Int) + 1))] ⟨oM, tI⟩ ?_; refine aops_nil ?_
      refine xjt_n ?_
      refine ⟨rfl, 2, by decide, ?_, by simp [cntE, hil, h0]; omega, by decide⟩
      refine le_ren [] (.cons kR (.cons kR (.cons kR (.cons kR (.cons kR (.cons kR (.cons kR (.cons kR .nil)))))))) .nil kR kR
     ·
      refine aX hTT 2 [(0, .c (gA (true == true) True)), (1, .c ((true = true → (true == true) = true) ∧ True))] ⟨⟨⟨tI, tI⟩, (fun _ => tI)⟩, ⟨(by (exact fun h => h)), tI⟩, tI⟩ ?_
      refine aops_nil ?_
      refine xjt_n ?_
      refine awj_cond (t := true) kR (fun _ => ?_) (fun h => by cases h)
      refine awj_ret ?_
      refine xjb_r ?_
      refine xjt_r ?_
      refine xjt_r ?_
      refine xjb_r ?_
      refine xjb_r ?_
      refine xjt_r ?_
      refine xjt_r ?_
      refine xjb_r ?_
      refine xjt_r ?_
      exact ⟨.inr rfl, fun h => (by cases h), fun _ => by simp only [cntE]; rw [if_pos h0] at hil; omega⟩
    ·
     refine aw_skip ?_
     refine xt_n (hK _ ?_); clear hK K
     refine awj_seq ?_
     refine awj_block ?_
     refine awj_seq_a hC fun K hK => ?_
     refine wR 3 ?_; refine aX hTT 2 [(0, .c qTL21)] ⟨qTL21_, tI⟩ ?_; refine nK hK ?_; clear hK K
     refine awj_seq_a hC fun K hK => ?_
     refine wR 4 ?_; refine aX hTT 3 [] tI ?_
     refine eC (edge5z_ac b l h i h1 oM) ?_
     refine aX hTT 6 [(3, .r yyTL20), (4, .r (pw ((0 : Nat) + (5 : Nat) ≤ (5 : Nat)) (300007 : Nat) (Ob.box 132 [V.i 5, V.i (↑i : Int), V.i (↑i : Int), V.i (↑i : Int), V.i 0])))] ⟨oM, tI⟩ ?_; refine nK hK ?_; clear hK K
     refine awj_seq_a hC fun K hK => ?_
     refine wR 5 ?_; refine aX hTT 4 [(2, .c (gA (false == true) True)), (3, .c (gA (false == true) ((0 : Nat) ≤ (5 : Nat))))] ⟨⟨⟨tI, tI⟩, (fun _ => tI)⟩, ⟨⟨tI, tI⟩, (by (intro _; simp; done))⟩, tI⟩ ?_
     refine aops_gfb kR rfl ?_
     refine aX hTT 2 [(0, .c ((((false == true) = true → false = true) ∧ True) ∧ ((false == true) = true → True))), (1, .c ((false = true → (false == true) = true) ∧ True))] ⟨⟨⟨(by (exact fun h => h)), tI⟩, (fun _ => tI)⟩, ⟨(by (exact fun h => h)), tI⟩, tI⟩ ?_; refine nK hK ?_; clear hK K
     refine awj_cond (t := false) kR (fun h => by cases h) (fun _ => ?_)
     refine awj_skip ?_
     refine xjb_n ?_
     refine xjt_n ?_
     refine awj_aw hC ?_
     refine wR 6 ?_; refine aX hTT 2 [(0, .i ((↑(1 : Nat) : Int) + 1))] ⟨oM, tI⟩ ?_; refine aops_nil ?_
     refine xjt_n ?_
     refine ⟨rfl, 2, by decide, ?_, by simp [cntE, hil, h0], by decide⟩
     refine le_ren [] (.cons kR (.cons kR (.cons kR (.cons kR (.cons kR (.cons kR (.cons kR (.cons kR .nil)))))))) .nil kR kR
  ·
   have h2 : j = 2 := by simp at c2; omega
   refine aw_exit ?_
   refine xt_x ?_
   refine xjt_x ?_
   refine xjb_same ?_
   refine xjb_n ?_
   refine xjt_n ?_
   refine awj_aw hC ?_
   refine wR 3 ?_; refine aX hTT 2 [(0, .i ((↑i : Int) + 1))] ⟨oM, tI⟩ ?_; refine aops_nil ?_
   refine xjt_n ?_
   refine ⟨rfl, i + 1, by omega, ?_, by rw [inEs_succ, List.length_append, h2]; rfl, by omega⟩
   refine le_ren [] (.cons kR (.cons kR (.cons kR (.cons kR (.cons kR .nil))))) .nil kR kR
 ·
  have h1 : i = l.length := by simp at c1; omega
  rw [h1]
  refine aw_exit ?_
  refine xt_x ?_
  refine xjt_x ?_
  refine xjb_same ?_
  refine xjt_n ?_
  refine awj_seq_a hC fun K hK => ?_
  refine wR 3 ?_; refine aX hTT 3 [(1, .i ((↑(List.length l) : Int) - 1))] ⟨oM, tI⟩ ?_; refine nK hK ?_; clear hK K
  refine awj_block ?_
  refine awj_loop (ι := Nat) (fun y => ⟨mkT [(0, .c (.func (.yield Y.l) #[] #[])), (1, .ptr [.ptr (sdC b l)]), (9, .i ((y : Int) - 1))], mkS [], 1⟩) (fun y => (inEs b l l.length).length + (l.length - y)) (fun y => y ≤ l.length ∧ (1 ≤ y ∨ l.length = 0)) (fun y => y) l.length ⟨Nat.le_refl _, by omega⟩ ?_ (by simp) ?_
  ·
   refine le_ren [] (.cons kR (.cons kR (.cons kR .nil))) .nil kR kR
  rintro y ⟨hy, hy1⟩
  refine awj_seq_a hC fun K hK => ?_
  refine sK fun K hK => wR 2 ?_; refine aX hTT 2 [] tI ?_; refine nK hK ?_; clear hK K
  refine w_cond (t := decide ((0 : Int) < (↑y : Int) - 1)) kR (fun c2 => ?_) (fun c2 => ?_)
  ·
   have h2 : 2 ≤ y := by simp at c2; omega
   have e : (y : Int) - 1 = ((y - 1 : Nat) : Int) := by omega
   have hg := edges_out (b := b) (l := l) (m := l.length - y) oM
   rw [show l.length - 1 - (l.length - y) = y - 1 by omega] at hg
   rw [e]
   refine aw_skip ?_
   refine xt_n (hK _ ?_); clear hK K
   refine awj_seq ?_
   refine awj_block ?_
   refine awj_seq_a hC fun K hK => ?_
   refine wR 3 ?_; refine aX hTT 2 [] tI ?_
   refine eC (edge4_ac b l h (y - 1) oM oM) ?_
   refine aX hTT 6 [(3, .r (pn 10 (V.ref 200010 0) (200010 : Nat) (Ob.box 132 [V.i 0, V.i 0, V.i 0, V.i 0, V.i 0]))), (4, .r (pw ((0 : Nat) + (5 : Nat) ≤ (5 : Nat)) (200010 : Nat) (Ob.box 132 [V.i (BE.rule (fastE b (y - 1))), V.i (BE.at' (fastE b (y - 1))), V.i (↑(BE.f (fastE b (y - 1))) : Int), V.i (↑(BE.t (fastE b (y - 1))) : Int), V.i (BE.w (fastE b (y - 1)))])))] ⟨oM, tI⟩ ?_; refine nK hK ?_; clear hK K
   refine awj_seq (awj_yieldG hC 4 kR rfl ?_)
   refine aX hTT 4 [(2, .c (gA (true == true) True)), (3, .c (gA (true == true) ((0 : Nat) ≤ (5 : Nat))))] ⟨⟨⟨tI, tI⟩, (fun _ => tI)⟩, ⟨⟨tI, tI⟩, (by (intro _; simp; done))⟩, tI⟩ ?_; refine aops_nil ?_
   refine ⟨kR, kR, by kernel_rfl, ⟨_, hg, RImp.refl _, trivial⟩, rfl, ?_, ?_⟩
   ·
    refine aX hTT 2 [(0, .c (gA (true == true) True)), (1, .c ((true = true → (true == true) = true) ∧ True))] ⟨⟨⟨tI, tI⟩, (fun _ => tI)⟩, ⟨(by (exact fun h => h)), tI⟩, tI⟩ ?_
    refine aops_nil ?_
    refine xjt_n ?_
    refine awj_cond (t := false) kR (fun h => by cases h) (fun _ => ?_)
    refine awj_skip ?_
    refine xjb_n ?_
    refine xjt_n ?_
    refine awj_aw hC ?_
    refine wR 5 ?_; refine aX hTT 3 [(1, .i ((↑(y - 1) : Int) - 1))] ⟨oM, tI⟩ ?_; refine aops_nil ?_
    refine xjt_n ?_
    refine ⟨rfl, y - 1, ⟨by omega, by omega⟩, ?_, by omega, by omega⟩
    refine le_ren [] (.cons kR (.cons kR (.cons kR .nil))) .nil kR kR
   ·
    refine aX hTT 2 [(0, .c (gA (true == true) True)), (1, .c ((true = true → (true == true) = true) ∧ True))] ⟨⟨⟨tI, tI⟩, (fun _ => tI)⟩, ⟨(by (exact fun h => h)), tI⟩, tI⟩ ?_
    refine aops_nil ?_
    refine xjt_n ?_
    refine awj_cond (t := true) kR (fun _ => ?_) (fun h => by cases h)
    refine awj_ret ?_
    refine xjb_r ?_
    refine xjt_r ?_
    refine xjt_r ?_
    refine xjb_r ?_
    exact ⟨.inr rfl, fun h => (by cases h), fun _ => by omega⟩
  ·
   have h2 : y ≤ 1 := by simp at c2; omega
   refine aw_exit ?_
   refine xt_x ?_
   refine xjt_x ?_
   refine xjb_same ?_
   exact ⟨.inl rfl, fun _ => by omega, fun h => by cases h⟩
end Go.Proofs.YtpmchnojeloohaaGreatDoor

namespace Go.Proofs.YtpmchnojeloohaaGreatDoor
open Go.Ab Go.RowKit Go.Dw Go.Shelf
structure E5 where
 r : Int
 a : Int
 f : Int
 t : Int
 w : Int
def E5.c (x : E5) : List V := [.i x.r, .i x.a, .i x.f, .i x.t, .i x.w]
def E5.of (e : BE) : E5 := ⟨e.rule, e.at', e.f, e.t, e.w⟩
def laE (b : Bl) (l : List Pt) (s : BS) (v : Nat) : E5 := match s.la v with
 | none => ⟨1, v, -1, v, rimI b l v⟩
 | some e => E5.of e
theorem laE_none {b : Bl} {l : List Pt} {s : BS} {v : Nat} (h : s.la v = none) : laE b l s v = ⟨1, v, -1, v, rimI b l v⟩ := by rw [laE, h]
theorem laE_some {b : Bl} {l : List Pt} {s : BS} {v : Nat} {e : BE} (h : s.la v = some e) : laE b l s v = E5.of e := by rw [laE, h]
def wayX (L : Nat → E5) (x : E5) : Nat → E5
 | 0 => x
 | t + 1 => L (wayX L x t).f.toNat
theorem way_ends {b : Bl} {l : List Pt} {s : BS} {E : List BE} {i : Nat → Int} {k : Int} {j : Nat} (hE : EOk l.length E) (h : BInv l.length E i k j s) (hs : ∀ e ∈ E, s.r e.t ≤ s.r e.f + e.w) {x : E5} {v : Nat} (hv : v < l.length) (hx : x.f = v) :
  ∃ T, T ≤ s.ti v + 1 ∧ (wayX (laE b l s) x T).f = -1 ∧ ∀ t, t < T → ∃ u : Nat, (wayX (laE b l s) x t).f = u ∧ u < l.length := by
 have key : ∀ n (x : E5) (v : Nat), s.ti v < n → v < l.length → x.f = v → ∃ T, T ≤ n ∧ (wayX (laE b l s) x T).f = -1 ∧ ∀ t, t < T → ∃ u : Nat, (wayX (laE b l s) x t).f = u ∧ u < l.length := by
  intro n
  induction n with
  | zero => intro x v h; omega
  | succ n ih =>
   intro x v hn hv hx
   have sh : ∀ t, wayX (laE b l s) x (t + 1) = wayX (laE b l s) (laE b l s v) t := by
    intro t
    induction t with
    | zero => simp [wayX, hx]
    | succ t iht => rw [wayX, iht, wayX]
   cases hl : s.la v with
   | none =>
    refine ⟨1, by omega, by rw [sh 0, wayX, laE_none hl], fun t ht => ?_⟩
    obtain rfl : t = 0 := by omega
    exact ⟨v, hx, hv⟩
   | some e =>
    obtain ⟨h1, h2⟩ := way_ok h hs hv hl
    obtain ⟨T, h5, h3, h4⟩ := ih (laE b l s v) e.f oM (hE e h1).1 (by rw [laE_some hl]; rfl)
    refine ⟨T + 1, by omega, by rw [sh]; exact h3, fun t ht => ?_⟩
    cases t with
    | zero => exact ⟨v, hx, hv⟩
    | succ t =>
     rw [sh]
     exact h4 t oM
 exact key (s.ti v + 1) x v oM hv hx
theorem to_clk {k : Int} {E : List BE} {s : BS} : ∀ j, j ≤ E.length → (s.to k E j).clk ≤ s.clk + j := fun j hj =>
 to_ind (fun j s' => s'.clk ≤ s.clk + j) (Nat.le_refl _) (fun j e s' _ h => by
  unfold BS.step
  split
  ·
   simp only; omega
  ·
   omega) j hj
theorem rounds_clk (E : List BE) (i : Nat → Int) : ∀ k, (BS.rounds E i k).clk ≤ k * E.length
 | 0 => by simp [BS.rounds, BS.init]
 | k + 1 => by
  have h1 := rounds_clk E i k
  have h2 := to_clk (k := (k : Int)) (s := (BS.rounds E i k).begin) (E := E) E.length (Nat.le_refl _)
  rw [Nat.succ_mul]
  exact Nat.le_trans h2 (Nat.add_le_add_right h1 _)
theorem circle_min {b : Bl} {l : List Pt} {s : BS} {E : List BE} {i : Nat → Int} {k : Int} {j : Nat} (hE : EOk l.length E) (h : BInv l.length E i k j s) {v : Nat} (hv : v < l.length) (hk : s.lc v = k) (hn : (l.length : Int) < k) :
  (∀ m, s.ups v m < l.length ∧ (laE b l s (s.ups v m)).f = (s.ups v (m + 1) : Nat)) ∧ ∃ p, 0 < p ∧ s.ups (s.ups v l.length) p = s.ups v l.length ∧ p ≤ l.length ∧ ∀ q, 0 < q → q < p → s.ups (s.ups v l.length) q ≠ s.ups v l.length := by
 obtain ⟨p, h1, h2, h3⟩ := circle_ok hE h hv hk hn
 refine ⟨fun m => ?_, ?_⟩
 ·
  obtain ⟨a, e, he, _, hu⟩ := h3 m
  exact ⟨a, by rw [laE_some he, hu]; rfl⟩
 ·
  obtain ⟨m, ⟨g1, g2⟩, g3⟩ := least (fun p => 0 < p ∧ s.ups (s.ups v l.length) p = s.ups v l.length) ⟨p, h1, h2⟩
  refine ⟨m, g1, g2, ?_, fun q hq hqm he => by have := g3 q ⟨hq, he⟩; omega⟩
  refine Classical.byContradiction fun hm => ?_
  obtain ⟨a, c, hac, hc, he⟩ := pigeon l.length (fun q => s.ups v (l.length + q)) fun q _ => (h3 _).1
  simp only [ups_add s v] at he
  have e1 : s.ups (s.ups v l.length) (a + (m - c)) = s.ups v l.length := by
   rw [ups_add s _ a, he, ← ups_add, show c + (m - c) = m by omega]
   exact g2
  have := g3 (a + (m - c)) ⟨by omega, e1⟩
  omega
end Go.Proofs.YtpmchnojeloohaaGreatDoor

namespace Go.Proofs.YtpmchnojeloohaaGreatDoor
open Go.Ab Go.RowKit Go.Dw Go.Shelf
def rvK (n i : Nat) (A : Nat → Int) (m : Nat) : Int := if m < i ∨ n < m + 1 + i then A (n - 1 - m) else A m
theorem rvK_0 {n : Nat} {A : Nat → Int} {m : Nat} (h : m < n) : rvK n 0 A m = A m := by
 unfold rvK
 rw [if_neg oM]
set_option maxRecDepth 100000 in
theorem Reverse_am (n : Nat) (A B : Nat → Int) (hn : n ≤ 1099511627776) : AM Tryz.prog 101 [.own 500] [.row 130 2 n (fun j => [.i (A j), .i (B j)])] (.tup []) [some (.row 130 2 n (fun j => [.i (A (n - 1 - j)), .i (B (n - 1 - j))]))] [] := by
 refine am_intro hTT hMX (fn := Tryz.f101) (N := _) ⟨Tryz.func101, rfl, Tryz.ntmps101, kR⟩ (by simp) rfl (by simp) (by simp) fun C hF => ?_
 refine sK fun K hK => wR 2 ?_; refine aX hTT 5 [(2, .i ((↑n : Int) - 1))] ⟨oM, tI⟩ ?_; refine nK hK ?_; clear hK K
 refine aw_block ?_
 refine w_loop (ι := Nat) (fun i => [(0, .own 500), (2, .i i), (3, .i ((n : Int) - 1 - i))]) (fun i => [(500, .row 130 2 n (fun j => [.i (rvK n i A j), .i (rvK n i B j)]))]) (fun i => 2 * i ≤ n + 1) (fun i => n - i) 0 oM ?_ ?_
 ·
  refine le_ren (tl := [(0, V.own 500), (2, V.i 0), (3, V.i ((↑n : Int) - 1 - (↑(0 : Nat) : Int)))]) (sl := [(500, Ob.row 130 2 n fun (j : Nat) => [V.i (rvK n (0 : Nat) A j), V.i (rvK n (0 : Nat) B j)])]) [] (.cons kR (.cons kR (.cons ?_ .nil))) (.cons ⟨Ob.row 130 2 n fun (j : Nat) => [V.i (A j), V.i (B j)], kR, .row kR ?_⟩ .nil) kR kR
  ·
   show V.i ((n : Int) - 1) = V.i ((n : Int) - 1 - ((0 : Nat) : Int))
   simp
  intro m hm
  show _ = [V.i (rvK n 0 A m), V.i (rvK n 0 B m)]
  rw [rvK_0 hm, rvK_0 hm]
 intro i hi
 refine sK fun K hK => ?_; refine sK fun K hK => wR 2 ?_; refine aX hTT 3 [] tI ?_; refine nK hK ?_; clear hK K
 refine w_cond (t := decide ((↑i : Int) < (↑n : Int) - 1 - (↑i : Int))) kR (fun c1 => ?_) (fun c1 => ?_)
 ·
  simp at c1
  have e : ((n : Int) - 1 - i).toNat = n - 1 - i := by omega
  refine aw_skip ?_
  refine xt_n (hK _ ?_); clear hK K; refine sK fun K hK => ?_
  refine aw_block ?_
  refine wD 3 ?_; refine aX hTT 16 [(6, .c ((0 : Int) ≤ (↑n : Int) - 1 - (↑i : Int) ∧ (↑n : Int) - 1 - (↑i : Int) < (↑n : Int))), (7, .c (Int.toNat ((↑n : Int) - 1 - (↑i : Int)) < n ∧ (0 : Nat) ≤ (2 : Nat))), (10, .c ((0 : Int) ≤ (↑i : Int) ∧ (↑i : Int) < (↑n : Int))), (11, .c (i < n ∧ (0 : Nat) ≤ (2 : Nat))), (12, .c ((0 : Int) ≤ (↑i : Int) ∧ (↑i : Int) < (↑n : Int))), (13, .r (pw (i < n ∧ (0 : Nat) + (2 : Nat) ≤ (2 : Nat)) (500 : Nat) (Ob.row 130 2 n fun (j : Nat) => if j = i then [V.i (rvK n i A (Int.toNat ((↑n : Int) - 1 - (↑i : Int)))), V.i (rvK n i B (Int.toNat ((↑n : Int) - 1 - (↑i : Int))))] else [V.i (rvK n i A j), V.i (rvK n i B j)]))), (14, .c ((0 : Int) ≤ (↑n : Int) - 1 - (↑i : Int) ∧ (↑n : Int) - 1 - (↑i : Int) < (↑n : Int))), (15, .r (pw (Int.toNat ((↑n : Int) - 1 - (↑i : Int)) < n ∧ (0 : Nat) + (2 : Nat) ≤ List.length (if Int.toNat ((↑n : Int) - 1 - (↑i : Int)) = i then [V.i (rvK n i A (Int.toNat ((↑n : Int) - 1 - (↑i : Int)))), V.i (rvK n i B (Int.toNat ((↑n : Int) - 1 - (↑i : Int))))] else [V.i (rvK n i A (Int.toNat ((↑n : Int) - 1 - (↑i : Int)))), V.i (rvK n i B (Int.toNat ((↑n : Int) - 1 - (↑i : Int))))])) (500 : Nat) (Ob.row 130 2 n fun (j : Nat) => if j = Int.toNat ((↑n : Int) - 1 - (↑i : Int)) then V.i (rvK n i A i) :: V.i (rvK n i B i) :: List.append._f [] PUnit.unit (List.drop ((0 : Nat) + (2 : Nat)) (if Int.toNat ((↑n : Int) - 1 - (↑i : Int)) = i then [V.i (rvK n i A (Int.toNat ((↑n : Int) - 1 - (↑i : Int)))), V.i (rvK n i B (Int.toNat ((↑n : Int) - 1 - (↑i : Int))))] else [V.i (rvK n i A (Int.toNat ((↑n : Int) - 1 - (↑i : Int)))), V.i (rvK n i B (Int.toNat ((↑n : Int) - 1 - (↑i : Int))))])) else if j = i then [V.i (rvK n i A (Int.toNat ((↑n : Int) - 1 - (↑i : Int)))), V.i (rvK n i B (Int.toNat ((↑n : Int) - 1 - (↑i : Int))))] else [V.i (rvK n i A j), V.i (rvK n i B j)])))] ⟨oM, oM, oM, oM, oM, oM, oM, ⟨oM, ?_⟩, tI⟩ ?_
  ·
   split <;> simp
  refine aops_nil ⟨kR, ?_⟩; refine xb_n ?_; refine xt_n (hK _ ?_); clear hK K; refine wR 4 ?_; refine aX hTT 6 [(1, .i ((↑i : Int) + 1)), (3, .i ((↑n : Int) - 1 - (↑i : Int) - 1))] ⟨oM, oM, tI⟩ ?_; refine aops_nil ?_; refine xt_n ?_
  refine ⟨i + 1, by omega, ?_, by omega⟩
  refine le_ren (tl := [(0, V.own 500), (2, V.i (↑(i + 1) : Int)), (3, V.i ((↑n : Int) - 1 - (↑(i + 1) : Int)))]) (sl := [(500, Ob.row 130 2 n fun (j : Nat) => [V.i (rvK n (i + 1) A j), V.i (rvK n (i + 1) B j)])]) [] (.cons kR (.cons kR (.cons ?_ .nil))) (.cons ⟨Ob.row 130 2 n fun (j : Nat) => if j = Int.toNat ((↑n : Int) - 1 - (↑i : Int)) then V.i (rvK n i A i) :: V.i (rvK n i B i) :: List.append._f [] PUnit.unit (List.drop ((0 : Nat) + (2 : Nat)) (if Int.toNat ((↑n : Int) - 1 - (↑i : Int)) = i then [V.i (rvK n i A (Int.toNat ((↑n : Int) - 1 - (↑i : Int)))), V.i (rvK n i B (Int.toNat ((↑n : Int) - 1 - (↑i : Int))))] else [V.i (rvK n i A (Int.toNat ((↑n : Int) - 1 - (↑i : Int)))), V.i (rvK n i B (Int.toNat ((↑n : Int) - 1 - (↑i : Int))))])) else if j = i then [V.i (rvK n i A (Int.toNat ((↑n : Int) - 1 - (↑i : Int)))), V.i (rvK n i B (Int.toNat ((↑n : Int) - 1 - (↑i : Int))))] else [V.i (rvK n i A j), V.i (rvK n i B j)], kR, .row kR ?_⟩ .nil) kR kR
  ·
   show V.i ((n : Int) - 1 - i - 1) = V.i ((n : Int) - 1 - ((i + 1 : Nat) : Int))
   rw [show (n : Int) - 1 - i - 1 = (n : Int) - 1 - ((i + 1 : Nat) : Int) by omega]
  have hne : ¬ n - 1 - i = i := by omega
  have f1 : ∀ A : Nat → Int, rvK n i A i = A i := fun A => by unfold rvK; rw [if_neg oM]
  have f2 : ∀ A : Nat → Int, rvK n i A (n - 1 - i) = A (n - 1 - i) := fun A => by unfold rvK; rw [if_neg oM]
  intro m hm
  rw [e, if_neg hne]
  show _ = [V.i (rvK n (i + 1) A m), V.i (rvK n (i + 1) B m)]
  by_cases m1 : m = n - 1 - i
  ·
   have f3 : ∀ A : Nat → Int, rvK n (i + 1) A m = A i := fun A => by unfold rvK; rw [if_pos oM, show n - 1 - m = i by omega]
   rw [if_pos m1, f3, f3, f1, f1]
   rfl
  ·
   rw [if_neg m1]
   by_cases m2 : m = i
   ·
    have f4 : ∀ A : Nat → Int, rvK n (i + 1) A m = A (n - 1 - i) := fun A => by unfold rvK; rw [if_pos oM, m2]
    rw [if_pos m2, f4, f4, f2, f2]
   ·
    have f5 : ∀ A : Nat → Int, rvK n (i + 1) A m = rvK n i A m := fun A => by
     unfold rvK
     by_cases h : m < i ∨ n < m + 1 + i
     ·
      rw [if_pos h, if_pos oM]
     ·
      rw [if_neg h, if_neg oM]
    rw [if_neg m2, f5, f5]
 ·
  simp at c1
  refine aw_exit ?_
  refine xt_x ?_; refine xt_x ?_
  refine xb_same ?_
  refine retM (v' := V.tup []) [] [] (.inl rfl) .nil (.cons ⟨Ob.row 130 2 n fun (j : Nat) => [V.i (rvK n i A j), V.i (rvK n i B j)], kR, .row kR ?_⟩ .nil) kR kR kR kR kR kR kR
  intro m hm
  have e1 : ∀ A : Nat → Int, rvK n i A m = A (n - 1 - m) := fun A => by
   unfold rvK
   by_cases h : m < i ∨ n < m + 1 + i
   ·
    rw [if_pos h]
   ·
    rw [if_neg h, show n - 1 - m = m by omega]
  rw [e1, e1]
  rfl
abbrev lasO (n : Nat) (L : Nat → E5) : Ob := .row 132 5 n fun v => [.i (L v).r, .i (L v).a, .i (L v).f, .i (L v).t, .i (L v).w]
abbrev qTL40 : Prop := (2 : Nat) ≤ (5 : Nat)
theorem qTL40_ : qTL40 := oM
set_option maxRecDepth 100000 in
theorem way_am (n : Nat) (L : Nat → E5) (x : E5) (T : Nat) (h1 : (wayX L x T).f = -1) (h2 : ∀ t, t < T → ∃ u : Nat, (wayX L x t).f = u ∧ u < n) (hn : n ≤ 4096) (hT : T ≤ 1099511627775) :
  AM Tryz.prog 66 [.own 500, .agg [.i x.r, .i x.a, .i x.f, .i x.t, .i x.w]] [lasO n L] (.own 0) [none] [.row 130 2 (T + 1) (fun j => [.i (wayX L x (T - j)).r, .i (wayX L x (T - j)).a])] := by
 refine am_intro hTT hMX (fn := Tryz.f66) (N := _) ⟨Tryz.func66, rfl, Tryz.ntmps66, kR⟩ (by simp) rfl (by simp) (by simp) fun C hF => ?_
 refine sK fun K hK => wR 2 ?_
 refine aops_x (M := [3, 8]) hTT 2 [(0, .r (pn 3 (V.ref 100003 0) (100003 : Nat) (Ob.box 132 [V.i (E5.r x), V.i (E5.a x), V.i (E5.f x), V.i (E5.t x), V.i (E5.w x)])))] tI ?_
 refine nK hK ?_; clear hK K; refine sK fun K hK => wR 3 ?_
 refine aops_x (M := [3, 8]) hTT 4 [(1, .c ((0 : Nat) ≤ (5 : Nat))), (2, .r (pn 8 (V.own 200008) (200008 : Nat) (Ob.row 130 2 1 fun (i : Nat) => List.take (2 : Nat) (List.drop (i * 2) [V.i (E5.r x), V.i (E5.a x)]))))] ⟨oM, tI⟩ ?_
 refine nK hK ?_; clear hK K; refine sK fun K hK => ?_
 refine aw_block ?_
 refine w_loop (ι := Nat) (fun t => [(0, .own 500), (3, .ref 3 0), (5, .own 5)]) (fun t => [(500, lasO n L), (3, .box 132 [.i (wayX L x t).r, .i (wayX L x t).a, .i (wayX L x t).f, .i (wayX L x t).t, .i (wayX L x t).w]), (5, .row 130 2 (t + 1) (fun j => [.i (wayX L x j).r, .i (wayX L x j).a]))]) (fun t => t ≤ T) (fun t => T - t) 0 (Nat.zero_le _) ?_ ?_
 ·
  refine le_ren (tl := [(0, V.own 500), (3, V.ref 3 0), (5, V.own 5)]) (sl := [(500, Ob.row 132 5 n fun (v : Nat) => [V.i (E5.r (L v)), V.i (E5.a (L v)), V.i (E5.f (L v)), V.i (E5.t (L v)), V.i (E5.w (L v))]), (3, Ob.box 132 [V.i (E5.r (wayX L x (0 : Nat))), V.i (E5.a (wayX L x (0 : Nat))), V.i (E5.f (wayX L x (0 : Nat))), V.i (E5.t (wayX L x (0 : Nat))), V.i (E5.w (wayX L x (0 : Nat)))]), (5, Ob.row 130 2 1 fun (j : Nat) => [V.i (E5.r (wayX L x j)), V.i (E5.a (wayX L x j))])]) [(3, 100003), (5, 200008)] (.cons kR (.cons kR (.cons kR .nil))) (.cons ⟨Ob.row 132 5 n fun (v : Nat) => [V.i (E5.r (L v)), V.i (E5.a (L v)), V.i (E5.f (L v)), V.i (E5.t (L v)), V.i (E5.w (L v))], kR, .row kR (fun _ _ => rfl)⟩ (.cons ⟨Ob.box 132 [V.i (E5.r x), V.i (E5.a x), V.i (E5.f x), V.i (E5.t x), V.i (E5.w x)], kR, .box kR⟩ (.cons ⟨Ob.row 130 2 1 fun (i : Nat) => List.take (2 : Nat) (List.drop (i * 2) [V.i (E5.r x), V.i (E5.a x)]), kR, .row kR ?_⟩ .nil))) kR kR
  intro i hi
  obtain rfl : i = 0 := by omega
  rfl
 intro t ht
 refine sK fun K hK => ?_; refine sK fun K hK => wR 2 ?_; refine aX hTT 3 [(1, .c qTL40)] ⟨qTL40_, tI⟩ ?_; refine nK hK ?_; clear hK K
 refine w_cond (t := !decide (E5.f (wayX L x t) = (-1 : Int))) kR (fun c1 => ?_) (fun c1 => ?_)
 ·
  simp at c1
  have hlt : t < T := by
   refine Classical.byContradiction fun hc => c1 ?_
   rw [show t = T by omega]; exact h1
  obtain ⟨u, hu, hun⟩ := h2 t hlt
  have e : wayX L x (t + 1) = L u := by rw [wayX, hu]; rfl
  rw [hu]
  refine aw_skip ?_
  refine xt_n (hK _ ?_); clear hK K
  refine aw_block ?_
  refine sK fun K hK => wR 3 ?_; refine aX hTT 6 [(2, .c qTL40), (3, .c ((0 : Int) ≤ (↑u : Int) ∧ (↑u : Int) < (↑n : Int))), (4, .c (u < n ∧ (0 : Nat) ≤ (5 : Nat))), (5, .r (pw ((0 : Nat) + (5 : Nat) ≤ (5 : Nat)) (3 : Nat) (Ob.box 132 [V.i (E5.r (L u)), V.i (E5.a (L u)), V.i (E5.f (L u)), V.i (E5.t (L u)), V.i (E5.w (L u))])))] ⟨qTL40_, oM, oM, oM, tI⟩ ?_; refine nK hK ?_; clear hK K; refine wR 4 ?_; refine aX hTT 6 [(2, .c ((0 : Nat) ≤ (5 : Nat))), (4, .r (PR.mk (some (21 : Nat)) (some (t + 1 + (1 : Nat) ≤ (1099511627776 : Nat))) (V.own 300021) [((5 : Nat), none), ((300021 : Nat), some (Ob.row 130 2 (t + 1 + (1 : Nat)) (appRow (t + 1) (fun (j : Nat) => [V.i (E5.r (wayX L x j)), V.i (E5.a (wayX L x j))]) fun (i : Nat) => List.take (2 : Nat) (List.drop (i * 2) [V.i (E5.r (L u)), V.i (E5.a (L u))]))))] false))] ⟨oM, oM, tI⟩ ?_; refine aops_nil ?_; refine xb_n ?_; refine xt_n ?_
  refine ⟨t + 1, by omega, ?_, by omega⟩
  rw [e]
  refine le_ren (tl := [(0, V.own 500), (3, V.ref 3 0), (5, V.own 5)]) (sl := [(500, Ob.row 132 5 n fun (v : Nat) => [V.i (E5.r (L v)), V.i (E5.a (L v)), V.i (E5.f (L v)), V.i (E5.t (L v)), V.i (E5.w (L v))]), (3, Ob.box 132 [V.i (E5.r (L u)), V.i (E5.a (L u)), V.i (E5.f (L u)), V.i (E5.t (L u)), V.i (E5.w (L u))]), (5, Ob.row 130 2 (t + 1 + (1 : Nat)) fun (j : Nat) => [V.i (E5.r (wayX L x j)), V.i (E5.a (wayX L x j))])]) [(3, 3), (5, 300021)] (.cons kR (.cons kR (.cons kR .nil))) (.cons ⟨Ob.row 132 5 n fun (v : Nat) => [V.i (E5.r (L v)), V.i (E5.a (L v)), V.i (E5.f (L v)), V.i (E5.t (L v)), V.i (E5.w (L v))], kR, .row kR (fun _ _ => rfl)⟩ (.cons ⟨Ob.box 132 [V.i (E5.r (L u)), V.i (E5.a (L u)), V.i (E5.f (L u)), V.i (E5.t (L u)), V.i (E5.w (L u))], kR, .box kR⟩ (.cons ⟨Ob.row 130 2 (t + 1 + (1 : Nat)) (appRow (t + 1) (fun (j : Nat) => [V.i (E5.r (wayX L x j)), V.i (E5.a (wayX L x j))]) fun (i : Nat) => List.take (2 : Nat) (List.drop (i * 2) [V.i (E5.r (L u)), V.i (E5.a (L u))])), kR, .row kR ?_⟩ .nil))) kR kR
  intro i hi
  show _ = [V.i (wayX L x i).r, V.i (wayX L x i).a]
  by_cases h : i < t + 1
  ·
   rw [appRow, if_pos h]
  ·
   obtain rfl : i = t + 1 := by omega
   rw [appRow, if_neg h, Nat.sub_self, e]
   rfl
 ·
  simp at c1
  obtain rfl : t = T := by
   refine Classical.byContradiction fun hc => ?_
   obtain ⟨u, hu, _⟩ := h2 t oM
   omega
  refine aw_exit ?_
  refine xt_x ?_; refine xt_x ?_
  refine xb_same ?_
  refine xt_n ?_; clear hK K; refine hK _ ?_; clear hK K; refine sK fun K hK => wR 3 ?_; refine aX hTT 1 [] tI ?_
  refine aops_callM [5] (first := []) (caps := []) (ins' := [Ob.row 130 2 (t + 1) fun (j : Nat) => [V.i (E5.r (wayX L x j)), V.i (E5.a (wayX L x j))]]) (v' := V.tup []) (δ := [(5, Option.some (Ob.row 130 2 (t + 1) fun (i : Nat) => V.renL (nameG (2 : Nat) (some 23) [(5 : Nat)]) [V.i (E5.r (wayX L x (t + 1 - (1 : Nat) - i))), V.i (E5.a (wayX L x (t + 1 - (1 : Nat) - i)))]))]) (kp := [5]) (Reverse_am (t + 1) (fun j => (wayX L x j).r) (fun j => (wayX L x j).a) oM) kR kR kR kR kR kR rfl rfl kR (.row kR (fun _ _ => rfl) (fun _ _ => rfl) .nil) kR kR kR ?_
  refine nK hK ?_; clear hK K; refine sK fun K hK => wR 4 ?_; refine aX hTT 2 [] tI ?_; refine nK hK ?_; clear hK K
  refine aw_ret ?_
  refine retM (v' := V.own 0) [(0, 5)] [(4, V.own 0)] (.inr rfl) (.cons kR .nil) (.cons ⟨Ob.row 130 2 (t + 1) fun (i : Nat) => V.renL (nameG (2 : Nat) (some (23 : Tmp)) [(5 : Nat)]) [V.i (E5.r (wayX L x (t + 1 - (1 : Nat) - i))), V.i (E5.a (wayX L x (t + 1 - (1 : Nat) - i)))], kR, .row kR (fun _ _ => rfl)⟩ .nil) kR kR kR kR kR kR kR
theorem appS {A B : Nat → Int} {t i : Nat} (h : i < t + 1) : appRow t (fun j => [V.i (A j), V.i (B j)]) (fun i => List.take 2 (List.drop (i * 2) [V.i (A t), V.i (B t)])) i = [V.i (A i), V.i (B i)] := by
 unfold appRow
 by_cases h1 : i < t
 ·
  rw [if_pos h1]
 ·
  obtain rfl : i = t := by omega
  rw [if_neg h1, Nat.sub_self]
  rfl
set_option maxRecDepth 100000 in
theorem circle_am (n : Nat) (L : Nat → E5) (U : Nat → Nat) (p : Nat) (h1 : ∀ m, U m < n ∧ (L (U m)).f = (U (m + 1) : Nat)) (h2 : 0 < p ∧ p ≤ n ∧ U (n + p) = U n ∧ ∀ q, 0 < q → q < p → U (n + q) ≠ U n) (hn : n ≤ 4096) :
  AM Tryz.prog 65 [.own 500, .i (U 0)] [lasO n L] (.own 0) [none] [.row 130 2 p (fun j => [.i (L (U (n + (p - 1 - j)))).r, .i (L (U (n + (p - 1 - j)))).a])] := by
 refine am_intro hTT hMX (fn := Tryz.f65) (N := _) ⟨Tryz.func65, rfl, Tryz.ntmps65, kR⟩ (by simp) rfl (by simp) (by simp) fun C hF => ?_
 refine sK fun K hK => wR 2 ?_; refine aX hTT 1 [] tI ?_; refine nK hK ?_; clear hK K; refine sK fun K hK => ?_; refine sK fun K hK => wR 3 ?_; refine aX hTT 3 [] tI ?_; refine nK hK ?_; clear hK K
 refine aw_block ?_
 refine w_loop (ι := Nat) (fun t => [(0, .own 500), (1, .i (U t)), (8, .i n), (9, .i t)]) (fun t => [(500, lasO n L)]) (fun t => t ≤ n) (fun t => n - t) 0 (Nat.zero_le _) ?_ ?_
 ·
  refine le_ren (sl := [(500, Ob.row 132 5 n fun (v : Nat) => [V.i (E5.r (L v)), V.i (E5.a (L v)), V.i (E5.f (L v)), V.i (E5.t (L v)), V.i (E5.w (L v))])]) [] (.cons kR (.cons kR (.cons kR (.cons kR .nil)))) (.cons ⟨Ob.row 132 5 n fun (v : Nat) => [V.i (E5.r (L v)), V.i (E5.a (L v)), V.i (E5.f (L v)), V.i (E5.t (L v)), V.i (E5.w (L v))], kR, .row kR (fun _ _ => rfl)⟩ .nil) kR kR
 intro t ht
 have ht1 := h1 t
 refine sK fun K hK => wR 2 ?_; refine aX hTT 1 [] tI ?_; refine nK hK ?_; clear hK K; refine sK fun K hK => ?_
 refine w_cond (t := decide ((↑t : Int) < (↑n : Int))) kR (fun c1 => ?_) (fun c1 => ?_)
 ·
  simp at c1
  refine aw_skip ?_
  refine xt_n (hK _ ?_); clear hK K; refine sK fun K hK => ?_
  refine aw_block ?_
  refine wR 3 ?_
  refine aops_n hTT (M := []) (n := 6) [pv 11 (V.own 500), pv 12 (V.i (↑(U t) : Int)), pc 13 ((0 : Int) ≤ (↑(U t) : Int) ∧ (↑(U t) : Int) < (↑n : Int)) (V.oel 500 5 (U t) (0 : Nat)), pv 14 (V.oel 500 5 (U t) (2 : Nat)), pc 15 (U t < n ∧ (2 : Nat) ≤ (5 : Nat)) (V.i (E5.f (L (U t)))), pv 1 (V.i (E5.f (L (U t))))] kR kR ⟨oM, oM, tI⟩ ?_
  refine aops_nil ?_; refine xb_n ?_; refine xt_n (hK _ ?_); clear hK K; refine wR 4 ?_
  refine aops_n hTT (M := []) (n := 2) [pc 16 ((-9223372036854775808 : Int) ≤ (↑t : Int) + 1 ∧ (↑t : Int) + 1 ≤ (9223372036854775807 : Int)) (V.i ((↑t : Int) + 1)), pv 9 (V.i ((↑t : Int) + 1))] kR kR ⟨oM, tI⟩ ?_
  refine aops_nil ?_; refine xt_n ?_
  rw [ht1.2]
  refine ⟨t + 1, by omega, ?_, by omega⟩
  refine le_ren (sl := [(500, Ob.row 132 5 n fun (v : Nat) => [V.i (E5.r (L v)), V.i (E5.a (L v)), V.i (E5.f (L v)), V.i (E5.t (L v)), V.i (E5.w (L v))])]) [] (.cons kR (.cons kR (.cons kR (.cons kR .nil)))) (.cons ⟨Ob.row 132 5 n fun (v : Nat) => [V.i (E5.r (L v)), V.i (E5.a (L v)), V.i (E5.f (L v)), V.i (E5.t (L v)), V.i (E5.w (L v))], kR, .row kR (fun _ _ => rfl)⟩ .nil) kR kR
 ·
  simp at c1
  have etn : t = n := by omega
  rw [etn]
  have hn0 := (h1 n).1
  refine aw_exit ?_
  refine xt_x ?_; refine xt_x ?_
  refine xb_same ?_
  refine xt_n ?_; clear hK K; refine hK _ ?_; clear hK K; refine sK fun K hK => wR 3 ?_; refine aX hTT 1 [] tI ?_; refine nK hK ?_; clear hK K; refine sK fun K hK => wR 4 ?_; refine aX hTT 6 [(2, .c ((0 : Int) ≤ (↑(U n) : Int) ∧ (↑(U n) : Int) < (↑n : Int))), (3, .c (U n < n ∧ (0 : Nat) ≤ (5 : Nat))), (4, .r (pn 6 (V.ref 300006 0) (300006 : Nat) (Ob.box 132 [V.i 0, V.i 0, V.i 0, V.i 0, V.i 0]))), (5, .r (pw ((0 : Nat) + (5 : Nat) ≤ (5 : Nat)) (300006 : Nat) (Ob.box 132 [V.i (E5.r (L (U n))), V.i (E5.a (L (U n))), V.i (E5.f (L (U n))), V.i (E5.t (L (U n))), V.i (E5.w (L (U n)))])))] ⟨oM, oM, oM, tI⟩ ?_; refine nK hK ?_; clear hK K
  refine aw_block ?_
  refine w_le (le_open 5 130 2 (fun j => [.i (L (U (n + j))).r, .i (L (U (n + j))).a]) kR kR) ?_
  refine w_loop (ι := Nat) (fun t => [(0, .own 500), (1, .i (U n)), (5, .own 5), (6, .ref 6 0)]) (fun t => [(500, lasO n L), (6, .box 132 [.i (L (U (n + t))).r, .i (L (U (n + t))).a, .i (L (U (n + t))).f, .i (L (U (n + t))).t, .i (L (U (n + t))).w]), (5, .row 130 2 t (fun j => [.i (L (U (n + j))).r, .i (L (U (n + j))).a]))]) (fun t => t < p) (fun t => p - t) 0 h2.1 ?_ ?_
  ·
   refine le_ren (sl := [(500, Ob.row 132 5 n fun (v : Nat) => [V.i (E5.r (L v)), V.i (E5.a (L v)), V.i (E5.f (L v)), V.i (E5.t (L v)), V.i (E5.w (L v))]), (6, Ob.box 132 [V.i (E5.r (L (U (n + 0)))), V.i (E5.a (L (U (n + 0)))), V.i (E5.f (L (U (n + 0)))), V.i (E5.t (L (U (n + 0)))), V.i (E5.w (L (U (n + 0))))]), (5, Ob.row 130 2 0 fun (j : Nat) => [V.i (E5.r (L (U (n + j)))), V.i (E5.a (L (U (n + j))))])]) [(5, 400005), (6, 300006)] (.cons kR (.cons kR (.cons kR (.cons kR .nil)))) (.cons ⟨Ob.row 132 5 n fun (v : Nat) => [V.i (E5.r (L v)), V.i (E5.a (L v)), V.i (E5.f (L v)), V.i (E5.t (L v)), V.i (E5.w (L v))], kR, .row kR (fun _ _ => rfl)⟩ (.cons ⟨Ob.box 132 [V.i (E5.r (L (U n))), V.i (E5.a (L (U n))), V.i (E5.f (L (U n))), V.i (E5.t (L (U n))), V.i (E5.w (L (U n)))], kR, .box kR⟩ (.cons ⟨Ob.row 130 2 0 fun (j : Nat) => [V.i (E5.r (L (U (n + j)))), V.i (E5.a (L (U (n + j))))], kR, .row kR (fun _ _ => rfl)⟩ .nil))) kR kR
  intro t ht
  have ht1 := h1 (n + t)
  have ht2 := h1 (n + t + 1)
  rw [ht1.2]
  refine sK fun K hK => ?_
  refine aw_block ?_
  refine sK fun K hK => wR 2 ?_; refine aX hTT 6 [(2, .c ((0 : Nat) ≤ (5 : Nat))), (4, .r (PR.mk (some (30 : Nat)) (some (t + 1 ≤ (1099511627776 : Nat))) (V.own 100030) [((5 : Nat), none), ((100030 : Nat), some (Ob.row 130 2 (t + 1) (appRow t (fun (j : Nat) => [V.i (E5.r (L (U (n + j)))), V.i (E5.a (L (U (n + j))))]) fun (i : Nat) => List.take (2 : Nat) (List.drop (i * 2) [V.i (E5.r (L (U (n + t)))), V.i (E5.a (L (U (n + t))))]))))] false))] ⟨oM, oM, tI⟩ ?_; refine nK hK ?_; clear hK K; refine sK fun K hK => wR 3 ?_; refine aX hTT 4 [(1, .c qTL40)] ⟨qTL40_, tI⟩ ?_; refine nK hK ?_; clear hK K
  refine w_cond (t := decide ((↑(U (n + t + 1)) : Int) = (↑(U n) : Int))) kR (fun c2 => ?_) (fun c2 => ?_)
  ·
   have e : t + 1 = p := by
    simp at c2
    refine Classical.byContradiction fun hne => h2.2.2.2 (t + 1) oM oM ?_
    rw [show n + (t + 1) = n + t + 1 by omega]
    omega
   refine sK fun K hK => wR 4 ?_; refine aX hTT 1 [] tI ?_
   refine aops_callM [100030] (first := []) (caps := []) (ins' := [Ob.row 130 2 (t + 1) (appRow t (fun (j : Nat) => [V.i (E5.r (L (U (n + j)))), V.i (E5.a (L (U (n + j))))]) fun (i : Nat) => List.take (2 : Nat) (List.drop (i * 2) [V.i (E5.r (L (U (n + t)))), V.i (E5.a (L (U (n + t))))]))]) (v' := V.tup []) (δ := [(100030, Option.some (Ob.row 130 2 (t + 1) fun (i : Nat) => V.renL (nameG (3 : Nat) (some 36) [(100030 : Nat)]) [V.i (E5.r (L (U (n + (t + 1 - (1 : Nat) - i))))), V.i (E5.a (L (U (n + (t + 1 - (1 : Nat) - i)))))]))]) (kp := [100030]) (Reverse_am (t + 1) (fun j => (L (U (n + j))).r) (fun j => (L (U (n + j))).a) oM) kR kR kR kR kR kR rfl rfl kR (.row kR ?_ (fun _ _ => rfl) .nil) kR kR kR ?_
   ·
    intro i hi
    exact appS (A := fun j => (L (U (n + j))).r) (B := fun j => (L (U (n + j))).a) hi
   refine nK hK ?_; clear hK K; refine sK fun K hK => wR 5 ?_; refine aX hTT 2 [] tI ?_; refine nK hK ?_; clear hK K
   refine aw_ret ?_
   refine xb_r ?_
   refine xt_r ?_; refine xt_r ?_
   refine xb_r ?_
   subst e
   refine retM (v' := V.own 0) [(0, 100030)] [(4, V.own 0)] (.inr rfl) (.cons kR .nil) (.cons ⟨Ob.row 130 2 (t + 1) fun (i : Nat) => V.renL (nameG (3 : Nat) (some (36 : Tmp)) [(100030 : Nat)]) [V.i (E5.r (L (U (n + (t + 1 - (1 : Nat) - i))))), V.i (E5.a (L (U (n + (t + 1 - (1 : Nat) - i)))))], kR, .row kR (fun _ _ => rfl)⟩ .nil) kR kR kR kR kR kR kR
  ·
   have e : t + 1 < p := by
    simp at c2
    refine Classical.byContradiction fun hne => c2 ?_
    have e1 : t + 1 = p := by omega
    have e2 := h2.2.2.1
    rw [← e1, ← Nat.add_assoc] at e2
    rw [e2]
   refine aw_skip ?_
   refine xb_n ?_; refine xt_n (hK _ ?_); clear hK K; refine sK fun K hK => ?_; refine sK fun K hK => wR 4 ?_; refine aX hTT 1 [(0, .c ((0 : Nat) ≤ (5 : Nat)))] ⟨oM, tI⟩ ?_; refine nK hK ?_; clear hK K; refine wR 5 ?_; refine aX hTT 2 [(0, .r (pn 6 (V.ref 400006 0) (400006 : Nat) (Ob.box 132 [V.i 0, V.i 0, V.i 0, V.i 0, V.i 0]))), (1, .r (pw ((0 : Nat) + (5 : Nat) ≤ (5 : Nat)) (400006 : Nat) (Ob.box 132 [V.i (E5.r (L (U (n + t)))), V.i (E5.a (L (U (n + t)))), V.i (↑(U (n + t + 1)) : Int), V.i (E5.t (L (U (n + t)))), V.i (E5.w (L (U (n + t))))])))] ⟨oM, tI⟩ ?_; refine nK hK ?_; clear hK K; refine wR 6 ?_; refine aX hTT 6 [(2, .c qTL40), (3, .c ((0 : Int) ≤ (↑(U (n + t + 1)) : Int) ∧ (↑(U (n + t + 1)) : Int) < (↑n : Int))), (4, .c (U (n + t + 1) < n ∧ (0 : Nat) ≤ (5 : Nat))), (5, .r (pw ((0 : Nat) + (5 : Nat) ≤ (5 : Nat)) (400006 : Nat) (Ob.box 132 [V.i (E5.r (L (U (n + t + 1)))), V.i (E5.a (L (U (n + t + 1)))), V.i (E5.f (L (U (n + t + 1)))), V.i (E5.t (L (U (n + t + 1)))), V.i (E5.w (L (U (n + t + 1))))])))] ⟨qTL40_, oM, oM, oM, tI⟩ ?_; refine aops_nil ?_; refine xt_n ?_
   refine ⟨t + 1, e, ?_, by omega⟩
   refine le_ren (tl := [(0, V.own 500), (1, V.i (↑(U n) : Int)), (5, V.own 5), (6, V.ref 6 0)]) (sl := [(500, Ob.row 132 5 n fun (v : Nat) => [V.i (E5.r (L v)), V.i (E5.a (L v)), V.i (E5.f (L v)), V.i (E5.t (L v)), V.i (E5.w (L v))]), (6, Ob.box 132 [V.i (E5.r (L (U (n + (t + 1))))), V.i (E5.a (L (U (n + (t + 1))))), V.i (E5.f (L (U (n + (t + 1))))), V.i (E5.t (L (U (n + (t + 1))))), V.i (E5.w (L (U (n + (t + 1)))))]), (5, Ob.row 130 2 (t + 1) fun (j : Nat) => [V.i (E5.r (L (U (n + j)))), V.i (E5.a (L (U (n + j))))])]) [(5, 100030), (6, 400006)] (.cons kR (.cons kR (.cons kR (.cons kR .nil)))) (.cons ⟨Ob.row 132 5 n fun (v : Nat) => [V.i (E5.r (L v)), V.i (E5.a (L v)), V.i (E5.f (L v)), V.i (E5.t (L v)), V.i (E5.w (L v))], kR, .row kR (fun _ _ => rfl)⟩ (.cons ⟨Ob.box 132 [V.i (E5.r (L (U (n + t + 1)))), V.i (E5.a (L (U (n + t + 1)))), V.i (E5.f (L (U (n + t + 1)))), V.i (E5.t (L (U (n + t + 1)))), V.i (E5.w (L (U (n + t + 1))))], kR, .box kR⟩ (.cons ⟨Ob.row 130 2 (t + 1) (appRow t (fun (j : Nat) => [V.i (E5.r (L (U (n + j)))), V.i (E5.a (L (U (n + j))))]) fun (i : Nat) => List.take (2 : Nat) (List.drop (i * 2) [V.i (E5.r (L (U (n + t)))), V.i (E5.a (L (U (n + t))))])), kR, .row kR ?_⟩ .nil))) kR kR
   intro i hi
   exact appS (A := fun j => (L (U (n + j))).r) (B := fun j => (L (U (n + j))).a) hi
end Go.Proofs.YtpmchnojeloohaaGreatDoor

namespace Go.Proofs.YtpmchnojeloohaaGreatDoor
open Go.Ab Go.RowKit Go.Dw Go.Shelf
def chI (s : BS) : Int := match s.ch with
 | none => -1
 | some v => v
def rnd (b : Bl) (l : List Pt) (k : Nat) : BS := BS.rounds (edgesL b l) (rimI b l) k
def mid (b : Bl) (l : List Pt) (k j : Nat) : BS := (rnd b l k).begin.to k (edgesL b l) j
theorem mid_end (b : Bl) (l : List Pt) (k : Nat) : mid b l k (edgesL b l).length = rnd b l (k + 1) := rfl
theorem mid_succ {b : Bl} {l : List Pt} {k j : Nat} {e : BE} (h : (edgesL b l)[j]? = some e) : mid b l k (j + 1) = (mid b l k j).step k e := to_succ h
section
variable {b : Bl} {l : List Pt}
theorem SOk.e1 (h : SOk b l) : EOk l.length (edgesL b l) ∧ ∀ e ∈ edgesL b l, e.f ≠ e.t := edges_ok h.bl.1.1
theorem SOk.w (h : SOk b l) : ∀ e ∈ edgesL b l, -8454144 ≤ e.w ∧ e.w ≤ 8454144 := by
 obtain ⟨⟨q1, q2⟩, ⟨q3, q4⟩, ⟨q5, q6⟩, ⟨q7, q8⟩, ⟨q9, q10⟩, q11, q12⟩ := h.bl
 intro e he
 rcases edgesL_mem.1 he with ⟨i, hi, ⟨h1, rfl⟩ | ⟨h1, rfl⟩⟩ | ⟨i, h1, h2, rfl⟩
 ·
  simp only [slowE]; omega
 ·
  have a := h.pt i hi
  have c := h.pt (i - b.per.toNat) oM
  simp only [landE]; omega
 ·
  simp only [fastE]; omega
theorem SOk.i (h : SOk b l) (v : Nat) (hv : v < l.length) : -8454144 ≤ rimI b l v ∧ rimI b l v ≤ 8454144 := by
 obtain ⟨⟨q1, q2⟩, ⟨q3, q4⟩, ⟨q5, q6⟩, ⟨q7, q8⟩, ⟨q9, q10⟩, q11, q12⟩ := h.bl
 have a := h.pt v hv
 unfold rimI
 omega
theorem SOk.inv (h : SOk b l) (k : Nat) {j : Nat} (hj : j ≤ (edgesL b l).length) : BInv l.length (edgesL b l) (rimI b l) k j (mid b l k j) := binv_at h.e1.1 h.e1.2 k hj
theorem SOk.bd (h : SOk b l) {k j : Nat} (hk : k ≤ 4097) (hj : j ≤ (edgesL b l).length) {v : Nat} (hv : v < l.length) : -1152921504606846976 ≤ (mid b l k j).r v ∧ (mid b l k j).r v ≤ 8454144 := by
 have h1 := low_at (M := 8454144) (i := rimI b l) (by decide) h.e1.1 (fun e he => (h.w e he).1) (fun v hv => (h.i v hv).1) k j hj hv
 have h2 := (h.inv k hj).le v hv
 have h3 := (h.i v hv).2
 have h4 := edgesL_len (b := b) (l := l)
 have h5 := h.len
 have h6 : (k + 1) * (edgesL b l).length ≤ 4098 * 12288 := Nat.mul_le_mul oM oM
 have h7 : 8454144 * ((1 + (k + 1) * (edgesL b l).length : Nat) : Int) ≤ 8454144 * ((1 + 4098 * 12288 : Nat) : Int) := Int.mul_le_mul_of_nonneg_left oM (by decide)
 have e : mid b l k j = (BS.rounds (edgesL b l) (rimI b l) k).begin.to k (edgesL b l) j := rfl
 rw [e] at h2 ⊢
 omega
end
set_option maxRecDepth 100000 in
theorem edges_ac (b : Bl) (l : List Pt) : AC Tryz.prog 64 [.ptr (sdC b l)] (.fn (.func 100) [] [.ptr [.ptr (sdC b l)]]) [] := by
 refine acI hTT hMX Tryz.func64 Tryz.ntmps64 fun C hC hF => ?_
 refine sK fun K hK => wR 2 ?_; refine aX hTT 2 [] tI ?_; refine nK hK ?_; clear hK K; refine sK fun K hK => wR 3 ?_; refine aX hTT 2 [] tI ?_; refine nK hK ?_; clear hK K
 refine aw_ret ?_
 refine rP (V.fn (Fn.func (100 : Nat)) [] [V.ptr [V.ptr [V.i (Bl.per b), V.i (Bl.rim b), V.i (Bl.core b), V.i (Bl.land b), V.i (Bl.slow b), V.i (Bl.fast b), V.sl 2 (List.length l) fun (k : Nat) => [V.i (Prod.fst (gp l k)), V.i (Prod.snd (gp l k))], V.i (Bl.per b)]]])
def corB (b : Bl) (l : List Pt) (s : BS) (i : Nat) : Prop := 0 ≤ s.r i + ((gp l i).1 - b.core)
def corX (b : Bl) (l : List Pt) (i : Nat) : E5 := ⟨2, i, i, -1, (gp l i).1 - b.core⟩
structure SEnd (b : Bl) (l : List Pt) (K : Nat) (v : V) (obs : List Ob) : Prop where
 k : K ≤ l.length + 1
 go : ∀ k, k < K → (rnd b l (k + 1)).ch ≠ none
 out : ((rnd b l (K + 1)).ch = none ∧ (∀ i, i < l.length → corB b l (rnd b l (K + 1)) i) ∧ v = .agg [.own 0, .nil] ∧ obs = [.row 2 1 l.length fun i => [.i ((rnd b l (K + 1)).r i)]])
  ∨ (∃ i T, (rnd b l (K + 1)).ch = none ∧ i < l.length ∧ (∀ j, j < i → corB b l (rnd b l (K + 1)) j) ∧ ¬ corB b l (rnd b l (K + 1)) i ∧ T ≤ 1099511627775 ∧ (wayX (laE b l (rnd b l (K + 1))) (corX b l i) T).f = -1 ∧ (∀ t, t < T → ∃ u : Nat, (wayX (laE b l (rnd b l (K + 1))) (corX b l i) t).f = u ∧ u < l.length)
    ∧ v = .agg [.nil, .own 0] ∧ obs = [.row 130 2 (T + 1) (fun j => [.i (wayX (laE b l (rnd b l (K + 1))) (corX b l i) (T - j)).r, .i (wayX (laE b l (rnd b l (K + 1))) (corX b l i) (T - j)).a])])
  ∨ (∃ x p, K = l.length + 1 ∧ (rnd b l (K + 1)).ch = some x ∧ (∀ m, (rnd b l (K + 1)).ups x m < l.length ∧ (laE b l (rnd b l (K + 1)) ((rnd b l (K + 1)).ups x m)).f = ((rnd b l (K + 1)).ups x (m + 1) : Nat)) ∧ (0 < p ∧ p ≤ l.length ∧ (rnd b l (K + 1)).ups x (l.length + p) = (rnd b l (K + 1)).ups x l.length ∧ ∀ q, 0 < q → q < p → (rnd b l (K + 1)).ups x (l.length + q) ≠ (rnd b l (K + 1)).ups x l.length)
    ∧ v = .agg [.nil, .own 0] ∧ obs = [.row 130 2 p (fun j => [.i (laE b l (rnd b l (K + 1)) ((rnd b l (K + 1)).ups x (l.length + (p - 1 - j)))).r, .i (laE b l (rnd b l (K + 1)) ((rnd b l (K + 1)).ups x (l.length + (p - 1 - j)))).a])])
theorem chI_none {s : BS} : chI s = -1 ↔ s.ch = none := by
 unfold chI
 cases s.ch with
 | none => simp
 | some v => simp
abbrev radO (n : Nat) (s : BS) : Ob := .row 2 1 n fun v => [.i (s.r v)]
abbrev ini4 (b : Bl) (l : List Pt) (i : Nat) : Ob := .row 2 1 l.length fun v => [.i (if v < i then rimI b l v else 0)]
abbrev ini5 (b : Bl) (l : List Pt) (i : Nat) : Ob := .row 132 5 l.length fun v => [.i (if v < i then 1 else 0), .i (if v < i then (v : Int) else 0), .i (if v < i then -1 else 0), .i (if v < i then (v : Int) else 0), .i (if v < i then rimI b l v else 0)]
abbrev qTL50 : Prop := (0 : Nat) ≤ (1 : Nat)
theorem qTL50_ : qTL50 := oM
abbrev qTL51 : Prop := (3 : Nat) ≤ (5 : Nat)
theorem qTL51_ : qTL51 := oM
abbrev yyTL51 (b : Bl) (l : List Pt) (KE : Nat) : Ob := Ob.row 132 5 (List.length l) fun (v : Nat) => [V.i (E5.r (laE b l (rnd b l (KE + 1)) v)), V.i (E5.a (laE b l (rnd b l (KE + 1)) v)), V.i (E5.f (laE b l (rnd b l (KE + 1)) v)), V.i (E5.t (laE b l (rnd b l (KE + 1)) v)), V.i (E5.w (laE b l (rnd b l (KE + 1)) v))]
abbrev yyTL50 (b : Bl) (l : List Pt) (KE : Nat) := (15, (yyTL51 b l KE))
abbrev yyTL53 (b : Bl) (l : List Pt) : V := V.ptr [V.i (Bl.per b), V.i (Bl.rim b), V.i (Bl.core b), V.i (Bl.land b), V.i (Bl.slow b), V.i (Bl.fast b), V.sl 2 (List.length l) fun (k : Nat) => [V.i (Prod.fst (gp l k)), V.i (Prod.snd (gp l k))], V.i (Bl.per b)]
abbrev yyTL52 (b : Bl) (l : List Pt) := (0, (yyTL53 b l))
abbrev yyTL54 (l : List Pt) : Ob := Ob.row 132 5 (List.length l) fun (x : Nat) => [V.c (Value.int IntKind.i64 0), V.c (Value.int IntKind.i64 0), V.c (Value.int IntKind.i64 0), V.c (Value.int IntKind.i64 0), V.c (Value.int IntKind.i64 0)]
abbrev yyTL55 (l : List Pt) := ((0 : Int) ≤ (↑(List.length l) : Int) ∧ (↑(List.length l) : Int) ≤ (↑(List.length l) : Int) ∧ (↑(List.length l) : Int) ≤ 1099511627776)
abbrev yyTL56 (b : Bl) (l : List Pt) (KE : Nat) : Ob := Ob.row 2 1 (List.length l) fun (v : Nat) => [V.i (BS.r (rnd b l (KE + 1)) v)]
set_option maxRecDepth 100000 in
theorem search_ac (b : Bl) (l : List Pt) (h : SOk b l) {KE : Nat} {v : V} {obs : List Ob} (hE : SEnd b l KE v obs) : AC Tryz.prog 29 [.ptr (sdC b l)] v obs := by
 have hl := h.len
 refine acI hTT hMX Tryz.func29 Tryz.ntmps29 fun C hC hF => ?_
 refine sK fun K hK => wR 2 ?_; refine aX hTT 1 [(0, .r (pn 2 (V.ref 100002 0) (100002 : Nat) (Ob.box 88 [V.nil, V.nil])))] tI ?_; refine nK hK ?_; clear hK K; refine sK fun K hK => wR 3 ?_; refine aX hTT 6 [] tI ?_; refine nK hK ?_; clear hK K; refine sK fun K hK => wD 4 ?_; refine aX hTT 8 [(1, .r (PR.mk (some (19 : Nat)) (some (yyTL55 l)) (V.own 300019) [((300019 : Nat), some (Ob.row 2 1 (List.length l) fun (x : Nat) => [V.c (Value.int IntKind.i64 0)]))] false)), (3, .r (PR.mk (some (21 : Nat)) (some (yyTL55 l)) (V.own 300021) [((300021 : Nat), some ((yyTL54 l)))] false)), (4, .r (pn 4 (V.ref 300004 0) (300004 : Nat) (Ob.box 38 [V.nil]))), (5, .r (pn 5 (V.ref 300005 0) (300005 : Nat) (Ob.box 128 [V.nil]))), (6, .r (pw ((0 : Nat) + (1 : Nat) ≤ (1 : Nat)) (300004 : Nat) (Ob.box 38 [V.own 300019]))), (7, .r (pw ((0 : Nat) + (1 : Nat) ≤ (1 : Nat)) (300005 : Nat) (Ob.box 128 [V.own 300021])))] ⟨⟨oM, oM⟩, ⟨oM, oM⟩, oM, oM, tI⟩ ?_; refine aops_nil ⟨kR, ?_⟩; refine xt_n (hK _ ?_); clear hK K; refine sK fun K hK => ?_; refine sK fun K hK => wR 5 ?_; refine aX hTT 2 [] tI ?_; refine nK hK ?_; clear hK K
 refine aw_block ?_
 refine w_loop (ι := Nat) (fun i => [(0, .ptr (sdC b l)), (2, .ref 2 0), (3, .i l.length), (4, .ref 4 0), (5, .ref 5 0), (22, .i l.length), (23, .i i)]) (fun i => [(2, .box 88 [.nil, .nil]), (4, .box 38 [.own 14]), (5, .box 128 [.own 15]), (14, ini4 b l i), (15, ini5 b l i)]) (fun i => i ≤ l.length) (fun i => l.length - i) 0 (Nat.zero_le _) ?_ ?_
 ·
  refine le_ren (sl := [(2, Ob.box 88 [V.nil, V.nil]), (4, Ob.box 38 [V.own 14]), (5, Ob.box 128 [V.own 15]), (14, Ob.row 2 1 (List.length l) fun (v : Nat) => [V.i (if v < 0 then rimI b l v else (0 : Int))]), (15, Ob.row 132 5 (List.length l) fun (v : Nat) => [V.i (if v < 0 then (1 : Int) else (0 : Int)), V.i (if v < 0 then (↑v : Int) else (0 : Int)), V.i (if v < 0 then (-1 : Int) else (0 : Int)), V.i (if v < 0 then (↑v : Int) else (0 : Int)), V.i (if v < 0 then rimI b l v else (0 : Int))])]) [(2, 100002), (4, 300004), (5, 300005), (14, 300019), (15, 300021)] (.cons kR (.cons kR (.cons kR (.cons kR (.cons kR (.cons kR (.cons kR .nil))))))) (.cons ⟨Ob.box 88 [V.nil, V.nil], kR, .box kR⟩ (.cons ⟨Ob.box 38 [V.own 300019], kR, .box kR⟩ (.cons ⟨Ob.box 128 [V.own 300021], kR, .box kR⟩ (.cons ⟨Ob.row 2 1 (List.length l) fun (x : Nat) => [V.c (Value.int IntKind.i64 0)], kR, .row kR (fun _ _ => rfl)⟩ (.cons ⟨(yyTL54 l), kR, .row kR (fun _ _ => rfl)⟩ .nil))))) kR kR
 intro i hi
 refine sK fun K hK => wR 2 ?_; refine aX hTT 1 [] tI ?_; refine nK hK ?_; clear hK K; refine sK fun K hK => ?_
 refine w_cond (t := decide ((↑i : Int) < (↑(List.length l) : Int))) kR (fun c1 => ?_) (fun c1 => ?_)
 ·
  have h1 : i < l.length := by simpa using c1
  have h2 := h.i i h1
  refine aw_skip ?_
  refine xt_n (hK _ ?_); clear hK K; refine sK fun K hK => ?_
  refine aw_block ?_
  refine sK fun K hK => wR 3 ?_; refine aX hTT 2 [] tI ?_; refine nK hK ?_; clear hK K; refine sK fun K hK => wD 4 ?_; refine aX hTT 4 [(0, .c qTL50)] ⟨qTL50_, tI⟩ ?_
  refine eC (edge1_ac b l h i h1) ?_
  refine aX hTT 5 [(3, .c ((0 : Int) ≤ (↑i : Int) ∧ (↑i : Int) < (↑(List.length l) : Int))), (4, .r (pw (i < List.length l ∧ (0 : Nat) + (5 : Nat) ≤ (5 : Nat)) (15 : Nat) (Ob.row 132 5 (List.length l) fun (j : Nat) => if j = i then [V.i 1, V.i (↑i : Int), V.i (-1), V.i (↑i : Int), V.i (rimI b l i)] else [V.i (if j < i then (1 : Int) else (0 : Int)), V.i (if j < i then (↑j : Int) else (0 : Int)), V.i (if j < i then (-1 : Int) else (0 : Int)), V.i (if j < i then (↑j : Int) else (0 : Int)), V.i (if j < i then rimI b l j else (0 : Int))])))] ⟨oM, oM, tI⟩ ?_; refine aops_nil ⟨kR, ?_⟩; refine xt_n (hK _ ?_); clear hK K
  refine w_le (s' := ⟨mkT [(0, .ptr (sdC b l)), (2, .ref 2 0), (3, .i l.length), (4, .ref 4 0), (5, .ref 5 0), (6, .i i), (22, .i l.length), (23, .i i)], mkS [(2, .box 88 [.nil, .nil]), (4, .box 38 [.own 14]), (5, .box 128 [.own 15]), (14, ini4 b l i), (15, ini5 b l (i + 1))], 1⟩) ?_ ?_
  ·
   refine le_ren (tl := [(yyTL52 b l), (2, V.ref 2 0), (3, V.i (↑(List.length l) : Int)), (4, V.ref 4 0), (5, V.ref 5 0), (6, V.i (↑i : Int)), (22, V.i (↑(List.length l) : Int)), (23, V.i (↑i : Int))]) (sl := [(2, Ob.box 88 [V.nil, V.nil]), (4, Ob.box 38 [V.own 14]), (5, Ob.box 128 [V.own 15]), (14, Ob.row 2 1 (List.length l) fun (v : Nat) => [V.i (if v < i then rimI b l v else (0 : Int))]), (15, Ob.row 132 5 (List.length l) fun (v : Nat) => [V.i (if v < i + 1 then (1 : Int) else (0 : Int)), V.i (if v < i + 1 then (↑v : Int) else (0 : Int)), V.i (if v < i + 1 then (-1 : Int) else (0 : Int)), V.i (if v < i + 1 then (↑v : Int) else (0 : Int)), V.i (if v < i + 1 then rimI b l v else (0 : Int))])]) [(2, 2), (4, 4), (5, 5), (14, 14), (15, 15)] (.cons kR (.cons kR (.cons kR (.cons kR (.cons kR (.cons kR (.cons kR (.cons kR .nil)))))))) (.cons ⟨Ob.box 88 [V.nil, V.nil], kR, .box kR⟩ (.cons ⟨Ob.box 38 [V.own 14], kR, .box kR⟩ (.cons ⟨Ob.box 128 [V.own 15], kR, .box kR⟩ (.cons ⟨Ob.row 2 1 (List.length l) fun (v : Nat) => [V.i (if v < i then rimI b l v else (0 : Int))], kR, .row kR (fun _ _ => rfl)⟩ (.cons ⟨Ob.row 132 5 (List.length l) fun (j : Nat) => if j = i then [V.i 1, V.i (↑i : Int), V.i (-1), V.i (↑i : Int), V.i (rimI b l i)] else [V.i (if j < i then (1 : Int) else (0 : Int)), V.i (if j < i then (↑j : Int) else (0 : Int)), V.i (if j < i then (-1 : Int) else (0 : Int)), V.i (if j < i then (↑j : Int) else (0 : Int)), V.i (if j < i then rimI b l j else (0 : Int))], kR, .row kR ?_⟩ .nil))))) kR kR
   intro j hj
   show _ = [V.i (if j < i + 1 then 1 else 0), V.i (if j < i + 1 then (j : Int) else 0), V.i (if j < i + 1 then -1 else 0), V.i (if j < i + 1 then (j : Int) else 0), V.i (if j < i + 1 then rimI b l j else 0)]
   by_cases h3 : j = i
   ·
    subst h3
    simp
   ·
    simp only [if_neg h3, show j < i + 1 ↔ j < i by omega]
  refine wD 2 ?_; refine aX hTT 9 [(0, .c qTL50), (2, .c qTL50), (4, .c ((0 : Int) ≤ (↑i : Int) ∧ (↑i : Int) < (↑(List.length l) : Int))), (6, .c (i < List.length l ∧ (4 : Nat) ≤ (5 : Nat))), (7, .c ((0 : Int) ≤ (↑i : Int) ∧ (↑i : Int) < (↑(List.length l) : Int))), (8, .r (pw (i < List.length l ∧ (0 : Nat) + (1 : Nat) ≤ (1 : Nat)) (14 : Nat) (Ob.row 2 1 (List.length l) fun (j : Nat) => if j = i then [V.i (if i < i + 1 then rimI b l i else (0 : Int))] else [V.i (if j < i then rimI b l j else (0 : Int))])))] ⟨qTL50_, qTL50_, oM, oM, oM, oM, tI⟩ ?_; refine aops_nil ⟨kR, ?_⟩; refine xb_n ?_; refine xt_n (hK _ ?_); clear hK K; refine wR 3 ?_; refine aX hTT 2 [(0, .i ((↑i : Int) + 1))] ⟨oM, tI⟩ ?_; refine aops_nil ?_; refine xt_n ?_
  refine ⟨i + 1, by omega, ?_, by omega⟩
  refine le_ren (tl := [(yyTL52 b l), (2, V.ref 2 0), (3, V.i (↑(List.length l) : Int)), (4, V.ref 4 0), (5, V.ref 5 0), (22, V.i (↑(List.length l) : Int)), (23, V.i (↑(i + 1) : Int))]) (sl := [(2, Ob.box 88 [V.nil, V.nil]), (4, Ob.box 38 [V.own 14]), (5, Ob.box 128 [V.own 15]), (14, Ob.row 2 1 (List.length l) fun (v : Nat) => [V.i (if v < i + 1 then rimI b l v else (0 : Int))]), (15, Ob.row 132 5 (List.length l) fun (v : Nat) => [V.i (if v < i + 1 then (1 : Int) else (0 : Int)), V.i (if v < i + 1 then (↑v : Int) else (0 : Int)), V.i (if v < i + 1 then (-1 : Int) else (0 : Int)), V.i (if v < i + 1 then (↑v : Int) else (0 : Int)), V.i (if v < i + 1 then rimI b l v else (0 : Int))])]) [(2, 2), (4, 4), (5, 5), (14, 14), (15, 15)] (.cons kR (.cons kR (.cons kR (.cons kR (.cons kR (.cons kR (.cons kR .nil))))))) (.cons ⟨Ob.box 88 [V.nil, V.nil], kR, .box kR⟩ (.cons ⟨Ob.box 38 [V.own 14], kR, .box kR⟩ (.cons ⟨Ob.box 128 [V.own 15], kR, .box kR⟩ (.cons ⟨Ob.row 2 1 (List.length l) fun (j : Nat) => if j = i then [V.i (if i < i + 1 then rimI b l i else (0 : Int))] else [V.i (if j < i then rimI b l j else (0 : Int))], kR, .row kR ?_⟩ (.cons ⟨Ob.row 132 5 (List.length l) fun (v : Nat) => [V.i (if v < i + 1 then (1 : Int) else (0 : Int)), V.i (if v < i + 1 then (↑v : Int) else (0 : Int)), V.i (if v < i + 1 then (-1 : Int) else (0 : Int)), V.i (if v < i + 1 then (↑v : Int) else (0 : Int)), V.i (if v < i + 1 then rimI b l v else (0 : Int))], kR, .row kR (fun _ _ => rfl)⟩ .nil))))) kR kR
  intro j hj
  show _ = [V.i (if j < i + 1 then rimI b l j else 0)]
  by_cases h3 : j = i
  ·
   subst h3
   simp
  ·
   simp only [if_neg h3, show j < i + 1 ↔ j < i by omega]
 ·
  have h1 : i = l.length := by simp at c1; omega
  refine aw_exit ?_
  refine xt_x ?_; refine xt_x ?_
  refine xb_same ?_
  refine xt_n ?_; clear hK K; refine hK _ ?_; clear hK K; refine sK fun K hK => ?_; refine sK fun K hK => wR 3 ?_; refine aX hTT 1 [] tI ?_; refine nK hK ?_; clear hK K
  refine aw_block ?_
  refine w_loop (ι := Nat) (fun k => [(0, .ptr (sdC b l)), (2, .ref 2 0), (3, .i l.length), (4, .ref 4 0), (5, .ref 5 0), (7, .i k)]) (fun k => [(2, .box 88 [.nil, .nil]), (4, .box 38 [.own 14]), (5, .box 128 [.own 15]), (14, radO l.length (rnd b l k)), (15, lasO l.length (laE b l (rnd b l k)))]) (fun k => k ≤ KE) (fun k => KE - k) 0 (Nat.zero_le _) ?_ ?_
  ·
   refine le_ren (tl := [(yyTL52 b l), (2, V.ref 2 0), (3, V.i (↑(List.length l) : Int)), (4, V.ref 4 0), (5, V.ref 5 0), (7, V.i 0)]) (sl := [(2, Ob.box 88 [V.nil, V.nil]), (4, Ob.box 38 [V.own 14]), (5, Ob.box 128 [V.own 15]), (14, Ob.row 2 1 (List.length l) fun (v : Nat) => [V.i (BS.r (rnd b l (0 : Nat)) v)]), (15, Ob.row 132 5 (List.length l) fun (v : Nat) => [V.i (E5.r (laE b l (rnd b l (0 : Nat)) v)), V.i (E5.a (laE b l (rnd b l (0 : Nat)) v)), V.i (E5.f (laE b l (rnd b l (0 : Nat)) v)), V.i (E5.t (laE b l (rnd b l (0 : Nat)) v)), V.i (E5.w (laE b l (rnd b l (0 : Nat)) v))])]) [(2, 2), (4, 4), (5, 5), (14, 14), (15, 15)] (.cons kR (.cons kR (.cons kR (.cons kR (.cons kR (.cons kR .nil)))))) (.cons ⟨Ob.box 88 [V.nil, V.nil], kR, .box kR⟩ (.cons ⟨Ob.box 38 [V.own 14], kR, .box kR⟩ (.cons ⟨Ob.box 128 [V.own 15], kR, .box kR⟩ (.cons ⟨Ob.row 2 1 (List.length l) fun (v : Nat) => [V.i (if v < i then rimI b l v else (0 : Int))], kR, .row kR ?_⟩ (.cons ⟨Ob.row 132 5 (List.length l) fun (v : Nat) => [V.i (if v < i then (1 : Int) else (0 : Int)), V.i (if v < i then (↑v : Int) else (0 : Int)), V.i (if v < i then (-1 : Int) else (0 : Int)), V.i (if v < i then (↑v : Int) else (0 : Int)), V.i (if v < i then rimI b l v else (0 : Int))], kR, .row kR ?_⟩ .nil))))) kR kR
   ·
    intro j hj
    have e : j < i := by omega
    simp only [e, if_true]
    rfl
   ·
    intro j hj
    have e : j < i := by omega
    simp only [e, if_true]
    rfl
  intro k hk
  have hk2 := hE.k
  have hes := h.e1.1
  refine sK fun K hK => ?_
  refine aw_block ?_
  refine aw_scope ?_
  refine sK fun K hK => wR 2 ?_; refine aX hTT 2 [(0, .r (pn 8 (V.ref 100008 0) (100008 : Nat) (Ob.box 3 [V.i 0]))), (1, .r (pw ((0 : Nat) + (1 : Nat) ≤ (1 : Nat)) (100008 : Nat) (Ob.box 3 [V.i (-1)])))] ⟨oM, tI⟩ ?_; refine nK hK ?_; clear hK K; refine sK fun K hK => ?_
  refine aw_label ?_
  refine xt_n (hK _ ?_); clear hK K; refine sK fun K hK => ?_; refine sK fun K hK => wR 3 ?_; refine aX hTT 1 [] tI ?_
  refine eC (edges_ac b l) ?_
  refine nK hK ?_; clear hK K
  refine aw_block ?_
  refine w_rangeI (caps := [V.ptr [(yyTL53 b l)]]) hF hC ((edges_it b l h)) kR kR ?_ kR [500, 501, 502, 503, 504, 505] [(505, 2), (500, 4), (501, 5), (504, 100008), (502, 14), (503, 15)] [(0, .ptr (sdC b l)), (2, .ref 505 0), (3, .i l.length), (4, .ref 500 0), (5, .ref 501 0), (7, .i k), (8, .ref 504 0)] (fun _ => True) (fun j => [.box 38 [.own 502], .box 128 [.own 503], radO l.length (mid b l k j), lasO l.length (laE b l (mid b l k j)), .box 3 [.i (chI (mid b l k j))], .box 88 [.nil, .nil]]) (fun _ _ _ => False) ?_ kR kR kR (.cons kR (.cons kR (.cons kR (.cons kR (.cons kR (.cons kR (.cons kR .nil))))))) (.cons ⟨Ob.box 38 [V.own 14], kR, .box kR⟩ (.cons ⟨Ob.box 128 [V.own 15], kR, .box kR⟩ (.cons ⟨Ob.row 2 1 (List.length l) fun (v : Nat) => [V.i (BS.r (rnd b l k) v)], kR, .row kR (fun _ _ => rfl)⟩ (.cons ⟨Ob.row 132 5 (List.length l) fun (v : Nat) => [V.i (E5.r (laE b l (rnd b l k) v)), V.i (E5.a (laE b l (rnd b l k) v)), V.i (E5.f (laE b l (rnd b l k) v)), V.i (E5.t (laE b l (rnd b l k) v)), V.i (E5.w (laE b l (rnd b l k) v))], kR, .row kR (fun _ _ => rfl)⟩ (.cons ⟨Ob.box 3 [V.i (-1)], kR, .box kR⟩ (.cons ⟨Ob.box 88 [V.nil, V.nil], kR, .box kR⟩ .nil)))))) kR ?_ ?_ ?_ ?_ ?_
  ·
   intro x hx
   simp only [edgesV, List.mem_map] at hx
   obtain ⟨j, _, rfl⟩ := hx
   rfl
  ·
   trivial
  ·
   intro j o ho
   simp at ho
   rcases ho with rfl | rfl | rfl | rfl | rfl | rfl <;> first | rfl | exact fun _ _ => rfl
  ·
   intro k e sx hf
   exact hf.elim
  ·
   rintro C' ⟨lx, hF'⟩ j x hx _
   obtain ⟨e, he, rfl⟩ : ∃ e, (edgesL b l)[j]? = some e ∧ x = edV e := by
    simp only [edgesV, List.getElem?_map, Option.map_eq_some_iff] at hx
    obtain ⟨e, he, rfl⟩ := hx
    exact ⟨e, he, rfl⟩
   have hj : j < (edgesL b l).length := (List.getElem?_eq_some_iff.1 he).1
   have hm := List.mem_of_getElem? he
   obtain ⟨hf, ht⟩ := hes e hm
   have hw := h.w e hm
   have b1 := h.bd (k := k) (j := j) oM oM hf
   have b2 := h.bd (k := k) (j := j) oM oM ht
   have hs := mid_succ (k := k) he
   refine wR 2 ?_; refine aX hTT 2 [(0, .r (pn 9 (V.ref 100009 0) (100009 : Nat) (Ob.box 132 [V.i 0, V.i 0, V.i 0, V.i 0, V.i 0]))), (1, .r (pw ((0 : Nat) + (5 : Nat) ≤ (5 : Nat)) (100009 : Nat) (Ob.box 132 [V.i (BE.rule e), V.i (BE.at' e), V.i (↑(BE.f e) : Int), V.i (↑(BE.t e) : Int), V.i (BE.w e)])))] ⟨oM, tI⟩ ?_; refine aops_nil ?_; refine xt_n ?_
   refine aw_block ?_
   refine sK fun K hK => ?_; refine sK fun K hK => wD 3 ?_; refine aX hTT 14 [(0, .c qTL50), (2, .c ((2 : Nat) ≤ (5 : Nat))), (3, .c ((0 : Int) ≤ (↑(BE.f e) : Int) ∧ (↑(BE.f e) : Int) < (↑(List.length l) : Int))), (4, .c (BE.f e < List.length l ∧ (0 : Nat) ≤ (1 : Nat))), (6, .c ((4 : Nat) ≤ (5 : Nat))), (7, .i (BS.r (mid b l k j) (BE.f e) + BE.w e)), (8, .c qTL50), (10, .c qTL51), (11, .c ((0 : Int) ≤ (↑(BE.t e) : Int) ∧ (↑(BE.t e) : Int) < (↑(List.length l) : Int))), (12, .c (BE.t e < List.length l ∧ (0 : Nat) ≤ (1 : Nat)))] ⟨qTL50_, oM, oM, oM, oM, oM, qTL50_, qTL51_, oM, oM, tI⟩ ?_; refine aops_nil ⟨kR, ?_⟩; refine xt_n (hK _ ?_); clear hK K
   refine w_cond (t := decide (BS.r (mid b l k j) (BE.t e) ≤ BS.r (mid b l k j) (BE.f e) + BE.w e)) kR (fun c2 => ?_) (fun c2 => ?_)
   ·
    have c3 : ¬ (mid b l k j).r e.f + e.w < (mid b l k j).r e.t := by simp at c2; omega
    have hs2 : mid b l k (j + 1) = mid b l k j := by rw [hs, BS.step, if_neg c3]
    refine aw_exit ?_
    refine xt_x ?_
    refine xb_same ?_
    refine ⟨trivial, ?_⟩
    refine le_ren (sl := [(500, Ob.box 38 [V.own 502]), (501, Ob.box 128 [V.own 503]), (502, Ob.row 2 1 (List.length l) fun (v : Nat) => [V.i (BS.r (mid b l k (j + 1)) v)]), (503, Ob.row 132 5 (List.length l) fun (v : Nat) => [V.i (E5.r (laE b l (mid b l k (j + 1)) v)), V.i (E5.a (laE b l (mid b l k (j + 1)) v)), V.i (E5.f (laE b l (mid b l k (j + 1)) v)), V.i (E5.t (laE b l (mid b l k (j + 1)) v)), V.i (E5.w (laE b l (mid b l k (j + 1)) v))]), (504, Ob.box 3 [V.i (chI (mid b l k (j + 1)))]), (505, Ob.box 88 [V.nil, V.nil])]) [] .nil (.cons ⟨Ob.box 38 [V.own 502], kR, .box kR⟩ (.cons ⟨Ob.box 128 [V.own 503], kR, .box kR⟩ (.cons ⟨Ob.row 2 1 (List.length l) fun (v : Nat) => [V.i (BS.r (mid b l k j) v)], kR, .row kR ?_⟩ (.cons ⟨Ob.row 132 5 (List.length l) fun (v : Nat) => [V.i (E5.r (laE b l (mid b l k j) v)), V.i (E5.a (laE b l (mid b l k j) v)), V.i (E5.f (laE b l (mid b l k j) v)), V.i (E5.t (laE b l (mid b l k j) v)), V.i (E5.w (laE b l (mid b l k j) v))], kR, .row kR ?_⟩ (.cons ⟨Ob.box 3 [V.i (chI (mid b l k j))], kR, .box ?_⟩ (.cons ⟨Ob.box 88 [V.nil, V.nil], kR, .box kR⟩ .nil)))))) kR kR
    ·
     intro v hv
     show _ = [V.i ((mid b l k (j + 1)).r v)]
     rw [hs2]
    ·
     intro v hv
     show _ = [V.i (laE b l (mid b l k (j + 1)) v).r, V.i (laE b l (mid b l k (j + 1)) v).a, V.i (laE b l (mid b l k (j + 1)) v).f, V.i (laE b l (mid b l k (j + 1)) v).t, V.i (laE b l (mid b l k (j + 1)) v).w]
     rw [hs2]
    ·
     show _ = [V.i (chI (mid b l k (j + 1)))]
     rw [hs2]
   ·
    have c3 : (mid b l k j).r e.f + e.w < (mid b l k j).r e.t := by simp at c2; omega
    have hr : ∀ v, (mid b l k (j + 1)).r v = if v = e.t then (mid b l k j).r e.f + e.w else (mid b l k j).r v := fun v => by
     rw [hs, BS.step, if_pos c3]
     by_cases h3 : v = e.t
     ·
      rw [if_pos h3, h3]; simp only [upd_same]
     ·
      rw [if_neg h3]; simp only [upd_ne _ _ h3]
    have hla : ∀ v, laE b l (mid b l k (j + 1)) v = if v = e.t then E5.of e else laE b l (mid b l k j) v := fun v => by
     rw [hs, BS.step, if_pos c3]
     by_cases h3 : v = e.t
     ·
      rw [if_pos h3, h3]; simp only [laE, upd_same]
     ·
      rw [if_neg h3]; simp only [laE, upd_ne _ _ h3]
    have hch : chI (mid b l k (j + 1)) = e.t := by rw [hs, BS.step, if_pos c3]; rfl
    refine aw_skip ?_
    refine xt_n (hK _ ?_); clear hK K; refine wD 4 ?_; refine aX hTT 22 [(0, .c qTL50), (2, .c qTL51), (3, .c qTL50), (5, .c qTL51), (6, .c qTL50), (8, .c ((2 : Nat) ≤ (5 : Nat))), (9, .c ((0 : Int) ≤ (↑(BE.f e) : Int) ∧ (↑(BE.f e) : Int) < (↑(List.length l) : Int))), (10, .c (BE.f e < List.length l ∧ (0 : Nat) ≤ (1 : Nat))), (12, .c ((4 : Nat) ≤ (5 : Nat))), (13, .i (BS.r (mid b l k j) (BE.f e) + BE.w e)), (14, .c ((0 : Nat) ≤ (5 : Nat))), (16, .c qTL51), (17, .c ((0 : Int) ≤ (↑(BE.t e) : Int) ∧ (↑(BE.t e) : Int) < (↑(List.length l) : Int))), (18, .r (pw (BE.t e < List.length l ∧ (0 : Nat) + (1 : Nat) ≤ (1 : Nat)) (502 : Nat) (Ob.row 2 1 (List.length l) fun (j_1 : Nat) => if j_1 = BE.t e then [V.i (BS.r (mid b l k j) (BE.f e) + BE.w e)] else [V.i (BS.r (mid b l k j) j_1)]))), (19, .c ((0 : Int) ≤ (↑(BE.t e) : Int) ∧ (↑(BE.t e) : Int) < (↑(List.length l) : Int))), (20, .r (pw (BE.t e < List.length l ∧ (0 : Nat) + (5 : Nat) ≤ (5 : Nat)) (503 : Nat) (Ob.row 132 5 (List.length l) fun (j_1 : Nat) => if j_1 = BE.t e then [V.i (BE.rule e), V.i (BE.at' e), V.i (↑(BE.f e) : Int), V.i (↑(BE.t e) : Int), V.i (BE.w e)] else [V.i (E5.r (laE b l (mid b l k j) j_1)), V.i (E5.a (laE b l (mid b l k j) j_1)), V.i (E5.f (laE b l (mid b l k j) j_1)), V.i (E5.t (laE b l (mid b l k j) j_1)), V.i (E5.w (laE b l (mid b l k j) j_1))]))), (21, .r (pw ((0 : Nat) + (1 : Nat) ≤ (1 : Nat)) (504 : Nat) (Ob.box 3 [V.i (↑(BE.t e) : Int)])))] ⟨qTL50_, qTL51_, qTL50_, qTL51_, qTL50_, oM, oM, oM, oM, oM, oM, qTL51_, oM, oM, oM, oM, oM, tI⟩ ?_; refine aops_nil ⟨kR, ?_⟩; refine xb_n ?_
    refine ⟨trivial, ?_⟩
    refine le_ren (sl := [(500, Ob.box 38 [V.own 502]), (501, Ob.box 128 [V.own 503]), (502, Ob.row 2 1 (List.length l) fun (v : Nat) => [V.i (BS.r (mid b l k (j + 1)) v)]), (503, Ob.row 132 5 (List.length l) fun (v : Nat) => [V.i (E5.r (laE b l (mid b l k (j + 1)) v)), V.i (E5.a (laE b l (mid b l k (j + 1)) v)), V.i (E5.f (laE b l (mid b l k (j + 1)) v)), V.i (E5.t (laE b l (mid b l k (j + 1)) v)), V.i (E5.w (laE b l (mid b l k (j + 1)) v))]), (504, Ob.box 3 [V.i (chI (mid b l k (j + 1)))]), (505, Ob.box 88 [V.nil, V.nil])]) [] .nil (.cons ⟨Ob.box 38 [V.own 502], kR, .box kR⟩ (.cons ⟨Ob.box 128 [V.own 503], kR, .box kR⟩ (.cons ⟨Ob.row 2 1 (List.length l) fun (j_1 : Nat) => if j_1 = BE.t e then [V.i (BS.r (mid b l k j) (BE.f e) + BE.w e)] else [V.i (BS.r (mid b l k j) j_1)], kR, .row kR ?_⟩ (.cons ⟨Ob.row 132 5 (List.length l) fun (j_1 : Nat) => if j_1 = BE.t e then [V.i (BE.rule e), V.i (BE.at' e), V.i (↑(BE.f e) : Int), V.i (↑(BE.t e) : Int), V.i (BE.w e)] else [V.i (E5.r (laE b l (mid b l k j) j_1)), V.i (E5.a (laE b l (mid b l k j) j_1)), V.i (E5.f (laE b l (mid b l k j) j_1)), V.i (E5.t (laE b l (mid b l k j) j_1)), V.i (E5.w (laE b l (mid b l k j) j_1))], kR, .row kR ?_⟩ (.cons ⟨Ob.box 3 [V.i (↑(BE.t e) : Int)], kR, .box ?_⟩ (.cons ⟨Ob.box 88 [V.nil, V.nil], kR, .box kR⟩ .nil)))))) kR kR
    ·
     intro v hv
     show _ = [V.i ((mid b l k (j + 1)).r v)]
     rw [hr]
     by_cases h3 : v = e.t
     ·
      rw [if_pos h3, if_pos h3]
     ·
      rw [if_neg h3, if_neg h3]
    ·
     intro v hv
     show _ = [V.i (laE b l (mid b l k (j + 1)) v).r, V.i (laE b l (mid b l k (j + 1)) v).a, V.i (laE b l (mid b l k (j + 1)) v).f, V.i (laE b l (mid b l k (j + 1)) v).t, V.i (laE b l (mid b l k (j + 1)) v).w]
     rw [hla]
     by_cases h3 : v = e.t
     ·
      rw [if_pos h3, if_pos h3]
      rfl
     ·
      rw [if_neg h3, if_neg h3]
    ·
     show _ = [V.i (chI (mid b l k (j + 1)))]
     rw [hch]
  ·
   intro _
   rw [show (edgesV b l).length = (edgesL b l).length by simp [edgesV], mid_end]
   refine xb_n ?_; refine xt_n (hK _ ?_); clear hK K; refine sK fun K hK => ?_; refine sK fun K hK => wR 2 ?_; refine aX hTT 2 [(0, .c qTL50)] ⟨qTL50_, tI⟩ ?_; refine nK hK ?_; clear hK K
   refine w_cond (t := decide (chI (rnd b l (k + 1)) = (-1 : Int))) kR (fun c3 => ?_) (fun c3 => ?_)
   ·
    have hno : (rnd b l (k + 1)).ch = none := chI_none.1 (by simpa using c3)
    have hkE : k = KE := Classical.byContradiction fun hc => hE.go k oM hno
    rw [hkE] at hno ⊢
    have hout := hE.out
    refine aw_exit ?_
    refine xt_x ?_
    refine xs_x ?_
    refine xb_ne rfl ?_
    refine xt_x ?_; refine xt_x ?_
    refine xb_same ?_
    refine xt_n ?_; clear hK K; clear hK K; refine hK _ ?_; clear hK K; refine sK fun K hK => ?_; refine sK fun K hK => wR 3 ?_; refine aX hTT 2 [] tI ?_; refine nK hK ?_; clear hK K
    refine aw_block ?_
    refine w_loop (ι := Nat) (fun i => [(0, .ptr (sdC b l)), (2, .ref 2 0), (4, .ref 4 0), (5, .ref 5 0), (91, .i l.length), (92, .i i)]) (fun i => [(2, .box 88 [.nil, .nil]), (4, .box 38 [.own 14]), (5, .box 128 [.own 15]), (14, radO l.length (rnd b l (KE + 1))), (15, lasO l.length (laE b l (rnd b l (KE + 1))))]) (fun i => i ≤ l.length ∧ ∀ j, j < i → corB b l (rnd b l (KE + 1)) j) (fun i => l.length - i) 0 ⟨Nat.zero_le _, fun j hj => by omega⟩ ?_ ?_
    ·
     refine le_ren (sl := [(2, Ob.box 88 [V.nil, V.nil]), (4, Ob.box 38 [V.own 14]), (5, Ob.box 128 [V.own 15]), (14, (yyTL56 b l KE)), (yyTL50 b l KE)]) [(2, 505), (4, 500), (5, 501), (14, 502), (15, 503)] (.cons kR (.cons kR (.cons kR (.cons kR (.cons kR (.cons kR .nil)))))) (.cons ⟨Ob.box 88 [V.nil, V.nil], kR, .box kR⟩ (.cons ⟨Ob.box 38 [V.own 502], kR, .box kR⟩ (.cons ⟨Ob.box 128 [V.own 503], kR, .box kR⟩ (.cons ⟨(yyTL56 b l KE), kR, .row kR (fun _ _ => rfl)⟩ (.cons ⟨(yyTL51 b l KE), kR, .row kR (fun _ _ => rfl)⟩ .nil))))) kR kR
    rintro m ⟨hm, hcor⟩
    refine sK fun K hK => wR 2 ?_; refine aX hTT 1 [] tI ?_; refine nK hK ?_; clear hK K; refine sK fun K hK => ?_
    refine w_cond (t := decide ((↑m : Int) < (↑(List.length l) : Int))) kR (fun c5 => ?_) (fun c5 => ?_)
    ·
     have hm1 : m < l.length := by simpa using c5
     obtain ⟨⟨p1, p2⟩, p3, p4⟩ := h.pt m hm1
     obtain ⟨q1, q2, ⟨q3, q4⟩, q5⟩ := h.bl
     have b1 := h.bd (k := KE) (j := (edgesL b l).length) oM (Nat.le_refl _) hm1
     rw [mid_end] at b1
     refine aw_skip ?_
     refine xt_n (hK _ ?_); clear hK K; refine sK fun K hK => ?_
     refine aw_block ?_
     refine sK fun K hK => wR 3 ?_; refine aX hTT 2 [] tI ?_; refine nK hK ?_; clear hK K; refine sK fun K hK => wR 4 ?_; refine aX hTT 2 [] tI ?_
     refine eC (edge2_ac b l h m hm1) ?_
     refine aX hTT 6 [(3, .r (pn 11 (V.ref 300011 0) (300011 : Nat) (Ob.box 132 [V.i 0, V.i 0, V.i 0, V.i 0, V.i 0]))), (4, .r (pw ((0 : Nat) + (5 : Nat) ≤ (5 : Nat)) (300011 : Nat) (Ob.box 132 [V.i 2, V.i (↑m : Int), V.i (↑m : Int), V.i (-1), V.i (Prod.fst (gp l m) - Bl.core b)])))] ⟨oM, tI⟩ ?_; refine nK hK ?_; clear hK K; refine sK fun K hK => wD 5 ?_; refine aX hTT 8 [(0, .c qTL50), (2, .c ((0 : Int) ≤ (↑m : Int) ∧ (↑m : Int) < (↑(List.length l) : Int))), (3, .c (m < List.length l ∧ (0 : Nat) ≤ (1 : Nat))), (5, .c ((4 : Nat) ≤ (5 : Nat))), (6, .i (BS.r (rnd b l (KE + 1)) m + (Prod.fst (gp l m) - Bl.core b)))] ⟨qTL50_, oM, oM, oM, oM, tI⟩ ?_; refine aops_nil ⟨kR, ?_⟩; refine xt_n (hK _ ?_); clear hK K
     refine w_cond (t := decide (BS.r (rnd b l (KE + 1)) m + (Prod.fst (gp l m) - Bl.core b) < 0)) kR (fun c6 => ?_) (fun c6 => ?_)
     ·
      have hbad : ¬ corB b l (rnd b l (KE + 1)) m := by simp at c6; unfold corB; omega
      rcases hout with ⟨_, q, _⟩ | ⟨i0, T, _, u1, u2, u3, u4, u5, u6, rfl, rfl⟩ | ⟨_, _, _, q, _⟩
      ·
       exact absurd (q m hm1) hbad
      ·
       have hmi : m = i0 := by
        rcases Nat.lt_trichotomy m i0 with hc | hc | hc
        ·
         exact absurd (u2 m hc) hbad
        ·
         exact hc
        ·
         exact absurd (hcor i0 hc) u3
       rw [hmi]
       refine sK fun K hK => wR 6 ?_; refine aX hTT 2 [(0, .c qTL50), (1, .c ((0 : Nat) ≤ (5 : Nat)))] ⟨qTL50_, oM, tI⟩ ?_
       refine aops_callM [15] (first := []) (caps := []) (ins' := [(yyTL51 b l KE)]) (v' := V.own 500111) (δ := [(15, Option.none), (500111, Option.some (Ob.row 130 2 (T + 1) fun (i : Nat) => V.renL (nameG (5 : Nat) (some 111) [(15 : Nat)]) [V.i (E5.r (wayX (laE b l (rnd b l (KE + 1))) (corX b l i0) (T - i))), V.i (E5.a (wayX (laE b l (rnd b l (KE + 1))) (corX b l i0) (T - i)))]))]) (kp := [15]) (way_am l.length (laE b l (rnd b l (KE + 1))) (corX b l i0) T u5 u6 hl u4) kR kR kR kR kR kR rfl rfl kR (.row kR (fun _ _ => rfl) (fun _ _ => rfl) .nil) kR kR kR ?_
       refine aX hTT 2 [(1, .r (pw ((0 : Nat) + (2 : Nat) ≤ (2 : Nat)) (2 : Nat) (Ob.box 88 [V.nil, V.own 500111])))] ⟨oM, tI⟩ ?_; refine nK hK ?_; clear hK K
       refine aw_ret ?_
       refine xb_r ?_
       refine xt_r ?_; refine xt_r ?_
       refine xb_r ?_
       refine xt_r ?_
       refine ret_of_M ?_
       refine retMx (v' := V.agg [V.nil, V.own 0]) [(0, 500111), (100, 2)] [(2, V.ref 100 0)] [(100, Ob.box 88 [V.nil, V.own 0])] (.inr rfl) (.cons kR .nil) (.cons ⟨Ob.row 130 2 (T + 1) fun (i : Nat) => V.renL (nameG (5 : Nat) (some (111 : Tmp)) [(15 : Nat)]) [V.i (E5.r (wayX (laE b l (rnd b l (KE + 1))) (corX b l i0) (T - i))), V.i (E5.a (wayX (laE b l (rnd b l (KE + 1))) (corX b l i0) (T - i)))], kR, .row kR (fun _ _ => rfl)⟩ (.cons ⟨Ob.box 88 [V.nil, V.own 500111], kR, .box kR⟩ .nil)) kR kR kR kR kR kR kR
      ·
       rw [hno] at q; cases q
     ·
      have hgood : corB b l (rnd b l (KE + 1)) m := by simp at c6; unfold corB; omega
      refine aw_skip ?_
      refine xb_n ?_; refine xt_n (hK _ ?_); clear hK K; refine wR 6 ?_; refine aX hTT 2 [(0, .i ((↑m : Int) + 1))] ⟨oM, tI⟩ ?_; refine aops_nil ?_; refine xt_n ?_
      refine ⟨m + 1, ⟨by omega, fun j hj => ?_⟩, ?_, by omega⟩
      ·
       by_cases hc : j = m
       ·
        rw [hc]; exact hgood
       ·
        exact hcor j oM
      refine le_ren (sl := [(2, Ob.box 88 [V.nil, V.nil]), (4, Ob.box 38 [V.own 14]), (5, Ob.box 128 [V.own 15]), (14, (yyTL56 b l KE)), (yyTL50 b l KE)]) [(2, 2), (4, 4), (5, 5), (14, 14), (15, 15)] (.cons kR (.cons kR (.cons kR (.cons kR (.cons kR (.cons kR .nil)))))) (.cons ⟨Ob.box 88 [V.nil, V.nil], kR, .box kR⟩ (.cons ⟨Ob.box 38 [V.own 14], kR, .box kR⟩ (.cons ⟨Ob.box 128 [V.own 15], kR, .box kR⟩ (.cons ⟨(yyTL56 b l KE), kR, .row kR (fun _ _ => rfl)⟩ (.cons ⟨(yyTL51 b l KE), kR, .row kR (fun _ _ => rfl)⟩ .nil))))) kR kR
    ·
     have hm1 : m = l.length := by simp at c5; omega
     rcases hout with ⟨_, _, rfl, rfl⟩ | ⟨i0, T, _, u1, u2, u3, _⟩ | ⟨_, _, _, q, _⟩
     ·
      refine aw_exit ?_
      refine xt_x ?_; refine xt_x ?_
      refine xb_same ?_
      refine xt_n ?_; clear hK K; refine hK _ ?_; clear hK K; refine sK fun K hK => wR 3 ?_; refine aX hTT 3 [(0, .c qTL50), (2, .r (pw ((0 : Nat) + (2 : Nat) ≤ (2 : Nat)) (2 : Nat) (Ob.box 88 [V.own 14, V.nil])))] ⟨qTL50_, oM, tI⟩ ?_; refine nK hK ?_; clear hK K
      refine aw_ret ?_
      refine ret_of_M ?_
      refine retMx (v' := V.agg [V.own 0, V.nil]) [(0, 14), (100, 2)] [(2, V.ref 100 0)] [(100, Ob.box 88 [V.own 0, V.nil])] (.inr rfl) (.cons kR .nil) (.cons ⟨(yyTL56 b l KE), kR, .row kR (fun _ _ => rfl)⟩ (.cons ⟨Ob.box 88 [V.own 14, V.nil], kR, .box kR⟩ .nil)) kR kR kR kR kR kR kR
     ·
      exact absurd (hcor i0 oM) u3
     ·
      rw [hno] at q; cases q
   ·
    have hno : (rnd b l (k + 1)).ch ≠ none := fun hc => by
     rw [chI_none.2 hc] at c3
     simp at c3
    have hcase : k = KE ∧ KE = l.length + 1 ∨ k < KE := by
     by_cases hc : k = KE
     ·
      subst hc
      rcases hE.out with ⟨q, _⟩ | ⟨_, _, q, _⟩ | ⟨_, _, q, _⟩
      ·
       exact absurd q hno
      ·
       exact absurd q hno
      ·
       exact .inl ⟨rfl, q⟩
     ·
      exact .inr oM
    refine aw_skip ?_
    refine xt_n (hK _ ?_); clear hK K; refine sK fun K hK => wR 3 ?_; refine aX hTT 3 [] tI ?_; refine nK hK ?_; clear hK K
    refine w_cond (t := decide ((↑(List.length l) : Int) < (↑k : Int))) kR (fun c4 => ?_) (fun c4 => ?_)
    ·
     simp at c4
     have hkE : k = KE := by omega
     rcases hE.out with ⟨q, _⟩ | ⟨_, _, q, _⟩ | ⟨x, p, q1, q2, q3, q4, rfl, rfl⟩
     ·
      rw [hkE] at hno; exact absurd q hno
     ·
      rw [hkE] at hno; exact absurd q hno
     rw [hkE]
     have hci : chI (rnd b l (KE + 1)) = ((rnd b l (KE + 1)).ups x 0 : Nat) := by rw [chI, q2]; rfl
     rw [hci]
     refine sK fun K hK => wR 4 ?_; refine aX hTT 2 [(0, .c qTL50), (1, .c qTL50)] ⟨qTL50_, qTL50_, tI⟩ ?_
     refine aops_callM [503] (first := []) (caps := []) (ins' := [(yyTL51 b l KE)]) (v' := V.own 300089) (δ := [(503, Option.none), (300089, Option.some (Ob.row 130 2 p fun (i : Nat) => V.renL (nameG (3 : Nat) (some 89) [(503 : Nat)]) [V.i (E5.r (laE b l (rnd b l (KE + 1)) (BS.ups (rnd b l (KE + 1)) x (List.length l + (p - 1 - i))))), V.i (E5.a (laE b l (rnd b l (KE + 1)) (BS.ups (rnd b l (KE + 1)) x (List.length l + (p - 1 - i)))))]))]) (kp := [503]) (circle_am l.length (laE b l (rnd b l (KE + 1))) ((rnd b l (KE + 1)).ups x) p q3 q4 hl) kR kR kR kR kR kR rfl rfl kR (.row kR (fun _ _ => rfl) (fun _ _ => rfl) .nil) kR kR kR ?_
     refine aX hTT 2 [(1, .r (pw ((0 : Nat) + (2 : Nat) ≤ (2 : Nat)) (505 : Nat) (Ob.box 88 [V.nil, V.own 300089])))] ⟨oM, tI⟩ ?_; refine nK hK ?_; clear hK K
     refine aw_ret ?_
     refine xs_r ?_
     refine xb_r ?_
     refine xt_r ?_; refine xt_r ?_
     refine xb_r ?_
     refine xt_r ?_
     refine ret_of_M ?_
     refine retMx (v' := V.agg [V.nil, V.own 0]) [(0, 300089), (100, 505)] [(2, V.ref 100 0)] [(100, Ob.box 88 [V.nil, V.own 0])] (.inr rfl) (.cons kR .nil) (.cons ⟨Ob.row 130 2 p fun (i : Nat) => V.renL (nameG (3 : Nat) (some (89 : Tmp)) [(503 : Nat)]) [V.i (E5.r (laE b l (rnd b l (KE + 1)) (BS.ups (rnd b l (KE + 1)) x (List.length l + (p - 1 - i))))), V.i (E5.a (laE b l (rnd b l (KE + 1)) (BS.ups (rnd b l (KE + 1)) x (List.length l + (p - 1 - i)))))], kR, .row kR (fun _ _ => rfl)⟩ (.cons ⟨Ob.box 88 [V.nil, V.own 300089], kR, .box kR⟩ .nil)) kR kR kR kR kR kR kR
    ·
     simp at c4
     refine aw_skip ?_
     refine xs_n ?_
     refine xb_n ?_; refine xt_n (hK _ ?_); clear hK K; refine wR 4 ?_; refine aX hTT 3 [(1, .i ((↑k : Int) + 1))] ⟨oM, tI⟩ ?_; refine aops_nil ?_; refine xt_n ?_
     refine ⟨k + 1, by omega, ?_, by omega⟩
     refine le_ren (sl := [(2, Ob.box 88 [V.nil, V.nil]), (4, Ob.box 38 [V.own 14]), (5, Ob.box 128 [V.own 15]), (14, Ob.row 2 1 (List.length l) fun (v : Nat) => [V.i (BS.r (rnd b l (k + 1)) v)]), (15, Ob.row 132 5 (List.length l) fun (v : Nat) => [V.i (E5.r (laE b l (rnd b l (k + 1)) v)), V.i (E5.a (laE b l (rnd b l (k + 1)) v)), V.i (E5.f (laE b l (rnd b l (k + 1)) v)), V.i (E5.t (laE b l (rnd b l (k + 1)) v)), V.i (E5.w (laE b l (rnd b l (k + 1)) v))])]) [(2, 505), (4, 500), (5, 501), (14, 502), (15, 503)] (.cons kR (.cons kR (.cons kR (.cons kR (.cons kR (.cons kR .nil)))))) (.cons ⟨Ob.box 88 [V.nil, V.nil], kR, .box kR⟩ (.cons ⟨Ob.box 38 [V.own 502], kR, .box kR⟩ (.cons ⟨Ob.box 128 [V.own 503], kR, .box kR⟩ (.cons ⟨Ob.row 2 1 (List.length l) fun (v : Nat) => [V.i (BS.r (rnd b l (k + 1)) v)], kR, .row kR (fun _ _ => rfl)⟩ (.cons ⟨Ob.row 132 5 (List.length l) fun (v : Nat) => [V.i (E5.r (laE b l (rnd b l (k + 1)) v)), V.i (E5.a (laE b l (rnd b l (k + 1)) v)), V.i (E5.f (laE b l (rnd b l (k + 1)) v)), V.i (E5.t (laE b l (rnd b l (k + 1)) v)), V.i (E5.w (laE b l (rnd b l (k + 1)) v))], kR, .row kR (fun _ _ => rfl)⟩ .nil))))) kR kR
  ·
   intro k e sx _ hf
   exact hf.elim
end Go.Proofs.YtpmchnojeloohaaGreatDoor

namespace Go.Proofs.YtpmchnojeloohaaGreatDoor
open Go.Ab Go.RowKit Go.Dw Go.Shelf
section
variable {b : Bl} {l : List Pt}
theorem SOk.fix (h : SOk b l) {k : Nat} (hk : (rnd b l (k + 1)).ch = none) : LSol b l (rnd b l (k + 1)).r ∧ ∀ g, LSol b l g → ∀ v, v < l.length → g v ≤ (rnd b l (k + 1)).r v := by
 have e : (rnd b l (k + 1)).r = (rnd b l k).r := by
  have := (pass_none (s := BS.rounds (edgesL b l) (rimI b l) k) (k := (k : Int)) hk).1
  show ((BS.rounds (edgesL b l) (rimI b l) k).pass k (edgesL b l)).r = _
  rw [this]; rfl
 rw [e]
 exact ⟨sol_iff.1 (fix_sol h.e1.1 h.e1.2 hk), fun g hg v hv => (binv_rounds (i := rimI b l) h.e1.1 h.e1.2 k).sol g (sol_iff.2 hg) v hv⟩
theorem first_none (hx : ∃ k, (rnd b l (k + 1)).ch = none) : ∃ k, (rnd b l (k + 1)).ch = none ∧ ∀ k', k' < k → (rnd b l (k' + 1)).ch ≠ none := by
 obtain ⟨k, h1, h2⟩ := least (fun k => (rnd b l (k + 1)).ch = none) hx
 exact ⟨k, h1, fun k' hk he => by have := h2 k' he; omega⟩
theorem search_ok (h : SOk b l) {o : List Int} (ho : LOut b l o) : AC Tryz.prog 29 [.ptr (sdC b l)] (.agg [V.ints o, .nil]) [] := by
 have he := rounds_end h.e1.1 h.e1.2 ⟨_, sol_iff.2 ho.2.1.1⟩ (Nat.le_refl l.length)
 obtain ⟨K, h1, h2⟩ := first_none (b := b) (l := l) ⟨l.length, he⟩
 have hK : K ≤ l.length := Classical.byContradiction fun hc => h2 l.length oM he
 obtain ⟨f1, f2⟩ := h.fix h1
 have eq : ∀ v, v < l.length → (rnd b l (K + 1)).r v = gi o v := fun v hv => Int.le_antisymm (ho.2.2 _ f1 v hv) (f2 _ ho.2.1.1 v hv)
 have A := search_ac b l h (v := .agg [.own 0, .nil]) (obs := [.row 2 1 l.length fun i => [.i ((rnd b l (K + 1)).r i)]]) ⟨by omega, h2, .inl ⟨h1, fun i hi => by
  have := ho.2.1.2 i hi
  unfold corB
  rw [eq i hi]; omega, rfl, rfl⟩⟩
 exact A.shut1 (n' := o.length) (row' := fun k => [.i (gi o k)]) ho.1.symm (fun i hi => by rw [eq i hi]) (fun _ => rfl) rfl rfl
theorem search_no (h : SOk b l) (hno : ¬ ∃ o, LOut b l o) : ∃ (m : Nat) (A B : Nat → Int), 0 < m ∧ AC Tryz.prog 29 [.ptr (sdC b l)] (.agg [.nil, .sl 2 m fun j => [.i (A j), .i (B j)]]) [] := by
 by_cases hx : ∃ k, k ≤ l.length + 1 ∧ (rnd b l (k + 1)).ch = none
 ·
  obtain ⟨k0, hk0, hk1⟩ := hx
  obtain ⟨K, h1, h2⟩ := first_none (b := b) (l := l) ⟨k0, hk1⟩
  have hK : K ≤ k0 := Classical.byContradiction fun hc => h2 k0 oM hk1
  obtain ⟨f1, f2⟩ := h.fix h1
  have hbad : ∃ i, i < l.length ∧ ¬ corB b l (rnd b l (K + 1)) i := Classical.byContradiction fun hc => hno (lout_of h.bl.1.1 ⟨f1, fun v hv => by
   have : corB b l (rnd b l (K + 1)) v := Classical.byContradiction fun hb => hc ⟨v, hv, hb⟩
   unfold corB at this
   omega⟩)
  obtain ⟨i, ⟨hi, hb⟩, hmin⟩ := least (fun i => i < l.length ∧ ¬ corB b l (rnd b l (K + 1)) i) hbad
  have hinv := h.inv K (Nat.le_refl (edgesL b l).length)
  rw [mid_end] at hinv
  have hpn := pass_none (s := BS.rounds (edgesL b l) (rimI b l) K) (k := (K : Int)) h1
  have hs : ∀ e ∈ edgesL b l, (rnd b l (K + 1)).r e.t ≤ (rnd b l (K + 1)).r e.f + e.w := by
   have e : (rnd b l (K + 1)).r = (rnd b l K).r := by
    show ((BS.rounds (edgesL b l) (rimI b l) K).pass K (edgesL b l)).r = _
    rw [hpn.1]; rfl
   rw [e]
   exact hpn.2
  obtain ⟨T, t1, t2, t3⟩ := way_ends (x := corX b l i) (v := i) h.e1.1 hinv hs hi rfl
  have hclk := hinv.clk i
  have hc2 := rounds_clk (edgesL b l) (rimI b l) (K + 1)
  have hT : T ≤ 1099511627775 := by
   have h4 := edgesL_len (b := b) (l := l)
   have h5 := h.len
   have h6 : (K + 1) * (edgesL b l).length ≤ 4099 * 12288 := Nat.mul_le_mul oM oM
   have h7 : (rnd b l (K + 1)).clk ≤ (K + 1) * (edgesL b l).length := hc2
   omega
  have A := search_ac b l h (v := .agg [.nil, .own 0]) (obs := _) ⟨by omega, h2, .inr (.inl ⟨i, T, h1, hi, fun j hj => Classical.byContradiction fun hb => by have := hmin j ⟨by omega, hb⟩; omega, hb, hT, t2, t3, rfl, rfl⟩)⟩
  exact ⟨T + 1, _, _, by omega, A.shut1 rfl (fun i hi => rfl) (fun _ => rfl) rfl rfl⟩
 ·
  have hno1 : ∀ k, k ≤ l.length + 1 → (rnd b l (k + 1)).ch ≠ none := fun k hk he => hx ⟨k, hk, he⟩
  obtain ⟨x, hch⟩ : ∃ x, (rnd b l (l.length + 1 + 1)).ch = some x := by
   cases hc : (rnd b l (l.length + 1 + 1)).ch with
   | none => exact absurd hc (hno1 _ (Nat.le_refl _))
   | some x => exact ⟨x, rfl⟩
  have hinv := h.inv (l.length + 1) (Nat.le_refl (edgesL b l).length)
  rw [mid_end] at hinv
  obtain ⟨c1, c2⟩ := hinv.chg x hch
  obtain ⟨m1, p, m2, m3, m4, m5⟩ := circle_min (b := b) h.e1.1 hinv c1 c2 oM
  have A := search_ac b l h (v := .agg [.nil, .own 0]) (obs := _) ⟨Nat.le_refl _, fun k hk => hno1 k oM, .inr (.inr ⟨x, p, rfl, hch, m1, ⟨m2, m4, by rw [ups_add]; exact m3, fun q hq hqp => by rw [ups_add]; exact m5 q hq hqp⟩, rfl, rfl⟩)⟩
  exact ⟨p, _, _, m2, A.shut1 rfl (fun i hi => rfl) (fun _ => rfl) rfl rfl⟩
end
set_option maxRecDepth 100000 in
theorem Outer_ok (b : Bl) (l : List Pt) (h : SOk b l) {o : List Int} (ho : LOut b l o) : AC Tryz.prog 9 [b.v, V.pts l] (.tup [V.ints o, .i 0]) [] := by
 refine acI hTT hMX Tryz.func9 Tryz.ntmps9 fun C hC hF => ?_
 refine sK fun K hK => wR 2 ?_; refine aX hTT 3 [] tI ?_; refine nK hK ?_; clear hK K; refine sK fun K hK => wR 3 ?_; refine aX hTT 2 [] tI ?_
 refine eC (newSide_ok b l h) ?_
 refine aX hTT 5 [] tI ?_; refine nK hK ?_; clear hK K; refine sK fun K hK => ?_; refine sK fun K hK => wR 4 ?_; refine aX hTT 2 [] tI ?_; refine nK hK ?_; clear hK K; refine w_false (t := false) kR rfl ?_
 refine aw_skip ?_
 refine xt_n (hK _ ?_); clear hK K; refine sK fun K hK => wR 5 ?_; refine aX hTT 1 [] tI ?_
 refine eC (search_ok h ho) ?_
 refine aX hTT 2 [(0, .r (pn 8 (V.ref 400008 0) (400008 : Nat) (Ob.box 88 [V.nil, V.nil]))), (1, .r (pw ((0 : Nat) + (2 : Nat) ≤ (2 : Nat)) (400008 : Nat) (Ob.box 88 [V.sl 1 (List.length o) fun (k : Nat) => [V.i (gi o k)], V.nil])))] ⟨oM, tI⟩ ?_; refine nK hK ?_; clear hK K; refine sK fun K hK => ?_; refine sK fun K hK => wR 6 ?_; refine aX hTT 4 [(1, .c ((1 : Nat) ≤ (2 : Nat)))] ⟨oM, tI⟩ ?_; refine nK hK ?_; clear hK K; refine w_false (t := false) kR rfl ?_
 refine aw_skip ?_
 refine xt_n (hK _ ?_); clear hK K; refine sK fun K hK => wR 7 ?_; refine aX hTT 4 [(1, .c ((0 : Nat) ≤ (2 : Nat)))] ⟨oM, tI⟩ ?_; refine nK hK ?_; clear hK K
 refine aw_ret ?_
 refine rP (V.tup [V.sl 1 (List.length o) fun (k : Nat) => [V.i (gi o k)], V.i 0])
set_option maxRecDepth 100000 in
theorem Outer_no (b : Bl) (l : List Pt) (h : SOk b l) (hno : ¬ ∃ o, LOut b l o) : AC Tryz.prog 9 [b.v, V.pts l] (.tup [.nil, .i 15]) [] := by
 obtain ⟨m, A, B, hm, S⟩ := search_no h hno
 refine acI hTT hMX Tryz.func9 Tryz.ntmps9 fun C hC hF => ?_
 refine sK fun K hK => wR 2 ?_; refine aX hTT 3 [] tI ?_; refine nK hK ?_; clear hK K; refine sK fun K hK => wR 3 ?_; refine aX hTT 2 [] tI ?_
 refine eC (newSide_ok b l h) ?_
 refine aX hTT 5 [] tI ?_; refine nK hK ?_; clear hK K; refine sK fun K hK => ?_; refine sK fun K hK => wR 4 ?_; refine aX hTT 2 [] tI ?_; refine nK hK ?_; clear hK K; refine w_false (t := false) kR rfl ?_
 refine aw_skip ?_
 refine xt_n (hK _ ?_); clear hK K; refine sK fun K hK => wR 5 ?_; refine aX hTT 1 [] tI ?_
 refine eC (S) ?_
 refine aX hTT 2 [(0, .r (pn 8 (V.ref 400008 0) (400008 : Nat) (Ob.box 88 [V.nil, V.nil]))), (1, .r (pw ((0 : Nat) + (2 : Nat) ≤ (2 : Nat)) (400008 : Nat) (Ob.box 88 [V.nil, V.sl 2 m fun (j : Nat) => [V.i (A j), V.i (B j)]])))] ⟨oM, tI⟩ ?_; refine nK hK ?_; clear hK K; refine sK fun K hK => ?_; refine sK fun K hK => wR 6 ?_; refine aX hTT 4 [(1, .c ((1 : Nat) ≤ (2 : Nat)))] ⟨oM, tI⟩ ?_; refine nK hK ?_; clear hK K
 refine w_cond (t := decide ((0 : Int) < (↑m : Int))) kR (fun c1 => ?_) (fun c1 => ?_)
 ·
  refine sK fun K hK => ?_
  refine wR 7 ?_; refine aX hTT 2 [] tI ?_; refine nK hK ?_; clear hK K
  refine aw_ret ?_
  refine xt_r ?_
  refine rP (V.tup [V.nil, V.i 15])
 ·
  simp at c1
  omega
end Go.Proofs.YtpmchnojeloohaaGreatDoor

namespace Go.Proofs.YtpmchnojeloohaaGreatDoor
open Go.Ab Go.RowKit Go.Dw Go.Shelf
theorem eFTC {x c : Bool} (h : x = c) : (x == c) = true := by rw [h]; cases c <;> rfl
set_option maxRecDepth 100000 in
theorem within5_ac (x lo hi : Int) : AC Tryz.prog 58 [.i x, .i lo, .i hi] (.b (betB x lo hi)) [] := by
 refine acI hTT hMX Tryz.func58 Tryz.ntmps58 fun C hC hF => ?_
 refine sK fun K hK => wR 2 ?_; refine aX hTT 1 [] tI ?_; refine nK hK ?_; clear hK K; refine sK fun K hK => wR 3 ?_; refine aX hTT 9 [(4, .c (gA (decide (lo ≤ x) == true) True)), (5, .c (gA (decide (lo ≤ x) == true) True)), (6, .c (gC (decide (lo ≤ x) == true) True)), (7, .c ((decide (lo ≤ x) = true → (decide (lo ≤ x) == true) = true) ∧ True))] ⟨⟨⟨tI, tI⟩, (fun _ => tI)⟩, ⟨⟨tI, tI⟩, (fun _ => tI)⟩, ⟨⟨(by (exact fun h => h)), ⟨(by (exact fun h => h)), tI⟩⟩, (fun _ => tI)⟩, ⟨eFTC, tI⟩, tI⟩ ?_; refine nK hK ?_; clear hK K
 refine aw_ret ?_
 refine rP (V.b (decide (lo ≤ x) && decide (x ≤ hi)))
abbrev wtcB0 (b : Bl) : Bool := (!betB (Bl.per b) (1 : Int) (65536 : Int)) == false
abbrev wtcB1 (m : Nat) (p : List Pt) : Bool := decide ((↑m : Int) < (↑(List.length p) : Int)) == false
abbrev wtcB2 (b : Bl) : Bool := (!betB (Bl.per b) (1 : Int) (65536 : Int) || !betB (Bl.rim b) (0 : Int) (4194304 : Int)) == false
abbrev wtcB3 (b : Bl) : Bool := (!betB (Bl.per b) (1 : Int) (65536 : Int) || !betB (Bl.rim b) (0 : Int) (4194304 : Int) || !betB (Bl.core b) (0 : Int) (Bl.rim b)) == false
abbrev wtcB4 (b : Bl) : Bool := (!betB (Bl.per b) (1 : Int) (65536 : Int) || !betB (Bl.rim b) (0 : Int) (4194304 : Int) || !betB (Bl.core b) (0 : Int) (Bl.rim b) || !betB (Bl.land b) (0 : Int) (65536 : Int)) == false
abbrev wtcB5 (b : Bl) : Bool := (!betB (Bl.per b) (1 : Int) (65536 : Int) || !betB (Bl.rim b) (0 : Int) (4194304 : Int) || !betB (Bl.core b) (0 : Int) (Bl.rim b) || !betB (Bl.land b) (0 : Int) (65536 : Int) || !betB (Bl.slow b) (0 : Int) (Bl.fast b)) == false
set_option maxRecDepth 100000 in
theorem rCheck5_ac (b : Bl) : AC Tryz.prog 25 [b.v] (.i (blE b)) [] := by
 refine ac_intro hTT hMX (fn := Tryz.f25) (N := _) ⟨Tryz.func25, rfl, Tryz.ntmps25, kR⟩ (by simp) fun C hC hF => ?_
 refine sK fun K hK => ?_
 refine w_region (n' := 2) kR kR ?_
 refine aops_n hTT (M := []) (n := 2) [pv (1 : Nat) (V.ptr [V.i (Bl.per b), V.i (Bl.rim b), V.i (Bl.core b), V.i (Bl.land b), V.i (Bl.slow b), V.i (Bl.fast b)]), pv (2 : Nat) (V.i (0 : Int))] kR kR tI ?_
 refine aops_nil ?_
 refine xt_n ?_
 refine hK _ ?_
 clear hK K
 refine sK fun K hK => ?_
 refine sK fun K hK => ?_
 refine w_region (n' := 3) kR kR ?_
 refine aops_n hTT (M := []) (n := 2) [pv (3 : Nat) (V.ptr [V.i (Bl.per b), V.i (Bl.rim b), V.i (Bl.core b), V.i (Bl.land b), V.i (Bl.slow b), V.i (Bl.fast b)]), pv (4 : Nat) (V.i (Bl.per b))] kR kR tI ?_
 refine e_call (first := []) (caps := []) (within5_ac b.per 1 65536) kR kR kR kR kR ?_
 refine aops_n hTT (M := []) (n := 4) [pv (6 : Nat) (V.b !betB (Bl.per b) (1 : Int) (65536 : Int)), pv (7 : Nat) (V.b !betB (Bl.per b) (1 : Int) (65536 : Int)), pc (8 : Nat) ((True ∧ True) ∧ ((wtcB0 b) = true → True)) (V.gd (wtcB0 b) (V.ptr [V.i (Bl.rim b), V.i (Bl.core b), V.i (Bl.land b), V.i (Bl.slow b), V.i (Bl.fast b)])), pc (9 : Nat) ((((wtcB0 b) = true → (wtcB0 b) = true) ∧ True) ∧ ((wtcB0 b) = true → True)) (V.gd (wtcB0 b) (V.i (Bl.rim b)))] kR kR ⟨⟨⟨tI, tI⟩, (fun _ => tI)⟩, ⟨⟨(by (exact fun h => h)), tI⟩, (fun _ => tI)⟩, tI⟩ ?_
 refine e_callG 1 (g := (!betB (Bl.per b) (1 : Int) (65536 : Int)) == false) (first := []) (caps := []) kR (fun h => within5_ac b.rim 0 4194304) kR kR kR kR kR kR ?_
 refine aops_n hTT (M := []) (n := 7) [pc (11 : Nat) ((((wtcB0 b) = true → (wtcB0 b) = true) ∧ True) ∧ ((wtcB0 b) = true → True)) (V.gd (wtcB0 b) (V.b !betB (Bl.rim b) (0 : Int) (4194304 : Int))), pc (12 : Nat) (True ∧ ((!betB (Bl.per b) (1 : Int) (65536 : Int)) = false → (wtcB0 b) = true)) (V.b (!betB (Bl.per b) (1 : Int) (65536 : Int) || !betB (Bl.rim b) (0 : Int) (4194304 : Int))), pv (13 : Nat) (V.b (!betB (Bl.per b) (1 : Int) (65536 : Int) || !betB (Bl.rim b) (0 : Int) (4194304 : Int))), pc (14 : Nat) ((True ∧ True) ∧ ((wtcB2 b) = true → True)) (V.gd (wtcB2 b) (V.ptr [V.i (Bl.core b), V.i (Bl.land b), V.i (Bl.slow b), V.i (Bl.fast b)])), pc (15 : Nat) ((((wtcB2 b) = true → (wtcB2 b) = true) ∧ True) ∧ ((wtcB2 b) = true → True)) (V.gd (wtcB2 b) (V.i (Bl.core b))), pc (16 : Nat) ((True ∧ True) ∧ ((wtcB2 b) = true → True)) (V.gd (wtcB2 b) (V.ptr [V.i (Bl.rim b), V.i (Bl.core b), V.i (Bl.land b), V.i (Bl.slow b), V.i (Bl.fast b)])), pc (17 : Nat) ((((wtcB2 b) = true → (wtcB2 b) = true) ∧ True) ∧ ((wtcB2 b) = true → True)) (V.gd (wtcB2 b) (V.i (Bl.rim b)))] kR kR ⟨⟨⟨(by (exact fun h => h)), tI⟩, (fun _ => tI)⟩, ⟨tI, eFTC⟩, ⟨⟨tI, tI⟩, (fun _ => tI)⟩, ⟨⟨(by (exact fun h => h)), tI⟩, (fun _ => tI)⟩, ⟨⟨tI, tI⟩, (fun _ => tI)⟩, ⟨⟨(by (exact fun h => h)), tI⟩, (fun _ => tI)⟩, tI⟩ ?_
 refine e_callG 2 (g := (!betB (Bl.per b) (1 : Int) (65536 : Int) || !betB (Bl.rim b) (0 : Int) (4194304 : Int)) == false) (first := []) (caps := []) kR (fun h => within5_ac b.core 0 b.rim) kR kR kR kR kR kR ?_
 refine aops_n hTT (M := []) (n := 5) [pc (19 : Nat) ((((wtcB2 b) = true → (wtcB2 b) = true) ∧ True) ∧ ((wtcB2 b) = true → True)) (V.gd (wtcB2 b) (V.b !betB (Bl.core b) (0 : Int) (Bl.rim b))), pc (20 : Nat) (True ∧ ((!betB (Bl.per b) (1 : Int) (65536 : Int) || !betB (Bl.rim b) (0 : Int) (4194304 : Int)) = false → (wtcB2 b) = true)) (V.b (!betB (Bl.per b) (1 : Int) (65536 : Int) || !betB (Bl.rim b) (0 : Int) (4194304 : Int) || !betB (Bl.core b) (0 : Int) (Bl.rim b))), pv (21 : Nat) (V.b (!betB (Bl.per b) (1 : Int) (65536 : Int) || !betB (Bl.rim b) (0 : Int) (4194304 : Int) || !betB (Bl.core b) (0 : Int) (Bl.rim b))), pc (22 : Nat) ((True ∧ True) ∧ ((wtcB3 b) = true → True)) (V.gd (wtcB3 b) (V.ptr [V.i (Bl.land b), V.i (Bl.slow b), V.i (Bl.fast b)])), pc (23 : Nat) ((((wtcB3 b) = true → (wtcB3 b) = true) ∧ True) ∧ ((wtcB3 b) = true → True)) (V.gd (wtcB3 b) (V.i (Bl.land b)))] kR kR ⟨⟨⟨(by (exact fun h => h)), tI⟩, (fun _ => tI)⟩, ⟨tI, eFTC⟩, ⟨⟨tI, tI⟩, (fun _ => tI)⟩, ⟨⟨(by (exact fun h => h)), tI⟩, (fun _ => tI)⟩, tI⟩ ?_
 refine e_callG 1 (g := (!betB (Bl.per b) (1 : Int) (65536 : Int) || !betB (Bl.rim b) (0 : Int) (4194304 : Int) || !betB (Bl.core b) (0 : Int) (Bl.rim b)) == false) (first := []) (caps := []) kR (fun h => within5_ac b.land 0 65536) kR kR kR kR kR kR ?_
 refine aops_n hTT (M := []) (n := 7) [pc (25 : Nat) ((((wtcB3 b) = true → (wtcB3 b) = true) ∧ True) ∧ ((wtcB3 b) = true → True)) (V.gd (wtcB3 b) (V.b !betB (Bl.land b) (0 : Int) (65536 : Int))), pc (26 : Nat) (True ∧ ((!betB (Bl.per b) (1 : Int) (65536 : Int) || !betB (Bl.rim b) (0 : Int) (4194304 : Int) || !betB (Bl.core b) (0 : Int) (Bl.rim b)) = false → (wtcB3 b) = true)) (V.b (!betB (Bl.per b) (1 : Int) (65536 : Int) || !betB (Bl.rim b) (0 : Int) (4194304 : Int) || !betB (Bl.core b) (0 : Int) (Bl.rim b) || !betB (Bl.land b) (0 : Int) (65536 : Int))), pv (27 : Nat) (V.b (!betB (Bl.per b) (1 : Int) (65536 : Int) || !betB (Bl.rim b) (0 : Int) (4194304 : Int) || !betB (Bl.core b) (0 : Int) (Bl.rim b) || !betB (Bl.land b) (0 : Int) (65536 : Int))), pc (28 : Nat) ((True ∧ True) ∧ ((wtcB4 b) = true → True)) (V.gd (wtcB4 b) (V.ptr [V.i (Bl.slow b), V.i (Bl.fast b)])), pc (29 : Nat) ((((wtcB4 b) = true → (wtcB4 b) = true) ∧ True) ∧ ((wtcB4 b) = true → True)) (V.gd (wtcB4 b) (V.i (Bl.slow b))), pc (30 : Nat) ((True ∧ True) ∧ ((wtcB4 b) = true → True)) (V.gd (wtcB4 b) (V.ptr [V.i (Bl.fast b)])), pc (31 : Nat) ((((wtcB4 b) = true → (wtcB4 b) = true) ∧ True) ∧ ((wtcB4 b) = true → True)) (V.gd (wtcB4 b) (V.i (Bl.fast b)))] kR kR ⟨⟨⟨(by (exact fun h => h)), tI⟩, (fun _ => tI)⟩, ⟨tI, eFTC⟩, ⟨⟨tI, tI⟩, (fun _ => tI)⟩, ⟨⟨(by (exact fun h => h)), tI⟩, (fun _ => tI)⟩, ⟨⟨tI, tI⟩, (fun _ => tI)⟩, ⟨⟨(by (exact fun h => h)), tI⟩, (fun _ => tI)⟩, tI⟩ ?_
 refine e_callG 2 (g := (!betB (Bl.per b) (1 : Int) (65536 : Int) || !betB (Bl.rim b) (0 : Int) (4194304 : Int) || !betB (Bl.core b) (0 : Int) (Bl.rim b) || !betB (Bl.land b) (0 : Int) (65536 : Int)) == false) (first := []) (caps := []) kR (fun h => within5_ac b.slow 0 b.fast) kR kR kR kR kR kR ?_
 refine aops_n hTT (M := []) (n := 7) [pc (33 : Nat) ((((wtcB4 b) = true → (wtcB4 b) = true) ∧ True) ∧ ((wtcB4 b) = true → True)) (V.gd (wtcB4 b) (V.b !betB (Bl.slow b) (0 : Int) (Bl.fast b))), pc (34 : Nat) (True ∧ ((!betB (Bl.per b) (1 : Int) (65536 : Int) || !betB (Bl.rim b) (0 : Int) (4194304 : Int) || !betB (Bl.core b) (0 : Int) (Bl.rim b) || !betB (Bl.land b) (0 : Int) (65536 : Int)) = false → (wtcB4 b) = true)) (V.b (!betB (Bl.per b) (1 : Int) (65536 : Int) || !betB (Bl.rim b) (0 : Int) (4194304 : Int) || !betB (Bl.core b) (0 : Int) (Bl.rim b) || !betB (Bl.land b) (0 : Int) (65536 : Int) || !betB (Bl.slow b) (0 : Int) (Bl.fast b))), pv (35 : Nat) (V.b (!betB (Bl.per b) (1 : Int) (65536 : Int) || !betB (Bl.rim b) (0 : Int) (4194304 : Int) || !betB (Bl.core b) (0 : Int) (Bl.rim b) || !betB (Bl.land b) (0 : Int) (65536 : Int) || !betB (Bl.slow b) (0 : Int) (Bl.fast b))), pc (36 : Nat) ((True ∧ True) ∧ ((wtcB5 b) = true → True)) (V.gd (wtcB5 b) (V.ptr [V.i (Bl.fast b)])), pc (37 : Nat) ((((wtcB5 b) = true → (wtcB5 b) = true) ∧ True) ∧ ((wtcB5 b) = true → True)) (V.gd (wtcB5 b) (V.i (Bl.fast b))), pc (38 : Nat) ((((wtcB5 b) = true → (wtcB5 b) = true) ∧ True ∧ True) ∧ ((wtcB5 b) = true → True)) (V.gd (wtcB5 b) (V.b (decide ((65536 : Int) < Bl.fast b)))), pc (39 : Nat) (True ∧ ((!betB (Bl.per b) (1 : Int) (65536 : Int) || !betB (Bl.rim b) (0 : Int) (4194304 : Int) || !betB (Bl.core b) (0 : Int) (Bl.rim b) || !betB (Bl.land b) (0 : Int) (65536 : Int) || !betB (Bl.slow b) (0 : Int) (Bl.fast b)) = false → (wtcB5 b) = true)) (V.b (!betB (Bl.per b) (1 : Int) (65536 : Int) || !betB (Bl.rim b) (0 : Int) (4194304 : Int) || !betB (Bl.core b) (0 : Int) (Bl.rim b) || !betB (Bl.land b) (0 : Int) (65536 : Int) || !betB (Bl.slow b) (0 : Int) (Bl.fast b) || decide ((65536 : Int) < Bl.fast b)))] kR kR ⟨⟨⟨(by (exact fun h => h)), tI⟩, (fun _ => tI)⟩, ⟨tI, eFTC⟩, ⟨⟨tI, tI⟩, (fun _ => tI)⟩, ⟨⟨(by (exact fun h => h)), tI⟩, (fun _ => tI)⟩, ⟨⟨(by (exact fun h => h)), ⟨tI, tI⟩⟩, (fun _ => tI)⟩, ⟨tI, eFTC⟩, tI⟩ ?_
 refine aops_nil ?_
 refine xt_n ?_
 refine hK _ ?_
 clear hK K
 refine w_cond (t := !betB (Bl.per b) (1 : Int) (65536 : Int) || !betB (Bl.rim b) (0 : Int) (4194304 : Int) || !betB (Bl.core b) (0 : Int) (Bl.rim b) || !betB (Bl.land b) (0 : Int) (65536 : Int) || !betB (Bl.slow b) (0 : Int) (Bl.fast b) || decide ((65536 : Int) < Bl.fast b)) kR (fun c1 => ?_) (fun c1 => ?_)
 ·
  have e : blE b = 2 := blE_2 fun ⟨⟨q1, q2⟩, ⟨q3, q4⟩, ⟨q5, q6⟩, ⟨q7, q8⟩, ⟨q9, q10⟩, q11, q12⟩ => by
   simp [betB] at c1
   omega
  refine sK fun K hK => ?_
  refine w_region (n' := 4) kR kR ?_
  refine aops_n hTT (M := []) (n := 1) [pv (2 : Nat) (V.i (2 : Int))] kR kR tI ?_
  refine aops_nil ?_
  refine xt_n ?_
  refine hK _ ?_
  clear hK K
  refine aw_ret ?_
  refine xt_r ?_
  rw [e]
  refine ret_pure (v' := V.i (2 : Int)) (.inr rfl) kR kR kR
 ·
  have e : blE b = 0 := blE_ok.2 (by
   simp [betB] at c1
   unfold Bl.ok
   omega)
  refine aw_skip ?_
  refine xt_n ?_
  refine hK _ ?_
  clear hK K
  refine sK fun K hK => ?_
  refine w_region (n' := 4) kR kR ?_
  refine aops_n hTT (M := []) (n := 1) [pv (2 : Nat) (V.i (0 : Int))] kR kR tI ?_
  refine aops_nil ?_
  refine xt_n ?_
  refine hK _ ?_
  clear hK K
  refine aw_ret ?_
  rw [e]
  refine ret_pure (v' := V.i (0 : Int)) (.inr rfl) kR kR kR
set_option maxRecDepth 100000 in
theorem cut_no (c : Cut) (b : Bl) (p : List Pt) (m : Nat) (h : m < p.length ∨ blE b ≠ 0) : AC Tryz.prog 7 [V.pts p, c.v, b.v, .i m] (.tup [.nil, .b false]) [] := by
 refine acI hTT hMX Tryz.func7 Tryz.ntmps7 fun C hC hF => ?_
 refine sK fun K hK => wR 2 ?_; refine aX hTT 4 [] tI ?_; refine nK hK ?_; clear hK K; refine sK fun K hK => ?_; refine sK fun K hK => wR 3 ?_; refine aX hTT 6 [(5, .c (gA (wtcB1 m p) True))] ⟨⟨⟨tI, tI⟩, (fun _ => tI)⟩, tI⟩ ?_
 refine eG 1 (g := decide ((↑m : Int) < (↑(List.length p) : Int)) == false) (fun h => rCheck5_ac b) ?_
 refine aX hTT 2 [(0, .c (gD (wtcB1 m p) True)), (1, .c (True ∧ (decide ((↑m : Int) < (↑(List.length p) : Int)) = false → (wtcB1 m p) = true)))] ⟨⟨⟨(by (exact fun h => h)), ⟨tI, tI⟩⟩, (fun _ => tI)⟩, ⟨tI, eFTC⟩, tI⟩ ?_; refine nK hK ?_; clear hK K
 refine w_cond (t := decide ((↑m : Int) < (↑(List.length p) : Int)) || !decide (blE b = 0)) kR (fun c1 => ?_) (fun c1 => ?_)
 ·
  refine sK fun K hK => ?_
  refine wR 4 ?_; refine aX hTT 2 [] tI ?_; refine nK hK ?_; clear hK K
  refine aw_ret ?_
  refine xt_r ?_
  refine rP (V.tup [V.nil, V.b false])
 ·
  simp at c1
  omega
set_option maxRecDepth 100000 in
theorem cut_some (c : Cut) (b : Bl) (p : List Pt) (m : Nat) (h : p.length ≤ m ∧ blE b = 0) (hl : p.length ≤ 4611686018427387904) (hr : ∀ k, k < p.length → inR2 (gp p k)) : AC Tryz.prog 7 [V.pts p, c.v, b.v, .i m] (.tup [V.pts (cutR c p).1, .b (decide ((cutR c p).2 = 0))]) [] := by
 refine acI hTT hMX Tryz.func7 Tryz.ntmps7 fun C hC hF => ?_
 refine sK fun K hK => wR 2 ?_; refine aX hTT 4 [] tI ?_; refine nK hK ?_; clear hK K; refine sK fun K hK => ?_; refine sK fun K hK => wR 3 ?_; refine aX hTT 6 [(5, .c (gA (wtcB1 m p) True))] ⟨⟨⟨tI, tI⟩, (fun _ => tI)⟩, tI⟩ ?_
 refine eG 1 (g := decide ((↑m : Int) < (↑(List.length p) : Int)) == false) (fun h => rCheck5_ac b) ?_
 refine aX hTT 2 [(0, .c (gD (wtcB1 m p) True)), (1, .c (True ∧ (decide ((↑m : Int) < (↑(List.length p) : Int)) = false → (wtcB1 m p) = true)))] ⟨⟨⟨(by (exact fun h => h)), ⟨tI, tI⟩⟩, (fun _ => tI)⟩, ⟨tI, eFTC⟩, tI⟩ ?_; refine nK hK ?_; clear hK K
 refine w_cond (t := decide ((↑m : Int) < (↑(List.length p) : Int)) || !decide (blE b = 0)) kR (fun c1 => ?_) (fun c1 => ?_)
 ·
  simp at c1
  omega
 ·
  refine aw_skip ?_
  refine xt_n (hK _ ?_); clear hK K; refine sK fun K hK => wR 4 ?_; refine aX hTT 2 [] tI ?_
  refine eC (refCut_ac c p hl hr) ?_
  refine aX hTT 5 [] tI ?_; refine nK hK ?_; clear hK K; refine sK fun K hK => wR 5 ?_; refine aX hTT 5 [] tI ?_; refine nK hK ?_; clear hK K
  refine aw_ret ?_
  refine rP (V.tup [V.sl 2 (List.length (Prod.fst (cutR c p))) fun (k : Nat) => [V.i (Prod.fst (gp (Prod.fst (cutR c p)) k)), V.i (Prod.snd (gp (Prod.fst (cutR c p)) k))], V.b (decide (Prod.snd (cutR c p) = 0))])
theorem SOk.take {b : Bl} {l : List Pt} (h : SOk b l) (k : Nat) : SOk b (l.take k) := by
 refine ⟨h.b0, gChk_ok.2 ⟨?_, fun j hj => ?_⟩⟩
 ·
  have := h.len
  rw [List.length_take]; omega
 ·
  rw [List.length_take] at hj
  have : gp (l.take k) j = gp l j := by
   simp [gp, List.getD_eq_getElem?_getD, List.getElem?_take, show j < k by omega]
  rw [this]
  exact (gChk_ok.1 h.l0).2 j oM
def FitP (b : Bl) (l : List Pt) (n : Nat) : Prop := ∃ o, LOut b (l.take n) o
end Go.Proofs.YtpmchnojeloohaaGreatDoor
