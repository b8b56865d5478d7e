/-
  Several texts in one: The faces of an album: walks of the program. Conditions: told in each theorem. .. Ways back and circles among the edges of a search, in plain Lean. Conditions: told in each theorem.
-/
import Derived.Test.YtffggfnomhhckaaGreatDoorAbs42
import Derived.Test.YtffggfnomhhckaaGreatDoorX05
import Derived.Test.YtffggfnomhhckaaGreatDoorX00
import Derived.Test.YtffggfnomhhckaaGreatDoorX01
import Derived.Test.YtffggfnomhhckaaGreatDoorX04
namespace Go.Proofs.YtffggfnomhhckaaGreatDoor
open Go.Ab Go.RowKit Go.Dw Go.Shelf
structure AlOk (fs : List Fm) (l : List Tr) : Prop where
 f0 : 1 ≤ fs.length
 f8 : fs.length ≤ 8
 ff : ∀ k, k < fs.length → fmB (gfm fs k) = true
 ll : l.length ≤ 24
 tt : ∀ k, k < l.length → trB (gtr l k) = true
theorem fms_ok {fs : List Fm} {l : List Tr} (h : fmsE fs l = 0) : AlOk fs l := by
 unfold fmsE at h
 split at h
 ·
  cases h
 rename_i h1
 split at h
 ·
  rename_i h2
  unfold trsE at h
  split at h
  ·
   cases h
  rename_i h3
  split at h
  ·
   rename_i h4
   exact ⟨by omega, by omega, fun k hk => List.all_eq_true.1 h2 _ (gfm_mem hk), by omega, fun k hk => List.all_eq_true.1 h4 _ (gtr_mem hk)⟩
  ·
   cases h
 ·
  cases h
def alC (fs : List Fm) (l : List Tr) : List V := [.sl 1 fs.length fun k => [.ptr (plC4 (gfm fs k) l)], .i l.length]
def facesV (fs : List Fm) (l : List Tr) (i : Nat) : List (List V) := (facesL fs l i).map fun x => [.agg [.i x.1, .i x.2]]
theorem facesV_get {fs : List Fm} {l : List Tr} {i k m : Nat} (hk : k < fs.length) (hm : m < (faK fs l i k).length) : (facesV fs l i)[(faN fs l i k).length + m]? = some [.agg [.i (k : Int), .i ((m + 1 : Nat) : Int)]] := by
 rw [facesV, List.getElem?_map, faces_get hk hm]; rfl
theorem facesV_len (fs : List Fm) (l : List Tr) (i : Nat) : (facesV fs l i).length = (faN fs l i fs.length).length := by rw [facesV, List.length_map]; rfl
theorem trO_span {l : List Tr} {i m k : Nat} (hk : k < m) : trO l (spanL i (i + m)) k = sh l i k := by
 rw [trO, spanL_at oM, sh]; rfl
theorem ps_span {f : Fm} {l : List Tr} {i m : Nat} : psB f (trO l (spanL i (i + m))) (spanL i (i + m)).length = psB f (sh l i) m := by
 rw [spanL_len, show i + m - i = m by omega]
 exact psB_ext fun k hk => trO_span hk
theorem span_ok {fs : List Fm} {l : List Tr} (h : AlOk fs l) {i m k : Nat} (hk : k < fs.length) (hm : i + m ≤ l.length) : OrOk (gfm fs k) l (spanL i (i + m)) := by
 have := h.ll
 refine ⟨h.ff k hk, h.ll, by rw [spanL_len]; omega, h.tt, fun j hj => ?_⟩
 rw [spanL_len] at hj
 rw [spanL_at oM]
 omega
set_option maxRecDepth 100000 in
theorem faces_it (fs : List Fm) (l : List Tr) (h : AlOk fs l) (i : Nat) (hi : i ≤ l.length) : AIt Tryz.prog 55 [.ptr [.ptr (alC fs l)], .ptr [.i i]] (facesV fs l i) := by
 have h8 := h.f8
 have h24 := h.ll
 refine ait_intro hTT hMX (fn := Tryz.f55) (N := _) ⟨Tryz.func55, rfl, Tryz.ntmps55, kR⟩ rfl (by simp) fun C Y hC => ?_
 rw [facesV_len]
 refine awj_seq_a hC fun K hK => ?_
 refine wR 2 (aX hTT 6 [] tI (nK hK ?_)); clear hK K
 refine awj_block ?_
 refine awj_loop (ι := Nat) (fun k => ⟨mkT [(0, .c (.func (.yield Y.l) #[] #[])), (1, .ptr [.ptr (alC fs l)]), (2, .ptr [.i i]), (10, .sl 1 fs.length fun k => [.ptr (plC4 (gfm fs k) l)]), (11, .i fs.length), (12, .i k)], mkS [], 1⟩) (fun k => (faN fs l i k).length) (fun k => k ≤ fs.length) (fun k => fs.length - k) 0 (Nat.zero_le _) ?_ rfl ?_
 ·
  refine le_ren [] (.cons kR (.cons kR (.cons kR (.cons kR (.cons kR (.cons kR .nil)))))) .nil kR kR
 intro k hk
 refine awj_seq_a hC fun K hK => ?_
 refine wR 2 (aX hTT 1 [] tI (nK hK ?_)); clear hK K
 refine awj_seq_a hC fun K hK => ?_
 refine w_cond (t := decide ((↑k : Int) < (↑(List.length fs) : Int))) kR (fun c1 => ?_) (fun c1 => ?_)
 ·
  have hk1 : k < fs.length := by simpa using c1
  have hT := twN_le (fun m => psB (gfm fs k) (sh l i) (m + 1)) (l.length - i)
  have hL := faK_len fs l i k
  refine aw_skip ?_
  refine xt_n (hK _ ?_); clear hK K
  refine awj_seq ?_
  refine awj_block ?_
  refine awj_seq_a hC fun K hK => ?_
  refine wR 3 (aX hTT 5 [(1, .c ((0 : Int) ≤ (↑k : Int) ∧ (↑k : Int) < (↑(List.length fs) : Int)))] ⟨oM, tI⟩ (nK hK ?_)); clear hK K
  refine awj_seq_a hC fun K hK => ?_
  refine wR 4 (aX hTT 3 [(1, .i ((↑i : Int) + 1))] ⟨oM, tI⟩ (nK hK ?_)); clear hK K
  refine awj_block ?_
  refine awj_loop (ι := Nat) (fun m => ⟨mkT [(0, .c (.func (.yield Y.l) #[] #[])), (1, .ptr [.ptr (alC fs l)]), (2, .ptr [.i i]), (4, .i k), (5, .ptr (plC4 (gfm fs k) l)), (6, .i ((i + (m + 1) : Nat) : Int)), (10, .sl 1 fs.length fun k => [.ptr (plC4 (gfm fs k) l)]), (11, .i fs.length), (12, .i k)], mkS [], 1⟩) (fun m => (faN fs l i k).length + m) (fun m => m ≤ (faK fs l i k).length) (fun m => (faK fs l i k).length - m) 0 (Nat.zero_le _) ?_ rfl ?_
  ·
   refine le_ren [] (.cons kR (.cons kR (.cons kR (.cons kR (.cons kR (.cons kR (.cons kR (.cons kR (.cons kR .nil))))))))) .nil kR kR
  intro m hm
  have en : ((i + (m + 1) : Nat) : Int) - (i : Int) = ((m + 1 : Nat) : Int) := by omega
  refine awj_seq_a hC fun K hK => ?_
  refine sK fun K hK => wR 2 (aX hTT 10 [(7, .c (gA (decide ((↑(i + (m + 1)) : Int) ≤ (↑(List.length l) : Int)) == true) True)), (8, .c (gA (decide ((↑(i + (m + 1)) : Int) ≤ (↑(List.length l) : Int)) == true) True)), (9, .c (gA (decide ((↑(i + (m + 1)) : Int) ≤ (↑(List.length l) : Int)) == true) True))] ⟨⟨⟨tI, tI⟩, (fun _ => tI)⟩, ⟨⟨tI, tI⟩, (fun _ => tI)⟩, ⟨⟨tI, tI⟩, (fun _ => tI)⟩, tI⟩ ?_)
  refine eG 2 (g := decide ((↑(i + (m + 1)) : Int) ≤ (↑(List.length l) : Int)) == true) (fun hg => span_ac i (i + (m + 1)) oM oM) ?_
  skip
  refine eG 2 (g := decide ((↑(i + (m + 1)) : Int) ≤ (↑(List.length l) : Int)) == true) (fun hg => possible_ac (gfm fs k) l (spanL i (i + (m + 1))) (span_ok h hk1 (by simp at hg; omega))) ?_
  refine aX hTT 1 [(0, .c ((decide ((↑(i + (m + 1)) : Int) ≤ (↑(List.length l) : Int)) = true → (decide ((↑(i + (m + 1)) : Int) ≤ (↑(List.length l) : Int)) == true) = true) ∧ True))] ⟨⟨(by (intro h; rw [h]; rfl)), tI⟩, tI⟩ ?_; refine nK hK ?_; clear hK K
  rw [ps_span]
  refine w_cond (t := decide ((↑(i + (m + 1)) : Int) ≤ (↑(List.length l) : Int)) && psB (gfm fs k) (sh l i) (m + 1)) kR (fun c2 => ?_) (fun c2 => ?_)
  ·
   simp only [Bool.and_eq_true, decide_eq_true_eq] at c2
   have h2 : m < (faK fs l i k).length := by
    refine Nat.lt_of_le_of_ne hm fun e => ?_
    have := twN_end (fun m => psB (gfm fs k) (sh l i) (m + 1)) (l.length - i) oM
    simp only [← hL, ← e, c2.2] at this
    cases this
   refine aw_skip ?_
   refine xt_n (hK _ ?_); clear hK K
   refine awj_seq ?_
   refine awj_block ?_
   refine awj_seq (awj_yield hC 6 kR rfl ?_)
   refine aops_n hTT (M := []) (n := 6) [pv 34 (V.c (Value.func (Fn.yield (YE.l Y)) #[] #[])), pv 35 (V.i (↑k : Int)), pv 36 (V.i (↑(i + (m + 1)) : Int)), pv 37 (V.i (↑i : Int)), pc 38 ((-9223372036854775808 : Int) ≤ (↑(i + (m + 1)) : Int) - (↑i : Int) ∧ (↑(i + (m + 1)) : Int) - (↑i : Int) ≤ 9223372036854775807) (V.i ((↑(i + (m + 1)) : Int) - (↑i : Int))), pv 39 (V.agg [V.i (↑k : Int), V.i ((↑(i + (m + 1)) : Int) - (↑i : Int))])] kR kR ⟨oM, tI⟩ ?_
   refine aops_nil ?_
   rw [en]
   refine ⟨kR, ⟨_, facesV_get hk1 h2, RImp.refl _, trivial⟩, rfl, ?_, ?_⟩
   ·
    refine aX hTT 1 [] tI ?_
    refine aops_nil ?_
    refine xjt_n ?_
    refine awj_cond (t := false) kR (fun h => by cases h) (fun _ => ?_)
    refine awj_skip ?_
    refine xjb_n ?_
    refine xjt_n ?_
    refine awj_aw hC ?_
    refine wR 4 (aX hTT 3 [(1, .i ((↑(i + (m + 1)) : Int) + 1))] ⟨oM, tI⟩ (aops_nil ?_))
    refine xjt_n ?_
    refine ⟨rfl, m + 1, by omega, ?_, by omega, by omega⟩
    refine le_ren [] (.cons kR (.cons kR (.cons kR (.cons kR (.cons kR (.cons kR (.cons kR (.cons kR (.cons kR .nil))))))))) .nil kR kR
   ·
    refine aX hTT 1 [] tI ?_
    refine aops_nil ?_
    refine xjt_n ?_
    refine awj_cond (t := true) kR (fun _ => ?_) (fun h => by cases h)
    refine awj_ret ?_
    refine xjb_r ?_
    refine xjt_r ?_
    refine xjt_r ?_
    refine xjb_r ?_
    refine xjb_r ?_
    refine xjt_r ?_
    refine xjt_r ?_
    refine xjb_r ?_
    exact ⟨.inr rfl, fun h => (by cases h), fun _ => faces_len hk1 h2⟩
  ·
   have h2 : m = (faK fs l i k).length := by
    refine Nat.le_antisymm hm (Nat.not_lt.1 fun hlt => ?_)
    have h4 : psB (gfm fs k) (sh l i) (m + 1) = true := twN_all (fun m => psB (gfm fs k) (sh l i) (m + 1)) (l.length - i) m oM
    rw [h4, Bool.and_true, decide_eq_false_iff_not] at c2
    omega
   refine aw_exit ?_
   refine xt_x ?_
   refine xjt_x ?_
   refine xjb_same ?_
   refine xjb_n ?_
   refine xjt_n ?_
   refine awj_aw hC ?_
   refine wR 3 (aX hTT 2 [(0, .i ((↑k : Int) + 1))] ⟨oM, tI⟩ (aops_nil ?_))
   refine xjt_n ?_
   refine ⟨rfl, k + 1, by omega, ?_, by rw [faN_succ, List.length_append]; omega, by omega⟩
   refine le_ren [] (.cons kR (.cons kR (.cons kR (.cons kR (.cons kR (.cons kR .nil)))))) .nil kR kR
 ·
  have hk1 : k = fs.length := by simp at c1; omega
  subst hk1
  refine aw_exit ?_
  refine xt_x ?_
  refine xjt_x ?_
  refine xjb_same ?_
  exact ⟨.inl rfl, fun _ => by omega, fun h => by cases h⟩
set_option maxRecDepth 100000 in
theorem faces_ac (fs : List Fm) (l : List Tr) (i : Nat) : AC Tryz.prog 32 [.ptr (alC fs l), .i i] (.fn (.func 55) [] [.ptr [.ptr (alC fs l)], .ptr [.i i]]) [] := by
 refine acI hTT hMX Tryz.func32 Tryz.ntmps32 fun C hC hF => ?_
 refine sX hTT 2 3 [] tI (sX hTT 3 2 [] tI ?_)
 refine aw_ret ?_
 refine rP (V.fn (Fn.func (55 : Nat)) [] [V.ptr [V.ptr [V.sl 1 (List.length fs) fun (k : Nat) => [V.ptr (plC4 (gfm fs k) l)], V.i (↑(List.length l) : Int)]], V.ptr [V.i (↑i : Int)]])
end Go.Proofs.YtffggfnomhhckaaGreatDoor

namespace Go.Proofs.YtffggfnomhhckaaGreatDoor
open Go.Ab Go.RowKit Go.Dw Go.Shelf
theorem none_dec (w : Int × Int) : (decide (w.1 = (-1 : Int)) && (decide (w.2 = (0 : Int)) && true)) = decide (w = noneW) := by
 rw [Bool.and_true, ← Bool.decide_and]
 exact decide_eq_decide.2 (by rw [Prod.ext_iff]; rfl)
set_option maxRecDepth 100000 in
theorem less_ac (w v : Int × Int) : AC Tryz.prog 33 [.agg [.i w.1, .i w.2], .agg [.i v.1, .i v.2]] (.b (lessW w v)) [] := by
 refine acI hTT hMX Tryz.func33 Tryz.ntmps33 fun C hC hF => ?_
 refine sX hTT 2 3 [] tI (sK fun K hK => sK fun K hK => wR 3 ?_)
 refine aops_n hTT (M := []) (n := 8) [pv 5 (V.agg [V.i (Prod.fst v), V.i (Prod.snd v)]), pv 6 (V.agg [V.i (-1), V.i 0]), pv 7 (V.b (decide (Prod.fst v = (-1 : Int)) && (decide (Prod.snd v = 0) && true))), pv 8 (V.b (decide (Prod.fst v = (-1 : Int)) && (decide (Prod.snd v = 0) && true))), pc 9 ((True ∧ True) ∧ (((decide (Prod.fst v = (-1 : Int)) && (decide (Prod.snd v = 0) && true)) == false) = true → True)) (V.gd ((decide (Prod.fst v = (-1 : Int)) && (decide (Prod.snd v = 0) && true)) == false) (V.agg [V.i (Prod.fst w), V.i (Prod.snd w)])), pc 10 ((True ∧ True) ∧ (((decide (Prod.fst v = (-1 : Int)) && (decide (Prod.snd v = 0) && true)) == false) = true → True)) (V.gd ((decide (Prod.fst v = (-1 : Int)) && (decide (Prod.snd v = 0) && true)) == false) (V.agg [V.i (-1), V.i 0])), pc 11 (((((decide (Prod.fst v = (-1 : Int)) && (decide (Prod.snd v = 0) && true)) == false) = true → ((decide (Prod.fst v = (-1 : Int)) && (decide (Prod.snd v = 0) && true)) == false) = true) ∧ (((decide (Prod.fst v = (-1 : Int)) && (decide (Prod.snd v = 0) && true)) == false) = true → ((decide (Prod.fst v = (-1 : Int)) && (decide (Prod.snd v = 0) && true)) == false) = true) ∧ True) ∧ (((decide (Prod.fst v = (-1 : Int)) && (decide (Prod.snd v = 0) && true)) == false) = true → True)) (V.gd ((decide (Prod.fst v = (-1 : Int)) && (decide (Prod.snd v = 0) && true)) == false) (V.b (decide (Prod.fst w = (-1 : Int)) && (decide (Prod.snd w = 0) && true)))), pc 12 (True ∧ ((decide (Prod.fst v = (-1 : Int)) && (decide (Prod.snd v = 0) && true)) = false → ((decide (Prod.fst v = (-1 : Int)) && (decide (Prod.snd v = 0) && true)) == false) = true)) (V.b (decide (Prod.fst v = (-1 : Int)) && (decide (Prod.snd v = 0) && true) || decide (Prod.fst w = (-1 : Int)) && (decide (Prod.snd w = 0) && true)))] kR kR ⟨⟨⟨tI, tI⟩, (fun _ => tI)⟩, ⟨⟨tI, tI⟩, (fun _ => tI)⟩, ⟨⟨(by (exact fun h => h)), ⟨(by (exact fun h => h)), tI⟩⟩, (fun _ => tI)⟩, ⟨tI, (by (intro h; rw [h]; rfl))⟩, tI⟩ ?_
 refine nK hK ?_; clear hK K
 rw [none_dec, none_dec]
 refine w_cond (t := decide (v = noneW) || decide (w = noneW)) kR (fun c1 => ?_) (fun c1 => ?_)
 ·
  have h1 : v = noneW ∨ w = noneW := by simpa using c1
  refine sK fun K hK => wR 4 ?_
  refine aops_n hTT (M := []) (n := 4) [pv 13 (V.agg [V.i (Prod.fst w), V.i (Prod.snd w)]), pv 14 (V.agg [V.i (-1), V.i 0]), pv 15 (V.b !(decide (Prod.fst w = (-1 : Int)) && (decide (Prod.snd w = 0) && true))), pv 4 (V.b !(decide (Prod.fst w = (-1 : Int)) && (decide (Prod.snd w = 0) && true)))] kR kR tI ?_
  refine nK hK ?_; clear hK K
  refine aw_ret ?_
  refine xt_r ?_
  rw [none_dec, lessW, if_pos h1, ← decide_not]
  refine rP (V.b (decide ¬w = noneW))
 ·
  have h1 : ¬ (v = noneW ∨ w = noneW) := by simpa using c1
  refine aw_skip ?_
  refine xt_n (hK _ ?_); clear hK K; refine sX hTT 4 20 [(0, .c ((0 : Int) ≤ (0 : Int) ∧ (0 : Int) < (↑(2 : Nat) : Int))), (2, .c ((0 : Int) ≤ (0 : Int) ∧ (0 : Int) < (↑(2 : Nat) : Int))), (6, .c ((True ∧ True ∧ True) ∧ ((decide (Prod.fst w < Prod.fst v) == false) = true → (0 : Int) ≤ (0 : Int) ∧ (0 : Int) < (↑(2 : Nat) : Int)))), (7, .c (gB (decide (Prod.fst w < Prod.fst v) == false) True)), (8, .c ((True ∧ True ∧ True) ∧ ((decide (Prod.fst w < Prod.fst v) == false) = true → (0 : Int) ≤ (0 : Int) ∧ (0 : Int) < (↑(2 : Nat) : Int)))), (9, .c (gB (decide (Prod.fst w < Prod.fst v) == false) True)), (10, .c (gC (decide (Prod.fst w < Prod.fst v) == false) True)), (11, .c (gB (decide (Prod.fst w < Prod.fst v) == false) True)), (12, .c ((True ∧ True ∧ True) ∧ ((decide (Prod.fst w < Prod.fst v) == false && decide (Prod.fst w = Prod.fst v) == true) = true → (0 : Int) ≤ (1 : Int) ∧ (1 : Int) < (↑(2 : Nat) : Int)))), (13, .c (gB (decide (Prod.fst w < Prod.fst v) == false && decide (Prod.fst w = Prod.fst v) == true) True)), (14, .c ((True ∧ True ∧ True) ∧ ((decide (Prod.fst w < Prod.fst v) == false && decide (Prod.fst w = Prod.fst v) == true) = true → (0 : Int) ≤ (1 : Int) ∧ (1 : Int) < (↑(2 : Nat) : Int)))), (15, .c (gB (decide (Prod.fst w < Prod.fst v) == false && decide (Prod.fst w = Prod.fst v) == true) True)), (16, .c (gC (decide (Prod.fst w < Prod.fst v) == false && decide (Prod.fst w = Prod.fst v) == true) True)), (17, .c (((decide (Prod.fst w < Prod.fst v) == false) = true → (decide (Prod.fst w < Prod.fst v) == false) = true) ∧ ((decide (Prod.fst w < Prod.fst v) == false) = true → decide (Prod.fst w = Prod.fst v) = true → (decide (Prod.fst w < Prod.fst v) == false && decide (Prod.fst w = Prod.fst v) == true) = true) ∧ ((decide (Prod.fst w < Prod.fst v) == false) = true → True))), (18, .c (True ∧ (decide (Prod.fst w < Prod.fst v) = false → (decide (Prod.fst w < Prod.fst v) == false) = true)))] ⟨oM, oM, ⟨⟨tI, ⟨tI, tI⟩⟩, (by (intro _; simp; done))⟩, ⟨⟨(by (exact fun h => h)), tI⟩, (fun _ => tI)⟩, ⟨⟨tI, ⟨tI, tI⟩⟩, (by (intro _; simp; done))⟩, ⟨⟨(by (exact fun h => h)), tI⟩, (fun _ => tI)⟩, ⟨⟨(by (exact fun h => h)), ⟨(by (exact fun h => h)), tI⟩⟩, (fun _ => tI)⟩, ⟨⟨(by (exact fun h => h)), tI⟩, (fun _ => tI)⟩, ⟨⟨tI, ⟨tI, tI⟩⟩, (by (intro _; simp; done))⟩, ⟨⟨(by (exact fun h => h)), tI⟩, (fun _ => tI)⟩, ⟨⟨tI, ⟨tI, tI⟩⟩, (by (intro _; simp; done))⟩, ⟨⟨(by (exact fun h => h)), tI⟩, (fun _ => tI)⟩, ⟨⟨(by (exact fun h => h)), ⟨(by (exact fun h => h)), tI⟩⟩, (fun _ => tI)⟩, ⟨(by (exact fun h => h)), ⟨(by (simp; omega)), (fun _ => tI)⟩⟩, ⟨tI, (by (intro h; rw [h]; rfl))⟩, tI⟩ ?_
  refine aw_ret ?_
  rw [lessW, if_neg h1]
  refine rP (V.b (decide (Prod.fst w < Prod.fst v) || decide (Prod.fst w = Prod.fst v) && decide (Prod.snd w < Prod.snd v)))
set_option maxRecDepth 100000 in
theorem openAll_ac (fs : List Fm) (l : List Tr) (h : AlOk fs l) : AC Tryz.prog 15 [V.fms fs, V.trs l] (.tup [.ptr (alC fs l), .i 0]) [] := by
 have h1 := h.f0
 have h8 := h.f8
 refine acI hTT hMX Tryz.func15 Tryz.ntmps15 fun C hC hF => ?_
 refine sX hTT 2 2 [] tI (sK fun K hK => ?_); refine sX hTT 3 8 [(4, .c (gA (decide ((↑(List.length fs) : Int) = 0) == false) True)), (5, .c (gB (decide ((↑(List.length fs) : Int) = 0) == false) True)), (6, .c (gD (decide ((↑(List.length fs) : Int) = 0) == false) True)), (7, .c (True ∧ (decide ((↑(List.length fs) : Int) = 0) = false → (decide ((↑(List.length fs) : Int) = 0) == false) = true)))] ⟨⟨⟨tI, tI⟩, (fun _ => tI)⟩, ⟨⟨(by (exact fun h => h)), tI⟩, (fun _ => tI)⟩, ⟨⟨(by (exact fun h => h)), ⟨tI, tI⟩⟩, (fun _ => tI)⟩, ⟨tI, (by (intro h; rw [h]; rfl))⟩, tI⟩ ?_
 refine w_cond (t := decide ((↑(List.length fs) : Int) = 0) || decide ((8 : Int) < (↑(List.length fs) : Int))) kR (fun c0 => ?_) (fun c0 => ?_)
 ·
  simp only [Bool.or_eq_true, decide_eq_true_eq] at c0; omega
 refine aw_skip ?_
 refine xt_n (hK _ ?_); clear hK K; refine sK fun K hK => wR 4 ?_
 refine aops_x (M := [21]) hTT 5 [(3, .r (pn 21 (V.ref 300021 0) (300021 : Nat) (Ob.box 71 [V.nil, V.i (↑(List.length l) : Int)])))] tI ?_
 refine nK hK ?_; clear hK K; refine sK fun K hK => sK fun K hK => wR 5 ?_
 refine aops_x (M := [21]) hTT 3 [] tI ?_
 refine nK hK ?_; clear hK K
 refine aw_block ?_
 refine w_le (le_openIn 300021 0 (t := 71) (cs := [.nil, .i l.length]) 72 1 (fun k => [.ptr (plC4 (gfm fs k) l)]) kR rfl kR kR) ?_
 refine w_loop (ι := Nat) (fun k => [(1, V.trs l), (6, .ref 1 0), (22, V.fms fs), (23, .i fs.length), (24, .i k)]) (fun k => [(1, .box 71 [.own 2, .i l.length]), (2, .row 72 1 k fun k => [.ptr (plC4 (gfm fs k) l)])]) (fun k => k ≤ fs.length) (fun k => fs.length - k) 0 (Nat.zero_le _) ?_ ?_
 ·
  refine le_ren (sl := [(1, Ob.box 71 [V.own 2, V.i (↑(List.length l) : Int)]), (2, Ob.row 72 1 0 fun (k : Nat) => [V.ptr (plC4 (gfm fs k) l)])]) [(1, 300021), (2, 500000)] (.cons kR (.cons kR (.cons kR (.cons kR (.cons kR .nil))))) (.cons ⟨Ob.box 71 [V.own 500000, V.i (↑(List.length l) : Int)], kR, .box kR⟩ (.cons ⟨Ob.row 72 1 0 fun (k : Nat) => [V.ptr (plC4 (gfm fs k) l)], kR, .row kR (fun _ _ => rfl)⟩ .nil)) kR kR
 intro k hk
 refine sX hTT 2 1 [] tI (sK fun K hK => ?_)
 refine w_cond (t := decide ((↑k : Int) < (↑(List.length fs) : Int))) kR (fun c1 => ?_) (fun c1 => ?_)
 ·
  have hk1 : k < fs.length := by simpa using c1
  refine aw_skip ?_
  refine xt_n (hK _ ?_); clear hK K; refine sK fun K hK => ?_
  refine aw_block ?_
  refine sX hTT 3 4 [(0, .c ((0 : Int) ≤ (↑k : Int) ∧ (↑k : Int) < (↑(List.length fs) : Int))), (2, .r (pn 8 (V.ref 200008 0) (200008 : Nat) (Ob.box 39 [V.c (Value.string (ByteArray.mk #[])), V.i 0, V.i 0, V.i 0, V.i 0, V.i 0, V.i 0, V.i 0]))), (3, .r (pw ((0 : Nat) + (8 : Nat) ≤ (8 : Nat)) (200008 : Nat) (Ob.box 39 [V.c (Value.string (ByteArray.mk (List.toArray (Prod.fst (gfm fs k))))), V.i (Fm.ou (gfm fs k)), V.i (Fm.inn (gfm fs k)), V.i (Fm.per (gfm fs k)), V.i (Fm.lead (gfm fs k)), V.i (Fm.gap (gfm fs k)), V.i (Fm.tail (gfm fs k)), V.i (Fm.cost (gfm fs k))])))] ⟨oM, oM, tI⟩ (sK fun K hK => sK fun K hK => wR 4 (aX hTT 1 [(0, .c ((0 : Nat) ≤ (8 : Nat)))] ⟨oM, tI⟩ ?_))
  refine eC (checkFormat4_ac (gfm fs k) (h.ff k hk1)) ?_
  refine aX hTT 1 [] tI (nK hK ?_); clear hK K; refine sX hTT 5 2 [] tI (w_false (t := false) kR rfl ?_)
  refine aw_skip ?_
  refine xt_n (hK _ ?_); clear hK K; refine wD 6 (aX hTT 14 [(4, .c ((0 : Nat) ≤ (2 : Nat))), (5, .c ((0 : Nat) ≤ (8 : Nat))), (10, .r (PR.mk (some (43 : Nat)) (some (k + 1 ≤ (1099511627776 : Nat))) (V.own 500043) [((2 : Nat), none), ((500043 : Nat), some (Ob.row 72 1 (k + 1) (appRow k (fun (k : Nat) => [V.ptr (plC4 (gfm fs k) l)]) fun (i : Nat) => List.take (1 : Nat) (List.drop (i * 1) [V.ptr [V.c (Value.string (ByteArray.mk (List.toArray (Prod.fst (gfm fs k))))), V.i (Fm.ou (gfm fs k)), V.i (Fm.inn (gfm fs k)), V.i (Fm.per (gfm fs k)), V.i (Fm.lead (gfm fs k)), V.i (Fm.gap (gfm fs k)), V.i (Fm.tail (gfm fs k)), V.i (Fm.cost (gfm fs k)), V.sl 3 (List.length l) fun (k : Nat) => Tr.c (gtr l k)]]))))] false)), (13, .r (pw ((0 : Nat) + (1 : Nat) ≤ (2 : Nat)) (1 : Nat) (Ob.box 71 [V.own 500043, V.i (↑(List.length l) : Int)])))] ⟨oM, oM, oM, oM, tI⟩ (aops_nil ⟨kR, (xb_n (xt_n (hK _ ?_)))⟩)); clear hK K; refine wR 7 (aX hTT 2 [(0, .i ((↑k : Int) + 1))] ⟨oM, tI⟩ (aops_nil (xt_n ?_)))
  refine ⟨k + 1, by omega, ?_, by omega⟩
  refine le_ren (tl := [(1, V.sl 3 (List.length l) fun (k : Nat) => Tr.c (gtr l k)), (6, V.ref 1 0), (22, V.sl 8 (List.length fs) fun (k : Nat) => Fm.c (gfm fs k)), (23, V.i (↑(List.length fs) : Int)), (24, V.i (↑(k + 1) : Int))]) (sl := [(1, Ob.box 71 [V.own 2, V.i (↑(List.length l) : Int)]), (2, Ob.row 72 1 (k + 1) fun (k : Nat) => [V.ptr (plC4 (gfm fs k) l)])]) [(1, 1), (2, 500043)] (.cons kR (.cons kR (.cons kR (.cons kR (.cons kR .nil))))) (.cons ⟨Ob.box 71 [V.own 500043, V.i (↑(List.length l) : Int)], kR, .box kR⟩ (.cons ⟨Ob.row 72 1 (k + 1) (appRow k (fun (k : Nat) => [V.ptr (plC4 (gfm fs k) l)]) fun (i : Nat) => List.take (1 : Nat) (List.drop (i * 1) [V.ptr [V.c (Value.string (ByteArray.mk (List.toArray (Prod.fst (gfm fs k))))), V.i (Fm.ou (gfm fs k)), V.i (Fm.inn (gfm fs k)), V.i (Fm.per (gfm fs k)), V.i (Fm.lead (gfm fs k)), V.i (Fm.gap (gfm fs k)), V.i (Fm.tail (gfm fs k)), V.i (Fm.cost (gfm fs k)), V.sl 3 (List.length l) fun (k : Nat) => Tr.c (gtr l k)]])), kR, .row kR ?_⟩ .nil)) kR kR
  exact appRow_ok (fun i hi => rfl) rfl
 ·
  have hk1 : k = fs.length := by simp at c1; omega
  refine w_le (le_freezeIn 2 (e := (72 : Nat)) (sz := (1 : Nat)) (n := k) (n' := fs.length) (row := fun (k : Nat) => [V.ptr (plC4 (gfm fs k) l)]) (row' := (fun k => [.ptr (plC4 (gfm fs k) l)])) kR (fun _ => rfl) ?_ ?_) ?_
  ·
   omega
  ·
   exact fun _ _ => rfl
  refine w_le (le_freezeBox (t := 71) (cs := alC fs l) 1 kR kR) ?_
  refine aw_exit ?_
  refine xt_x ?_; refine xt_x ?_
  refine xb_same ?_
  refine xt_n ?_; clear hK K; refine hK _ ?_; clear hK K; refine sK fun K hK => wR 3 (aX hTT 2 [] tI ?_)
  refine eC (checkTracks4_ac l h.ll h.tt) ?_
  refine aX hTT 2 [] tI (nK hK ?_); clear hK K
  refine aw_ret ?_
  refine rP (V.tup [V.ptr [V.sl 1 (List.length fs) fun (k : Nat) => [V.ptr (plC4 (gfm fs k) l)], V.i (↑(List.length l) : Int)], V.i 0])
end Go.Proofs.YtffggfnomhhckaaGreatDoor

namespace Go.Proofs.YtffggfnomhhckaaGreatDoor
open Go.Ab Go.RowKit Go.Dw Go.Shelf
def prC (n : Nat) (w : Wo) : List V := (List.range n).flatMap fun k => [.i (w k).1, .i (w k).2]
theorem prC_succ (n : Nat) (w : Wo) : prC (n + 1) w = prC n w ++ [.i (w n).1, .i (w n).2] := by
 simp [prC, List.range_succ]
theorem prC_len (w : Wo) : ∀ n, (prC n w).length = n * 2
 | 0 => rfl
 | n + 1 => by rw [prC_succ, List.length_append, prC_len w n]; simp; omega
theorem prC_row {w : Wo} {i : Nat} : ∀ {n : Nat}, i < n → ((prC n w).drop (i * 2)).take 2 = [.i (w i).1, .i (w i).2]
 | 0, h => by omega
 | n + 1, h => by
  have hl := prC_len w n
  rw [prC_succ]
  by_cases e : i = n
  ·
   subst e
   rw [List.drop_append_of_le_length oM, List.drop_of_length_le oM]
   rfl
  ·
   rw [List.drop_append_of_le_length oM, List.take_append_of_le_length (by rw [List.length_drop]; omega)]
   exact prC_row oM
theorem prC_ext {w v : Wo} : ∀ n, (∀ k, k < n → w k = v k) → prC n w = prC n v
 | 0, _ => rfl
 | n + 1, h => by rw [prC_succ, prC_succ, prC_ext n fun k hk => h k oM, h n oM]
theorem prC_set {w : Wo} {i : Nat} {x : Int × Int} : ∀ {n : Nat}, i < n → splice (prC n w) (i * 2) [.i x.1, .i x.2] = prC n (upd w i x)
 | 0, h => by omega
 | n + 1, h => by
  have hl := prC_len w n
  rw [prC_succ, prC_succ]
  by_cases e : i = n
  ·
   subst e
   rw [upd_same, prC_ext (w := upd w i x) (v := w) i fun k hk => upd_ne _ _ oM]
   simp only [splice]
   rw [List.take_append_of_le_length oM, List.take_of_length_le oM, List.drop_of_length_le (by simp; omega), List.append_nil]
  ·
   rw [upd_ne _ _ (show n ≠ i by omega), ← prC_set (show i < n by omega)]
   simp only [splice]
   rw [List.take_append_of_le_length oM, List.drop_append_of_le_length (by simp; omega)]
   simp
theorem prC_ren (g : Nat → Nat) (w : Wo) : ∀ n, V.renL g (prC n w) = prC n w
 | 0 => rfl
 | n + 1 => by rw [prC_succ, V.renL_append, prC_ren g w n]; rfl
theorem prC_flat (pn : List Nat) (w : Wo) : ∀ n, V.flatPL pn (prC n w) = true
 | 0 => rfl
 | n + 1 => by rw [prC_succ]; exact V.flatPL_append (prC_flat pn w n) rfl
structure StB (i : Nat) (c : Int) (s0 s : BB) : Prop where
 o : ∀ j, j ≠ i → s.w j = s0.w j
 a : -1 ≤ (s.w i).1 ∧ (s.w i).1 ≤ 1048576 * (c + 1)
 b : 0 ≤ (s.w i).2 ∧ (s.w i).2 ≤ c + 1
theorem stB_step {fs : List Fm} {l : List Tr} {i : Nat} {c : Int} {s0 s : BB} {x : Nat × Nat} (hf : ∀ k, k < fs.length → fmB (gfm fs k) = true) (h0 : BdW c s0.w) (h : StB i c s0 s) (hx : FaOk fs l i x) : StB i c s0 (stepB fs i s x) := by
 have hm := hx.m
 have hc := (fmB_ok (hf x.1 hx.k)).cost
 have hb := h0 (i + x.2)
 have e := h.o (i + x.2) oM
 unfold stepB
 split
 ·
  exact h
 ·
  split
  ·
   refine ⟨fun j hj => by simp only [upd_ne _ _ hj]; exact h.o j hj, ?_, ?_⟩
   ·
    simp only [upd_same, newW, e]; omega
   ·
    simp only [upd_same, newW, e]; omega
  ·
   exact h
theorem stB_fold {fs : List Fm} {l : List Tr} {i : Nat} {c : Int} {s0 : BB} (hf : ∀ k, k < fs.length → fmB (gfm fs k) = true) (h0 : BdW c s0.w) (L : List (Nat × Nat)) (hL : ∀ x ∈ L, FaOk fs l i x) : StB i c s0 (foldB fs i s0 L) := by
 have key : ∀ (L : List (Nat × Nat)) (s : BB), (∀ x ∈ L, FaOk fs l i x) → StB i c s0 s → StB i c s0 (foldB fs i s L) := by
  intro L
  induction L with
  | nil => intro s _ h; exact h
  | cons x L ih => intro s hL h; exact ih _ (fun y hy => hL y (by simp [hy])) (stB_step hf h0 h (hL x (by simp)))
 have := h0 i
 exact key L s0 hL ⟨fun _ _ => rfl, by omega, by omega⟩
theorem StB.bd {i : Nat} {c : Int} {s0 s : BB} (h0 : BdW c s0.w) (h : StB i c s0 s) : BdW (c + 1) s.w := fun j => by
 by_cases e : j = i
 ·
  subst e
  exact ⟨h.a.1, h.a.2, h.b.1, h.b.2⟩
 ·
  have := h0 j
  rw [h.o j e]
  omega
theorem noneW_bd {c : Int} {w : Wo} (hc : 0 ≤ c) (h : BdW c w) (i : Nat) : BdW c (upd w i noneW) := fun j => by
 by_cases e : j = i
 ·
  subst e
  rw [upd_same]
  simp only [noneW]
  omega
 ·
  rw [upd_ne _ _ e]; exact h j
theorem best_bd {fs : List Fm} {l : List Tr} (hf : ∀ k, k < fs.length → fmB (gfm fs k) = true) : ∀ n : Nat, BdW n (bestS fs l n).w
 | 0 => fun j => by simp [bestS]
 | n + 1 => by
  have := stB_fold (s0 := ⟨upd (bestS fs l n).w (l.length - 1 - n) noneW, (bestS fs l n).f⟩) hf (noneW_bd oM (best_bd hf n) _) (facesL fs l (l.length - 1 - n)) faces_ok
  exact this.bd (noneW_bd oM (best_bd hf n) _)
def bef (fs : List Fm) (l : List Tr) (n k : Nat) : BB := foldB fs (l.length - 1 - n) ⟨upd (bestS fs l n).w (l.length - 1 - n) noneW, (bestS fs l n).f⟩ ((facesL fs l (l.length - 1 - n)).take k)
theorem bef_end (fs : List Fm) (l : List Tr) (n : Nat) : bef fs l n (facesL fs l (l.length - 1 - n)).length = bestS fs l (n + 1) := by
 rw [bef, List.take_length]; rfl
theorem bef_bd {fs : List Fm} {l : List Tr} (hf : ∀ k, k < fs.length → fmB (gfm fs k) = true) (n k : Nat) : BdW (n + 1) (bef fs l n k).w :=
 (stB_fold (s0 := ⟨upd (bestS fs l n).w (l.length - 1 - n) noneW, (bestS fs l n).f⟩) hf (noneW_bd oM (best_bd hf n) _) _ fun x hx => faces_ok x (List.mem_of_mem_take hx)).bd (noneW_bd oM (best_bd hf n) _)
theorem as_loadRNe {P : Program} {W LB : Nat → Prop} {d : Option Tmp} {ty : TypeId} {pos : String} {af : Array Edge} {gd : Option (Nat × Bool)} {ev : Operand → V} (t : Nat) (x : Operand) {id o t' n : Nat} {cs us : List V} (h : tAgg P t = some true) (hs : tSize P t = some n) (hx : ev x = .ref id o) (hn : o + n ≤ cs.length) (hv : (cs.drop o).take n = us) :
  AStep P W LB ⟨d, .load t x, ty, pos, af, gd⟩ ev (.agg us) [(id, .box t' cs)] [] [] := hv ▸ as_loadRN t x h hs hx hn
abbrev qBS70 : Prop := (0 : Nat) ≤ (1 : Nat)
theorem qBS70_ : qBS70 := oM
abbrev qBS71 : Prop := (0 : Nat) ≤ (2 : Nat)
theorem qBS71_ : qBS71 := oM
abbrev yyBS70 : Ob := Ob.box 65 [V.i 0, V.i 0, V.i 0, V.i 0, V.i 0, V.i 0, V.i 0, V.i 0, V.i 0, V.i 0, V.i 0, V.i 0, V.i 0, V.i 0, V.i 0, V.i 0, V.i 0, V.i 0, V.i 0, V.i 0, V.i 0, V.i 0, V.i 0, V.i 0, V.i 0, V.i 0, V.i 0, V.i 0, V.i 0, V.i 0, V.i 0, V.i 0, V.i 0, V.i 0, V.i 0, V.i 0, V.i 0, V.i 0, V.i 0, V.i 0, V.i 0, V.i 0, V.i 0, V.i 0, V.i 0, V.i 0, V.i 0, V.i 0, V.i 0, V.i 0]
abbrev yyBS71 : Ob := Ob.box 66 [V.i 0, V.i 0, V.i 0, V.i 0, V.i 0, V.i 0, V.i 0, V.i 0, V.i 0, V.i 0, V.i 0, V.i 0, V.i 0, V.i 0, V.i 0, V.i 0, V.i 0, V.i 0, V.i 0, V.i 0, V.i 0, V.i 0, V.i 0, V.i 0, V.i 0, V.i 0, V.i 0, V.i 0, V.i 0, V.i 0, V.i 0, V.i 0, V.i 0, V.i 0, V.i 0, V.i 0, V.i 0, V.i 0, V.i 0, V.i 0, V.i 0, V.i 0, V.i 0, V.i 0, V.i 0, V.i 0, V.i 0, V.i 0]
set_option maxRecDepth 100000 in
theorem best_ac (fs : List Fm) (l : List Tr) (h : AlOk fs l) : AC Tryz.prog 16 [.ptr (alC fs l)] (.tup [.agg (prC 25 (bestS fs l l.length).w), .agg (prC 24 (bestS fs l l.length).f)]) [] := by
 have h24 := h.ll
 refine acI hTT hMX Tryz.func16 Tryz.ntmps16 fun C hC hF => ?_
 refine sX hTT 2 3 [(1, .r (pn 2 (V.ref 100002 0) (100002 : Nat) (yyBS70))), (2, .r (pn 3 (V.ref 100003 0) (100003 : Nat) (yyBS71)))] tI (sX hTT 3 1 [(0, .r (pn 4 (V.ref 200004 0) (200004 : Nat) (yyBS70)))] tI (sX hTT 4 1 [(0, .r (pn 5 (V.ref 300005 0) (300005 : Nat) (yyBS71)))] tI (sK fun K hK => sX hTT 5 7 [(4, .i ((↑(List.length l) : Int) - 1)), (5, .r (pn 6 (V.ref 400006 0) (400006 : Nat) (Ob.box 3 [V.i 0]))), (6, .r (pw ((0 : Nat) + (1 : Nat) ≤ (1 : Nat)) (400006 : Nat) (Ob.box 3 [V.i ((↑(List.length l) : Int) - 1)])))] ⟨oM, oM, tI⟩ ?_)))
 refine aw_block ?_
 refine w_loop (ι := Nat × List V × List V × List V × List V) (fun _ => [(1, .ptr [.ptr (alC fs l)]), (2, .ref 2 0), (3, .ref 3 0), (4, .ref 4 0), (5, .ref 5 0), (6, .ref 6 0)])
  (fun x => [(2, .box 65 x.2.2.2.1), (3, .box 66 x.2.2.2.2), (4, .box 65 x.2.1), (5, .box 66 x.2.2.1), (6, .box 3 [.i ((l.length : Int) - 1 - (x.1 : Int))])])
  (fun x => x.1 ≤ l.length ∧ x.2.1 = prC 25 (bestS fs l x.1).w ∧ x.2.2.1 = prC 24 (bestS fs l x.1).f ∧ x.2.2.2.1 = prC 25 (fun _ => (0, 0)) ∧ x.2.2.2.2 = prC 24 (fun _ => (0, 0))) (fun x => l.length - x.1)
  (0, prC 25 (bestS fs l 0).w, prC 24 (bestS fs l 0).f, prC 25 (fun _ => (0, 0)), prC 24 (fun _ => (0, 0))) ⟨Nat.zero_le _, rfl, rfl, rfl, rfl⟩ ?_ ?_
 ·
  show Le _ ⟨mkT [(1, .ptr [.ptr (alC fs l)]), (2, .ref 2 0), (3, .ref 3 0), (4, .ref 4 0), (5, .ref 5 0), (6, .ref 6 0)], mkS [(2, .box 65 (prC 25 (fun _ => (0, 0)))), (3, .box 66 (prC 24 (fun _ => (0, 0)))), (4, .box 65 (prC 25 (bestS fs l 0).w)), (5, .box 66 (prC 24 (bestS fs l 0).f)), (6, .box 3 [.i ((l.length : Int) - 1 - ((0 : Nat) : Int))])], 1⟩
  refine le_ren (tl := [(1, V.ptr [V.ptr [V.sl 1 (List.length fs) fun (k : Nat) => [V.ptr (plC4 (gfm fs k) l)], V.i (↑(List.length l) : Int)]]), (2, V.ref 2 0), (3, V.ref 3 0), (4, V.ref 4 0), (5, V.ref 5 0), (6, V.ref 6 0)]) (sl := [(2, yyBS70), (3, yyBS71), (4, Ob.box 65 [V.i (Prod.fst (BB.w (bestS fs l (0 : Nat)) 0)), V.i (Prod.snd (BB.w (bestS fs l (0 : Nat)) 0)), V.i (Prod.fst (BB.w (bestS fs l (0 : Nat)) 1)), V.i (Prod.snd (BB.w (bestS fs l (0 : Nat)) 1)), V.i (Prod.fst (BB.w (bestS fs l (0 : Nat)) 2)), V.i (Prod.snd (BB.w (bestS fs l (0 : Nat)) 2)), V.i (Prod.fst (BB.w (bestS fs l (0 : Nat)) 3)), V.i (Prod.snd (BB.w (bestS fs l (0 : Nat)) 3)), V.i (Prod.fst (BB.w (bestS fs l (0 : Nat)) 4)), V.i (Prod.snd (BB.w (bestS fs l (0 : Nat)) 4)), V.i (Prod.fst (BB.w (bestS fs l (0 : Nat)) 5)), V.i (Prod.snd (BB.w (bestS fs l (0 : Nat)) 5)), V.i (Prod.fst (BB.w (bestS fs l (0 : Nat)) 6)), V.i (Prod.snd (BB.w (bestS fs l (0 : Nat)) 6)), V.i (Prod.fst (BB.w (bestS fs l (0 : Nat)) 7)), V.i (Prod.snd (BB.w (bestS fs l (0 : Nat)) 7)), V.i (Prod.fst (BB.w (bestS fs l (0 : Nat)) 8)), V.i (Prod.snd (BB.w (bestS fs l (0 : Nat)) 8)), V.i (Prod.fst (BB.w (bestS fs l (0 : Nat)) 9)), V.i (Prod.snd (BB.w (bestS fs l (0 : Nat)) 9)), V.i (Prod.fst (BB.w (bestS fs l (0 : Nat)) 10)), V.i (Prod.snd (BB.w (bestS fs l (0 : Nat)) 10)), V.i (Prod.fst (BB.w (bestS fs l (0 : Nat)) 11)), V.i (Prod.snd (BB.w (bestS fs l (0 : Nat)) 11)), V.i (Prod.fst (BB.w (bestS fs l (0 : Nat)) 12)), V.i (Prod.snd (BB.w (bestS fs l (0 : Nat)) 12)), V.i (Prod.fst (BB.w (bestS fs l (0 : Nat)) 13)), V.i (Prod.snd (BB.w (bestS fs l (0 : Nat)) 13)), V.i (Prod.fst (BB.w (bestS fs l (0 : Nat)) 14)), V.i (Prod.snd (BB.w (bestS fs l (0 : Nat)) 14)), V.i (Prod.fst (BB.w (bestS fs l (0 : Nat)) 15)), V.i (Prod.snd (BB.w (bestS fs l (0 : Nat)) 15)), V.i (Prod.fst (BB.w (bestS fs l (0 : Nat)) 16)), V.i (Prod.snd (BB.w (bestS fs l (0 : Nat)) 16)), V.i (Prod.fst (BB.w (bestS fs l (0 : Nat)) 17)), V.i (Prod.snd (BB.w (bestS fs l (0 : Nat)) 17)), V.i (Prod.fst (BB.w (bestS fs l (0 : Nat)) 18)), V.i (Prod.snd (BB.w (bestS fs l (0 : Nat)) 18)), V.i (Prod.fst (BB.w (bestS fs l (0 : Nat)) 19)), V.i (Prod.snd (BB.w (bestS fs l (0 : Nat)) 19)), V.i (Prod.fst (BB.w (bestS fs l (0 : Nat)) 20)), V.i (Prod.snd (BB.w (bestS fs l (0 : Nat)) 20)), V.i (Prod.fst (BB.w (bestS fs l (0 : Nat)) 21)), V.i (Prod.snd (BB.w (bestS fs l (0 : Nat)) 21)), V.i (Prod.fst (BB.w (bestS fs l (0 : Nat)) 22)), V.i (Prod.snd (BB.w (bestS fs l (0 : Nat)) 22)), V.i (Prod.fst (BB.w (bestS fs l (0 : Nat)) 23)), V.i (Prod.snd (BB.w (bestS fs l (0 : Nat)) 23)), V.i (Prod.fst (BB.w (bestS fs l (0 : Nat)) 24)), V.i (Prod.snd (BB.w (bestS fs l (0 : Nat)) 24))]), (5, Ob.box 66 [V.i (Prod.fst (BB.f (bestS fs l (0 : Nat)) 0)), V.i (Prod.snd (BB.f (bestS fs l (0 : Nat)) 0)), V.i (Prod.fst (BB.f (bestS fs l (0 : Nat)) 1)), V.i (Prod.snd (BB.f (bestS fs l (0 : Nat)) 1)), V.i (Prod.fst (BB.f (bestS fs l (0 : Nat)) 2)), V.i (Prod.snd (BB.f (bestS fs l (0 : Nat)) 2)), V.i (Prod.fst (BB.f (bestS fs l (0 : Nat)) 3)), V.i (Prod.snd (BB.f (bestS fs l (0 : Nat)) 3)), V.i (Prod.fst (BB.f (bestS fs l (0 : Nat)) 4)), V.i (Prod.snd (BB.f (bestS fs l (0 : Nat)) 4)), V.i (Prod.fst (BB.f (bestS fs l (0 : Nat)) 5)), V.i (Prod.snd (BB.f (bestS fs l (0 : Nat)) 5)), V.i (Prod.fst (BB.f (bestS fs l (0 : Nat)) 6)), V.i (Prod.snd (BB.f (bestS fs l (0 : Nat)) 6)), V.i (Prod.fst (BB.f (bestS fs l (0 : Nat)) 7)), V.i (Prod.snd (BB.f (bestS fs l (0 : Nat)) 7)), V.i (Prod.fst (BB.f (bestS fs l (0 : Nat)) 8)), V.i (Prod.snd (BB.f (bestS fs l (0 : Nat)) 8)), V.i (Prod.fst (BB.f (bestS fs l (0 : Nat)) 9)), V.i (Prod.snd (BB.f (bestS fs l (0 : Nat)) 9)), V.i (Prod.fst (BB.f (bestS fs l (0 : Nat)) 10)), V.i (Prod.snd (BB.f (bestS fs l (0 : Nat)) 10)), V.i (Prod.fst (BB.f (bestS fs l (0 : Nat)) 11)), V.i (Prod.snd (BB.f (bestS fs l (0 : Nat)) 11)), V.i (Prod.fst (BB.f (bestS fs l (0 : Nat)) 12)), V.i (Prod.snd (BB.f (bestS fs l (0 : Nat)) 12)), V.i (Prod.fst (BB.f (bestS fs l (0 : Nat)) 13)), V.i (Prod.snd (BB.f (bestS fs l (0 : Nat)) 13)), V.i (Prod.fst (BB.f (bestS fs l (0 : Nat)) 14)), V.i (Prod.snd (BB.f (bestS fs l (0 : Nat)) 14)), V.i (Prod.fst (BB.f (bestS fs l (0 : Nat)) 15)), V.i (Prod.snd (BB.f (bestS fs l (0 : Nat)) 15)), V.i (Prod.fst (BB.f (bestS fs l (0 : Nat)) 16)), V.i (Prod.snd (BB.f (bestS fs l (0 : Nat)) 16)), V.i (Prod.fst (BB.f (bestS fs l (0 : Nat)) 17)), V.i (Prod.snd (BB.f (bestS fs l (0 : Nat)) 17)), V.i (Prod.fst (BB.f (bestS fs l (0 : Nat)) 18)), V.i (Prod.snd (BB.f (bestS fs l (0 : Nat)) 18)), V.i (Prod.fst (BB.f (bestS fs l (0 : Nat)) 19)), V.i (Prod.snd (BB.f (bestS fs l (0 : Nat)) 19)), V.i (Prod.fst (BB.f (bestS fs l (0 : Nat)) 20)), V.i (Prod.snd (BB.f (bestS fs l (0 : Nat)) 20)), V.i (Prod.fst (BB.f (bestS fs l (0 : Nat)) 21)), V.i (Prod.snd (BB.f (bestS fs l (0 : Nat)) 21)), V.i (Prod.fst (BB.f (bestS fs l (0 : Nat)) 22)), V.i (Prod.snd (BB.f (bestS fs l (0 : Nat)) 22)), V.i (Prod.fst (BB.f (bestS fs l (0 : Nat)) 23)), V.i (Prod.snd (BB.f (bestS fs l (0 : Nat)) 23))]), (6, Ob.box 3 [V.i ((↑(List.length l) : Int) - 1 - (↑(0 : Nat) : Int))])]) [(2, 100002), (3, 100003), (4, 200004), (5, 300005), (6, 400006)] (.cons kR (.cons kR (.cons kR (.cons kR (.cons kR (.cons kR .nil)))))) (.cons ⟨yyBS70, kR, .box kR⟩ (.cons ⟨yyBS71, kR, .box kR⟩ (.cons ⟨yyBS70, kR, .box kR⟩ (.cons ⟨yyBS71, kR, .box kR⟩ (.cons ⟨Ob.box 3 [V.i ((↑(List.length l) : Int) - 1)], kR, .box ?_⟩ .nil))))) kR kR
  show [V.i ((l.length : Int) - 1)] = [V.i ((l.length : Int) - 1 - ((0 : Nat) : Int))]
  rw [show ((0 : Nat) : Int) = 0 from rfl, Int.sub_zero]
 rintro ⟨n, cw, cf, z2, z3⟩ ⟨hn, hcw, hcf, hz2, hz3⟩
 simp only at hn hcw hcf hz2 hz3 ⊢
 have lw : cw.length = 50 := by rw [hcw, prC_len]
 have lf : cf.length = 48 := by rw [hcf, prC_len]
 refine sK fun K hK => sX hTT 2 2 [(0, .c qBS70)] ⟨qBS70_, tI⟩ ?_
 refine w_cond (t := decide ((0 : Int) ≤ (↑(List.length l) : Int) - 1 - (↑n : Int))) kR (fun c1 => ?_) (fun c1 => ?_)
 ·
  have hn1 : n < l.length := by simp at c1; omega
  obtain ⟨i, hi, ei⟩ : ∃ i, i = l.length - 1 - n ∧ (l.length : Int) - 1 - (n : Int) = (i : Int) := ⟨_, rfl, by omega⟩
  rw [ei]
  have hset : setCells cw (0 + i * 2) [.i (-1), .i 0] = prC 25 (upd (bestS fs l n).w i noneW) := by
   rw [setCells_eq (by rw [lw]; simp; omega), hcw, Nat.zero_add]
   exact prC_set (x := noneW) oM
  refine aw_skip ?_
  refine xt_n (hK _ ?_); clear hK K; refine sK fun K hK => ?_
  refine aw_block ?_
  refine sX hTT 3 4 [(0, .c qBS70), (2, .c ((0 : Int) ≤ (↑i : Int) ∧ (↑i : Int) < (↑(25 : Nat) : Int))), (3, .r (pw ((0 : Nat) + i * 2 + (2 : Nat) ≤ List.length cw) (4 : Nat) (Ob.box 65 (setCells cw ((0 : Nat) + i * 2) [V.i (-1), V.i 0]))))] ⟨qBS70_, oM, oM, tI⟩ (sK fun K hK => wR 4 (aX hTT 2 [(1, .c qBS70)] ⟨qBS70_, tI⟩ ?_))
  refine eC (faces_ac fs l i) ?_
  refine nK hK ?_; clear hK K
  refine aw_block ?_
  refine w_rangeI (caps := [V.ptr [V.ptr [V.sl 1 (List.length fs) fun (k : Nat) => [V.ptr (plC4 (gfm fs k) l)], V.i (↑(List.length l) : Int)]], V.ptr [V.i (↑i : Int)]]) hF hC ((faces_it fs l h i oM)) kR kR ?_ kR [500, 501, 502, 503, 504] [(503, 2), (504, 3), (500, 4), (501, 5), (502, 6)] [(1, .ptr [.ptr (alC fs l)]), (2, .ref 503 0), (3, .ref 504 0), (4, .ref 500 0), (5, .ref 501 0), (6, .ref 502 0)] (fun _ => True) (fun k => [.box 65 (prC 25 (bef fs l n k).w), .box 66 (prC 24 (bef fs l n k).f), .box 3 [.i i], .box 65 z2, .box 66 z3]) (fun _ _ _ => False) ?_ kR kR kR (.cons kR (.cons kR (.cons kR (.cons kR (.cons kR (.cons kR .nil)))))) (.cons ⟨Ob.box 65 (setCells cw ((0 : Nat) + i * 2) [V.i (-1), V.i 0]), kR, .box ?_⟩ (.cons ⟨Ob.box 66 cf, kR, .box ?_⟩ (.cons ⟨Ob.box 3 [V.i (↑i : Int)], kR, .box kR⟩ (.cons ⟨Ob.box 65 z2, kR, .box ?_⟩ (.cons ⟨Ob.box 66 z3, kR, .box ?_⟩ .nil))))) kR ?_ ?_ ?_ ?_ ?_
  ·
   intro x hx
   simp only [facesV, List.mem_map] at hx
   obtain ⟨y, _, rfl⟩ := hx
   rfl
  ·
   trivial
  ·
   rw [prC_ren, hset, hi]; rfl
  ·
   rw [prC_ren, hcf]; rfl
  ·
   rw [hz2, prC_ren]
  ·
   rw [hz3, prC_ren]
  ·
   intro k o ho
   simp at ho
   rcases ho with rfl | rfl | rfl | rfl | rfl
   ·
    exact prC_flat _ _ _
   ·
    exact prC_flat _ _ _
   ·
    rfl
   ·
    rw [hz2]; exact prC_flat _ _ _
   ·
    rw [hz3]; exact prC_flat _ _ _
  ·
   intro k c sx hf
   exact hf.elim
  ·
   rintro C' ⟨lx, hF'⟩ k x hx _
   obtain ⟨y, hy, rfl⟩ : ∃ y, (facesL fs l i)[k]? = some y ∧ x = [.agg [.i y.1, .i y.2]] := by
    simp only [facesV, List.getElem?_map, Option.map_eq_some_iff] at hx
    obtain ⟨e, he, rfl⟩ := hx
    exact ⟨e, he, rfl⟩
   have hF := faces_ok y (List.mem_of_getElem? hy)
   have hx1 := hF.k
   have hx2 := hF.m
   have hx3 := hF.e
   have hcost := (fmB_ok (h.ff y.1 hF.k)).cost
   have hbd := bef_bd (l := l) h.ff n k
   have hst : bef fs l n (k + 1) = stepB fs i (bef fs l n k) y := by
    rw [bef, bef, ← hi]
    exact foldB_take hy
   generalize hS : bef fs l n k = s at hbd hst ⊢
   obtain ⟨dw, hdw⟩ : ∃ dw, dw = prC 25 s.w := ⟨_, rfl⟩
   obtain ⟨df, hdf⟩ : ∃ df, df = prC 24 s.f := ⟨_, rfl⟩
   have lw2 : dw.length = 50 := by rw [hdw, prC_len]
   have lf2 : df.length = 48 := by rw [hdf, prC_len]
   rw [← hdw, ← hdf]
   refine wR 2 (aX hTT 2 [(0, .r (pn 7 (V.ref 100007 0) (100007 : Nat) (Ob.box 37 [V.i 0, V.i 0]))), (1, .r (pw ((0 : Nat) + (2 : Nat) ≤ (2 : Nat)) (100007 : Nat) (Ob.box 37 [V.i (↑(Prod.fst y) : Int), V.i (↑(Prod.snd y) : Int)])))] ⟨oM, tI⟩ (aops_nil (xt_n ?_)))
   refine aw_block ?_
   refine sK fun K hK => wR 3 (aX hTT 5 [(0, .c qBS70), (2, .c ((1 : Nat) ≤ (2 : Nat))), (3, .i ((↑i : Int) + (↑(Prod.snd y) : Int))), (4, .c ((0 : Int) ≤ (↑i : Int) + (↑(Prod.snd y) : Int) ∧ (↑i : Int) + (↑(Prod.snd y) : Int) < (↑(25 : Nat) : Int)))] ⟨qBS70_, oM, oM, oM, tI⟩ ?_)
   refine aops_step rfl (as_loadRNe 64 (.tmp 30) (t' := 65) (cs := dw) (n := 2) (us := [.i (s.w (i + y.2)).1, .i (s.w (i + y.2)).2]) (hTT.agg rfl) (hTT.size rfl) rfl ?hn0 ?hv) ?hp ?hn ?_
   case hn0 => rw [lw2]; omega
   case hv => rw [hdw, Nat.zero_add]; exact prC_row oM
   case hp => intro p hp; rw [List.mem_singleton] at hp; subst hp; rfl
   case hn => simp [nwOk]
   refine aX hTT 2 [(0, .r (pn 8 (V.ref 200008 0) (200008 : Nat) (Ob.box 64 [V.i 0, V.i 0]))), (1, .r (pw ((0 : Nat) + (2 : Nat) ≤ (2 : Nat)) (200008 : Nat) (Ob.box 64 [V.i (Prod.fst (BB.w s (i + Prod.snd y))), V.i (Prod.snd (BB.w s (i + Prod.snd y)))])))] ⟨oM, tI⟩ (nK hK ?_); clear hK K; refine sK fun K hK => sK fun K hK => wR 4 ?_
   refine aops_n hTT (M := []) (n := 3) [pc 32 ((0 : Nat) ≤ (2 : Nat)) (V.agg [V.i (Prod.fst (BB.w s (i + Prod.snd y))), V.i (Prod.snd (BB.w s (i + Prod.snd y)))]), pv 33 (V.agg [V.i (-1), V.i 0]), pv 34 (V.b (decide (Prod.fst (BB.w s (i + Prod.snd y)) = (-1 : Int)) && (decide (Prod.snd (BB.w s (i + Prod.snd y)) = 0) && true)))] kR kR ⟨oM, tI⟩ ?_
   refine nK hK ?_; clear hK K
   rw [none_dec]
   refine w_cond (t := decide (BB.w s (i + Prod.snd y) = noneW)) kR (fun c2 => ?_) (fun c2 => ?_)
   ·
    have c3 : s.w (i + y.2) = noneW := by simpa using c2
    have e : stepB fs i s y = s := by rw [stepB, if_pos c3]
    refine aw_exit ?_
    refine xt_x ?_
    refine xb_same ?_
    refine ⟨trivial, ?_⟩
    refine le_ren (sl := [(500, Ob.box 65 [V.i (Prod.fst (BB.w (bef fs l n (k + 1)) 0)), V.i (Prod.snd (BB.w (bef fs l n (k + 1)) 0)), V.i (Prod.fst (BB.w (bef fs l n (k + 1)) 1)), V.i (Prod.snd (BB.w (bef fs l n (k + 1)) 1)), V.i (Prod.fst (BB.w (bef fs l n (k + 1)) 2)), V.i (Prod.snd (BB.w (bef fs l n (k + 1)) 2)), V.i (Prod.fst (BB.w (bef fs l n (k + 1)) 3)), V.i (Prod.snd (BB.w (bef fs l n (k + 1)) 3)), V.i (Prod.fst (BB.w (bef fs l n (k + 1)) 4)), V.i (Prod.snd (BB.w (bef fs l n (k + 1)) 4)), V.i (Prod.fst (BB.w (bef fs l n (k + 1)) 5)), V.i (Prod.snd (BB.w (bef fs l n (k + 1)) 5)), V.i (Prod.fst (BB.w (bef fs l n (k + 1)) 6)), V.i (Prod.snd (BB.w (bef fs l n (k + 1)) 6)), V.i (Prod.fst (BB.w (bef fs l n (k + 1)) 7)), V.i (Prod.snd (BB.w (bef fs l n (k + 1)) 7)), V.i (Prod.fst (BB.w (bef fs l n (k + 1)) 8)), V.i (Prod.snd (BB.w (bef fs l n (k + 1)) 8)), V.i (Prod.fst (BB.w (bef fs l n (k + 1)) 9)), V.i (Prod.snd (BB.w (bef fs l n (k + 1)) 9)), V.i (Prod.fst (BB.w (bef fs l n (k + 1)) 10)), V.i (Prod.snd (BB.w (bef fs l n (k + 1)) 10)), V.i (Prod.fst (BB.w (bef fs l n (k + 1)) 11)), V.i (Prod.snd (BB.w (bef fs l n (k + 1)) 11)), V.i (Prod.fst (BB.w (bef fs l n (k + 1)) 12)), V.i (Prod.snd (BB.w (bef fs l n (k + 1)) 12)), V.i (Prod.fst (BB.w (bef fs l n (k + 1)) 13)), V.i (Prod.snd (BB.w (bef fs l n (k + 1)) 13)), V.i (Prod.fst (BB.w (bef fs l n (k + 1)) 14)), V.i (Prod.snd (BB.w (bef fs l n (k + 1)) 14)), V.i (Prod.fst (BB.w (bef fs l n (k + 1)) 15)), V.i (Prod.snd (BB.w (bef fs l n (k + 1)) 15)), V.i (Prod.fst (BB.w (bef fs l n (k + 1)) 16)), V.i (Prod.snd (BB.w (bef fs l n (k + 1)) 16)), V.i (Prod.fst (BB.w (bef fs l n (k + 1)) 17)), V.i (Prod.snd (BB.w (bef fs l n (k + 1)) 17)), V.i (Prod.fst (BB.w (bef fs l n (k + 1)) 18)), V.i (Prod.snd (BB.w (bef fs l n (k + 1)) 18)), V.i (Prod.fst (BB.w (bef fs l n (k + 1)) 19)), V.i (Prod.snd (BB.w (bef fs l n (k + 1)) 19)), V.i (Prod.fst (BB.w (bef fs l n (k + 1)) 20)), V.i (Prod.snd (BB.w (bef fs l n (k + 1)) 20)), V.i (Prod.fst (BB.w (bef fs l n (k + 1)) 21)), V.i (Prod.snd (BB.w (bef fs l n (k + 1)) 21)), V.i (Prod.fst (BB.w (bef fs l n (k + 1)) 22)), V.i (Prod.snd (BB.w (bef fs l n (k + 1)) 22)), V.i (Prod.fst (BB.w (bef fs l n (k + 1)) 23)), V.i (Prod.snd (BB.w (bef fs l n (k + 1)) 23)), V.i (Prod.fst (BB.w (bef fs l n (k + 1)) 24)), V.i (Prod.snd (BB.w (bef fs l n (k + 1)) 24))]), (501, Ob.box 66 [V.i (Prod.fst (BB.f (bef fs l n (k + 1)) 0)), V.i (Prod.snd (BB.f (bef fs l n (k + 1)) 0)), V.i (Prod.fst (BB.f (bef fs l n (k + 1)) 1)), V.i (Prod.snd (BB.f (bef fs l n (k + 1)) 1)), V.i (Prod.fst (BB.f (bef fs l n (k + 1)) 2)), V.i (Prod.snd (BB.f (bef fs l n (k + 1)) 2)), V.i (Prod.fst (BB.f (bef fs l n (k + 1)) 3)), V.i (Prod.snd (BB.f (bef fs l n (k + 1)) 3)), V.i (Prod.fst (BB.f (bef fs l n (k + 1)) 4)), V.i (Prod.snd (BB.f (bef fs l n (k + 1)) 4)), V.i (Prod.fst (BB.f (bef fs l n (k + 1)) 5)), V.i (Prod.snd (BB.f (bef fs l n (k + 1)) 5)), V.i (Prod.fst (BB.f (bef fs l n (k + 1)) 6)), V.i (Prod.snd (BB.f (bef fs l n (k + 1)) 6)), V.i (Prod.fst (BB.f (bef fs l n (k + 1)) 7)), V.i (Prod.snd (BB.f (bef fs l n (k + 1)) 7)), V.i (Prod.fst (BB.f (bef fs l n (k + 1)) 8)), V.i (Prod.snd (BB.f (bef fs l n (k + 1)) 8)), V.i (Prod.fst (BB.f (bef fs l n (k + 1)) 9)), V.i (Prod.snd (BB.f (bef fs l n (k + 1)) 9)), V.i (Prod.fst (BB.f (bef fs l n (k + 1)) 10)), V.i (Prod.snd (BB.f (bef fs l n (k + 1)) 10)), V.i (Prod.fst (BB.f (bef fs l n (k + 1)) 11)), V.i (Prod.snd (BB.f (bef fs l n (k + 1)) 11)), V.i (Prod.fst (BB.f (bef fs l n (k + 1)) 12)), V.i (Prod.snd (BB.f (bef fs l n (k + 1)) 12)), V.i (Prod.fst (BB.f (bef fs l n (k + 1)) 13)), V.i (Prod.snd (BB.f (bef fs l n (k + 1)) 13)), V.i (Prod.fst (BB.f (bef fs l n (k + 1)) 14)), V.i (Prod.snd (BB.f (bef fs l n (k + 1)) 14)), V.i (Prod.fst (BB.f (bef fs l n (k + 1)) 15)), V.i (Prod.snd (BB.f (bef fs l n (k + 1)) 15)), V.i (Prod.fst (BB.f (bef fs l n (k + 1)) 16)), V.i (Prod.snd (BB.f (bef fs l n (k + 1)) 16)), V.i (Prod.fst (BB.f (bef fs l n (k + 1)) 17)), V.i (Prod.snd (BB.f (bef fs l n (k + 1)) 17)), V.i (Prod.fst (BB.f (bef fs l n (k + 1)) 18)), V.i (Prod.snd (BB.f (bef fs l n (k + 1)) 18)), V.i (Prod.fst (BB.f (bef fs l n (k + 1)) 19)), V.i (Prod.snd (BB.f (bef fs l n (k + 1)) 19)), V.i (Prod.fst (BB.f (bef fs l n (k + 1)) 20)), V.i (Prod.snd (BB.f (bef fs l n (k + 1)) 20)), V.i (Prod.fst (BB.f (bef fs l n (k + 1)) 21)), V.i (Prod.snd (BB.f (bef fs l n (k + 1)) 21)), V.i (Prod.fst (BB.f (bef fs l n (k + 1)) 22)), V.i (Prod.snd (BB.f (bef fs l n (k + 1)) 22)), V.i (Prod.fst (BB.f (bef fs l n (k + 1)) 23)), V.i (Prod.snd (BB.f (bef fs l n (k + 1)) 23))]), (502, Ob.box 3 [V.i (↑i : Int)]), (503, Ob.box 65 z2), (504, Ob.box 66 z3)]) [] .nil (.cons ⟨Ob.box 65 dw, kR, .box ?_⟩ (.cons ⟨Ob.box 66 df, kR, .box ?_⟩ (.cons ⟨Ob.box 3 [V.i (↑i : Int)], kR, .box kR⟩ (.cons ⟨Ob.box 65 z2, kR, .box ?_⟩ (.cons ⟨Ob.box 66 z3, kR, .box ?_⟩ .nil))))) kR kR
    ·
     show _ = V.renL _ (prC 25 (bef fs l n (k + 1)).w); rw [prC_ren, hst, e, hdw]
    ·
     show _ = V.renL _ (prC 24 (bef fs l n (k + 1)).f); rw [prC_ren, hst, e, hdf]
    ·
     rw [hz2, prC_ren]
    ·
     rw [hz3, prC_ren]
   ·
    have c3 : ¬ s.w (i + y.2) = noneW := by simpa using c2
    have b2 := hbd (i + y.2)
    refine aw_skip ?_
    refine xt_n (hK _ ?_); clear hK K; refine sK fun K hK => wD 5 (aX hTT 21 [(0, .c ((0 : Int) ≤ (0 : Int) ∧ (0 : Int) < (↑(2 : Nat) : Int))), (1, .c qBS71), (7, .c qBS71), (8, .c ((0 : Int) ≤ (↑(Prod.fst y) : Int) ∧ (↑(Prod.fst y) : Int) < (↑(List.length fs) : Int))), (14, .i (Prod.fst (BB.w s (i + Prod.snd y)) + Fm.cost (gfm fs (Prod.fst y)))), (15, .c ((0 : Int) ≤ (1 : Int) ∧ (1 : Int) < (↑(2 : Nat) : Int))), (16, .c ((1 : Nat) ≤ (2 : Nat))), (17, .i (Prod.snd (BB.w s (i + Prod.snd y)) + 1)), (19, .r (pn 9 (V.ref 400009 0) (400009 : Nat) (Ob.box 64 [V.i 0, V.i 0]))), (20, .r (pw ((0 : Nat) + (2 : Nat) ≤ (2 : Nat)) (400009 : Nat) (Ob.box 64 [V.i (Prod.fst (BB.w s (i + Prod.snd y)) + Fm.cost (gfm fs (Prod.fst y))), V.i (Prod.snd (BB.w s (i + Prod.snd y)) + 1)])))] ⟨oM, qBS71_, qBS71_, oM, oM, oM, oM, oM, oM, tI⟩ (aops_nil ⟨kR, (xt_n (hK _ ?_))⟩)); clear hK K; refine sK fun K hK => wD 6 (aX hTT 3 [(0, .c qBS71), (1, .c qBS70), (2, .c ((0 : Int) ≤ (↑i : Int) ∧ (↑i : Int) < (↑(25 : Nat) : Int)))] ⟨qBS71_, qBS70_, oM, tI⟩ ?_)
    refine aops_step rfl (as_loadRNe 64 (.tmp 56) (t' := 65) (cs := dw) (n := 2) (us := [.i (s.w i).1, .i (s.w i).2]) (hTT.agg rfl) (hTT.size rfl) rfl ?hn0 ?hv) ?hp ?hn ?_
    case hn0 => rw [lw2]; omega
    case hv => rw [hdw, Nat.zero_add]; exact prC_row oM
    case hp => intro p hp; rw [List.mem_singleton] at hp; subst hp; rfl
    case hn => simp [nwOk]
    skip
    refine eC (less_ac (newW fs s i y) (s.w i)) ?_
    refine aops_nil ⟨kR, (xt_n (hK _ ?_))⟩; clear hK K
    refine w_cond (t := lessW (newW fs s i y) (BB.w s i)) kR (fun c4 => ?_) (fun c4 => ?_)
    ·
     have c5 : lessW (newW fs s i y) (s.w i) = true := c4
     have e : stepB fs i s y = ⟨upd s.w i (newW fs s i y), upd s.f i ((y.1 : Int), (y.2 : Int))⟩ := by rw [stepB, if_neg c3, if_pos c5]
     refine wD 7 (aX hTT 8 [(0, .c qBS70), (1, .c qBS70), (2, .c qBS71), (3, .c qBS71), (4, .c ((0 : Int) ≤ (↑i : Int) ∧ (↑i : Int) < (↑(25 : Nat) : Int))), (5, .r (pw ((0 : Nat) + i * 2 + (2 : Nat) ≤ List.length dw) (500 : Nat) (Ob.box 65 (setCells dw ((0 : Nat) + i * 2) [V.i (Prod.fst (BB.w s (i + Prod.snd y)) + Fm.cost (gfm fs (Prod.fst y))), V.i (Prod.snd (BB.w s (i + Prod.snd y)) + 1)])))), (6, .c ((0 : Int) ≤ (↑i : Int) ∧ (↑i : Int) < (↑(24 : Nat) : Int))), (7, .r (pw ((0 : Nat) + i * 2 + (2 : Nat) ≤ List.length df) (501 : Nat) (Ob.box 66 (setCells df ((0 : Nat) + i * 2) [V.i (↑(Prod.fst y) : Int), V.i (↑(Prod.snd y) : Int)]))))] ⟨qBS70_, qBS70_, qBS71_, qBS71_, oM, oM, oM, oM, tI⟩ (aops_nil ⟨kR, (xb_n ?_)⟩))
     refine ⟨trivial, ?_⟩
     refine le_ren (sl := [(500, Ob.box 65 [V.i (Prod.fst (BB.w (bef fs l n (k + 1)) 0)), V.i (Prod.snd (BB.w (bef fs l n (k + 1)) 0)), V.i (Prod.fst (BB.w (bef fs l n (k + 1)) 1)), V.i (Prod.snd (BB.w (bef fs l n (k + 1)) 1)), V.i (Prod.fst (BB.w (bef fs l n (k + 1)) 2)), V.i (Prod.snd (BB.w (bef fs l n (k + 1)) 2)), V.i (Prod.fst (BB.w (bef fs l n (k + 1)) 3)), V.i (Prod.snd (BB.w (bef fs l n (k + 1)) 3)), V.i (Prod.fst (BB.w (bef fs l n (k + 1)) 4)), V.i (Prod.snd (BB.w (bef fs l n (k + 1)) 4)), V.i (Prod.fst (BB.w (bef fs l n (k + 1)) 5)), V.i (Prod.snd (BB.w (bef fs l n (k + 1)) 5)), V.i (Prod.fst (BB.w (bef fs l n (k + 1)) 6)), V.i (Prod.snd (BB.w (bef fs l n (k + 1)) 6)), V.i (Prod.fst (BB.w (bef fs l n (k + 1)) 7)), V.i (Prod.snd (BB.w (bef fs l n (k + 1)) 7)), V.i (Prod.fst (BB.w (bef fs l n (k + 1)) 8)), V.i (Prod.snd (BB.w (bef fs l n (k + 1)) 8)), V.i (Prod.fst (BB.w (bef fs l n (k + 1)) 9)), V.i (Prod.snd (BB.w (bef fs l n (k + 1)) 9)), V.i (Prod.fst (BB.w (bef fs l n (k + 1)) 10)), V.i (Prod.snd (BB.w (bef fs l n (k + 1)) 10)), V.i (Prod.fst (BB.w (bef fs l n (k + 1)) 11)), V.i (Prod.snd (BB.w (bef fs l n (k + 1)) 11)), V.i (Prod.fst (BB.w (bef fs l n (k + 1)) 12)), V.i (Prod.snd (BB.w (bef fs l n (k + 1)) 12)), V.i (Prod.fst (BB.w (bef fs l n (k + 1)) 13)), V.i (Prod.snd (BB.w (bef fs l n (k + 1)) 13)), V.i (Prod.fst (BB.w (bef fs l n (k + 1)) 14)), V.i (Prod.snd (BB.w (bef fs l n (k + 1)) 14)), V.i (Prod.fst (BB.w (bef fs l n (k + 1)) 15)), V.i (Prod.snd (BB.w (bef fs l n (k + 1)) 15)), V.i (Prod.fst (BB.w (bef fs l n (k + 1)) 16)), V.i (Prod.snd (BB.w (bef fs l n (k + 1)) 16)), V.i (Prod.fst (BB.w (bef fs l n (k + 1)) 17)), V.i (Prod.snd (BB.w (bef fs l n (k + 1)) 17)), V.i (Prod.fst (BB.w (bef fs l n (k + 1)) 18)), V.i (Prod.snd (BB.w (bef fs l n (k + 1)) 18)), V.i (Prod.fst (BB.w (bef fs l n (k + 1)) 19)), V.i (Prod.snd (BB.w (bef fs l n (k + 1)) 19)), V.i (Prod.fst (BB.w (bef fs l n (k + 1)) 20)), V.i (Prod.snd (BB.w (bef fs l n (k + 1)) 20)), V.i (Prod.fst (BB.w (bef fs l n (k + 1)) 21)), V.i (Prod.snd (BB.w (bef fs l n (k + 1)) 21)), V.i (Prod.fst (BB.w (bef fs l n (k + 1)) 22)), V.i (Prod.snd (BB.w (bef fs l n (k + 1)) 22)), V.i (Prod.fst (BB.w (bef fs l n (k + 1)) 23)), V.i (Prod.snd (BB.w (bef fs l n (k + 1)) 23)), V.i (Prod.fst (BB.w (bef fs l n (k + 1)) 24)), V.i (Prod.snd (BB.w (bef fs l n (k + 1)) 24))]), (501, Ob.box 66 [V.i (Prod.fst (BB.f (bef fs l n (k + 1)) 0)), V.i (Prod.snd (BB.f (bef fs l n (k + 1)) 0)), V.i (Prod.fst (BB.f (bef fs l n (k + 1)) 1)), V.i (Prod.snd (BB.f (bef fs l n (k + 1)) 1)), V.i (Prod.fst (BB.f (bef fs l n (k + 1)) 2)), V.i (Prod.snd (BB.f (bef fs l n (k + 1)) 2)), V.i (Prod.fst (BB.f (bef fs l n (k + 1)) 3)), V.i (Prod.snd (BB.f (bef fs l n (k + 1)) 3)), V.i (Prod.fst (BB.f (bef fs l n (k + 1)) 4)), V.i (Prod.snd (BB.f (bef fs l n (k + 1)) 4)), V.i (Prod.fst (BB.f (bef fs l n (k + 1)) 5)), V.i (Prod.snd (BB.f (bef fs l n (k + 1)) 5)), V.i (Prod.fst (BB.f (bef fs l n (k + 1)) 6)), V.i (Prod.snd (BB.f (bef fs l n (k + 1)) 6)), V.i (Prod.fst (BB.f (bef fs l n (k + 1)) 7)), V.i (Prod.snd (BB.f (bef fs l n (k + 1)) 7)), V.i (Prod.fst (BB.f (bef fs l n (k + 1)) 8)), V.i (Prod.snd (BB.f (bef fs l n (k + 1)) 8)), V.i (Prod.fst (BB.f (bef fs l n (k + 1)) 9)), V.i (Prod.snd (BB.f (bef fs l n (k + 1)) 9)), V.i (Prod.fst (BB.f (bef fs l n (k + 1)) 10)), V.i (Prod.snd (BB.f (bef fs l n (k + 1)) 10)), V.i (Prod.fst (BB.f (bef fs l n (k + 1)) 11)), V.i (Prod.snd (BB.f (bef fs l n (k + 1)) 11)), V.i (Prod.fst (BB.f (bef fs l n (k + 1)) 12)), V.i (Prod.snd (BB.f (bef fs l n (k + 1)) 12)), V.i (Prod.fst (BB.f (bef fs l n (k + 1)) 13)), V.i (Prod.snd (BB.f (bef fs l n (k + 1)) 13)), V.i (Prod.fst (BB.f (bef fs l n (k + 1)) 14)), V.i (Prod.snd (BB.f (bef fs l n (k + 1)) 14)), V.i (Prod.fst (BB.f (bef fs l n (k + 1)) 15)), V.i (Prod.snd (BB.f (bef fs l n (k + 1)) 15)), V.i (Prod.fst (BB.f (bef fs l n (k + 1)) 16)), V.i (Prod.snd (BB.f (bef fs l n (k + 1)) 16)), V.i (Prod.fst (BB.f (bef fs l n (k + 1)) 17)), V.i (Prod.snd (BB.f (bef fs l n (k + 1)) 17)), V.i (Prod.fst (BB.f (bef fs l n (k + 1)) 18)), V.i (Prod.snd (BB.f (bef fs l n (k + 1)) 18)), V.i (Prod.fst (BB.f (bef fs l n (k + 1)) 19)), V.i (Prod.snd (BB.f (bef fs l n (k + 1)) 19)), V.i (Prod.fst (BB.f (bef fs l n (k + 1)) 20)), V.i (Prod.snd (BB.f (bef fs l n (k + 1)) 20)), V.i (Prod.fst (BB.f (bef fs l n (k + 1)) 21)), V.i (Prod.snd (BB.f (bef fs l n (k + 1)) 21)), V.i (Prod.fst (BB.f (bef fs l n (k + 1)) 22)), V.i (Prod.snd (BB.f (bef fs l n (k + 1)) 22)), V.i (Prod.fst (BB.f (bef fs l n (k + 1)) 23)), V.i (Prod.snd (BB.f (bef fs l n (k + 1)) 23))]), (502, Ob.box 3 [V.i (↑i : Int)]), (503, Ob.box 65 z2), (504, Ob.box 66 z3)]) [] .nil (.cons ⟨Ob.box 65 (setCells dw ((0 : Nat) + i * 2) [V.i (Prod.fst (BB.w s (i + Prod.snd y)) + Fm.cost (gfm fs (Prod.fst y))), V.i (Prod.snd (BB.w s (i + Prod.snd y)) + 1)]), kR, .box ?_⟩ (.cons ⟨Ob.box 66 (setCells df ((0 : Nat) + i * 2) [V.i (↑(Prod.fst y) : Int), V.i (↑(Prod.snd y) : Int)]), kR, .box ?_⟩ (.cons ⟨Ob.box 3 [V.i (↑i : Int)], kR, .box kR⟩ (.cons ⟨Ob.box 65 z2, kR, .box ?_⟩ (.cons ⟨Ob.box 66 z3, kR, .box ?_⟩ .nil))))) kR kR
     ·
      show _ = V.renL _ (prC 25 (bef fs l n (k + 1)).w); rw [prC_ren, hst, e, setCells_eq (by rw [lw2]; simp; omega), hdw, Nat.zero_add]
      exact prC_set (x := newW fs s i y) oM
     ·
      show _ = V.renL _ (prC 24 (bef fs l n (k + 1)).f); rw [prC_ren, hst, e, setCells_eq (by rw [lf2]; simp; omega), hdf, Nat.zero_add]
      exact prC_set (x := ((y.1 : Int), (y.2 : Int))) oM
     ·
      rw [hz2, prC_ren]
     ·
      rw [hz3, prC_ren]
    ·
     have c5 : ¬ lessW (newW fs s i y) (s.w i) = true := by rw [c4]; decide
     have e : stepB fs i s y = s := by rw [stepB, if_neg c3, if_neg c5]
     refine aw_skip ?_
     refine xb_n ?_
     refine ⟨trivial, ?_⟩
     refine le_ren (sl := [(500, Ob.box 65 [V.i (Prod.fst (BB.w (bef fs l n (k + 1)) 0)), V.i (Prod.snd (BB.w (bef fs l n (k + 1)) 0)), V.i (Prod.fst (BB.w (bef fs l n (k + 1)) 1)), V.i (Prod.snd (BB.w (bef fs l n (k + 1)) 1)), V.i (Prod.fst (BB.w (bef fs l n (k + 1)) 2)), V.i (Prod.snd (BB.w (bef fs l n (k + 1)) 2)), V.i (Prod.fst (BB.w (bef fs l n (k + 1)) 3)), V.i (Prod.snd (BB.w (bef fs l n (k + 1)) 3)), V.i (Prod.fst (BB.w (bef fs l n (k + 1)) 4)), V.i (Prod.snd (BB.w (bef fs l n (k + 1)) 4)), V.i (Prod.fst (BB.w (bef fs l n (k + 1)) 5)), V.i (Prod.snd (BB.w (bef fs l n (k + 1)) 5)), V.i (Prod.fst (BB.w (bef fs l n (k + 1)) 6)), V.i (Prod.snd (BB.w (bef fs l n (k + 1)) 6)), V.i (Prod.fst (BB.w (bef fs l n (k + 1)) 7)), V.i (Prod.snd (BB.w (bef fs l n (k + 1)) 7)), V.i (Prod.fst (BB.w (bef fs l n (k + 1)) 8)), V.i (Prod.snd (BB.w (bef fs l n (k + 1)) 8)), V.i (Prod.fst (BB.w (bef fs l n (k + 1)) 9)), V.i (Prod.snd (BB.w (bef fs l n (k + 1)) 9)), V.i (Prod.fst (BB.w (bef fs l n (k + 1)) 10)), V.i (Prod.snd (BB.w (bef fs l n (k + 1)) 10)), V.i (Prod.fst (BB.w (bef fs l n (k + 1)) 11)), V.i (Prod.snd (BB.w (bef fs l n (k + 1)) 11)), V.i (Prod.fst (BB.w (bef fs l n (k + 1)) 12)), V.i (Prod.snd (BB.w (bef fs l n (k + 1)) 12)), V.i (Prod.fst (BB.w (bef fs l n (k + 1)) 13)), V.i (Prod.snd (BB.w (bef fs l n (k + 1)) 13)), V.i (Prod.fst (BB.w (bef fs l n (k + 1)) 14)), V.i (Prod.snd (BB.w (bef fs l n (k + 1)) 14)), V.i (Prod.fst (BB.w (bef fs l n (k + 1)) 15)), V.i (Prod.snd (BB.w (bef fs l n (k + 1)) 15)), V.i (Prod.fst (BB.w (bef fs l n (k + 1)) 16)), V.i (Prod.snd (BB.w (bef fs l n (k + 1)) 16)), V.i (Prod.fst (BB.w (bef fs l n (k + 1)) 17)), V.i (Prod.snd (BB.w (bef fs l n (k + 1)) 17)), V.i (Prod.fst (BB.w (bef fs l n (k + 1)) 18)), V.i (Prod.snd (BB.w (bef fs l n (k + 1)) 18)), V.i (Prod.fst (BB.w (bef fs l n (k + 1)) 19)), V.i (Prod.snd (BB.w (bef fs l n (k + 1)) 19)), V.i (Prod.fst (BB.w (bef fs l n (k + 1)) 20)), V.i (Prod.snd (BB.w (bef fs l n (k + 1)) 20)), V.i (Prod.fst (BB.w (bef fs l n (k + 1)) 21)), V.i (Prod.snd (BB.w (bef fs l n (k + 1)) 21)), V.i (Prod.fst (BB.w (bef fs l n (k + 1)) 22)), V.i (Prod.snd (BB.w (bef fs l n (k + 1)) 22)), V.i (Prod.fst (BB.w (bef fs l n (k + 1)) 23)), V.i (Prod.snd (BB.w (bef fs l n (k + 1)) 23)), V.i (Prod.fst (BB.w (bef fs l n (k + 1)) 24)), V.i (Prod.snd (BB.w (bef fs l n (k + 1)) 24))]), (501, Ob.box 66 [V.i (Prod.fst (BB.f (bef fs l n (k + 1)) 0)), V.i (Prod.snd (BB.f (bef fs l n (k + 1)) 0)), V.i (Prod.fst (BB.f (bef fs l n (k + 1)) 1)), V.i (Prod.snd (BB.f (bef fs l n (k + 1)) 1)), V.i (Prod.fst (BB.f (bef fs l n (k + 1)) 2)), V.i (Prod.snd (BB.f (bef fs l n (k + 1)) 2)), V.i (Prod.fst (BB.f (bef fs l n (k + 1)) 3)), V.i (Prod.snd (BB.f (bef fs l n (k + 1)) 3)), V.i (Prod.fst (BB.f (bef fs l n (k + 1)) 4)), V.i (Prod.snd (BB.f (bef fs l n (k + 1)) 4)), V.i (Prod.fst (BB.f (bef fs l n (k + 1)) 5)), V.i (Prod.snd (BB.f (bef fs l n (k + 1)) 5)), V.i (Prod.fst (BB.f (bef fs l n (k + 1)) 6)), V.i (Prod.snd (BB.f (bef fs l n (k + 1)) 6)), V.i (Prod.fst (BB.f (bef fs l n (k + 1)) 7)), V.i (Prod.snd (BB.f (bef fs l n (k + 1)) 7)), V.i (Prod.fst (BB.f (bef fs l n (k + 1)) 8)), V.i (Prod.snd (BB.f (bef fs l n (k + 1)) 8)), V.i (Prod.fst (BB.f (bef fs l n (k + 1)) 9)), V.i (Prod.snd (BB.f (bef fs l n (k + 1)) 9)), V.i (Prod.fst (BB.f (bef fs l n (k + 1)) 10)), V.i (Prod.snd (BB.f (bef fs l n (k + 1)) 10)), V.i (Prod.fst (BB.f (bef fs l n (k + 1)) 11)), V.i (Prod.snd (BB.f (bef fs l n (k + 1)) 11)), V.i (Prod.fst (BB.f (bef fs l n (k + 1)) 12)), V.i (Prod.snd (BB.f (bef fs l n (k + 1)) 12)), V.i (Prod.fst (BB.f (bef fs l n (k + 1)) 13)), V.i (Prod.snd (BB.f (bef fs l n (k + 1)) 13)), V.i (Prod.fst (BB.f (bef fs l n (k + 1)) 14)), V.i (Prod.snd (BB.f (bef fs l n (k + 1)) 14)), V.i (Prod.fst (BB.f (bef fs l n (k + 1)) 15)), V.i (Prod.snd (BB.f (bef fs l n (k + 1)) 15)), V.i (Prod.fst (BB.f (bef fs l n (k + 1)) 16)), V.i (Prod.snd (BB.f (bef fs l n (k + 1)) 16)), V.i (Prod.fst (BB.f (bef fs l n (k + 1)) 17)), V.i (Prod.snd (BB.f (bef fs l n (k + 1)) 17)), V.i (Prod.fst (BB.f (bef fs l n (k + 1)) 18)), V.i (Prod.snd (BB.f (bef fs l n (k + 1)) 18)), V.i (Prod.fst (BB.f (bef fs l n (k + 1)) 19)), V.i (Prod.snd (BB.f (bef fs l n (k + 1)) 19)), V.i (Prod.fst (BB.f (bef fs l n (k + 1)) 20)), V.i (Prod.snd (BB.f (bef fs l n (k + 1)) 20)), V.i (Prod.fst (BB.f (bef fs l n (k + 1)) 21)), V.i (Prod.snd (BB.f (bef fs l n (k + 1)) 21)), V.i (Prod.fst (BB.f (bef fs l n (k + 1)) 22)), V.i (Prod.snd (BB.f (bef fs l n (k + 1)) 22)), V.i (Prod.fst (BB.f (bef fs l n (k + 1)) 23)), V.i (Prod.snd (BB.f (bef fs l n (k + 1)) 23))]), (502, Ob.box 3 [V.i (↑i : Int)]), (503, Ob.box 65 z2), (504, Ob.box 66 z3)]) [] .nil (.cons ⟨Ob.box 65 dw, kR, .box ?_⟩ (.cons ⟨Ob.box 66 df, kR, .box ?_⟩ (.cons ⟨Ob.box 3 [V.i (↑i : Int)], kR, .box kR⟩ (.cons ⟨Ob.box 65 z2, kR, .box ?_⟩ (.cons ⟨Ob.box 66 z3, kR, .box ?_⟩ .nil))))) kR kR
     ·
      show _ = V.renL _ (prC 25 (bef fs l n (k + 1)).w); rw [prC_ren, hst, e, hdw]
     ·
      show _ = V.renL _ (prC 24 (bef fs l n (k + 1)).f); rw [prC_ren, hst, e, hdf]
     ·
      rw [hz2, prC_ren]
     ·
      rw [hz3, prC_ren]
  ·
   intro _
   rw [show (facesV fs l i).length = (facesL fs l i).length by simp [facesV], show bef fs l n (facesL fs l i).length = bestS fs l (n + 1) by rw [hi]; exact bef_end fs l n]
   obtain ⟨dw, hdw⟩ : ∃ dw, dw = prC 25 (bestS fs l (n + 1)).w := ⟨_, rfl⟩
   obtain ⟨df, hdf⟩ : ∃ df, df = prC 24 (bestS fs l (n + 1)).f := ⟨_, rfl⟩
   rw [← hdw, ← hdf]
   refine xb_n (xb_n (xt_n (hK _ ?_))); clear hK K; refine sK fun K hK => sX hTT 2 1 [(0, .c qBS70)] ⟨qBS70_, tI⟩ (wR 3 (aX hTT 2 [(0, .r (pn 6 (V.ref 200006 0) (200006 : Nat) (Ob.box 3 [V.i 0]))), (1, .r (pw ((0 : Nat) + (1 : Nat) ≤ (1 : Nat)) (200006 : Nat) (Ob.box 3 [V.i (↑i : Int)])))] ⟨oM, tI⟩ (nK hK ?_))); clear hK K; refine wR 4 (aX hTT 3 [(0, .c qBS70), (1, .i ((↑i : Int) - 1)), (2, .r (pw ((0 : Nat) + (1 : Nat) ≤ (1 : Nat)) (200006 : Nat) (Ob.box 3 [V.i ((↑i : Int) - 1)])))] ⟨qBS70_, oM, oM, tI⟩ (aops_nil (xt_n ?_)))
   refine ⟨(n + 1, dw, df, z2, z3), ⟨by simp only; omega, hdw, hdf, hz2, hz3⟩, ?_, by simp only; omega⟩
   show Le _ ⟨mkT [(1, .ptr [.ptr (alC fs l)]), (2, .ref 2 0), (3, .ref 3 0), (4, .ref 4 0), (5, .ref 5 0), (6, .ref 6 0)], mkS [(2, .box 65 z2), (3, .box 66 z3), (4, .box 65 dw), (5, .box 66 df), (6, .box 3 [.i ((l.length : Int) - 1 - ((n + 1 : Nat) : Int))])], 1⟩
   refine le_ren (tl := [(1, V.ptr [V.ptr [V.sl 1 (List.length fs) fun (k : Nat) => [V.ptr (plC4 (gfm fs k) l)], V.i (↑(List.length l) : Int)]]), (2, V.ref 2 0), (3, V.ref 3 0), (4, V.ref 4 0), (5, V.ref 5 0), (6, V.ref 6 0)]) (sl := [(2, Ob.box 65 z2), (3, Ob.box 66 z3), (4, Ob.box 65 dw), (5, Ob.box 66 df), (6, Ob.box 3 [V.i ((↑(List.length l) : Int) - 1 - (↑(n + 1) : Int))])]) [(2, 503), (3, 504), (4, 500), (5, 501), (6, 200006)] (.cons kR (.cons kR (.cons kR (.cons kR (.cons kR (.cons kR .nil)))))) (.cons ⟨Ob.box 65 z2, kR, .box ?_⟩ (.cons ⟨Ob.box 66 z3, kR, .box ?_⟩ (.cons ⟨Ob.box 65 dw, kR, .box ?_⟩ (.cons ⟨Ob.box 66 df, kR, .box ?_⟩ (.cons ⟨Ob.box 3 [V.i ((↑i : Int) - 1)], kR, .box ?_⟩ .nil))))) kR kR
   ·
    rw [hz2, prC_ren]
   ·
    rw [hz3, prC_ren]
   ·
    rw [hdw, prC_ren]
   ·
    rw [hdf, prC_ren]
   ·
    show [V.i ((i : Int) - 1)] = [V.i ((l.length : Int) - 1 - ((n + 1 : Nat) : Int))]
    rw [← ei, show (l.length : Int) - 1 - (n : Int) - 1 = (l.length : Int) - 1 - ((n + 1 : Nat) : Int) by omega]
  ·
   intro k c sx _ hf
   exact hf.elim
 ·
  have hn1 : n = l.length := by simp at c1; omega
  rw [hcw, hcf, hz2, hz3, hn1]
  refine aw_exit ?_
  refine xt_x ?_; refine xt_x ?_
  refine xb_same ?_
  refine xt_n ?_; clear hK K; refine hK _ ?_; clear hK K; refine sK fun K hK => wD 3 (aX hTT 4 [(0, .c ((0 : Nat) ≤ (50 : Nat))), (1, .c ((0 : Nat) ≤ (48 : Nat))), (2, .r (pw ((0 : Nat) + (50 : Nat) ≤ (50 : Nat)) (2 : Nat) (Ob.box 65 [V.i (Prod.fst (BB.w (bestS fs l (List.length l)) 0)), V.i (Prod.snd (BB.w (bestS fs l (List.length l)) 0)), V.i (Prod.fst (BB.w (bestS fs l (List.length l)) 1)), V.i (Prod.snd (BB.w (bestS fs l (List.length l)) 1)), V.i (Prod.fst (BB.w (bestS fs l (List.length l)) 2)), V.i (Prod.snd (BB.w (bestS fs l (List.length l)) 2)), V.i (Prod.fst (BB.w (bestS fs l (List.length l)) 3)), V.i (Prod.snd (BB.w (bestS fs l (List.length l)) 3)), V.i (Prod.fst (BB.w (bestS fs l (List.length l)) 4)), V.i (Prod.snd (BB.w (bestS fs l (List.length l)) 4)), V.i (Prod.fst (BB.w (bestS fs l (List.length l)) 5)), V.i (Prod.snd (BB.w (bestS fs l (List.length l)) 5)), V.i (Prod.fst (BB.w (bestS fs l (List.length l)) 6)), V.i (Prod.snd (BB.w (bestS fs l (List.length l)) 6)), V.i (Prod.fst (BB.w (bestS fs l (List.length l)) 7)), V.i (Prod.snd (BB.w (bestS fs l (List.length l)) 7)), V.i (Prod.fst (BB.w (bestS fs l (List.length l)) 8)), V.i (Prod.snd (BB.w (bestS fs l (List.length l)) 8)), V.i (Prod.fst (BB.w (bestS fs l (List.length l)) 9)), V.i (Prod.snd (BB.w (bestS fs l (List.length l)) 9)), V.i (Prod.fst (BB.w (bestS fs l (List.length l)) 10)), V.i (Prod.snd (BB.w (bestS fs l (List.length l)) 10)), V.i (Prod.fst (BB.w (bestS fs l (List.length l)) 11)), V.i (Prod.snd (BB.w (bestS fs l (List.length l)) 11)), V.i (Prod.fst (BB.w (bestS fs l (List.length l)) 12)), V.i (Prod.snd (BB.w (bestS fs l (List.length l)) 12)), V.i (Prod.fst (BB.w (bestS fs l (List.length l)) 13)), V.i (Prod.snd (BB.w (bestS fs l (List.length l)) 13)), V.i (Prod.fst (BB.w (bestS fs l (List.length l)) 14)), V.i (Prod.snd (BB.w (bestS fs l (List.length l)) 14)), V.i (Prod.fst (BB.w (bestS fs l (List.length l)) 15)), V.i (Prod.snd (BB.w (bestS fs l (List.length l)) 15)), V.i (Prod.fst (BB.w (bestS fs l (List.length l)) 16)), V.i (Prod.snd (BB.w (bestS fs l (List.length l)) 16)), V.i (Prod.fst (BB.w (bestS fs l (List.length l)) 17)), V.i (Prod.snd (BB.w (bestS fs l (List.length l)) 17)), V.i (Prod.fst (BB.w (bestS fs l (List.length l)) 18)), V.i (Prod.snd (BB.w (bestS fs l (List.length l)) 18)), V.i (Prod.fst (BB.w (bestS fs l (List.length l)) 19)), V.i (Prod.snd (BB.w (bestS fs l (List.length l)) 19)), V.i (Prod.fst (BB.w (bestS fs l (List.length l)) 20)), V.i (Prod.snd (BB.w (bestS fs l (List.length l)) 20)), V.i (Prod.fst (BB.w (bestS fs l (List.length l)) 21)), V.i (Prod.snd (BB.w (bestS fs l (List.length l)) 21)), V.i (Prod.fst (BB.w (bestS fs l (List.length l)) 22)), V.i (Prod.snd (BB.w (bestS fs l (List.length l)) 22)), V.i (Prod.fst (BB.w (bestS fs l (List.length l)) 23)), V.i (Prod.snd (BB.w (bestS fs l (List.length l)) 23)), V.i (Prod.fst (BB.w (bestS fs l (List.length l)) 24)), V.i (Prod.snd (BB.w (bestS fs l (List.length l)) 24))]))), (3, .r (pw ((0 : Nat) + (48 : Nat) ≤ (48 : Nat)) (3 : Nat) (Ob.box 66 [V.i (Prod.fst (BB.f (bestS fs l (List.length l)) 0)), V.i (Prod.snd (BB.f (bestS fs l (List.length l)) 0)), V.i (Prod.fst (BB.f (bestS fs l (List.length l)) 1)), V.i (Prod.snd (BB.f (bestS fs l (List.length l)) 1)), V.i (Prod.fst (BB.f (bestS fs l (List.length l)) 2)), V.i (Prod.snd (BB.f (bestS fs l (List.length l)) 2)), V.i (Prod.fst (BB.f (bestS fs l (List.length l)) 3)), V.i (Prod.snd (BB.f (bestS fs l (List.length l)) 3)), V.i (Prod.fst (BB.f (bestS fs l (List.length l)) 4)), V.i (Prod.snd (BB.f (bestS fs l (List.length l)) 4)), V.i (Prod.fst (BB.f (bestS fs l (List.length l)) 5)), V.i (Prod.snd (BB.f (bestS fs l (List.length l)) 5)), V.i (Prod.fst (BB.f (bestS fs l (List.length l)) 6)), V.i (Prod.snd (BB.f (bestS fs l (List.length l)) 6)), V.i (Prod.fst (BB.f (bestS fs l (List.length l)) 7)), V.i (Prod.snd (BB.f (bestS fs l (List.length l)) 7)), V.i (Prod.fst (BB.f (bestS fs l (List.length l)) 8)), V.i (Prod.snd (BB.f (bestS fs l (List.length l)) 8)), V.i (Prod.fst (BB.f (bestS fs l (List.length l)) 9)), V.i (Prod.snd (BB.f (bestS fs l (List.length l)) 9)), V.i (Prod.fst (BB.f (bestS fs l (List.length l)) 10)), V.i (Prod.snd (BB.f (bestS fs l (List.length l)) 10)), V.i (Prod.fst (BB.f (bestS fs l (List.length l)) 11)), V.i (Prod.snd (BB.f (bestS fs l (List.length l)) 11)), V.i (Prod.fst (BB.f (bestS fs l (List.length l)) 12)), V.i (Prod.snd (BB.f (bestS fs l (List.length l)) 12)), V.i (Prod.fst (BB.f (bestS fs l (List.length l)) 13)), V.i (Prod.snd (BB.f (bestS fs l (List.length l)) 13)), V.i (Prod.fst (BB.f (bestS fs l (List.length l)) 14)), V.i (Prod.snd (BB.f (bestS fs l (List.length l)) 14)), V.i (Prod.fst (BB.f (bestS fs l (List.length l)) 15)), V.i (Prod.snd (BB.f (bestS fs l (List.length l)) 15)), V.i (Prod.fst (BB.f (bestS fs l (List.length l)) 16)), V.i (Prod.snd (BB.f (bestS fs l (List.length l)) 16)), V.i (Prod.fst (BB.f (bestS fs l (List.length l)) 17)), V.i (Prod.snd (BB.f (bestS fs l (List.length l)) 17)), V.i (Prod.fst (BB.f (bestS fs l (List.length l)) 18)), V.i (Prod.snd (BB.f (bestS fs l (List.length l)) 18)), V.i (Prod.fst (BB.f (bestS fs l (List.length l)) 19)), V.i (Prod.snd (BB.f (bestS fs l (List.length l)) 19)), V.i (Prod.fst (BB.f (bestS fs l (List.length l)) 20)), V.i (Prod.snd (BB.f (bestS fs l (List.length l)) 20)), V.i (Prod.fst (BB.f (bestS fs l (List.length l)) 21)), V.i (Prod.snd (BB.f (bestS fs l (List.length l)) 21)), V.i (Prod.fst (BB.f (bestS fs l (List.length l)) 22)), V.i (Prod.snd (BB.f (bestS fs l (List.length l)) 22)), V.i (Prod.fst (BB.f (bestS fs l (List.length l)) 23)), V.i (Prod.snd (BB.f (bestS fs l (List.length l)) 23))])))] ⟨oM, oM, oM, oM, tI⟩ (aops_nil ⟨kR, (xt_n (hK _ ?_))⟩)); clear hK K
  refine aw_ret ?_
  refine rP (V.tup [V.agg [V.i (Prod.fst (BB.w (bestS fs l (List.length l)) 0)), V.i (Prod.snd (BB.w (bestS fs l (List.length l)) 0)), V.i (Prod.fst (BB.w (bestS fs l (List.length l)) 1)), V.i (Prod.snd (BB.w (bestS fs l (List.length l)) 1)), V.i (Prod.fst (BB.w (bestS fs l (List.length l)) 2)), V.i (Prod.snd (BB.w (bestS fs l (List.length l)) 2)), V.i (Prod.fst (BB.w (bestS fs l (List.length l)) 3)), V.i (Prod.snd (BB.w (bestS fs l (List.length l)) 3)), V.i (Prod.fst (BB.w (bestS fs l (List.length l)) 4)), V.i (Prod.snd (BB.w (bestS fs l (List.length l)) 4)), V.i (Prod.fst (BB.w (bestS fs l (List.length l)) 5)), V.i (Prod.snd (BB.w (bestS fs l (List.length l)) 5)), V.i (Prod.fst (BB.w (bestS fs l (List.length l)) 6)), V.i (Prod.snd (BB.w (bestS fs l (List.length l)) 6)), V.i (Prod.fst (BB.w (bestS fs l (List.length l)) 7)), V.i (Prod.snd (BB.w (bestS fs l (List.length l)) 7)), V.i (Prod.fst (BB.w (bestS fs l (List.length l)) 8)), V.i (Prod.snd (BB.w (bestS fs l (List.length l)) 8)), V.i (Prod.fst (BB.w (bestS fs l (List.length l)) 9)), V.i (Prod.snd (BB.w (bestS fs l (List.length l)) 9)), V.i (Prod.fst (BB.w (bestS fs l (List.length l)) 10)), V.i (Prod.snd (BB.w (bestS fs l (List.length l)) 10)), V.i (Prod.fst (BB.w (bestS fs l (List.length l)) 11)), V.i (Prod.snd (BB.w (bestS fs l (List.length l)) 11)), V.i (Prod.fst (BB.w (bestS fs l (List.length l)) 12)), V.i (Prod.snd (BB.w (bestS fs l (List.length l)) 12)), V.i (Prod.fst (BB.w (bestS fs l (List.length l)) 13)), V.i (Prod.snd (BB.w (bestS fs l (List.length l)) 13)), V.i (Prod.fst (BB.w (bestS fs l (List.length l)) 14)), V.i (Prod.snd (BB.w (bestS fs l (List.length l)) 14)), V.i (Prod.fst (BB.w (bestS fs l (List.length l)) 15)), V.i (Prod.snd (BB.w (bestS fs l (List.length l)) 15)), V.i (Prod.fst (BB.w (bestS fs l (List.length l)) 16)), V.i (Prod.snd (BB.w (bestS fs l (List.length l)) 16)), V.i (Prod.fst (BB.w (bestS fs l (List.length l)) 17)), V.i (Prod.snd (BB.w (bestS fs l (List.length l)) 17)), V.i (Prod.fst (BB.w (bestS fs l (List.length l)) 18)), V.i (Prod.snd (BB.w (bestS fs l (List.length l)) 18)), V.i (Prod.fst (BB.w (bestS fs l (List.length l)) 19)), V.i (Prod.snd (BB.w (bestS fs l (List.length l)) 19)), V.i (Prod.fst (BB.w (bestS fs l (List.length l)) 20)), V.i (Prod.snd (BB.w (bestS fs l (List.length l)) 20)), V.i (Prod.fst (BB.w (bestS fs l (List.length l)) 21)), V.i (Prod.snd (BB.w (bestS fs l (List.length l)) 21)), V.i (Prod.fst (BB.w (bestS fs l (List.length l)) 22)), V.i (Prod.snd (BB.w (bestS fs l (List.length l)) 22)), V.i (Prod.fst (BB.w (bestS fs l (List.length l)) 23)), V.i (Prod.snd (BB.w (bestS fs l (List.length l)) 23)), V.i (Prod.fst (BB.w (bestS fs l (List.length l)) 24)), V.i (Prod.snd (BB.w (bestS fs l (List.length l)) 24))], V.agg [V.i (Prod.fst (BB.f (bestS fs l (List.length l)) 0)), V.i (Prod.snd (BB.f (bestS fs l (List.length l)) 0)), V.i (Prod.fst (BB.f (bestS fs l (List.length l)) 1)), V.i (Prod.snd (BB.f (bestS fs l (List.length l)) 1)), V.i (Prod.fst (BB.f (bestS fs l (List.length l)) 2)), V.i (Prod.snd (BB.f (bestS fs l (List.length l)) 2)), V.i (Prod.fst (BB.f (bestS fs l (List.length l)) 3)), V.i (Prod.snd (BB.f (bestS fs l (List.length l)) 3)), V.i (Prod.fst (BB.f (bestS fs l (List.length l)) 4)), V.i (Prod.snd (BB.f (bestS fs l (List.length l)) 4)), V.i (Prod.fst (BB.f (bestS fs l (List.length l)) 5)), V.i (Prod.snd (BB.f (bestS fs l (List.length l)) 5)), V.i (Prod.fst (BB.f (bestS fs l (List.length l)) 6)), V.i (Prod.snd (BB.f (bestS fs l (List.length l)) 6)), V.i (Prod.fst (BB.f (bestS fs l (List.length l)) 7)), V.i (Prod.snd (BB.f (bestS fs l (List.length l)) 7)), V.i (Prod.fst (BB.f (bestS fs l (List.length l)) 8)), V.i (Prod.snd (BB.f (bestS fs l (List.length l)) 8)), V.i (Prod.fst (BB.f (bestS fs l (List.length l)) 9)), V.i (Prod.snd (BB.f (bestS fs l (List.length l)) 9)), V.i (Prod.fst (BB.f (bestS fs l (List.length l)) 10)), V.i (Prod.snd (BB.f (bestS fs l (List.length l)) 10)), V.i (Prod.fst (BB.f (bestS fs l (List.length l)) 11)), V.i (Prod.snd (BB.f (bestS fs l (List.length l)) 11)), V.i (Prod.fst (BB.f (bestS fs l (List.length l)) 12)), V.i (Prod.snd (BB.f (bestS fs l (List.length l)) 12)), V.i (Prod.fst (BB.f (bestS fs l (List.length l)) 13)), V.i (Prod.snd (BB.f (bestS fs l (List.length l)) 13)), V.i (Prod.fst (BB.f (bestS fs l (List.length l)) 14)), V.i (Prod.snd (BB.f (bestS fs l (List.length l)) 14)), V.i (Prod.fst (BB.f (bestS fs l (List.length l)) 15)), V.i (Prod.snd (BB.f (bestS fs l (List.length l)) 15)), V.i (Prod.fst (BB.f (bestS fs l (List.length l)) 16)), V.i (Prod.snd (BB.f (bestS fs l (List.length l)) 16)), V.i (Prod.fst (BB.f (bestS fs l (List.length l)) 17)), V.i (Prod.snd (BB.f (bestS fs l (List.length l)) 17)), V.i (Prod.fst (BB.f (bestS fs l (List.length l)) 18)), V.i (Prod.snd (BB.f (bestS fs l (List.length l)) 18)), V.i (Prod.fst (BB.f (bestS fs l (List.length l)) 19)), V.i (Prod.snd (BB.f (bestS fs l (List.length l)) 19)), V.i (Prod.fst (BB.f (bestS fs l (List.length l)) 20)), V.i (Prod.snd (BB.f (bestS fs l (List.length l)) 20)), V.i (Prod.fst (BB.f (bestS fs l (List.length l)) 21)), V.i (Prod.snd (BB.f (bestS fs l (List.length l)) 21)), V.i (Prod.fst (BB.f (bestS fs l (List.length l)) 22)), V.i (Prod.snd (BB.f (bestS fs l (List.length l)) 22)), V.i (Prod.fst (BB.f (bestS fs l (List.length l)) 23)), V.i (Prod.snd (BB.f (bestS fs l (List.length l)) 23))]])
end Go.Proofs.YtffggfnomhhckaaGreatDoor

namespace Go.Proofs.YtffggfnomhhckaaGreatDoor
open Go.Ab Go.RowKit Go.Dw Go.Shelf
abbrev Fa := Nat × Nat
def gpf (p : List Fa) (k : Nat) : Fa := p.getD k (0, 0)
def offP (p : List Fa) : Nat → Nat
 | 0 => 0
 | j + 1 => offP p j + (gpf p j).2
theorem gpf_cons (x : Fa) (p : List Fa) (j : Nat) : gpf (x :: p) (j + 1) = gpf p j := rfl
theorem offP_cons (x : Fa) (p : List Fa) : ∀ j, offP (x :: p) (j + 1) = x.2 + offP p j
 | 0 => by simp [offP, gpf]
 | j + 1 => by rw [offP, offP_cons x p j, gpf_cons, offP]; omega
structure PlOk (fs : List Fm) (l : List Tr) (f : Wo) (i : Nat) (p : List Fa) : Prop where
 e : i + offP p p.length = l.length
 a : ∀ j, j < p.length → FaOk fs l (i + offP p j) (gpf p j) ∧ f (i + offP p j) = (((gpf p j).1 : Int), ((gpf p j).2 : Int))
theorem plan_ex {fs : List Fm} {l : List Tr} {s : BB} (h : BOk4 fs l l.length s) : ∀ d i, l.length - i = d → i ≤ l.length → s.w i ≠ noneW → ∃ p, PlOk fs l s.f i p := by
 intro d
 induction d using Nat.strongRecOn with
 | _ d ih =>
  intro i hd hi hw
  by_cases e : i = l.length
  ·
   exact ⟨[], by simpa [offP] using e, fun j hj => absurd hj (by simp)⟩
  ·
   obtain ⟨x, hx, hf, hg⟩ := h.g i oM oM hw
   have h1 := hx.m
   have h2 := hx.e
   obtain ⟨p, hp⟩ := ih (l.length - (i + x.2)) oM (i + x.2) rfl h2 hg
   refine ⟨x :: p, ?_, fun j hj => ?_⟩
   ·
    rw [List.length_cons, offP_cons]
    have := hp.e
    omega
   ·
    cases j with
    | zero =>
     simp only [offP, Nat.add_zero]
     exact ⟨hx, hf⟩
    | succ j =>
     rw [offP_cons, gpf_cons, ← Nat.add_assoc]
     exact hp.a j (by simpa using hj)
theorem PlOk.lt {fs : List Fm} {l : List Tr} {f : Wo} {p : List Fa} (h : PlOk fs l f 0 p) {j : Nat} (hj : j < p.length) : offP p j < l.length ∧ offP p (j + 1) ≤ l.length := by
 obtain ⟨h1, _⟩ := h.a j hj
 have h2 := h1.m
 have h3 := h1.e
 simp only [Nat.zero_add, offP] at h3 ⊢
 omega
theorem PlOk.end {fs : List Fm} {l : List Tr} {f : Wo} {p : List Fa} (h : PlOk fs l f 0 p) : offP p p.length = l.length := by
 have := h.e
 omega
theorem PlOk.ge {fs : List Fm} {l : List Tr} {f : Wo} {p : List Fa} (h : PlOk fs l f 0 p) : ∀ j, j ≤ p.length → j ≤ offP p j
 | 0, _ => Nat.zero_le _
 | j + 1, hj => by
  have h1 := h.ge j oM
  have h2 := (h.a j oM).1.m
  rw [offP]; omega
def faC (p : List Fa) (k : Nat) : List V := [.i (gpf p k).1, .i (gpf p k).2]
def V.fcs (p : List Fa) : V := .sl 2 p.length (faC p)
end Go.Proofs.YtffggfnomhhckaaGreatDoor

namespace Go.Proofs.YtffggfnomhhckaaGreatDoor
open Go.Ab Go.RowKit Go.Dw Go.Shelf
theorem prC_at {w : Wo} {i : Nat} {n : Nat} (h : i < n) : (prC n w)[i * 2 + 1]? = some (.i (w i).2) := by
 have h1 := congrArg (·[1]?) (prC_row (w := w) h)
 simp only [List.getElem?_take, List.getElem?_drop] at h1
 exact h1
set_option maxRecDepth 100000 in
theorem Album_no (fs : List Fm) (l : List Tr) (h : AlOk fs l) (hw : (bestS fs l l.length).w 0 = noneW) : AC Tryz.prog 6 [V.fms fs, V.trs l] (.tup [.nil, .i 0, .i 15]) [] := by
 refine acI hTT hMX Tryz.func6 Tryz.ntmps6 fun C hC hF => ?_
 refine sX hTT 2 3 [] tI (sK fun K hK => wR 3 (aX hTT 2 [] tI ?_))
 refine eC (openAll_ac fs l h) ?_
 refine aX hTT 5 [] tI (nK hK ?_); clear hK K; refine sK fun K hK => sX hTT 4 2 [] tI (w_false (t := false) kR rfl ?_)
 refine aw_skip ?_
 refine xt_n (hK _ ?_); clear hK K; refine sK fun K hK => wR 5 (aX hTT 1 [] tI ?_)
 refine eC (best_ac fs l h) ?_
 refine aX hTT 7 [(3, .r (pn 9 (V.ref 400009 0) (400009 : Nat) (Ob.box 65 [V.i 0, V.i 0, V.i 0, V.i 0, V.i 0, V.i 0, V.i 0, V.i 0, V.i 0, V.i 0, V.i 0, V.i 0, V.i 0, V.i 0, V.i 0, V.i 0, V.i 0, V.i 0, V.i 0, V.i 0, V.i 0, V.i 0, V.i 0, V.i 0, V.i 0, V.i 0, V.i 0, V.i 0, V.i 0, V.i 0, V.i 0, V.i 0, V.i 0, V.i 0, V.i 0, V.i 0, V.i 0, V.i 0, V.i 0, V.i 0, V.i 0, V.i 0, V.i 0, V.i 0, V.i 0, V.i 0, V.i 0, V.i 0, V.i 0, V.i 0]))), (4, .r (pn 10 (V.ref 400010 0) (400010 : Nat) (Ob.box 66 [V.i 0, V.i 0, V.i 0, V.i 0, V.i 0, V.i 0, V.i 0, V.i 0, V.i 0, V.i 0, V.i 0, V.i 0, V.i 0, V.i 0, V.i 0, V.i 0, V.i 0, V.i 0, V.i 0, V.i 0, V.i 0, V.i 0, V.i 0, V.i 0, V.i 0, V.i 0, V.i 0, V.i 0, V.i 0, V.i 0, V.i 0, V.i 0, V.i 0, V.i 0, V.i 0, V.i 0, V.i 0, V.i 0, V.i 0, V.i 0, V.i 0, V.i 0, V.i 0, V.i 0, V.i 0, V.i 0, V.i 0, V.i 0]))), (5, .r (pw ((0 : Nat) + (50 : Nat) ≤ (50 : Nat)) (400009 : Nat) (Ob.box 65 [V.i (Prod.fst (BB.w (bestS fs l (List.length l)) 0)), V.i (Prod.snd (BB.w (bestS fs l (List.length l)) 0)), V.i (Prod.fst (BB.w (bestS fs l (List.length l)) 1)), V.i (Prod.snd (BB.w (bestS fs l (List.length l)) 1)), V.i (Prod.fst (BB.w (bestS fs l (List.length l)) 2)), V.i (Prod.snd (BB.w (bestS fs l (List.length l)) 2)), V.i (Prod.fst (BB.w (bestS fs l (List.length l)) 3)), V.i (Prod.snd (BB.w (bestS fs l (List.length l)) 3)), V.i (Prod.fst (BB.w (bestS fs l (List.length l)) 4)), V.i (Prod.snd (BB.w (bestS fs l (List.length l)) 4)), V.i (Prod.fst (BB.w (bestS fs l (List.length l)) 5)), V.i (Prod.snd (BB.w (bestS fs l (List.length l)) 5)), V.i (Prod.fst (BB.w (bestS fs l (List.length l)) 6)), V.i (Prod.snd (BB.w (bestS fs l (List.length l)) 6)), V.i (Prod.fst (BB.w (bestS fs l (List.length l)) 7)), V.i (Prod.snd (BB.w (bestS fs l (List.length l)) 7)), V.i (Prod.fst (BB.w (bestS fs l (List.length l)) 8)), V.i (Prod.snd (BB.w (bestS fs l (List.length l)) 8)), V.i (Prod.fst (BB.w (bestS fs l (List.length l)) 9)), V.i (Prod.snd (BB.w (bestS fs l (List.length l)) 9)), V.i (Prod.fst (BB.w (bestS fs l (List.length l)) 10)), V.i (Prod.snd (BB.w (bestS fs l (List.length l)) 10)), V.i (Prod.fst (BB.w (bestS fs l (List.length l)) 11)), V.i (Prod.snd (BB.w (bestS fs l (List.length l)) 11)), V.i (Prod.fst (BB.w (bestS fs l (List.length l)) 12)), V.i (Prod.snd (BB.w (bestS fs l (List.length l)) 12)), V.i (Prod.fst (BB.w (bestS fs l (List.length l)) 13)), V.i (Prod.snd (BB.w (bestS fs l (List.length l)) 13)), V.i (Prod.fst (BB.w (bestS fs l (List.length l)) 14)), V.i (Prod.snd (BB.w (bestS fs l (List.length l)) 14)), V.i (Prod.fst (BB.w (bestS fs l (List.length l)) 15)), V.i (Prod.snd (BB.w (bestS fs l (List.length l)) 15)), V.i (Prod.fst (BB.w (bestS fs l (List.length l)) 16)), V.i (Prod.snd (BB.w (bestS fs l (List.length l)) 16)), V.i (Prod.fst (BB.w (bestS fs l (List.length l)) 17)), V.i (Prod.snd (BB.w (bestS fs l (List.length l)) 17)), V.i (Prod.fst (BB.w (bestS fs l (List.length l)) 18)), V.i (Prod.snd (BB.w (bestS fs l (List.length l)) 18)), V.i (Prod.fst (BB.w (bestS fs l (List.length l)) 19)), V.i (Prod.snd (BB.w (bestS fs l (List.length l)) 19)), V.i (Prod.fst (BB.w (bestS fs l (List.length l)) 20)), V.i (Prod.snd (BB.w (bestS fs l (List.length l)) 20)), V.i (Prod.fst (BB.w (bestS fs l (List.length l)) 21)), V.i (Prod.snd (BB.w (bestS fs l (List.length l)) 21)), V.i (Prod.fst (BB.w (bestS fs l (List.length l)) 22)), V.i (Prod.snd (BB.w (bestS fs l (List.length l)) 22)), V.i (Prod.fst (BB.w (bestS fs l (List.length l)) 23)), V.i (Prod.snd (BB.w (bestS fs l (List.length l)) 23)), V.i (Prod.fst (BB.w (bestS fs l (List.length l)) 24)), V.i (Prod.snd (BB.w (bestS fs l (List.length l)) 24))]))), (6, .r (pw ((0 : Nat) + (48 : Nat) ≤ (48 : Nat)) (400010 : Nat) (Ob.box 66 [V.i (Prod.fst (BB.f (bestS fs l (List.length l)) 0)), V.i (Prod.snd (BB.f (bestS fs l (List.length l)) 0)), V.i (Prod.fst (BB.f (bestS fs l (List.length l)) 1)), V.i (Prod.snd (BB.f (bestS fs l (List.length l)) 1)), V.i (Prod.fst (BB.f (bestS fs l (List.length l)) 2)), V.i (Prod.snd (BB.f (bestS fs l (List.length l)) 2)), V.i (Prod.fst (BB.f (bestS fs l (List.length l)) 3)), V.i (Prod.snd (BB.f (bestS fs l (List.length l)) 3)), V.i (Prod.fst (BB.f (bestS fs l (List.length l)) 4)), V.i (Prod.snd (BB.f (bestS fs l (List.length l)) 4)), V.i (Prod.fst (BB.f (bestS fs l (List.length l)) 5)), V.i (Prod.snd (BB.f (bestS fs l (List.length l)) 5)), V.i (Prod.fst (BB.f (bestS fs l (List.length l)) 6)), V.i (Prod.snd (BB.f (bestS fs l (List.length l)) 6)), V.i (Prod.fst (BB.f (bestS fs l (List.length l)) 7)), V.i (Prod.snd (BB.f (bestS fs l (List.length l)) 7)), V.i (Prod.fst (BB.f (bestS fs l (List.length l)) 8)), V.i (Prod.snd (BB.f (bestS fs l (List.length l)) 8)), V.i (Prod.fst (BB.f (bestS fs l (List.length l)) 9)), V.i (Prod.snd (BB.f (bestS fs l (List.length l)) 9)), V.i (Prod.fst (BB.f (bestS fs l (List.length l)) 10)), V.i (Prod.snd (BB.f (bestS fs l (List.length l)) 10)), V.i (Prod.fst (BB.f (bestS fs l (List.length l)) 11)), V.i (Prod.snd (BB.f (bestS fs l (List.length l)) 11)), V.i (Prod.fst (BB.f (bestS fs l (List.length l)) 12)), V.i (Prod.snd (BB.f (bestS fs l (List.length l)) 12)), V.i (Prod.fst (BB.f (bestS fs l (List.length l)) 13)), V.i (Prod.snd (BB.f (bestS fs l (List.length l)) 13)), V.i (Prod.fst (BB.f (bestS fs l (List.length l)) 14)), V.i (Prod.snd (BB.f (bestS fs l (List.length l)) 14)), V.i (Prod.fst (BB.f (bestS fs l (List.length l)) 15)), V.i (Prod.snd (BB.f (bestS fs l (List.length l)) 15)), V.i (Prod.fst (BB.f (bestS fs l (List.length l)) 16)), V.i (Prod.snd (BB.f (bestS fs l (List.length l)) 16)), V.i (Prod.fst (BB.f (bestS fs l (List.length l)) 17)), V.i (Prod.snd (BB.f (bestS fs l (List.length l)) 17)), V.i (Prod.fst (BB.f (bestS fs l (List.length l)) 18)), V.i (Prod.snd (BB.f (bestS fs l (List.length l)) 18)), V.i (Prod.fst (BB.f (bestS fs l (List.length l)) 19)), V.i (Prod.snd (BB.f (bestS fs l (List.length l)) 19)), V.i (Prod.fst (BB.f (bestS fs l (List.length l)) 20)), V.i (Prod.snd (BB.f (bestS fs l (List.length l)) 20)), V.i (Prod.fst (BB.f (bestS fs l (List.length l)) 21)), V.i (Prod.snd (BB.f (bestS fs l (List.length l)) 21)), V.i (Prod.fst (BB.f (bestS fs l (List.length l)) 22)), V.i (Prod.snd (BB.f (bestS fs l (List.length l)) 22)), V.i (Prod.fst (BB.f (bestS fs l (List.length l)) 23)), V.i (Prod.snd (BB.f (bestS fs l (List.length l)) 23))])))] ⟨oM, oM, tI⟩ ?_
 refine nK hK ?_; clear hK K; refine sK fun K hK => sK fun K hK => wR 6 ?_
 refine aops_n hTT (M := []) (n := 4) [pc 27 ((0 : Int) ≤ (0 : Int) ∧ (0 : Int) < (↑(25 : Nat) : Int)) (V.ref 400009 0), pc 28 ((0 : Nat) ≤ (50 : Nat)) (V.agg [V.i (Prod.fst (BB.w (bestS fs l (List.length l)) 0)), V.i (Prod.snd (BB.w (bestS fs l (List.length l)) 0))]), pv 29 (V.agg [V.i (-1), V.i 0]), pv 30 (V.b (decide (Prod.fst (BB.w (bestS fs l (List.length l)) 0) = (-1 : Int)) && (decide (Prod.snd (BB.w (bestS fs l (List.length l)) 0) = 0) && true)))] kR kR ⟨oM, oM, tI⟩ ?_
 refine nK hK ?_; clear hK K
 rw [none_dec]
 refine w_cond (t := decide (BB.w (bestS fs l (List.length l)) 0 = noneW)) kR (fun c1 => ?_) (fun c1 => ?_)
 ·
  refine sK fun K hK => ?_
  refine wR 7 (aX hTT 3 [] tI (nK hK ?_)); clear hK K
  refine aw_ret ?_
  refine xt_r ?_
  refine rP (V.tup [V.nil, V.i 0, V.i 15])
 ·
  simp at c1
  exact absurd hw c1
abbrev qBS80 : Prop := (0 : Int) ≤ (0 : Int) ∧ (0 : Int) < (↑(25 : Nat) : Int)
theorem qBS80_ : qBS80 := oM
set_option maxRecDepth 100000 in
theorem Album_ok (fs : List Fm) (l : List Tr) (h : AlOk fs l) (hw : (bestS fs l l.length).w 0 ≠ noneW) (p : List Fa) (hp : PlOk fs l (bestS fs l l.length).f 0 p) : AC Tryz.prog 6 [V.fms fs, V.trs l] (.tup [V.fcs p, .i ((bestS fs l l.length).w 0).1, .i 0]) [] := by
 have h24 := h.ll
 have he := hp.end
 refine acI hTT hMX Tryz.func6 Tryz.ntmps6 fun C hC hF => ?_
 refine sX hTT 2 3 [] tI (sK fun K hK => wR 3 (aX hTT 2 [] tI ?_))
 refine eC (openAll_ac fs l h) ?_
 refine aX hTT 5 [] tI (nK hK ?_); clear hK K; refine sK fun K hK => sX hTT 4 2 [] tI (w_false (t := false) kR rfl ?_)
 refine aw_skip ?_
 refine xt_n (hK _ ?_); clear hK K; refine sK fun K hK => wR 5 (aX hTT 1 [] tI ?_)
 refine eC (best_ac fs l h) ?_
 refine aX hTT 7 [(3, .r (pn 9 (V.ref 400009 0) (400009 : Nat) (Ob.box 65 [V.i 0, V.i 0, V.i 0, V.i 0, V.i 0, V.i 0, V.i 0, V.i 0, V.i 0, V.i 0, V.i 0, V.i 0, V.i 0, V.i 0, V.i 0, V.i 0, V.i 0, V.i 0, V.i 0, V.i 0, V.i 0, V.i 0, V.i 0, V.i 0, V.i 0, V.i 0, V.i 0, V.i 0, V.i 0, V.i 0, V.i 0, V.i 0, V.i 0, V.i 0, V.i 0, V.i 0, V.i 0, V.i 0, V.i 0, V.i 0, V.i 0, V.i 0, V.i 0, V.i 0, V.i 0, V.i 0, V.i 0, V.i 0, V.i 0, V.i 0]))), (4, .r (pn 10 (V.ref 400010 0) (400010 : Nat) (Ob.box 66 [V.i 0, V.i 0, V.i 0, V.i 0, V.i 0, V.i 0, V.i 0, V.i 0, V.i 0, V.i 0, V.i 0, V.i 0, V.i 0, V.i 0, V.i 0, V.i 0, V.i 0, V.i 0, V.i 0, V.i 0, V.i 0, V.i 0, V.i 0, V.i 0, V.i 0, V.i 0, V.i 0, V.i 0, V.i 0, V.i 0, V.i 0, V.i 0, V.i 0, V.i 0, V.i 0, V.i 0, V.i 0, V.i 0, V.i 0, V.i 0, V.i 0, V.i 0, V.i 0, V.i 0, V.i 0, V.i 0, V.i 0, V.i 0]))), (5, .r (pw ((0 : Nat) + (50 : Nat) ≤ (50 : Nat)) (400009 : Nat) (Ob.box 65 [V.i (Prod.fst (BB.w (bestS fs l (List.length l)) 0)), V.i (Prod.snd (BB.w (bestS fs l (List.length l)) 0)), V.i (Prod.fst (BB.w (bestS fs l (List.length l)) 1)), V.i (Prod.snd (BB.w (bestS fs l (List.length l)) 1)), V.i (Prod.fst (BB.w (bestS fs l (List.length l)) 2)), V.i (Prod.snd (BB.w (bestS fs l (List.length l)) 2)), V.i (Prod.fst (BB.w (bestS fs l (List.length l)) 3)), V.i (Prod.snd (BB.w (bestS fs l (List.length l)) 3)), V.i (Prod.fst (BB.w (bestS fs l (List.length l)) 4)), V.i (Prod.snd (BB.w (bestS fs l (List.length l)) 4)), V.i (Prod.fst (BB.w (bestS fs l (List.length l)) 5)), V.i (Prod.snd (BB.w (bestS fs l (List.length l)) 5)), V.i (Prod.fst (BB.w (bestS fs l (List.length l)) 6)), V.i (Prod.snd (BB.w (bestS fs l (List.length l)) 6)), V.i (Prod.fst (BB.w (bestS fs l (List.length l)) 7)), V.i (Prod.snd (BB.w (bestS fs l (List.length l)) 7)), V.i (Prod.fst (BB.w (bestS fs l (List.length l)) 8)), V.i (Prod.snd (BB.w (bestS fs l (List.length l)) 8)), V.i (Prod.fst (BB.w (bestS fs l (List.length l)) 9)), V.i (Prod.snd (BB.w (bestS fs l (List.length l)) 9)), V.i (Prod.fst (BB.w (bestS fs l (List.length l)) 10)), V.i (Prod.snd (BB.w (bestS fs l (List.length l)) 10)), V.i (Prod.fst (BB.w (bestS fs l (List.length l)) 11)), V.i (Prod.snd (BB.w (bestS fs l (List.length l)) 11)), V.i (Prod.fst (BB.w (bestS fs l (List.length l)) 12)), V.i (Prod.snd (BB.w (bestS fs l (List.length l)) 12)), V.i (Prod.fst (BB.w (bestS fs l (List.length l)) 13)), V.i (Prod.snd (BB.w (bestS fs l (List.length l)) 13)), V.i (Prod.fst (BB.w (bestS fs l (List.length l)) 14)), V.i (Prod.snd (BB.w (bestS fs l (List.length l)) 14)), V.i (Prod.fst (BB.w (bestS fs l (List.length l)) 15)), V.i (Prod.snd (BB.w (bestS fs l (List.length l)) 15)), V.i (Prod.fst (BB.w (bestS fs l (List.length l)) 16)), V.i (Prod.snd (BB.w (bestS fs l (List.length l)) 16)), V.i (Prod.fst (BB.w (bestS fs l (List.length l)) 17)), V.i (Prod.snd (BB.w (bestS fs l (List.length l)) 17)), V.i (Prod.fst (BB.w (bestS fs l (List.length l)) 18)), V.i (Prod.snd (BB.w (bestS fs l (List.length l)) 18)), V.i (Prod.fst (BB.w (bestS fs l (List.length l)) 19)), V.i (Prod.snd (BB.w (bestS fs l (List.length l)) 19)), V.i (Prod.fst (BB.w (bestS fs l (List.length l)) 20)), V.i (Prod.snd (BB.w (bestS fs l (List.length l)) 20)), V.i (Prod.fst (BB.w (bestS fs l (List.length l)) 21)), V.i (Prod.snd (BB.w (bestS fs l (List.length l)) 21)), V.i (Prod.fst (BB.w (bestS fs l (List.length l)) 22)), V.i (Prod.snd (BB.w (bestS fs l (List.length l)) 22)), V.i (Prod.fst (BB.w (bestS fs l (List.length l)) 23)), V.i (Prod.snd (BB.w (bestS fs l (List.length l)) 23)), V.i (Prod.fst (BB.w (bestS fs l (List.length l)) 24)), V.i (Prod.snd (BB.w (bestS fs l (List.length l)) 24))]))), (6, .r (pw ((0 : Nat) + (48 : Nat) ≤ (48 : Nat)) (400010 : Nat) (Ob.box 66 [V.i (Prod.fst (BB.f (bestS fs l (List.length l)) 0)), V.i (Prod.snd (BB.f (bestS fs l (List.length l)) 0)), V.i (Prod.fst (BB.f (bestS fs l (List.length l)) 1)), V.i (Prod.snd (BB.f (bestS fs l (List.length l)) 1)), V.i (Prod.fst (BB.f (bestS fs l (List.length l)) 2)), V.i (Prod.snd (BB.f (bestS fs l (List.length l)) 2)), V.i (Prod.fst (BB.f (bestS fs l (List.length l)) 3)), V.i (Prod.snd (BB.f (bestS fs l (List.length l)) 3)), V.i (Prod.fst (BB.f (bestS fs l (List.length l)) 4)), V.i (Prod.snd (BB.f (bestS fs l (List.length l)) 4)), V.i (Prod.fst (BB.f (bestS fs l (List.length l)) 5)), V.i (Prod.snd (BB.f (bestS fs l (List.length l)) 5)), V.i (Prod.fst (BB.f (bestS fs l (List.length l)) 6)), V.i (Prod.snd (BB.f (bestS fs l (List.length l)) 6)), V.i (Prod.fst (BB.f (bestS fs l (List.length l)) 7)), V.i (Prod.snd (BB.f (bestS fs l (List.length l)) 7)), V.i (Prod.fst (BB.f (bestS fs l (List.length l)) 8)), V.i (Prod.snd (BB.f (bestS fs l (List.length l)) 8)), V.i (Prod.fst (BB.f (bestS fs l (List.length l)) 9)), V.i (Prod.snd (BB.f (bestS fs l (List.length l)) 9)), V.i (Prod.fst (BB.f (bestS fs l (List.length l)) 10)), V.i (Prod.snd (BB.f (bestS fs l (List.length l)) 10)), V.i (Prod.fst (BB.f (bestS fs l (List.length l)) 11)), V.i (Prod.snd (BB.f (bestS fs l (List.length l)) 11)), V.i (Prod.fst (BB.f (bestS fs l (List.length l)) 12)), V.i (Prod.snd (BB.f (bestS fs l (List.length l)) 12)), V.i (Prod.fst (BB.f (bestS fs l (List.length l)) 13)), V.i (Prod.snd (BB.f (bestS fs l (List.length l)) 13)), V.i (Prod.fst (BB.f (bestS fs l (List.length l)) 14)), V.i (Prod.snd (BB.f (bestS fs l (List.length l)) 14)), V.i (Prod.fst (BB.f (bestS fs l (List.length l)) 15)), V.i (Prod.snd (BB.f (bestS fs l (List.length l)) 15)), V.i (Prod.fst (BB.f (bestS fs l (List.length l)) 16)), V.i (Prod.snd (BB.f (bestS fs l (List.length l)) 16)), V.i (Prod.fst (BB.f (bestS fs l (List.length l)) 17)), V.i (Prod.snd (BB.f (bestS fs l (List.length l)) 17)), V.i (Prod.fst (BB.f (bestS fs l (List.length l)) 18)), V.i (Prod.snd (BB.f (bestS fs l (List.length l)) 18)), V.i (Prod.fst (BB.f (bestS fs l (List.length l)) 19)), V.i (Prod.snd (BB.f (bestS fs l (List.length l)) 19)), V.i (Prod.fst (BB.f (bestS fs l (List.length l)) 20)), V.i (Prod.snd (BB.f (bestS fs l (List.length l)) 20)), V.i (Prod.fst (BB.f (bestS fs l (List.length l)) 21)), V.i (Prod.snd (BB.f (bestS fs l (List.length l)) 21)), V.i (Prod.fst (BB.f (bestS fs l (List.length l)) 22)), V.i (Prod.snd (BB.f (bestS fs l (List.length l)) 22)), V.i (Prod.fst (BB.f (bestS fs l (List.length l)) 23)), V.i (Prod.snd (BB.f (bestS fs l (List.length l)) 23))])))] ⟨oM, oM, tI⟩ ?_
 refine nK hK ?_; clear hK K; refine sK fun K hK => sK fun K hK => wR 6 ?_
 refine aops_n hTT (M := []) (n := 4) [pc 27 ((0 : Int) ≤ (0 : Int) ∧ (0 : Int) < (↑(25 : Nat) : Int)) (V.ref 400009 0), pc 28 ((0 : Nat) ≤ (50 : Nat)) (V.agg [V.i (Prod.fst (BB.w (bestS fs l (List.length l)) 0)), V.i (Prod.snd (BB.w (bestS fs l (List.length l)) 0))]), pv 29 (V.agg [V.i (-1), V.i 0]), pv 30 (V.b (decide (Prod.fst (BB.w (bestS fs l (List.length l)) 0) = (-1 : Int)) && (decide (Prod.snd (BB.w (bestS fs l (List.length l)) 0) = 0) && true)))] kR kR ⟨oM, oM, tI⟩ ?_
 refine nK hK ?_; clear hK K
 rw [none_dec]
 refine w_cond (t := decide (BB.w (bestS fs l (List.length l)) 0 = noneW)) kR (fun c1 => ?_) (fun c1 => ?_)
 ·
  simp at c1
  exact absurd c1 hw
 refine aw_skip ?_
 refine xt_n (hK _ ?_); clear hK K; refine sX hTT 7 1 [] tI (sK fun K hK => sX hTT 8 1 [] tI ?_)
 refine aw_block ?_
 obtain ⟨cf, hcf⟩ : ∃ cf, cf = prC 24 (bestS fs l l.length).f := ⟨_, rfl⟩
 obtain ⟨cw, hcw⟩ : ∃ cw, cw = prC 25 (bestS fs l l.length).w := ⟨_, rfl⟩
 refine w_le (s' := ⟨mkT [(7, .ptr (alC fs l)), (9, .ref 9 0), (10, .ref 10 0), (11, .nil), (12, .i ((0 : Nat) : Int))], mkS [(9, .box 65 cw), (10, .box 66 cf)], 1⟩) ?_ ?_
 ·
  refine le_ren (tl := [(7, V.ptr [V.sl 1 (List.length fs) fun (k : Nat) => [V.ptr (plC4 (gfm fs k) l)], V.i (↑(List.length l) : Int)]), (9, V.ref 9 0), (10, V.ref 10 0), (11, V.nil), (12, V.i 0)]) (sl := [(9, Ob.box 65 cw), (10, Ob.box 66 cf)]) [(9, 400009), (10, 400010)] (.cons kR (.cons kR (.cons kR (.cons kR (.cons kR .nil))))) (.cons ⟨Ob.box 65 [V.i (Prod.fst (BB.w (bestS fs l (List.length l)) 0)), V.i (Prod.snd (BB.w (bestS fs l (List.length l)) 0)), V.i (Prod.fst (BB.w (bestS fs l (List.length l)) 1)), V.i (Prod.snd (BB.w (bestS fs l (List.length l)) 1)), V.i (Prod.fst (BB.w (bestS fs l (List.length l)) 2)), V.i (Prod.snd (BB.w (bestS fs l (List.length l)) 2)), V.i (Prod.fst (BB.w (bestS fs l (List.length l)) 3)), V.i (Prod.snd (BB.w (bestS fs l (List.length l)) 3)), V.i (Prod.fst (BB.w (bestS fs l (List.length l)) 4)), V.i (Prod.snd (BB.w (bestS fs l (List.length l)) 4)), V.i (Prod.fst (BB.w (bestS fs l (List.length l)) 5)), V.i (Prod.snd (BB.w (bestS fs l (List.length l)) 5)), V.i (Prod.fst (BB.w (bestS fs l (List.length l)) 6)), V.i (Prod.snd (BB.w (bestS fs l (List.length l)) 6)), V.i (Prod.fst (BB.w (bestS fs l (List.length l)) 7)), V.i (Prod.snd (BB.w (bestS fs l (List.length l)) 7)), V.i (Prod.fst (BB.w (bestS fs l (List.length l)) 8)), V.i (Prod.snd (BB.w (bestS fs l (List.length l)) 8)), V.i (Prod.fst (BB.w (bestS fs l (List.length l)) 9)), V.i (Prod.snd (BB.w (bestS fs l (List.length l)) 9)), V.i (Prod.fst (BB.w (bestS fs l (List.length l)) 10)), V.i (Prod.snd (BB.w (bestS fs l (List.length l)) 10)), V.i (Prod.fst (BB.w (bestS fs l (List.length l)) 11)), V.i (Prod.snd (BB.w (bestS fs l (List.length l)) 11)), V.i (Prod.fst (BB.w (bestS fs l (List.length l)) 12)), V.i (Prod.snd (BB.w (bestS fs l (List.length l)) 12)), V.i (Prod.fst (BB.w (bestS fs l (List.length l)) 13)), V.i (Prod.snd (BB.w (bestS fs l (List.length l)) 13)), V.i (Prod.fst (BB.w (bestS fs l (List.length l)) 14)), V.i (Prod.snd (BB.w (bestS fs l (List.length l)) 14)), V.i (Prod.fst (BB.w (bestS fs l (List.length l)) 15)), V.i (Prod.snd (BB.w (bestS fs l (List.length l)) 15)), V.i (Prod.fst (BB.w (bestS fs l (List.length l)) 16)), V.i (Prod.snd (BB.w (bestS fs l (List.length l)) 16)), V.i (Prod.fst (BB.w (bestS fs l (List.length l)) 17)), V.i (Prod.snd (BB.w (bestS fs l (List.length l)) 17)), V.i (Prod.fst (BB.w (bestS fs l (List.length l)) 18)), V.i (Prod.snd (BB.w (bestS fs l (List.length l)) 18)), V.i (Prod.fst (BB.w (bestS fs l (List.length l)) 19)), V.i (Prod.snd (BB.w (bestS fs l (List.length l)) 19)), V.i (Prod.fst (BB.w (bestS fs l (List.length l)) 20)), V.i (Prod.snd (BB.w (bestS fs l (List.length l)) 20)), V.i (Prod.fst (BB.w (bestS fs l (List.length l)) 21)), V.i (Prod.snd (BB.w (bestS fs l (List.length l)) 21)), V.i (Prod.fst (BB.w (bestS fs l (List.length l)) 22)), V.i (Prod.snd (BB.w (bestS fs l (List.length l)) 22)), V.i (Prod.fst (BB.w (bestS fs l (List.length l)) 23)), V.i (Prod.snd (BB.w (bestS fs l (List.length l)) 23)), V.i (Prod.fst (BB.w (bestS fs l (List.length l)) 24)), V.i (Prod.snd (BB.w (bestS fs l (List.length l)) 24))], kR, .box ?_⟩ (.cons ⟨Ob.box 66 [V.i (Prod.fst (BB.f (bestS fs l (List.length l)) 0)), V.i (Prod.snd (BB.f (bestS fs l (List.length l)) 0)), V.i (Prod.fst (BB.f (bestS fs l (List.length l)) 1)), V.i (Prod.snd (BB.f (bestS fs l (List.length l)) 1)), V.i (Prod.fst (BB.f (bestS fs l (List.length l)) 2)), V.i (Prod.snd (BB.f (bestS fs l (List.length l)) 2)), V.i (Prod.fst (BB.f (bestS fs l (List.length l)) 3)), V.i (Prod.snd (BB.f (bestS fs l (List.length l)) 3)), V.i (Prod.fst (BB.f (bestS fs l (List.length l)) 4)), V.i (Prod.snd (BB.f (bestS fs l (List.length l)) 4)), V.i (Prod.fst (BB.f (bestS fs l (List.length l)) 5)), V.i (Prod.snd (BB.f (bestS fs l (List.length l)) 5)), V.i (Prod.fst (BB.f (bestS fs l (List.length l)) 6)), V.i (Prod.snd (BB.f (bestS fs l (List.length l)) 6)), V.i (Prod.fst (BB.f (bestS fs l (List.length l)) 7)), V.i (Prod.snd (BB.f (bestS fs l (List.length l)) 7)), V.i (Prod.fst (BB.f (bestS fs l (List.length l)) 8)), V.i (Prod.snd (BB.f (bestS fs l (List.length l)) 8)), V.i (Prod.fst (BB.f (bestS fs l (List.length l)) 9)), V.i (Prod.snd (BB.f (bestS fs l (List.length l)) 9)), V.i (Prod.fst (BB.f (bestS fs l (List.length l)) 10)), V.i (Prod.snd (BB.f (bestS fs l (List.length l)) 10)), V.i (Prod.fst (BB.f (bestS fs l (List.length l)) 11)), V.i (Prod.snd (BB.f (bestS fs l (List.length l)) 11)), V.i (Prod.fst (BB.f (bestS fs l (List.length l)) 12)), V.i (Prod.snd (BB.f (bestS fs l (List.length l)) 12)), V.i (Prod.fst (BB.f (bestS fs l (List.length l)) 13)), V.i (Prod.snd (BB.f (bestS fs l (List.length l)) 13)), V.i (Prod.fst (BB.f (bestS fs l (List.length l)) 14)), V.i (Prod.snd (BB.f (bestS fs l (List.length l)) 14)), V.i (Prod.fst (BB.f (bestS fs l (List.length l)) 15)), V.i (Prod.snd (BB.f (bestS fs l (List.length l)) 15)), V.i (Prod.fst (BB.f (bestS fs l (List.length l)) 16)), V.i (Prod.snd (BB.f (bestS fs l (List.length l)) 16)), V.i (Prod.fst (BB.f (bestS fs l (List.length l)) 17)), V.i (Prod.snd (BB.f (bestS fs l (List.length l)) 17)), V.i (Prod.fst (BB.f (bestS fs l (List.length l)) 18)), V.i (Prod.snd (BB.f (bestS fs l (List.length l)) 18)), V.i (Prod.fst (BB.f (bestS fs l (List.length l)) 19)), V.i (Prod.snd (BB.f (bestS fs l (List.length l)) 19)), V.i (Prod.fst (BB.f (bestS fs l (List.length l)) 20)), V.i (Prod.snd (BB.f (bestS fs l (List.length l)) 20)), V.i (Prod.fst (BB.f (bestS fs l (List.length l)) 21)), V.i (Prod.snd (BB.f (bestS fs l (List.length l)) 21)), V.i (Prod.fst (BB.f (bestS fs l (List.length l)) 22)), V.i (Prod.snd (BB.f (bestS fs l (List.length l)) 22)), V.i (Prod.fst (BB.f (bestS fs l (List.length l)) 23)), V.i (Prod.snd (BB.f (bestS fs l (List.length l)) 23))], kR, .box ?_⟩ .nil)) kR kR
  ·
   show prC 25 (bestS fs l l.length).w = _
   rw [hcw, prC_ren]
  ·
   show prC 24 (bestS fs l l.length).f = _
   rw [hcf, prC_ren]
 refine w_le (le_open 11 37 2 (faC p) kR rfl) ?_
 have lf : cf.length = 48 := by rw [hcf, prC_len]
 refine w_loop (ι := Nat × List V × List V) (fun x => [(7, .ptr (alC fs l)), (9, .ref 9 0), (10, .ref 10 0), (11, .own 1), (12, .i (offP p x.1))]) (fun x => [(9, .box 65 x.2.1), (10, .box 66 x.2.2), (1, .row 37 2 x.1 (faC p))]) (fun x => x.1 ≤ p.length ∧ x.2.1 = cw ∧ x.2.2 = cf) (fun x => p.length - x.1) (0, cw, cf) ⟨Nat.zero_le _, rfl, rfl⟩ ?_ ?_
 ·
  show Le _ ⟨mkT [(7, .ptr (alC fs l)), (9, .ref 9 0), (10, .ref 10 0), (11, .own 1), (12, .i ((0 : Nat) : Int))], mkS [(9, .box 65 cw), (10, .box 66 cf), (1, .row 37 2 0 (faC p))], 1⟩
  refine le_ren (tl := [(7, V.ptr [V.sl 1 (List.length fs) fun (k : Nat) => [V.ptr (plC4 (gfm fs k) l)], V.i (↑(List.length l) : Int)]), (9, V.ref 9 0), (10, V.ref 10 0), (11, V.own 1), (12, V.i 0)]) (sl := [(9, Ob.box 65 cw), (10, Ob.box 66 cf), (1, Ob.row 37 2 0 (faC p))]) [(9, 9), (10, 10), (1, 100011)] (.cons kR (.cons kR (.cons kR (.cons kR (.cons kR .nil))))) (.cons ⟨Ob.box 65 cw, kR, .box ?_⟩ (.cons ⟨Ob.box 66 cf, kR, .box ?_⟩ (.cons ⟨Ob.row 37 2 0 (faC p), kR, .row kR (fun _ _ => rfl)⟩ .nil))) kR kR
  ·
   rw [hcw, prC_ren]
  ·
   rw [hcf, prC_ren]
 rintro ⟨j, c1, c2⟩ ⟨hj, q1, q2⟩
 simp only at hj q1 q2 ⊢
 subst q1 q2
 refine sK fun K hK => sX hTT 2 6 [] tI ?_
 refine w_cond (t := decide ((↑(offP p j) : Int) < (↑(List.length l) : Int))) kR (fun c3 => ?_) (fun c3 => ?_)
 ·
  have hj1 : j < p.length := by
   refine Nat.lt_of_le_of_ne hj fun e => ?_
   rw [e, he] at c3
   simp at c3
  obtain ⟨o1, o2⟩ := hp.lt hj1
  have o3 := hp.ge j hj
  obtain ⟨a1, a2⟩ := hp.a j hj1
  rw [Nat.zero_add] at a1 a2
  have e1 : ((offP p j : Nat) : Int) + (((gpf p j).2 : Nat) : Int) = ((offP p (j + 1) : Nat) : Int) := by rw [offP]; omega
  refine aw_skip ?_
  refine xt_n (hK _ ?_); clear hK K; refine sK fun K hK => ?_
  refine aw_block ?_
  refine wR 3 ?_
  refine aops_n hTT (M := []) (n := 3) [pv 43 (V.own 1), pv 44 (V.i (↑(offP p j) : Int)), pc 45 ((0 : Int) ≤ (↑(offP p j) : Int) ∧ (↑(offP p j) : Int) < (↑(24 : Nat) : Int)) (V.ref 10 ((0 : Nat) + offP p j * 2))] kR kR ⟨oM, tI⟩ ?_
  refine aops_step rfl (as_loadRNe 37 (.tmp 45) (t' := 66) (cs := c2) (n := 2) (us := faC p j) (hTT.agg rfl) (hTT.size rfl) rfl ?hn0 ?hv) ?hp ?hn ?_
  case hn0 => rw [lf]; omega
  case hv => rw [hcf, Nat.zero_add, prC_row oM, a2]; rfl
  case hp => intro p hp; rw [List.mem_singleton] at hp; subst hp; rfl
  case hn => simp [nwOk]
  refine aX hTT 3 [(1, .r (PR.mk (some (48 : Nat)) (some (j + 1 ≤ (1099511627776 : Nat))) (V.own 200048) [((1 : Nat), none), ((200048 : Nat), some (Ob.row 37 2 (j + 1) (appRow j (faC p) fun (i : Nat) => List.take (2 : Nat) (List.drop (i * 2) [V.i (↑(Prod.fst (gpf p j)) : Int), V.i (↑(Prod.snd (gpf p j)) : Int)]))))] false))] ⟨oM, tI⟩ (aops_nil (xb_n (xt_n (hK _ ?_)))); clear hK K; refine wR 4 ?_
  refine aops_n hTT (M := []) (n := 4) [pv 37 (V.i (↑(offP p j) : Int)), pv 38 (V.i (↑(offP p j) : Int)), pc 39 ((0 : Int) ≤ (↑(offP p j) : Int) ∧ (↑(offP p j) : Int) < (↑(24 : Nat) : Int)) (V.ref 10 ((0 : Nat) + offP p j * 2)), pv 40 (V.ref 10 ((0 : Nat) + offP p j * 2 + (1 : Nat)))] kR kR ⟨oM, tI⟩ ?_
  refine aops_step rfl (as_loadR1 3 (.tmp 40) (t' := 66) (cs := c2) (v := .i (((gpf p j).2 : Nat) : Int)) (hTT.agg rfl) rfl ?hv) ?hp ?hn ?_
  case hv => rw [hcf, Nat.zero_add, prC_at oM, a2]
  case hp => intro p hp; rw [List.mem_singleton] at hp; subst hp; rfl
  case hn => simp [nwOk]
  refine aX hTT 2 [(0, .i ((↑(offP p j) : Int) + (↑(Prod.snd (gpf p j)) : Int)))] ⟨oM, tI⟩ (aops_nil (xt_n ?_))
  refine ⟨(j + 1, c1, c2), ⟨by simp only; omega, rfl, rfl⟩, ?_, by simp only; omega⟩
  show Le _ ⟨mkT [(7, .ptr (alC fs l)), (9, .ref 9 0), (10, .ref 10 0), (11, .own 1), (12, .i (offP p (j + 1)))], mkS [(9, .box 65 c1), (10, .box 66 c2), (1, .row 37 2 (j + 1) (faC p))], 1⟩
  rw [← e1]
  refine le_ren (tl := [(7, V.ptr [V.sl 1 (List.length fs) fun (k : Nat) => [V.ptr (plC4 (gfm fs k) l)], V.i (↑(List.length l) : Int)]), (9, V.ref 9 0), (10, V.ref 10 0), (11, V.own 1), (12, V.i ((↑(offP p j) : Int) + (↑(Prod.snd (gpf p j)) : Int)))]) (sl := [(9, Ob.box 65 c1), (10, Ob.box 66 c2), (1, Ob.row 37 2 (j + 1) (faC p))]) [(9, 9), (10, 10), (1, 200048)] (.cons kR (.cons kR (.cons kR (.cons kR (.cons kR .nil))))) (.cons ⟨Ob.box 65 c1, kR, .box ?_⟩ (.cons ⟨Ob.box 66 c2, kR, .box ?_⟩ (.cons ⟨Ob.row 37 2 (j + 1) (appRow j (faC p) fun (i : Nat) => List.take (2 : Nat) (List.drop (i * 2) [V.i (↑(Prod.fst (gpf p j)) : Int), V.i (↑(Prod.snd (gpf p j)) : Int)])), kR, .row kR ?_⟩ .nil))) kR kR
  ·
   rw [hcw, prC_ren]
  ·
   rw [hcf, prC_ren]
  ·
   exact appRow_ok (fun i hi => rfl) rfl
 ·
  have hj1 : j = p.length := by
   refine Nat.le_antisymm hj (Nat.not_lt.1 fun hlt => ?_)
   have := (hp.lt hlt).1
   simp at c3
   omega
  subst hj1
  refine w_le (le_shut 11 1 (e := (37 : Nat)) (sz := (2 : Nat)) (n := List.length p) (n' := p.length) (row := faC p) (row' := (faC p)) kR kR (fun _ _ => rfl) ?_ ?_) ?_
  ·
   rfl
  ·
   exact fun _ _ => rfl
  refine aw_exit ?_
  refine xt_x ?_; refine xt_x ?_
  refine xb_same ?_
  refine xt_n ?_; clear hK K; refine hK _ ?_; clear hK K; refine sK fun K hK => wD 3 (aX hTT 3 [(1, .c qBS80), (2, .c ((0 : Int) ≤ (0 : Int) ∧ (0 : Int) < (↑(2 : Nat) : Int)))] ⟨qBS80_, oM, tI⟩ ?_)
  refine aops_step rfl (as_loadR1 2 (.tmp 51) (t' := 65) (cs := c1) (v := .i ((bestS fs l l.length).w 0).1) (hTT.agg rfl) rfl ?hv) ?hp ?hn ?_
  case hv => rw [hcw]; rfl
  case hp => intro p hp; rw [List.mem_singleton] at hp; subst hp; rfl
  case hn => simp [nwOk]
  refine aX hTT 3 [] tI (aops_nil ⟨kR, (xt_n (hK _ ?_))⟩); clear hK K
  refine aw_ret ?_
  refine rP (V.tup [V.sl 2 (List.length p) (faC p), V.i (Prod.fst (BB.w (bestS fs l (List.length l)) (0 : Nat))), V.i 0])
end Go.Proofs.YtffggfnomhhckaaGreatDoor

namespace Go.Proofs.YtffggfnomhhckaaGreatDoor
open Go.Ab Go.RowKit Go.Dw Go.Shelf
def V.u16m (l : List Int) : V := .sl 1 l.length fun k => [.c (.int .u16 (gi l k))]
def V.u8b (l : List Int) : V := .sl 1 l.length fun k => [.c (.int .u8 (gi l k))]
def hfT (a : List Int) (k : Nat) : Int := 1 + (gi a k).tmod 1000
def dfT (b : List Int) (k : Nat) : Int := (gi b k).tmod 1001
def lnT (c : List Int) (k : Nat) : Nat := 1 + (gi c k).toNat % 40
theorem hfT_bd {a : List Int} (ha : ∀ x ∈ a, 0 ≤ x ∧ x ≤ 65535) {k : Nat} (hk : k < a.length) : 1 ≤ hfT a k ∧ hfT a k ≤ 1000 := by
 have h := ha _ (gi_mem hk)
 unfold hfT
 rw [Int.tmod_eq_emod_of_nonneg h.1]
 omega
theorem dfT_bd {a : List Int} (ha : ∀ x ∈ a, 0 ≤ x ∧ x ≤ 65535) {k : Nat} (hk : k < a.length) : 0 ≤ dfT a k ∧ dfT a k ≤ 1000 := by
 have h := ha _ (gi_mem hk)
 unfold dfT
 rw [Int.tmod_eq_emod_of_nonneg h.1]
 omega
theorem lnT_eq {a : List Int} (ha : ∀ x ∈ a, 0 ≤ x ∧ x ≤ 255) {k : Nat} (hk : k < a.length) : 1 + (gi a k).tmod 40 = ((lnT a k : Nat) : Int) := by
 have h := ha _ (gi_mem hk)
 unfold lnT
 rw [Int.tmod_eq_emod_of_nonneg h.1]
 omega
theorem lnT_bd (a : List Int) (k : Nat) : 1 ≤ lnT a k ∧ lnT a k ≤ 40 := by
 unfold lnT
 omega
def nT (a b c : List Int) : Nat := min (min a.length b.length) (min c.length 6)
theorem nT_le (a b c : List Int) : nT a b c ≤ a.length ∧ nT a b c ≤ b.length ∧ nT a b c ≤ c.length ∧ nT a b c ≤ 6 := by
 unfold nT
 omega
def trF (a b c : List Int) (k : Nat) : Tr := (((lnT c k : Nat) : Int), 2 * hfT a k + dfT b k, 0)
def trL (a b c : List Int) : List Tr := (List.range (nT a b c)).map (trF a b c)
theorem trL_len (a b c : List Int) : (trL a b c).length = nT a b c := by simp [trL]
theorem trL_at {a b c : List Int} {k : Nat} (hk : k < nT a b c) : gtr (trL a b c) k = trF a b c k := by simp [gtr, trL, hk]
def hsL (a b c : List Int) : List Int := (List.range (nT a b c)).map (hfT a)
def dsL (a b c : List Int) : List Int := (List.range (nT a b c)).map (dfT b)
theorem hsL_len (a b c : List Int) : (hsL a b c).length = nT a b c := by simp [hsL]
theorem hsL_at {a b c : List Int} {k : Nat} (hk : k < nT a b c) : gi (hsL a b c) k = hfT a k := by simp [gi, hsL, hk]
theorem dsL_len (a b c : List Int) : (dsL a b c).length = nT a b c := by simp [dsL]
theorem dsL_at {a b c : List Int} {k : Nat} (hk : k < nT a b c) : gi (dsL a b c) k = dfT b k := by simp [gi, dsL, hk]
def subT (T : List Tr) (at' m : Nat) : List Tr := (List.range m).map fun i => gtr T (at' + i)
theorem subT_len (T : List Tr) (at' m : Nat) : (subT T at' m).length = m := by simp [subT]
theorem subT_at {T : List Tr} {at' m k : Nat} (hk : k < m) : gtr (subT T at' m) k = gtr T (at' + k) := by simp [gtr, subT, hk]
def numL (m : Nat) : List Int := (List.range m).map fun k : Nat => (k : Int)
theorem numL_len (m : Nat) : (numL m).length = m := by simp [numL]
theorem numL_at {m k : Nat} (hk : k < m) : gi (numL m) k = (k : Int) := by simp [gi, numL, hk]
theorem trO_sub {T : List Tr} {at' m k : Nat} (hk : k < m) : trO (subT T at' m) (numL m) k = sh T at' k := by
 rw [trO, numL_at hk, sh, Int.toNat_natCast, subT_at hk]
theorem ps_sub {f : Fm} {T : List Tr} {at' m : Nat} : psB f (trO (subT T at' m) (numL m)) (numL m).length = psB f (sh T at') m := by
 rw [numL_len]
 exact psB_ext fun k hk => trO_sub hk
theorem or_sub {f : Fm} {T : List Tr} {at' m : Nat} (hf : fmB f = true) (hm : m ≤ 24) (ht : ∀ k, k < T.length → trB (gtr T k) = true) (hl : at' + m ≤ T.length) : OrOk f (subT T at' m) (numL m) := by
 refine ⟨hf, by rw [subT_len]; exact hm, by rw [numL_len]; exact hm, fun k hk => ?_, fun k hk => ?_⟩
 ·
  rw [subT_len] at hk
  rw [subT_at hk]
  exact ht _ oM
 ·
  rw [numL_len] at hk
  rw [numL_at hk, subT_len]
  omega
def bnB (f : Fm) (T : List Tr) (at' i : Nat) (d : Int) : Bl := ⟨f.per, bFr f (sh T at') i, bTo f (sh T at') (i + 1) + d, d, 0, 65536⟩
theorem band_ok {f : Fm} {T : List Tr} {at' m i : Nat} {h d : Int} {n : Nat} (hf : fmB f = true) (hm : m ≤ 24) (ht : ∀ k, k < T.length → trB (gtr T k) = true) (hl : at' + m ≤ T.length) (hp : psB f (sh T at') m = true) (hi : i < m)
  (hT : gtr T (at' + i) = (((n : Nat) : Int), 2 * h + d, 0)) (h1 : 1 ≤ h ∧ h ≤ 1000) (d1 : 0 ≤ d ∧ d ≤ 1000) (hn : 1 ≤ n) :
  (bnB f T at' i d).ok ∧ (bnB f T at' i d).core + h = silR (bnB f T at' i d).rim h (2 * h + d) (bnB f T at' i d).per.toNat (n - 1) ∧ (bnB f T at' i d).core + 1 ≤ (bnB f T at' i d).rim := by
 have hk := fmB_ok hf
 obtain ⟨p1, p2⟩ := hk.per
 obtain ⟨q1, q2⟩ := psB_iff.1 hp
 have hlo := q1 i hi
 have hb := (bTo_bd (t := sh T at') hk i oM fun k hk2 => ht _ oM).2
 have hg := hk.gap
 have hTs : sh T at' i = (((n : Nat) : Int), 2 * h + d, 0) := hT
 rw [hTs] at hlo
 simp only at hlo
 have hper : f.per = ((f.per.toNat : Nat) : Int) := by omega
 have hw : widI f (sh T at' i) = (2 * h + d) * (((n - 1) / f.per.toNat + 1 : Nat) : Int) := by
  rw [hTs, widI]
  simp only
  rw [hper, wid_turns oM hn, Int.toNat_natCast]
 have hw2 : (2 * h + d) * (((n - 1) / f.per.toNat + 1 : Nat) : Int) = (2 * h + d) * (((n - 1) / f.per.toNat : Nat) : Int) + (2 * h + d) := by
  rw [Int.natCast_add, Int.mul_add]
  simp only [Int.natCast_one, Int.mul_one]
 have hq := Int.mul_nonneg (show (0 : Int) ≤ 2 * h + d by omega) (Int.natCast_nonneg ((n - 1) / f.per.toNat))
 have eT := bTo_succ f (sh T at') i
 rw [hw, hw2] at eT
 have eF : bFr f (sh T at') i ≤ bTo f (sh T at') i := by
  unfold bFr
  split <;> omega
 refine ⟨⟨⟨p1, p2⟩, ?_, ?_, ?_, ?_, ?_, ?_⟩, ?_, ?_⟩ <;> simp only [bnB, silR] <;> omega
end Go.Proofs.YtffggfnomhhckaaGreatDoor

namespace Go.Proofs.YtffggfnomhhckaaGreatDoor
open Go.Ab Go.RowKit Go.Dw Go.Shelf
def edV (e : BE) : List V := [.agg (edC e)]
def edgesV (b : Bl) (l : List Pt) : List (List V) := (edgesL b l).map edV
theorem inEs_succ (b : Bl) (l : List Pt) (n : Nat) : inEs b l (n + 1) = inEs b l n ++ inE b l n := by
 unfold inEs
 rw [List.range_succ, List.flatMap_append]
 simp
theorem inE_len (b : Bl) (l : List Pt) (i : Nat) : (inE b l i).length = (if 0 < i then 1 else 0) + if b.per.toNat ≤ i then 1 else 0 := by
 unfold inE
 split <;> split <;> simp
theorem inEs_le (b : Bl) (l : List Pt) {i n : Nat} (h : i ≤ n) : (inEs b l i).length ≤ (inEs b l n).length := by
 induction n with
 | zero => rw [show i = 0 by omega]; exact Nat.le_refl _
 | succ n ih =>
  by_cases hi : i = n + 1
  ·
   rw [hi]; exact Nat.le_refl _
  ·
   have := ih oM
   rw [inEs_succ, List.length_append]; omega
theorem inEs_get (b : Bl) (l : List Pt) {i n m : Nat} {e : BE} (h : i < n) (he : (inE b l i)[m]? = some e) : (inEs b l n)[(inEs b l i).length + m]? = some e := by
 induction n with
 | zero => omega
 | succ n ih =>
  rw [inEs_succ]
  have hm : m < (inE b l i).length := (List.getElem?_eq_some_iff.1 he).1
  by_cases hi : i = n
  ·
   subst hi
   rw [List.getElem?_append_right oM, Nat.add_sub_cancel_left]; exact he
  ·
   have := ih oM
   rw [List.getElem?_append_left (List.getElem?_eq_some_iff.1 this).1]
   exact this
theorem edges_in {b : Bl} {l : List Pt} {i m : Nat} {e : BE} (h : i < l.length) (he : (inE b l i)[m]? = some e) : (edgesV b l)[(inEs b l i).length + m]? = some (edV e) := by
 have h1 := inEs_get b l h he
 unfold edgesV edgesL
 rw [List.getElem?_map, List.getElem?_append_left (List.getElem?_eq_some_iff.1 h1).1, h1]
 rfl
theorem edges_out {b : Bl} {l : List Pt} {m : Nat} (h : m < l.length - 1) : (edgesV b l)[(inEs b l l.length).length + m]? = some (edV (fastE b (l.length - 1 - m))) := by
 unfold edgesV edgesL
 rw [List.getElem?_map, List.getElem?_append_right oM, Nat.add_sub_cancel_left]
 simp [outEs, h]
theorem edgesV_len (b : Bl) (l : List Pt) : (edgesV b l).length = (inEs b l l.length).length + (l.length - 1) := by
 simp [edgesV, edgesL, outEs]
theorem inE_0 {b : Bl} {l : List Pt} {i : Nat} (h : 0 < i) : (inE b l i)[0]? = some (slowE b i) := by simp [inE, h]
theorem inE_1 {b : Bl} {l : List Pt} {i : Nat} (h : b.per.toNat ≤ i) : (inE b l i)[if 0 < i then 1 else 0]? = some (landE b l i) := by
 unfold inE
 by_cases h0 : 0 < i
 ·
  rw [if_pos h0, if_pos h0, if_pos h]; rfl
 ·
  rw [if_neg h0, if_neg h0, if_pos h]; rfl
def cntE (b : Bl) (l : List Pt) (i : Nat) : Nat → Nat
 | 0 => 0
 | 1 => if 0 < i then 1 else 0
 | _ => (inE b l i).length
abbrev qTL20 : Prop := (0 : Int) ≤ (↑(0 : Nat) : Int) ∧ (↑(0 : Nat) : Int) < (↑(2 : Nat) : Int)
theorem qTL20_ : qTL20 := oM
abbrev qTL21 : Prop := (0 : Int) ≤ (↑(1 : Nat) : Int) ∧ (↑(1 : Nat) : Int) < (↑(2 : Nat) : Int)
theorem qTL21_ : qTL21 := oM
abbrev yyTL20 := (pn 7 (V.ref 300007 0) (300007 : Nat) (Ob.box 120 [V.i 0, V.i 0, V.i 0, V.i 0, V.i 0]))
set_option maxRecDepth 100000 in
theorem edges_it (b : Bl) (l : List Pt) (h : SOk b l) : AIt Tryz.prog 60 [.ptr [.ptr (sdC b l)]] (edgesV b l) := by
 have hl := h.len
 have hp := h.bl.1
 refine ait_intro hTT hMX (fn := Tryz.f60) (N := _) ⟨Tryz.func60, rfl, Tryz.ntmps60, kR⟩ rfl (by simp) fun C Y hC => ?_
 rw [edgesV_len]
 refine awj_seq_a hC fun K hK => ?_
 refine wR 2 (aX hTT 6 [] tI (nK hK ?_)); clear hK K
 refine awj_seq ?_
 refine awj_seq_a hC fun K hK => ?_
 refine wR 3 (aX hTT 2 [] tI (nK hK ?_)); clear hK K
 refine awj_block ?_
 refine awj_loop (ι := Nat) (fun i => ⟨mkT [(0, .c (.func (.yield Y.l) #[] #[])), (1, .ptr [.ptr (sdC b l)]), (3, .i l.length), (17, .i l.length), (18, .i i)], mkS [], 1⟩) (fun i => (inEs b l i).length) (fun i => i ≤ l.length) (fun i => l.length - i) 0 (Nat.zero_le _) ?_ rfl ?_
 ·
  refine le_ren [] (.cons kR (.cons kR (.cons kR (.cons kR (.cons kR .nil))))) .nil kR kR
 intro i hi
 refine awj_seq_a hC fun K hK => ?_
 refine wR 2 (aX hTT 1 [] tI (nK hK ?_)); clear hK K
 refine awj_seq_a hC fun K hK => ?_
 refine w_cond (t := decide ((↑i : Int) < (↑(List.length l) : Int))) kR (fun c1 => ?_) (fun c1 => ?_)
 ·
  have h1 : i < l.length := by simpa using c1
  have hk0 : (inEs b l i).length + (inE b l i).length ≤ (inEs b l l.length).length := by
   have := inEs_le b l (i := i + 1) (n := l.length) oM
   rw [inEs_succ, List.length_append] at this
   exact this
  have hil := inE_len b l i
  refine aw_skip ?_
  refine xt_n (hK _ ?_); clear hK K
  refine awj_seq ?_
  refine awj_block ?_
  refine awj_seq_a hC fun K hK => ?_
  refine wR 3 (aX hTT 2 [] tI (nK hK ?_)); clear hK K
  refine awj_seq_a hC fun K hK => ?_
  refine wR 4 (aX hTT 2 [] tI (nK hK ?_)); clear hK K
  refine awj_block ?_
  refine awj_loop (ι := Nat) (fun j => ⟨mkT [(0, .c (.func (.yield Y.l) #[] #[])), (1, .ptr [.ptr (sdC b l)]), (3, .i l.length), (4, .i i), (17, .i l.length), (18, .i i), (21, .agg [.i 3, .i 5]), (22, .i j)], mkS [], 1⟩) (fun j => (inEs b l i).length + cntE b l i j) (fun j => j ≤ 2) (fun j => 2 - j) 0 (by decide) ?_ rfl ?_
  ·
   refine le_ren [] (.cons kR (.cons kR (.cons kR (.cons kR (.cons kR (.cons kR (.cons kR (.cons kR .nil)))))))) .nil kR kR
  intro j hj
  refine awj_seq_a hC fun K hK => ?_
  refine wR 2 (aX hTT 1 [] tI (nK hK ?_)); clear hK K
  refine awj_seq_a hC fun K hK => ?_
  refine w_cond (t := decide ((↑j : Int) < 2)) kR (fun c2 => ?_) (fun c2 => ?_)
  ·
   have h2 : j = 0 ∨ j = 1 := by simp at c2; omega
   rcases h2 with rfl | rfl
   ·
    by_cases h0 : 0 < i
    ·
     refine aw_skip ?_
     refine xt_n (hK _ ?_); clear hK K
     refine awj_seq ?_
     refine awj_block ?_
     refine awj_seq_a hC fun K hK => ?_
     refine wR 3 (aX hTT 2 [(0, .c qTL20)] ⟨qTL20_, tI⟩ (nK hK ?_)); clear hK K
     refine awj_seq_a hC fun K hK => ?_
     refine wR 4 (aX hTT 3 [] tI ?_)
     refine eC (edge3_ac b l h i h1 h0) ?_
     refine aX hTT 6 [(3, .r yyTL20), (4, .r (pw ((0 : Nat) + (5 : Nat) ≤ (5 : Nat)) (300007 : Nat) (Ob.box 120 [V.i (BE.rule (slowE b i)), V.i (BE.at' (slowE b i)), V.i (↑(BE.f (slowE b i)) : Int), V.i (↑(BE.t (slowE b i)) : Int), V.i (BE.w (slowE b i))])))] ⟨oM, tI⟩ (nK hK ?_); clear hK K
     refine awj_seq (awj_yieldG hC 4 kR rfl ?_)
     refine aX hTT 4 [(2, .c (gA (true == true) True)), (3, .c (gA (true == true) ((0 : Nat) ≤ (5 : Nat))))] ⟨⟨⟨tI, tI⟩, (fun _ => tI)⟩, ⟨⟨tI, tI⟩, (by (intro _; simp; done))⟩, tI⟩ ?_; refine aops_nil ?_
     refine ⟨kR, kR, by kernel_rfl, ⟨_, edges_in h1 (inE_0 h0), RImp.refl _, trivial⟩, rfl, ?_, ?_⟩
     ·
      refine aX hTT 2 [(0, .c (gA (true == true) True)), (1, .c ((true = true → (true == true) = true) ∧ True))] ⟨⟨⟨tI, tI⟩, (fun _ => tI)⟩, ⟨(by (exact fun h => h)), tI⟩, tI⟩ ?_
      refine aops_nil ?_
      refine xjt_n ?_
      refine awj_cond (t := false) kR (fun h => by cases h) (fun _ => ?_)
      refine awj_skip ?_
      refine xjb_n ?_
      refine xjt_n ?_
      refine awj_aw hC ?_
      refine wR 6 (aX hTT 2 [(0, .i ((↑(0 : Nat) : Int) + 1))] ⟨oM, tI⟩ (aops_nil ?_))
      refine xjt_n ?_
      refine ⟨rfl, 1, by decide, ?_, by simp [cntE, h0], by decide⟩
      refine le_ren [] (.cons kR (.cons kR (.cons kR (.cons kR (.cons kR (.cons kR (.cons kR (.cons kR .nil)))))))) .nil kR kR
     ·
      refine aX hTT 2 [(0, .c (gA (true == true) True)), (1, .c ((true = true → (true == true) = true) ∧ True))] ⟨⟨⟨tI, tI⟩, (fun _ => tI)⟩, ⟨(by (exact fun h => h)), tI⟩, tI⟩ ?_
      refine aops_nil ?_
      refine xjt_n ?_
      refine awj_cond (t := true) kR (fun _ => ?_) (fun h => by cases h)
      refine awj_ret ?_
      refine xjb_r ?_
      refine xjt_r ?_
      refine xjt_r ?_
      refine xjb_r ?_
      refine xjb_r ?_
      refine xjt_r ?_
      refine xjt_r ?_
      refine xjb_r ?_
      refine xjt_r ?_
      exact ⟨.inr rfl, fun h => (by cases h), fun _ => by simp only [cntE]; rw [if_pos h0] at hil; omega⟩
    ·
     refine aw_skip ?_
     refine xt_n (hK _ ?_); clear hK K
     refine awj_seq ?_
     refine awj_block ?_
     refine awj_seq_a hC fun K hK => ?_
     refine wR 3 (aX hTT 2 [(0, .c qTL20)] ⟨qTL20_, tI⟩ (nK hK ?_)); clear hK K
     refine awj_seq_a hC fun K hK => ?_
     refine wR 4 (aX hTT 3 [] tI ?_)
     refine eC (edge3z_ac b l h i h1 oM) ?_
     refine aX hTT 6 [(3, .r yyTL20), (4, .r (pw ((0 : Nat) + (5 : Nat) ≤ (5 : Nat)) (300007 : Nat) (Ob.box 120 [V.i 3, V.i (↑i : Int), V.i ((↑i : Int) - 1), V.i (↑i : Int), V.i (-Bl.slow b)])))] ⟨oM, tI⟩ (nK hK ?_); clear hK K
     refine awj_seq_a hC fun K hK => ?_
     refine wR 5 ?_; refine aX hTT 4 [(2, .c (gA (false == true) True)), (3, .c (gA (false == true) ((0 : Nat) ≤ (5 : Nat))))] ⟨⟨⟨tI, tI⟩, (fun _ => tI)⟩, ⟨⟨tI, tI⟩, (by (intro _; simp; done))⟩, tI⟩ ?_
     refine aops_gfb kR rfl ?_
     refine aX hTT 2 [(0, .c ((((false == true) = true → false = true) ∧ True) ∧ ((false == true) = true → True))), (1, .c ((false = true → (false == true) = true) ∧ True))] ⟨⟨⟨(by (exact fun h => h)), tI⟩, (fun _ => tI)⟩, ⟨(by (exact fun h => h)), tI⟩, tI⟩ ?_; refine nK hK ?_; clear hK K
     refine awj_cond (t := false) kR (fun h => by cases h) (fun _ => ?_)
     refine awj_skip ?_
     refine xjb_n ?_
     refine xjt_n ?_
     refine awj_aw hC ?_
     refine wR 6 (aX hTT 2 [(0, .i ((↑(0 : Nat) : Int) + 1))] ⟨oM, tI⟩ (aops_nil ?_))
     refine xjt_n ?_
     refine ⟨rfl, 1, by decide, ?_, by simp [cntE, h0], by decide⟩
     refine le_ren [] (.cons kR (.cons kR (.cons kR (.cons kR (.cons kR (.cons kR (.cons kR (.cons kR .nil)))))))) .nil kR kR
   ·
    by_cases h0 : b.per.toNat ≤ i
    ·
     refine aw_skip ?_
     refine xt_n (hK _ ?_); clear hK K
     refine awj_seq ?_
     refine awj_block ?_
     refine awj_seq_a hC fun K hK => ?_
     refine wR 3 (aX hTT 2 [(0, .c qTL21)] ⟨qTL21_, tI⟩ (nK hK ?_)); clear hK K
     refine awj_seq_a hC fun K hK => ?_
     refine wR 4 (aX hTT 3 [] tI ?_)
     refine eC (edge5_ac b l h i h1 h0) ?_
     refine aX hTT 6 [(3, .r yyTL20), (4, .r (pw ((0 : Nat) + (5 : Nat) ≤ (5 : Nat)) (300007 : Nat) (Ob.box 120 [V.i (BE.rule (landE b l i)), V.i (BE.at' (landE b l i)), V.i (↑(BE.f (landE b l i)) : Int), V.i (↑(BE.t (landE b l i)) : Int), V.i (BE.w (landE b l i))])))] ⟨oM, tI⟩ (nK hK ?_); clear hK K
     refine awj_seq (awj_yieldG hC 4 kR rfl ?_)
     refine aX hTT 4 [(2, .c (gA (true == true) True)), (3, .c (gA (true == true) ((0 : Nat) ≤ (5 : Nat))))] ⟨⟨⟨tI, tI⟩, (fun _ => tI)⟩, ⟨⟨tI, tI⟩, (by (intro _; simp; done))⟩, tI⟩ ?_; refine aops_nil ?_
     refine ⟨kR, kR, by kernel_rfl, ⟨_, edges_in h1 (inE_1 h0), RImp.refl _, trivial⟩, rfl, ?_, ?_⟩
     ·
      refine aX hTT 2 [(0, .c (gA (true == true) True)), (1, .c ((true = true → (true == true) = true) ∧ True))] ⟨⟨⟨tI, tI⟩, (fun _ => tI)⟩, ⟨(by (exact fun h => h)), tI⟩, tI⟩ ?_
      refine aops_nil ?_
      refine xjt_n ?_
      refine awj_cond (t := false) kR (fun h => by cases h) (fun _ => ?_)
      refine awj_skip ?_
      refine xjb_n ?_
      refine xjt_n ?_
      refine awj_aw hC ?_
      refine wR 6 (aX hTT 2 [(0, .i ((↑(1 : Nat) : Int) + 1))] ⟨oM, tI⟩ (aops_nil ?_))
      refine xjt_n ?_
      refine ⟨rfl, 2, by decide, ?_, by simp [cntE, hil, h0]; omega, by decide⟩
      refine le_ren [] (.cons kR (.cons kR (.cons kR (.cons kR (.cons kR (.cons kR (.cons kR (.cons kR .nil)))))))) .nil kR kR
     ·
      refine aX hTT 2 [(0, .c (gA (true == true) True)), (1, .c ((true = true → (true == true) = true) ∧ True))] ⟨⟨⟨tI, tI⟩, (fun _ => tI)⟩, ⟨(by (exact fun h => h)), tI⟩, tI⟩ ?_
      refine aops_nil ?_
      refine xjt_n ?_
      refine awj_cond (t := true) kR (fun _ => ?_) (fun h => by cases h)
      refine awj_ret ?_
      refine xjb_r ?_
      refine xjt_r ?_
      refine xjt_r ?_
      refine xjb_r ?_
      refine xjb_r ?_
      refine xjt_r ?_
      refine xjt_r ?_
      refine xjb_r ?_
      refine xjt_r ?_
      exact ⟨.inr rfl, fun h => (by cases h), fun _ => by simp only [cntE]; rw [if_pos h0] at hil; omega⟩
    ·
     refine aw_skip ?_
     refine xt_n (hK _ ?_); clear hK K
     refine awj_seq ?_
     refine awj_block ?_
     refine awj_seq_a hC fun K hK => ?_
     refine wR 3 (aX hTT 2 [(0, .c qTL21)] ⟨qTL21_, tI⟩ (nK hK ?_)); clear hK K
     refine awj_seq_a hC fun K hK => ?_
     refine wR 4 (aX hTT 3 [] tI ?_)
     refine eC (edge5z_ac b l h i h1 oM) ?_
     refine aX hTT 6 [(3, .r yyTL20), (4, .r (pw ((0 : Nat) + (5 : Nat) ≤ (5 : Nat)) (300007 : Nat) (Ob.box 120 [V.i 5, V.i (↑i : Int), V.i (↑i : Int), V.i (↑i : Int), V.i 0])))] ⟨oM, tI⟩ (nK hK ?_); clear hK K
     refine awj_seq_a hC fun K hK => ?_
     refine wR 5 ?_; refine aX hTT 4 [(2, .c (gA (false == true) True)), (3, .c (gA (false == true) ((0 : Nat) ≤ (5 : Nat))))] ⟨⟨⟨tI, tI⟩, (fun _ => tI)⟩, ⟨⟨tI, tI⟩, (by (intro _; simp; done))⟩, tI⟩ ?_
     refine aops_gfb kR rfl ?_
     refine aX hTT 2 [(0, .c ((((false == true) = true → false = true) ∧ True) ∧ ((false == true) = true → True))), (1, .c ((false = true → (false == true) = true) ∧ True))] ⟨⟨⟨(by (exact fun h => h)), tI⟩, (fun _ => tI)⟩, ⟨(by (exact fun h => h)), tI⟩, tI⟩ ?_; refine nK hK ?_; clear hK K
     refine awj_cond (t := false) kR (fun h => by cases h) (fun _ => ?_)
     refine awj_skip ?_
     refine xjb_n ?_
     refine xjt_n ?_
     refine awj_aw hC ?_
     refine wR 6 (aX hTT 2 [(0, .i ((↑(1 : Nat) : Int) + 1))] ⟨oM, tI⟩ (aops_nil ?_))
     refine xjt_n ?_
     refine ⟨rfl, 2, by decide, ?_, by simp [cntE, hil, h0], by decide⟩
     refine le_ren [] (.cons kR (.cons kR (.cons kR (.cons kR (.cons kR (.cons kR (.cons kR (.cons kR .nil)))))))) .nil kR kR
  ·
   have h2 : j = 2 := by simp at c2; omega
   refine aw_exit ?_
   refine xt_x ?_
   refine xjt_x ?_
   refine xjb_same ?_
   refine xjb_n ?_
   refine xjt_n ?_
   refine awj_aw hC ?_
   refine wR 3 (aX hTT 2 [(0, .i ((↑i : Int) + 1))] ⟨oM, tI⟩ (aops_nil ?_))
   refine xjt_n ?_
   refine ⟨rfl, i + 1, by omega, ?_, by rw [inEs_succ, List.length_append, h2]; rfl, by omega⟩
   refine le_ren [] (.cons kR (.cons kR (.cons kR (.cons kR (.cons kR .nil))))) .nil kR kR
 ·
  have h1 : i = l.length := by simp at c1; omega
  rw [h1]
  refine aw_exit ?_
  refine xt_x ?_
  refine xjt_x ?_
  refine xjb_same ?_
  refine xjt_n ?_
  refine awj_seq_a hC fun K hK => ?_
  refine wR 3 (aX hTT 3 [(1, .i ((↑(List.length l) : Int) - 1))] ⟨oM, tI⟩ (nK hK ?_)); clear hK K
  refine awj_block ?_
  refine awj_loop (ι := Nat) (fun y => ⟨mkT [(0, .c (.func (.yield Y.l) #[] #[])), (1, .ptr [.ptr (sdC b l)]), (9, .i ((y : Int) - 1))], mkS [], 1⟩) (fun y => (inEs b l l.length).length + (l.length - y)) (fun y => y ≤ l.length ∧ (1 ≤ y ∨ l.length = 0)) (fun y => y) l.length ⟨Nat.le_refl _, by omega⟩ ?_ (by simp) ?_
  ·
   refine le_ren [] (.cons kR (.cons kR (.cons kR .nil))) .nil kR kR
  rintro y ⟨hy, hy1⟩
  refine awj_seq_a hC fun K hK => ?_
  refine sX hTT 2 2 [] tI ?_
  refine w_cond (t := decide ((0 : Int) < (↑y : Int) - 1)) kR (fun c2 => ?_) (fun c2 => ?_)
  ·
   have h2 : 2 ≤ y := by simp at c2; omega
   have e : (y : Int) - 1 = ((y - 1 : Nat) : Int) := by omega
   have hg := edges_out (b := b) (l := l) (m := l.length - y) oM
   rw [show l.length - 1 - (l.length - y) = y - 1 by omega] at hg
   rw [e]
   refine aw_skip ?_
   refine xt_n (hK _ ?_); clear hK K
   refine awj_seq ?_
   refine awj_block ?_
   refine awj_seq_a hC fun K hK => ?_
   refine wR 3 (aX hTT 2 [] tI ?_)
   refine eC (edge4_ac b l h (y - 1) oM oM) ?_
   refine aX hTT 6 [(3, .r (pn 10 (V.ref 200010 0) (200010 : Nat) (Ob.box 120 [V.i 0, V.i 0, V.i 0, V.i 0, V.i 0]))), (4, .r (pw ((0 : Nat) + (5 : Nat) ≤ (5 : Nat)) (200010 : Nat) (Ob.box 120 [V.i (BE.rule (fastE b (y - 1))), V.i (BE.at' (fastE b (y - 1))), V.i (↑(BE.f (fastE b (y - 1))) : Int), V.i (↑(BE.t (fastE b (y - 1))) : Int), V.i (BE.w (fastE b (y - 1)))])))] ⟨oM, tI⟩ (nK hK ?_); clear hK K
   refine awj_seq (awj_yieldG hC 4 kR rfl ?_)
   refine aX hTT 4 [(2, .c (gA (true == true) True)), (3, .c (gA (true == true) ((0 : Nat) ≤ (5 : Nat))))] ⟨⟨⟨tI, tI⟩, (fun _ => tI)⟩, ⟨⟨tI, tI⟩, (by (intro _; simp; done))⟩, tI⟩ ?_; refine aops_nil ?_
   refine ⟨kR, kR, by kernel_rfl, ⟨_, hg, RImp.refl _, trivial⟩, rfl, ?_, ?_⟩
   ·
    refine aX hTT 2 [(0, .c (gA (true == true) True)), (1, .c ((true = true → (true == true) = true) ∧ True))] ⟨⟨⟨tI, tI⟩, (fun _ => tI)⟩, ⟨(by (exact fun h => h)), tI⟩, tI⟩ ?_
    refine aops_nil ?_
    refine xjt_n ?_
    refine awj_cond (t := false) kR (fun h => by cases h) (fun _ => ?_)
    refine awj_skip ?_
    refine xjb_n ?_
    refine xjt_n ?_
    refine awj_aw hC ?_
    refine wR 5 (aX hTT 3 [(1, .i ((↑(y - 1) : Int) - 1))] ⟨oM, tI⟩ (aops_nil ?_))
    refine xjt_n ?_
    refine ⟨rfl, y - 1, ⟨by omega, by omega⟩, ?_, by omega, by omega⟩
    refine le_ren [] (.cons kR (.cons kR (.cons kR .nil))) .nil kR kR
   ·
    refine aX hTT 2 [(0, .c (gA (true == true) True)), (1, .c ((true = true → (true == true) = true) ∧ True))] ⟨⟨⟨tI, tI⟩, (fun _ => tI)⟩, ⟨(by (exact fun h => h)), tI⟩, tI⟩ ?_
    refine aops_nil ?_
    refine xjt_n ?_
    refine awj_cond (t := true) kR (fun _ => ?_) (fun h => by cases h)
    refine awj_ret ?_
    refine xjb_r ?_
    refine xjt_r ?_
    refine xjt_r ?_
    refine xjb_r ?_
    exact ⟨.inr rfl, fun h => (by cases h), fun _ => by omega⟩
  ·
   have h2 : y ≤ 1 := by simp at c2; omega
   refine aw_exit ?_
   refine xt_x ?_
   refine xjt_x ?_
   refine xjb_same ?_
   exact ⟨.inl rfl, fun _ => by omega, fun h => by cases h⟩
end Go.Proofs.YtffggfnomhhckaaGreatDoor

namespace Go.Proofs.YtffggfnomhhckaaGreatDoor
open Go.Ab Go.RowKit Go.Dw Go.Shelf
structure E5 where
 r : Int
 a : Int
 f : Int
 t : Int
 w : Int
def E5.c (x : E5) : List V := [.i x.r, .i x.a, .i x.f, .i x.t, .i x.w]
def E5.of (e : BE) : E5 := ⟨e.rule, e.at', e.f, e.t, e.w⟩
def laE (b : Bl) (l : List Pt) (s : BS) (v : Nat) : E5 := match s.la v with
 | none => ⟨1, v, -1, v, rimI b l v⟩
 | some e => E5.of e
theorem laE_none {b : Bl} {l : List Pt} {s : BS} {v : Nat} (h : s.la v = none) : laE b l s v = ⟨1, v, -1, v, rimI b l v⟩ := by rw [laE, h]
theorem laE_some {b : Bl} {l : List Pt} {s : BS} {v : Nat} {e : BE} (h : s.la v = some e) : laE b l s v = E5.of e := by rw [laE, h]
def wayX (L : Nat → E5) (x : E5) : Nat → E5
 | 0 => x
 | t + 1 => L (wayX L x t).f.toNat
theorem way_ends {b : Bl} {l : List Pt} {s : BS} {E : List BE} {i : Nat → Int} {k : Int} {j : Nat} (hE : EOk l.length E) (h : BInv l.length E i k j s) (hs : ∀ e ∈ E, s.r e.t ≤ s.r e.f + e.w) {x : E5} {v : Nat} (hv : v < l.length) (hx : x.f = v) :
  ∃ T, T ≤ s.ti v + 1 ∧ (wayX (laE b l s) x T).f = -1 ∧ ∀ t, t < T → ∃ u : Nat, (wayX (laE b l s) x t).f = u ∧ u < l.length := by
 have key : ∀ n (x : E5) (v : Nat), s.ti v < n → v < l.length → x.f = v → ∃ T, T ≤ n ∧ (wayX (laE b l s) x T).f = -1 ∧ ∀ t, t < T → ∃ u : Nat, (wayX (laE b l s) x t).f = u ∧ u < l.length := by
  intro n
  induction n with
  | zero => intro x v h; omega
  | succ n ih =>
   intro x v hn hv hx
   have sh : ∀ t, wayX (laE b l s) x (t + 1) = wayX (laE b l s) (laE b l s v) t := by
    intro t
    induction t with
    | zero => simp [wayX, hx]
    | succ t iht => rw [wayX, iht, wayX]
   cases hl : s.la v with
   | none =>
    refine ⟨1, by omega, by rw [sh 0, wayX, laE_none hl], fun t ht => ?_⟩
    obtain rfl : t = 0 := by omega
    exact ⟨v, hx, hv⟩
   | some e =>
    obtain ⟨h1, h2⟩ := way_ok h hs hv hl
    obtain ⟨T, h5, h3, h4⟩ := ih (laE b l s v) e.f oM (hE e h1).1 (by rw [laE_some hl]; rfl)
    refine ⟨T + 1, by omega, by rw [sh]; exact h3, fun t ht => ?_⟩
    cases t with
    | zero => exact ⟨v, hx, hv⟩
    | succ t =>
     rw [sh]
     exact h4 t oM
 exact key (s.ti v + 1) x v oM hv hx
theorem to_clk {k : Int} {E : List BE} {s : BS} : ∀ j, j ≤ E.length → (s.to k E j).clk ≤ s.clk + j := fun j hj =>
 to_ind (fun j s' => s'.clk ≤ s.clk + j) (Nat.le_refl _) (fun j e s' _ h => by
  unfold BS.step
  split
  ·
   simp only; omega
  ·
   omega) j hj
theorem rounds_clk (E : List BE) (i : Nat → Int) : ∀ k, (BS.rounds E i k).clk ≤ k * E.length
 | 0 => by simp [BS.rounds, BS.init]
 | k + 1 => by
  have h1 := rounds_clk E i k
  have h2 := to_clk (k := (k : Int)) (s := (BS.rounds E i k).begin) (E := E) E.length (Nat.le_refl _)
  rw [Nat.succ_mul]
  exact Nat.le_trans h2 (Nat.add_le_add_right h1 _)
theorem circle_min {b : Bl} {l : List Pt} {s : BS} {E : List BE} {i : Nat → Int} {k : Int} {j : Nat} (hE : EOk l.length E) (h : BInv l.length E i k j s) {v : Nat} (hv : v < l.length) (hk : s.lc v = k) (hn : (l.length : Int) < k) :
  (∀ m, s.ups v m < l.length ∧ (laE b l s (s.ups v m)).f = (s.ups v (m + 1) : Nat)) ∧ ∃ p, 0 < p ∧ s.ups (s.ups v l.length) p = s.ups v l.length ∧ p ≤ l.length ∧ ∀ q, 0 < q → q < p → s.ups (s.ups v l.length) q ≠ s.ups v l.length := by
 obtain ⟨p, h1, h2, h3⟩ := circle_ok hE h hv hk hn
 refine ⟨fun m => ?_, ?_⟩
 ·
  obtain ⟨a, e, he, _, hu⟩ := h3 m
  exact ⟨a, by rw [laE_some he, hu]; rfl⟩
 ·
  obtain ⟨m, ⟨g1, g2⟩, g3⟩ := least (fun p => 0 < p ∧ s.ups (s.ups v l.length) p = s.ups v l.length) ⟨p, h1, h2⟩
  refine ⟨m, g1, g2, ?_, fun q hq hqm he => by have := g3 q ⟨hq, he⟩; omega⟩
  refine Classical.byContradiction fun hm => ?_
  obtain ⟨a, c, hac, hc, he⟩ := pigeon l.length (fun q => s.ups v (l.length + q)) fun q _ => (h3 _).1
  simp only [ups_add s v] at he
  have e1 : s.ups (s.ups v l.length) (a + (m - c)) = s.ups v l.length := by
   rw [ups_add s _ a, he, ← ups_add, show c + (m - c) = m by omega]
   exact g2
  have := g3 (a + (m - c)) ⟨by omega, e1⟩
  omega
end Go.Proofs.YtffggfnomhhckaaGreatDoor
