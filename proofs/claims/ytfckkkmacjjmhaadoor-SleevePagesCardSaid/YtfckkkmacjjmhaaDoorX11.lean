/-
  Several texts in one: The chapter's examples that all laws use. No condition. .. The listed variable of the sleeve chapter: its cells, out of the condition; the start that meets the condition.
-/
import Derived.Test.YtfckkkmacjjmhaaDoorTie
import Derived.Test.YtfckkkmacjjmhaaDoorCards
import Derived.ProofKit
import Derived.LaidMore
import Derived.Lay
import Derived.OpenShut
import Derived.Stop.Joined
import Derived.SevenTiedAt
import Derived.Test.YtfckkkmacjjmhaaDoorAbs42
import Derived.Test.YtfckkkmacjjmhaaDoorX10
import Derived.Test.YtfckkkmacjjmhaaDoorMC
namespace Go.Proofs.YtfckkkmacjjmhaaDoor
open Go.Ab Go.RowKit Go.Dw Go.Shelf
def exN : List Pan := [⟨-1, 0, 0, 310, 310⟩, ⟨0, 0, 0, 310, 310⟩, ⟨1, 1, 0, 310, 20⟩]
def exV : V := .sl 5 3 fun i => ([V.i (-1), V.i 0, V.i 0, V.i 310, V.i 310, V.i 0, V.i 0, V.i 0, V.i 310, V.i 310, V.i 1, V.i 1, V.i 0, V.i 310, V.i 20].drop (i * 5)).take 5
abbrev zzSN90 : V := V.sl 5 3 fun (i : Nat) => List.take (5 : Nat) (List.drop (i * 5) [V.i (-1), V.i 0, V.i 0, V.i 310, V.i 310, V.i 0, V.i 0, V.i 0, V.i 310, V.i 310, V.i 1, V.i 1, V.i 0, V.i 310, V.i 20])
set_option maxRecDepth 100000 in
theorem Example_ac : AC Tryd.prog 46 [] exV [] := by
 refine acI hTT hMX Tryd.func46 Tryd.ntmps46 fun C hC hF => ?_
 refine sK fun K hK => wR 2 ?_; refine aX hTT 1 [] tI ?_; refine nK hK ?_; clear hK K; refine sK fun K hK => wR 3 ?_; refine aX hTT 5 [] tI ?_; refine nK hK ?_; clear hK K
 refine aw_ret ?_
 refine rP (zzSN90)
theorem exV_imp : RImp exV (V.pans exN) := RImp.rows rfl fun i hi => by
 match i, hi with
 | 0, _ => rfl
 | 1, _ => rfl
 | 2, _ => rfl
theorem RImp_lit1 (l : List Int) : RImp (.sl 1 l.length fun i => ((l.map V.i).drop (i * 1)).take 1) (V.ints l) := RImp.rows rfl fun i hi => by
 rw [Nat.mul_one, List.drop_eq_getElem_cons (by simpa using hi)]
 simp [gi, List.getD_eq_getElem?_getD, List.getElem?_eq_getElem hi]
theorem ex_net : netE exN = 0 := by decide +kernel
theorem ex_page : pageN [1, 2] 0 1 true = 5 ∧ pageE [1, 2] 0 1 true = 0 := by decide +kernel
theorem ex_co : CO [1000, 300] := fun x hx => by simp at hx; omega
theorem ex_run : fewN [1000, 300] 8 = 167 := by
 refine fewN_eq ex_co (by decide) (by decide) ⟨by decide, by decide +kernel, fun s h1 h2 => ?_⟩
 have := plcS_mono ex_co h1 (show s ≤ 166 by omega) 2 (by decide)
 have e : plcS [1000, 300] 166 2 = 9 := by decide +kernel
 show (8 : Int) < plcS [1000, 300] s 2
 omega
theorem ex_runS : runS [1000, 300] 8 = 167 ∧ runE [1000, 300] 8 = 0 := by
 have h : chkC [1000, 300] 8 0 = 0 := by decide +kernel
 obtain ⟨e1, e2, _⟩ := runS_3 h (slots := 8) (by decide)
 exact ⟨by rw [e2, ex_run], e1⟩
set_option maxHeartbeats 2000000 in
set_option maxRecDepth 100000 in
theorem sWorks_ac : AC Tryd.prog 14 [] (.b true) [] := by
 refine acI hTT hMX Tryd.func14 Tryd.ntmps14 fun C hC hF => ?_
 have A1 := Page_ac [1, 2] 0 1 true (by simp)
 rw [ex_page.1, ex_page.2] at A1
 have A2 := Run_ac [1000, 300] 8 (by simp)
 rw [ex_runS.1, ex_runS.2] at A2
 have A3 := Folded_ac exN (by decide)
 rw [ex_net, netN_1 ex_net] at A3
 refine sK fun K hK => wR 2 ?_; refine aX hTT 1 [] tI ?_; refine nK hK ?_; clear hK K; refine sK fun K hK => wR 3 ?_; refine aX hTT 1 [] tI ?_
 refine eC (AC.conv (A1) (args' := [V.sl 1 2 fun (i : Nat) => List.take (1 : Nat) (List.drop (i * 1) [V.i 1, V.i 2]), V.i 0, V.i 1, V.b true]) ⟨?_, RImp.refl _, RImp.refl _, RImp.refl _, trivial⟩) ?_
 ·
  exact RImp_lit1 [1, 2]
 refine aX hTT 5 [] tI ?_; refine nK hK ?_; clear hK K; refine sK fun K hK => wR 4 ?_; refine aX hTT 1 [] tI ?_
 refine eC (AC.conv (A2) (args' := [V.sl 1 2 fun (i : Nat) => List.take (1 : Nat) (List.drop (i * 1) [V.i 1000, V.i 300]), V.i 8]) ⟨?_, RImp.refl _, trivial⟩) ?_
 ·
  exact RImp_lit1 [1000, 300]
 refine aX hTT 7 [] tI ?_; refine nK hK ?_; clear hK K; refine sK fun K hK => wR 5 ?_
 refine eC (Example_ac) ?_
 skip
 refine eC (AC.conv (A3) (args' := [zzSN90]) ⟨?_, trivial⟩) ?_
 ·
  exact exV_imp
 refine aX hTT 5 [] tI ?_; refine nK hK ?_; clear hK K; refine sK fun K hK => wR 6 ?_; refine aX hTT 27 [(2, .i ((0 : Int) + (0 : Int))), (4, .i ((0 : Int) + (0 : Int))), (7, .c (gA (true == true) True)), (8, .c (gD (true == true) True)), (9, .c ((true = true → (true == true) = true) ∧ True)), (11, .c (gA (true == true) True)), (12, .c (gD (true == true) True)), (13, .c ((true = true → (true == true) = true) ∧ True)), (15, .c (gA (true == true) True)), (16, .c (gB (true == true) True)), (17, .c (gD (true == true) True)), (18, .c ((true = true → (true == true) = true) ∧ True)), (20, .c (gA (true == true) True)), (21, .c (gD (true == true) ((0 : Int) ≤ (2 : Int) ∧ (2 : Int) < (↑(3 : Nat) : Int)))), (22, .c (gB (true == true) True)), (23, .c ((True ∧ True ∧ True ∧ True) ∧ ((true == true) = true → True))), (24, .c (gC (true == true) True)), (25, .c ((true = true → (true == true) = true) ∧ True))] ⟨oM, oM, ⟨⟨tI, tI⟩, (fun _ => tI)⟩, ⟨⟨(by (exact fun h => h)), ⟨tI, tI⟩⟩, (fun _ => tI)⟩, ⟨(by (exact fun h => h)), tI⟩, ⟨⟨tI, tI⟩, (fun _ => tI)⟩, ⟨⟨(by (exact fun h => h)), ⟨tI, tI⟩⟩, (fun _ => tI)⟩, ⟨(by (exact fun h => h)), tI⟩, ⟨⟨tI, tI⟩, (fun _ => tI)⟩, ⟨⟨(by (exact fun h => h)), tI⟩, (fun _ => tI)⟩, ⟨⟨(by (exact fun h => h)), ⟨tI, tI⟩⟩, (fun _ => tI)⟩, ⟨(by (exact fun h => h)), tI⟩, ⟨⟨tI, tI⟩, (fun _ => tI)⟩, ⟨⟨(by (exact fun h => h)), ⟨tI, tI⟩⟩, (by (intro _; simp; done))⟩, ⟨⟨(by (exact fun h => h)), tI⟩, (fun _ => tI)⟩, ⟨⟨tI, ⟨tI, ⟨tI, tI⟩⟩⟩, (fun _ => tI)⟩, ⟨⟨(by (exact fun h => h)), ⟨(by (exact fun h => h)), tI⟩⟩, (fun _ => tI)⟩, ⟨(by (exact fun h => h)), tI⟩, tI⟩ ?_; refine nK hK ?_; clear hK K
 refine aw_ret ?_
 refine rP (V.b (Rc.down (foldR exN (2 : Nat)) == false && true))
end Go.Proofs.YtfckkkmacjjmhaaDoor

namespace Go.Proofs.YtfckkkmacjjmhaaDoor
open Go.Ab Go.RowKit Go.Dw Go.Shelf
set_option maxRecDepth 100000 in
theorem rCheckFolds_ac (f : List Int) (hl : f.length ≤ 4611686018427387904) : AC Tryd.prog 20 [V.ints f] (.i (chkF f)) [] := by
 refine acI hTT hMX Tryd.func20 Tryd.ntmps20 fun C hC hF => ?_
 refine sK fun K hK => wR 2 ?_; refine aX hTT 1 [] tI ?_; refine nK hK ?_; clear hK K; refine sK fun K hK => ?_; refine sK fun K hK => wR 3 ?_; refine aX hTT 8 [(4, .c (gA (decide ((↑(List.length f) : Int) = 0) == false) True)), (5, .c (gB (decide ((↑(List.length f) : Int) = 0) == false) True)), (6, .c (gD (decide ((↑(List.length f) : Int) = 0) == false) True)), (7, .c (True ∧ (decide ((↑(List.length f) : Int) = 0) = false → (decide ((↑(List.length f) : Int) = 0) == false) = true)))] ⟨⟨⟨tI, tI⟩, (fun _ => tI)⟩, ⟨⟨(by (exact fun h => h)), tI⟩, (fun _ => tI)⟩, ⟨⟨(by (exact fun h => h)), ⟨tI, tI⟩⟩, (fun _ => tI)⟩, ⟨tI, (by (intro h; rw [h]; rfl))⟩, tI⟩ ?_; refine nK hK ?_; clear hK K
 refine w_cond (t := decide ((↑(List.length f) : Int) = 0) || decide ((5 : Int) < (↑(List.length f) : Int))) kR (fun c1 => ?_) (fun c1 => ?_)
 ·
  refine sK fun K hK => ?_
  refine wR 4 ?_; refine aX hTT 1 [] tI ?_; refine nK hK ?_; clear hK K
  refine aw_ret ?_
  refine xt_r ?_
  rw [chkF_many (by simp at c1; rcases c1 with c1 | c1; exact .inl (by rw [c1]; rfl); exact .inr oM)]
  refine rP (V.i 6)
 have h1 : ¬ (f.length = 0 ∨ 5 < f.length) := by
  simp at c1
  intro h
  rcases h with h | h
  ·
   exact c1.1 (List.length_eq_zero_iff.1 h)
  ·
   omega
 refine aw_skip ?_
 refine xt_n (hK _ ?_); clear hK K; refine sK fun K hK => ?_; refine sK fun K hK => wR 4 ?_; refine aX hTT 1 [] tI ?_; refine nK hK ?_; clear hK K
 refine aw_block ?_
 refine w_loop (ι := Nat) (fun k => [(0, V.ints f), (3, .i k)]) (fun _ => []) (fun k => k ≤ f.length ∧ ∀ i, i < k → folB (gi f i) = false) (fun k => f.length - k) 0 ⟨Nat.zero_le _, fun i hi => by omega⟩ ?_ ?_
 ·
  refine le_ren [] (.cons kR (.cons kR .nil)) .nil kR kR
 rintro k ⟨hk, hb⟩
 refine sK fun K hK => ?_; refine sK fun K hK => wR 2 ?_; refine aX hTT 4 [] tI ?_; refine nK hK ?_; clear hK K
 refine w_cond (t := decide ((↑k : Int) < (↑(List.length f) : Int))) kR (fun c2 => ?_) (fun c2 => ?_)
 ·
  simp at c2
  refine aw_skip ?_
  refine xt_n (hK _ ?_); clear hK K; refine sK fun K hK => ?_
  refine aw_block ?_
  refine sK fun K hK => wR 3 ?_; refine aX hTT 12 [(2, .c ((0 : Int) ≤ (↑k : Int) ∧ (↑k : Int) < (↑(List.length f) : Int))), (6, .c (gA ((!decide (gi f k = 1)) == true) True)), (7, .c (gA ((!decide (gi f k = 1)) == true) True)), (8, .c (gC ((!decide (gi f k = 1)) == true) ((0 : Int) ≤ (↑k : Int) ∧ (↑k : Int) < (↑(List.length f) : Int)))), (9, .c (gB ((!decide (gi f k = 1)) == true) True)), (10, .c (gD ((!decide (gi f k = 1)) == true) True)), (11, .c (((!decide (gi f k = 1)) = true → ((!decide (gi f k = 1)) == true) = true) ∧ True))] ⟨oM, ⟨⟨tI, tI⟩, (fun _ => tI)⟩, ⟨⟨tI, tI⟩, (fun _ => tI)⟩, ⟨⟨(by (exact fun h => h)), ⟨(by (exact fun h => h)), tI⟩⟩, (by (intro hg; simp at hg; omega))⟩, ⟨⟨(by (exact fun h => h)), tI⟩, (fun _ => tI)⟩, ⟨⟨(by (exact fun h => h)), ⟨tI, tI⟩⟩, (fun _ => tI)⟩, ⟨(by (intro h; rw [h]; rfl)), tI⟩, tI⟩ ?_; refine nK hK ?_; clear hK K
  refine w_cond (t := !decide (gi f k = 1) && !decide (gi f k = 2)) kR (fun c3 => ?_) (fun c3 => ?_)
  ·
   refine sK fun K hK => ?_
   refine wR 4 ?_; refine aX hTT 1 [] tI ?_; refine nK hK ?_; clear hK K
   refine aw_ret ?_
   refine xb_r ?_
   refine xt_r ?_; refine xt_r ?_
   refine xb_r ?_
   refine xt_r ?_
   rw [chkF_bad h1 c2 (by simp [folB]; simp at c3; omega)]
   refine rP (V.i 2)
  refine aw_skip ?_
  refine xb_n ?_; refine xt_n (hK _ ?_); clear hK K; refine wR 4 ?_; refine aX hTT 3 [(1, .i ((↑k : Int) + 1))] ⟨oM, tI⟩ ?_; refine aops_nil ?_; refine xt_n ?_
  refine ⟨k + 1, ⟨by omega, fun i hi => ?_⟩, by refine le_ren [] (.cons kR (.cons kR .nil)) .nil kR kR, by omega⟩
  by_cases he : i = k
  ·
   subst he; simp [folB]; simp at c3; omega
  ·
   exact hb i oM
 simp at c2
 obtain rfl : k = f.length := by omega
 refine aw_exit ?_
 refine xt_x ?_; refine xt_x ?_
 refine xb_same ?_
 refine xt_n ?_; clear hK K; refine hK _ ?_; clear hK K; refine sK fun K hK => wR 3 ?_; refine aX hTT 1 [] tI ?_; refine nK hK ?_; clear hK K
 refine aw_ret ?_
 rw [chkF_ok h1 hb]
 refine rP (V.i 0)
end Go.Proofs.YtfckkkmacjjmhaaDoor

namespace Go.Proofs.YtfckkkmacjjmhaaDoor
open Go.Ab Go.RowKit Go.Dw Go.Shelf
set_option maxHeartbeats 4000000 in
set_option maxRecDepth 100000 in
theorem rPages_ac (f : List Int) (hl : f.length ≤ 4611686018427387904) : AC Tryd.prog 16 [V.ints f] (pgV f) [] := by
 refine acI hTT hMX Tryd.func16 Tryd.ntmps16 fun C hC hF => ?_
 refine sK fun K hK => wR 2 ?_; refine aX hTT 2 [] tI ?_; refine nK hK ?_; clear hK K; refine sK fun K hK => wR 3 ?_; refine aX hTT 1 [] tI ?_
 refine eC (rCheckFolds_ac f hl) ?_
 refine aX hTT 1 [] tI ?_; refine nK hK ?_; clear hK K; refine sK fun K hK => ?_; refine sK fun K hK => wR 4 ?_; refine aX hTT 2 [] tI ?_; refine nK hK ?_; clear hK K
 refine w_cond (t := !decide (chkF f = 0)) kR (fun c1 => ?_) (fun c1 => ?_)
 ·
  have h1 : ¬ chkF f = 0 := by simpa using c1
  refine sK fun K hK => wR 5 ?_; refine aX hTT 3 [] tI ?_; refine nK hK ?_; clear hK K
  refine aw_ret ?_
  refine xt_r ?_
  rw [pgV, if_neg h1]
  refine rP (V.tup [V.nil, V.i (chkF f)])
 have h1 : chkF f = 0 := by simpa using c1
 obtain ⟨⟨l1, l2⟩, l3⟩ := chkF_inv h1
 have hf := FO_of l3
 have hlen : (stkL f).length ≤ 32 := by rw [stkL_len]; exact pow_le5 l2
 refine aw_skip ?_
 refine xt_n (hK _ ?_); clear hK K; refine sK fun K hK => wR 5 ?_; refine aX hTT 1 [] tI ?_; refine nK hK ?_; clear hK K; refine sK fun K hK => wR 6 ?_; refine aX hTT 1 [] tI ?_
 refine eC (stk_all f oM l2 hf) ?_
 refine aX hTT 1 [] tI ?_; refine nK hK ?_; clear hK K; refine sK fun K hK => ?_; refine sK fun K hK => wR 7 ?_; refine aX hTT 1 [] tI ?_; refine nK hK ?_; clear hK K
 refine aw_block ?_
 refine w_le (le_open 5 31 4 (fun k => (glf (pgL f) k).c) kR rfl) ?_
 refine w_loop (ι := Nat) (fun k => [(5, .own 5), (6, V.lfs (stkL f)), (7, .i k)]) (fun k => [(5, .row 31 4 (2 * k) fun j => (glf (pgL f) j).c)]) (fun k => k ≤ (stkL f).length) (fun k => (stkL f).length - k) 0 (Nat.zero_le _) ?_ ?_
 ·
  refine le_ren (sl := [(5, Ob.row 31 4 0 fun (j : Nat) => Lf.c (glf (pgL f) j))]) [(5, 700005)] (.cons kR (.cons kR (.cons kR .nil))) (.cons ⟨Ob.row 31 4 0 fun (k : Nat) => Lf.c (glf (pgL f) k), kR, .row kR (fun _ _ => rfl)⟩ .nil) kR kR
 intro k hk
 refine sK fun K hK => ?_; refine sK fun K hK => wR 2 ?_; refine aX hTT 4 [] tI ?_; refine nK hK ?_; clear hK K
 refine w_cond (t := decide ((↑k : Int) < (↑(List.length (stkL f)) : Int))) kR (fun c2 => ?_) (fun c2 => ?_)
 ·
  have h2 : k < (stkL f).length := by simpa using c2
  refine aw_skip ?_
  refine xt_n (hK _ ?_); clear hK K; refine sK fun K hK => ?_
  refine aw_block ?_
  refine sK fun K hK => wR 3 ?_; refine aX hTT 6 [(2, .c ((0 : Int) ≤ (↑k : Int) ∧ (↑k : Int) < (↑(List.length (stkL f)) : Int))), (4, .r (pn 8 (V.ref 200008 0) (200008 : Nat) (Ob.box 31 [V.i 0, V.i 0, V.b false, V.b false]))), (5, .r (pw ((0 : Nat) + (4 : Nat) ≤ (4 : Nat)) (200008 : Nat) (Ob.box 31 [V.i (Lf.row (glf (stkL f) k)), V.i (Lf.col (glf (stkL f) k)), V.b (Lf.back (glf (stkL f) k)), V.b (Lf.turned (glf (stkL f) k))])))] ⟨oM, oM, tI⟩ ?_; refine nK hK ?_; clear hK K; refine sK fun K hK => wR 4 ?_; refine aX hTT 5 [(1, .c ((2 : Nat) ≤ (4 : Nat))), (4, .r (pw ((2 : Nat) + (1 : Nat) ≤ (4 : Nat)) (200008 : Nat) (Ob.box 31 [V.i (Lf.row (glf (stkL f) k)), V.i (Lf.col (glf (stkL f) k)), V.b !Lf.back (glf (stkL f) k), V.b (Lf.turned (glf (stkL f) k))])))] ⟨oM, oM, tI⟩ ?_; refine nK hK ?_; clear hK K; refine wD 5 ?_; refine aX hTT 9 [(3, .c ((0 : Int) ≤ (↑k : Int) ∧ (↑k : Int) < (↑(List.length (stkL f)) : Int))), (5, .c ((0 : Nat) ≤ (4 : Nat))), (7, .r (PR.mk (some (37 : Nat)) (some ((2 : Nat) * k + 2 ≤ (1099511627776 : Nat))) (V.own 400037) [((5 : Nat), none), ((400037 : Nat), some (Ob.row 31 4 ((2 : Nat) * k + 2) (appRow ((2 : Nat) * k) (fun (j : Nat) => Lf.c (glf (pgL f) j)) fun (i : Nat) => List.take (4 : Nat) (List.drop (i * 4) [V.i (Lf.row (glf (stkL f) k)), V.i (Lf.col (glf (stkL f) k)), V.b (Lf.back (glf (stkL f) k)), V.b (Lf.turned (glf (stkL f) k)), V.i (Lf.row (glf (stkL f) k)), V.i (Lf.col (glf (stkL f) k)), V.b !Lf.back (glf (stkL f) k), V.b (Lf.turned (glf (stkL f) k))]))))] false))] ⟨oM, oM, oM, tI⟩ ?_; refine aops_nil ⟨kR, ?_⟩; refine xb_n ?_; refine xt_n (hK _ ?_); clear hK K; refine wR 6 ?_; refine aX hTT 3 [(1, .i ((↑k : Int) + 1))] ⟨oM, tI⟩ ?_; refine aops_nil ?_; refine xt_n ?_
  refine ⟨k + 1, by omega, ?_, by omega⟩
  refine le_ren (tl := [(5, V.own 5), (6, V.sl 4 (List.length (stkL f)) fun (k : Nat) => Lf.c (glf (stkL f) k)), (7, V.i (↑(k + 1) : Int))]) (sl := [(5, Ob.row 31 4 ((2 : Nat) * (k + 1)) fun (j : Nat) => Lf.c (glf (pgL f) j))]) [(5, 400037)] (.cons kR (.cons kR (.cons kR .nil))) (.cons ⟨Ob.row 31 4 ((2 : Nat) * k + 2) (appRow ((2 : Nat) * k) (fun (j : Nat) => Lf.c (glf (pgL f) j)) fun (i : Nat) => List.take (4 : Nat) (List.drop (i * 4) [V.i (Lf.row (glf (stkL f) k)), V.i (Lf.col (glf (stkL f) k)), V.b (Lf.back (glf (stkL f) k)), V.b (Lf.turned (glf (stkL f) k)), V.i (Lf.row (glf (stkL f) k)), V.i (Lf.col (glf (stkL f) k)), V.b !Lf.back (glf (stkL f) k), V.b (Lf.turned (glf (stkL f) k))])), kR, .row kR ?_⟩ .nil) kR kR
  exact pg_1 h2 rfl rfl
 ·
  simp at c2
  obtain rfl : k = (stkL f).length := by omega
  refine w_le (le_shut 5 5 (e := (31 : Nat)) (sz := (4 : Nat)) (n := (2 : Nat) * List.length (stkL f)) (n' := (pgL f).length) (row := fun (j : Nat) => Lf.c (glf (pgL f) j)) (row' := (fun j => (glf (pgL f) j).c)) kR kR (fun _ _ => rfl) ?_ ?_) ?_
  ·
   exact (pgL_len f).symm
  ·
   exact fun _ _ => rfl
  refine aw_exit ?_
  refine xt_x ?_; refine xt_x ?_
  refine xb_same ?_
  refine xt_n ?_; clear hK K; refine hK _ ?_; clear hK K; refine sK fun K hK => wR 3 ?_; refine aX hTT 3 [] tI ?_; refine nK hK ?_; clear hK K
  refine aw_ret ?_
  rw [pgV, if_pos h1]
  refine rP (V.tup [V.sl 4 (List.length (pgL f)) fun (j : Nat) => Lf.c (glf (pgL f) j), V.i 0])
set_option maxHeartbeats 4000000 in
set_option maxRecDepth 100000 in
theorem rPage_ac (f : List Int) (row col : Int) (back : Bool) (hl : f.length ≤ 4611686018427387904) : AC Tryd.prog 18 [V.ints f, .i row, .i col, .b back] (.tup [.i (pageN f row col back), .i (pageE f row col back)]) [] := by
 refine acI hTT hMX Tryd.func18 Tryd.ntmps18 fun C hC hF => ?_
 have A := rPages_ac f hl
 refine sK fun K hK => wR 2 ?_; refine aX hTT 2 [] tI ?_; refine nK hK ?_; clear hK K; refine sK fun K hK => wR 3 ?_; refine aX hTT 1 [] tI ?_
 by_cases h1 : chkF f = 0
 ·
  rw [pgV, if_pos h1] at A
  have h2 := pgL_len32 (chkF_inv h1).1.2
  refine eC (A) ?_
  refine aX hTT 5 [] tI ?_; refine nK hK ?_; clear hK K; refine sK fun K hK => ?_; refine sK fun K hK => wR 4 ?_; refine aX hTT 2 [] tI ?_; refine nK hK ?_; clear hK K; refine w_false (t := false) kR rfl ?_
  refine aw_skip ?_
  refine xt_n (hK _ ?_); clear hK K; refine sK fun K hK => ?_; refine sK fun K hK => wR 5 ?_; refine aX hTT 1 [] tI ?_; refine nK hK ?_; clear hK K
  refine aw_block ?_
  refine w_loop (ι := Nat) (fun k => [(1, .i row), (2, .i col), (3, .b back), (10, V.lfs (pgL f)), (12, .i k)]) (fun _ => []) (fun k => k ≤ (pgL f).length ∧ ∀ j, j < k → isPg (glf (pgL f) j) row col back = false) (fun k => (pgL f).length - k) 0 ⟨Nat.zero_le _, fun j hj => by omega⟩ ?_ ?_
  ·
   refine le_ren [] (.cons kR (.cons kR (.cons kR (.cons kR (.cons kR .nil))))) .nil kR kR
  rintro k ⟨hk, hno⟩
  refine sK fun K hK => ?_; refine sK fun K hK => wR 2 ?_; refine aX hTT 4 [] tI ?_; refine nK hK ?_; clear hK K
  refine w_cond (t := decide ((↑k : Int) < (↑(List.length (pgL f)) : Int))) kR (fun c2 => ?_) (fun c2 => ?_)
  ·
   have hk1 : k < (pgL f).length := by simpa using c2
   refine aw_skip ?_
   refine xt_n (hK _ ?_); clear hK K; refine sK fun K hK => ?_
   refine aw_block ?_
   refine sK fun K hK => wR 3 ?_; refine aX hTT 25 [(2, .c ((0 : Int) ≤ (↑k : Int) ∧ (↑k : Int) < (↑(List.length (pgL f)) : Int))), (8, .c (gA (decide (Lf.row (glf (pgL f) k) = row) == true) True)), (9, .c (gA (decide (Lf.row (glf (pgL f) k) = row) == true) True)), (10, .c (gC (decide (Lf.row (glf (pgL f) k) = row) == true) ((0 : Int) ≤ (↑k : Int) ∧ (↑k : Int) < (↑(List.length (pgL f)) : Int)))), (11, .c (gB (decide (Lf.row (glf (pgL f) k) = row) == true) True)), (12, .c (gB (decide (Lf.row (glf (pgL f) k) = row) == true) True)), (13, .c (gA (decide (Lf.row (glf (pgL f) k) = row) == true) True)), (14, .c (gC (decide (Lf.row (glf (pgL f) k) = row) == true) True)), (15, .c ((decide (Lf.row (glf (pgL f) k) = row) = true → (decide (Lf.row (glf (pgL f) k) = row) == true) = true) ∧ True)), (17, .c (gA ((decide (Lf.row (glf (pgL f) k) = row) && decide (Lf.col (glf (pgL f) k) = col)) == true) True)), (18, .c (gA ((decide (Lf.row (glf (pgL f) k) = row) && decide (Lf.col (glf (pgL f) k) = col)) == true) True)), (19, .c (gC ((decide (Lf.row (glf (pgL f) k) = row) && decide (Lf.col (glf (pgL f) k) = col)) == true) ((0 : Int) ≤ (↑k : Int) ∧ (↑k : Int) < (↑(List.length (pgL f)) : Int)))), (20, .c (gB ((decide (Lf.row (glf (pgL f) k) = row) && decide (Lf.col (glf (pgL f) k) = col)) == true) True)), (21, .c (gB ((decide (Lf.row (glf (pgL f) k) = row) && decide (Lf.col (glf (pgL f) k) = col)) == true) True)), (22, .c (gA ((decide (Lf.row (glf (pgL f) k) = row) && decide (Lf.col (glf (pgL f) k) = col)) == true) True)), (23, .c (gC ((decide (Lf.row (glf (pgL f) k) = row) && decide (Lf.col (glf (pgL f) k) = col)) == true) True)), (24, .c (((decide (Lf.row (glf (pgL f) k) = row) && decide (Lf.col (glf (pgL f) k) = col)) = true → ((decide (Lf.row (glf (pgL f) k) = row) && decide (Lf.col (glf (pgL f) k) = col)) == true) = true) ∧ True))] ⟨oM, ⟨⟨tI, tI⟩, (fun _ => tI)⟩, ⟨⟨tI, tI⟩, (fun _ => tI)⟩, ⟨⟨(by (exact fun h => h)), ⟨(by (exact fun h => h)), tI⟩⟩, (by (intro hg; simp at hg; omega))⟩, ⟨⟨(by (exact fun h => h)), tI⟩, (fun _ => tI)⟩, ⟨⟨(by (exact fun h => h)), tI⟩, (fun _ => tI)⟩, ⟨⟨tI, tI⟩, (fun _ => tI)⟩, ⟨⟨(by (exact fun h => h)), ⟨(by (exact fun h => h)), tI⟩⟩, (fun _ => tI)⟩, ⟨(by (intro h; rw [h]; rfl)), tI⟩, ⟨⟨tI, tI⟩, (fun _ => tI)⟩, ⟨⟨tI, tI⟩, (fun _ => tI)⟩, ⟨⟨(by (exact fun h => h)), ⟨(by (exact fun h => h)), tI⟩⟩, (by (intro hg; simp at hg; omega))⟩, ⟨⟨(by (exact fun h => h)), tI⟩, (fun _ => tI)⟩, ⟨⟨(by (exact fun h => h)), tI⟩, (fun _ => tI)⟩, ⟨⟨tI, tI⟩, (fun _ => tI)⟩, ⟨⟨(by (exact fun h => h)), ⟨(by (exact fun h => h)), tI⟩⟩, (fun _ => tI)⟩, ⟨(by (intro h; rw [h]; rfl)), tI⟩, tI⟩ ?_; refine nK hK ?_; clear hK K
   refine w_cond (t := decide (Lf.row (glf (pgL f) k) = row) && decide (Lf.col (glf (pgL f) k) = col) && Lf.back (glf (pgL f) k) == back) kR (fun c3 => ?_) (fun c3 => ?_)
   ·
    have h3 : isPg (glf (pgL f) k) row col back = true := by simpa [isPg] using c3
    have e := idxF_some (p := fun k => isPg (glf (pgL f) k) row col back) hk1 h3 hno
    have e : pgI f row col back = k := e
    refine sK fun K hK => wR 4 ?_; refine aX hTT 4 [(1, .i ((↑k : Int) + 1))] ⟨oM, tI⟩ ?_; refine nK hK ?_; clear hK K
    refine aw_ret ?_
    refine xb_r ?_
    refine xt_r ?_; refine xt_r ?_
    refine xb_r ?_
    refine xt_r ?_
    rw [pageN, pageE, if_pos h1, if_pos h1, e, if_neg oM, if_neg oM]
    refine rP (V.tup [V.i ((↑k : Int) + 1), V.i 0])
   ·
    have h3 : isPg (glf (pgL f) k) row col back = false := by simpa [isPg] using c3
    refine aw_skip ?_
    refine xb_n ?_; refine xt_n (hK _ ?_); clear hK K; refine wR 4 ?_; refine aX hTT 3 [(1, .i ((↑k : Int) + 1))] ⟨oM, tI⟩ ?_; refine aops_nil ?_; refine xt_n ?_
    refine ⟨k + 1, ⟨by omega, fun j hj => ?_⟩, by refine le_ren [] (.cons kR (.cons kR (.cons kR (.cons kR (.cons kR .nil))))) .nil kR kR, by omega⟩
    rcases Nat.lt_or_ge j k with h4 | h4
    ·
     exact hno j h4
    ·
     rwa [show j = k by omega]
  ·
   have e := idxF_none (p := fun k => isPg (glf (pgL f) k) row col back) (n := (pgL f).length) fun j hj => hno j (by simp at c2; omega)
   have e : pgI f row col back = -1 := e
   refine aw_exit ?_
   refine xt_x ?_; refine xt_x ?_
   refine xb_same ?_
   refine xt_n ?_; clear hK K; refine hK _ ?_; clear hK K; refine sK fun K hK => wR 3 ?_; refine aX hTT 2 [] tI ?_; refine nK hK ?_; clear hK K
   refine aw_ret ?_
   rw [pageN, pageE, if_pos h1, if_pos h1, e, if_pos oM, if_pos oM]
   refine rP (V.tup [V.i 0, V.i 3])
 ·
  rw [pgV, if_neg h1] at A
  refine eC (A) ?_
  refine aX hTT 5 [] tI ?_; refine nK hK ?_; clear hK K; refine sK fun K hK => ?_; refine sK fun K hK => wR 4 ?_; refine aX hTT 2 [] tI ?_; refine nK hK ?_; clear hK K
  refine w_cond (t := !decide (chkF f = 0)) kR (fun c1 => ?_) (fun c1 => ?_)
  ·
   refine sK fun K hK => ?_
   refine wR 5 ?_; refine aX hTT 3 [] tI ?_; refine nK hK ?_; clear hK K
   refine aw_ret ?_
   refine xt_r ?_
   rw [pageN, pageE, if_neg h1, if_neg h1]
   refine rP (V.tup [V.i 0, V.i (chkF f)])
  ·
   simp at c1
   exact absurd c1 h1
end Go.Proofs.YtfckkkmacjjmhaaDoor

namespace Go.Proofs.YtfckkkmacjjmhaaDoor
open Go.Ab Go.RowKit Go.Dw Go.Shelf
abbrev yyWSPages0 (f : List Int) : V := V.sl 4 (List.length (pgL f)) fun (k : Nat) => Lf.c (glf (pgL f) k)
abbrev yyWSPages1 (f : List Int) := ((↑(List.length (pgL f)) : Int) = (↑(List.length (pgL f)) : Int))
abbrev yyWSPages2 (f : List Int) : V := V.sl 1 (List.length f) fun (k : Nat) => [V.i (gi f k)]
abbrev yyWSPages3 := ((false == false) = true → (false == false) = true)
set_option maxHeartbeats 4000000 in
set_option maxRecDepth 100000 in
theorem pages_law (f : List Int) (row col : Int) (back : Bool) (hl : f.length ≤ 4611686018427387904) : AC Tryd.prog 3 [V.ints f, .i row, .i col, .b back] (.b true) [] := by
 refine acI hTT hMX Tryd.func3 Tryd.ntmps3 fun C hC hF => ?_
 refine sK fun K hK => wR 2 ?_
 refine aops_n hTT (M := []) (n := 1) [pv 8 (V.b false)] kR kR tI ?_
 refine nK hK ?_; clear hK K; refine sK fun K hK => ?_; refine sK fun K hK => wR 3 ?_
 refine aops_n hTT (M := []) (n := 3) [pv 18 ((yyWSPages2 f)), pv 19 (V.i (↑(List.length f) : Int)), pv 20 (V.b (decide ((10 : Int) < (↑(List.length f) : Int))))] kR kR tI ?_
 refine nK hK ?_; clear hK K
 refine w_cond (t := decide ((10 : Int) < (↑(List.length f) : Int))) kR (fun c1 => ?_) (fun c1 => ?_)
 ·
  refine sK fun K hK => ?_
  refine wR 4 ?_
  refine eC (sWorks_ac) ?_
  refine aops_n hTT (M := []) (n := 1) [pv 8 (V.b true)] kR kR tI ?_
  refine nK hK ?_; clear hK K
  refine aw_ret ?_
  refine xt_r ?_
  refine rP (V.b true)
 have A := Pages_ac f hl
 have B := rPages_ac f hl
 have h32 := pgL_len32 (f := f)
 by_cases h1 : chkF f = 0
 ·
  rw [pgV, if_pos h1] at A B
  have h2 := h32 (chkF_inv h1).1.2
  refine aw_skip ?_
  refine xt_n (hK _ ?_); clear hK K; refine sK fun K hK => wR 4 ?_
  refine aops_n hTT (M := []) (n := 1) [pv 23 ((yyWSPages2 f))] kR kR tI ?_
  refine eC (A) ?_
  refine aops_n hTT (M := []) (n := 5) [pv 22 (V.tup [(yyWSPages0 f), V.i 0]), pv 25 ((yyWSPages0 f)), pv 26 (V.i 0), pv 9 ((yyWSPages0 f)), pv 10 (V.i 0)] kR kR tI ?_
  refine nK hK ?_; clear hK K; refine sK fun K hK => wR 5 ?_
  refine aops_n hTT (M := []) (n := 1) [pv 28 ((yyWSPages2 f))] kR kR tI ?_
  refine eC (B) ?_
  refine aops_n hTT (M := []) (n := 5) [pv 27 (V.tup [(yyWSPages0 f), V.i 0]), pv 30 ((yyWSPages0 f)), pv 31 (V.i 0), pv 11 ((yyWSPages0 f)), pv 12 (V.i 0)] kR kR tI ?_
  refine nK hK ?_; clear hK K; refine sK fun K hK => wR 6 ?_
  refine aops_n hTT (M := []) (n := 4) [pv 33 ((yyWSPages2 f)), pv 34 (V.i row), pv 35 (V.i col), pv 36 (V.b back)] kR kR tI ?_
  refine eC (Page_ac f row col back hl) ?_
  refine aops_n hTT (M := []) (n := 5) [pv 32 (V.tup [V.i (pageN f row col back), V.i (pageE f row col back)]), pv 38 (V.i (pageN f row col back)), pv 39 (V.i (pageE f row col back)), pv 13 (V.i (pageN f row col back)), pv 14 (V.i (pageE f row col back))] kR kR tI ?_
  refine nK hK ?_; clear hK K; refine sK fun K hK => wR 7 ?_
  refine aops_n hTT (M := []) (n := 4) [pv 41 ((yyWSPages2 f)), pv 42 (V.i row), pv 43 (V.i col), pv 44 (V.b back)] kR kR tI ?_
  refine eC (rPage_ac f row col back hl) ?_
  refine aops_n hTT (M := []) (n := 5) [pv 40 (V.tup [V.i (pageN f row col back), V.i (pageE f row col back)]), pv 46 (V.i (pageN f row col back)), pv 47 (V.i (pageE f row col back)), pv 15 (V.i (pageN f row col back)), pv 16 (V.i (pageE f row col back))] kR kR tI ?_
  refine nK hK ?_; clear hK K; refine sK fun K hK => ?_; refine sK fun K hK => wR 8 ?_
  refine aops_n hTT (M := []) (n := 20) [pv 48 (V.i 0), pv 49 (V.i 0), pv 50 (V.b false), pv 51 (V.b false), pc 52 ((True ∧ True) ∧ ((false == false) = true → True)) (V.gd (false == false) ((yyWSPages0 f))), pc 53 ((yyWSPages3 ∧ True) ∧ ((false == false) = true → True)) (V.gd (false == false) (V.i (↑(List.length (pgL f)) : Int))), pc 54 ((True ∧ True) ∧ ((false == false) = true → True)) (V.gd (false == false) ((yyWSPages0 f))), pc 55 ((yyWSPages3 ∧ True) ∧ ((false == false) = true → True)) (V.gd (false == false) (V.i (↑(List.length (pgL f)) : Int))), pc 56 ((yyWSPages3 ∧ yyWSPages3 ∧ True) ∧ ((false == false) = true → True)) (V.gd (false == false) (V.b !decide (yyWSPages1 f))), pc 57 (True ∧ (false = false → (false == false) = true)) (V.b !decide (yyWSPages1 f)), pv 58 (V.b !decide (yyWSPages1 f)), pc 59 ((True ∧ True) ∧ (((!decide (yyWSPages1 f)) == false) = true → True)) (V.gd ((!decide (yyWSPages1 f)) == false) (V.i (pageN f row col back))), pc 60 ((True ∧ True) ∧ (((!decide (yyWSPages1 f)) == false) = true → True)) (V.gd ((!decide (yyWSPages1 f)) == false) (V.i (pageN f row col back))), pc 61 (((((!decide (yyWSPages1 f)) == false) = true → ((!decide (yyWSPages1 f)) == false) = true) ∧ (((!decide (yyWSPages1 f)) == false) = true → ((!decide (yyWSPages1 f)) == false) = true) ∧ True) ∧ (((!decide (yyWSPages1 f)) == false) = true → True)) (V.gd ((!decide (yyWSPages1 f)) == false) (V.b !decide (pageN f row col back = pageN f row col back))), pc 62 (True ∧ ((!decide (yyWSPages1 f)) = false → ((!decide (yyWSPages1 f)) == false) = true)) (V.b (!decide (yyWSPages1 f) || !decide (pageN f row col back = pageN f row col back))), pv 63 (V.b (!decide (yyWSPages1 f) || !decide (pageN f row col back = pageN f row col back))), pc 64 ((True ∧ True) ∧ (((!decide (yyWSPages1 f) || !decide (pageN f row col back = pageN f row col back)) == false) = true → True)) (V.gd ((!decide (yyWSPages1 f) || !decide (pageN f row col back = pageN f row col back)) == false) (V.i (pageE f row col back))), pc 65 ((True ∧ True) ∧ (((!decide (yyWSPages1 f) || !decide (pageN f row col back = pageN f row col back)) == false) = true → True)) (V.gd ((!decide (yyWSPages1 f) || !decide (pageN f row col back = pageN f row col back)) == false) (V.i (pageE f row col back))), pc 66 (((((!decide (yyWSPages1 f) || !decide (pageN f row col back = pageN f row col back)) == false) = true → ((!decide (yyWSPages1 f) || !decide (pageN f row col back = pageN f row col back)) == false) = true) ∧ (((!decide (yyWSPages1 f) || !decide (pageN f row col back = pageN f row col back)) == false) = true → ((!decide (yyWSPages1 f) || !decide (pageN f row col back = pageN f row col back)) == false) = true) ∧ True) ∧ (((!decide (yyWSPages1 f) || !decide (pageN f row col back = pageN f row col back)) == false) = true → True)) (V.gd ((!decide (yyWSPages1 f) || !decide (pageN f row col back = pageN f row col back)) == false) (V.b !decide (pageE f row col back = pageE f row col back))), pc 67 (True ∧ ((!decide (yyWSPages1 f) || !decide (pageN f row col back = pageN f row col back)) = false → ((!decide (yyWSPages1 f) || !decide (pageN f row col back = pageN f row col back)) == false) = true)) (V.b (!decide (yyWSPages1 f) || !decide (pageN f row col back = pageN f row col back) || !decide (pageE f row col back = pageE f row col back)))] kR kR ⟨⟨⟨tI, tI⟩, (fun _ => tI)⟩, ⟨⟨(by (exact fun h => h)), tI⟩, (fun _ => tI)⟩, ⟨⟨tI, tI⟩, (fun _ => tI)⟩, ⟨⟨(by (exact fun h => h)), tI⟩, (fun _ => tI)⟩, ⟨⟨(by (exact fun h => h)), ⟨(by (exact fun h => h)), tI⟩⟩, (fun _ => tI)⟩, ⟨tI, (by (intro h; rw [h]; rfl))⟩, ⟨⟨tI, tI⟩, (fun _ => tI)⟩, ⟨⟨tI, tI⟩, (fun _ => tI)⟩, ⟨⟨(by (exact fun h => h)), ⟨(by (exact fun h => h)), tI⟩⟩, (fun _ => tI)⟩, ⟨tI, (by (intro h; rw [h]; rfl))⟩, ⟨⟨tI, tI⟩, (fun _ => tI)⟩, ⟨⟨tI, tI⟩, (fun _ => tI)⟩, ⟨⟨(by (exact fun h => h)), ⟨(by (exact fun h => h)), tI⟩⟩, (fun _ => tI)⟩, ⟨tI, (by (intro h; rw [h]; rfl))⟩, tI⟩ ?_
  refine nK hK ?_; clear hK K
  refine w_cond (t := !decide ((↑(List.length (pgL f)) : Int) = (↑(List.length (pgL f)) : Int)) || !decide (pageN f row col back = pageN f row col back) || !decide (pageE f row col back = pageE f row col back)) kR (fun c2 => ?_) (fun c2 => ?_)
  ·
   simp at c2
  refine aw_skip ?_
  refine xt_n (hK _ ?_); clear hK K; refine sK fun K hK => ?_; refine sK fun K hK => wR 9 ?_
  refine aops_n hTT (M := []) (n := 1) [pv 17 (V.i 0)] kR kR tI ?_
  refine nK hK ?_; clear hK K
  refine aw_block ?_
  refine w_loop (ι := Nat) (fun k => [(0, V.ints f), (9, V.lfs (pgL f)), (11, V.lfs (pgL f)), (17, .i k)]) (fun _ => []) (fun k => k ≤ (pgL f).length) (fun k => (pgL f).length - k) 0 (Nat.zero_le _) ?_ ?_
  ·
   refine le_ren [] (.cons kR (.cons kR (.cons kR (.cons kR .nil)))) .nil kR kR
  intro k hk
  refine sK fun K hK => ?_; refine sK fun K hK => wR 2 ?_
  refine aops_n hTT (M := []) (n := 4) [pv 68 (V.i (↑k : Int)), pv 69 ((yyWSPages0 f)), pv 70 (V.i (↑(List.length (pgL f)) : Int)), pv 71 (V.b (decide ((↑k : Int) < (↑(List.length (pgL f)) : Int))))] kR kR tI ?_
  refine nK hK ?_; clear hK K
  refine w_cond (t := decide ((↑k : Int) < (↑(List.length (pgL f)) : Int))) kR (fun c3 => ?_) (fun c3 => ?_)
  ·
   have hk1 : k < (pgL f).length := by simpa using c3
   refine aw_skip ?_
   refine xt_n (hK _ ?_); clear hK K; refine sK fun K hK => ?_
   refine aw_block ?_
   refine sK fun K hK => wD 3 ?_
   refine aops_n hTT (M := []) (n := 9) [pv 74 ((yyWSPages0 f)), pv 75 (V.i (↑k : Int)), pc 76 ((0 : Int) ≤ (↑k : Int) ∧ (↑k : Int) < (↑(List.length (pgL f)) : Int)) (V.ptr [V.i (Lf.row (glf (pgL f) k)), V.i (Lf.col (glf (pgL f) k)), V.b (Lf.back (glf (pgL f) k)), V.b (Lf.turned (glf (pgL f) k))]), pv 77 (V.agg [V.i (Lf.row (glf (pgL f) k)), V.i (Lf.col (glf (pgL f) k)), V.b (Lf.back (glf (pgL f) k)), V.b (Lf.turned (glf (pgL f) k))]), pv 78 ((yyWSPages0 f)), pv 79 (V.i (↑k : Int)), pc 80 ((0 : Int) ≤ (↑k : Int) ∧ (↑k : Int) < (↑(List.length (pgL f)) : Int)) (V.ptr [V.i (Lf.row (glf (pgL f) k)), V.i (Lf.col (glf (pgL f) k)), V.b (Lf.back (glf (pgL f) k)), V.b (Lf.turned (glf (pgL f) k))]), pv 81 (V.agg [V.i (Lf.row (glf (pgL f) k)), V.i (Lf.col (glf (pgL f) k)), V.b (Lf.back (glf (pgL f) k)), V.b (Lf.turned (glf (pgL f) k))]), pv 82 (V.b !(decide (Lf.row (glf (pgL f) k) = Lf.row (glf (pgL f) k)) && (decide (Lf.col (glf (pgL f) k) = Lf.col (glf (pgL f) k)) && (Lf.back (glf (pgL f) k) == Lf.back (glf (pgL f) k) && (Lf.turned (glf (pgL f) k) == Lf.turned (glf (pgL f) k) && true)))))] kR kR ⟨oM, oM, tI⟩ ?_
   refine aops_nil ⟨kR, ?_⟩; refine xt_n (hK _ ?_); clear hK K
   refine w_cond (t := !(decide (Lf.row (glf (pgL f) k) = Lf.row (glf (pgL f) k)) && (decide (Lf.col (glf (pgL f) k) = Lf.col (glf (pgL f) k)) && (Lf.back (glf (pgL f) k) == Lf.back (glf (pgL f) k) && (Lf.turned (glf (pgL f) k) == Lf.turned (glf (pgL f) k) && true))))) kR (fun c4 => ?_) (fun c4 => ?_)
   ·
    simp at c4
   refine aw_skip ?_
   refine xb_n ?_; refine xt_n (hK _ ?_); clear hK K; refine wR 4 ?_
   refine aops_n hTT (M := []) (n := 3) [pv 72 (V.i (↑k : Int)), pc 73 ((-9223372036854775808 : Int) ≤ (↑k : Int) + 1 ∧ (↑k : Int) + 1 ≤ (9223372036854775807 : Int)) (V.i ((↑k : Int) + 1)), pv 17 (V.i ((↑k : Int) + 1))] kR kR ⟨oM, tI⟩ ?_
   refine aops_nil ?_; refine xt_n ?_
   refine ⟨k + 1, by omega, by refine le_ren [] (.cons kR (.cons kR (.cons kR (.cons kR .nil)))) .nil kR kR, by omega⟩
  refine aw_exit ?_
  refine xt_x ?_; refine xt_x ?_
  refine xb_same ?_
  refine xt_n ?_; clear hK K; refine hK _ ?_; clear hK K; refine sK fun K hK => wR 3 ?_
  refine aops_n hTT (M := []) (n := 1) [pv 83 ((yyWSPages2 f))] kR kR tI ?_
  refine eC (CheckFolds_ac f hl) ?_
  refine aops_n hTT (M := []) (n := 1) [pv 85 ((yyWSPages2 f))] kR kR tI ?_
  refine eC (rCheckFolds_ac f hl) ?_
  refine aops_n hTT (M := []) (n := 2) [pv 87 (V.b (decide (chkF f = chkF f))), pv 88 (V.b (decide (chkF f = chkF f)))] kR kR tI ?_
  refine eG 0 (g := decide (chkF f = chkF f) == true) (fun h => sWorks_ac) ?_
  refine aops_n hTT (M := []) (n := 2) [pc 90 ((decide (chkF f = chkF f) = true → (decide (chkF f = chkF f) == true) = true) ∧ True) (V.b (decide (chkF f = chkF f) && true)), pv 8 (V.b (decide (chkF f = chkF f) && true))] kR kR ⟨⟨(by (intro h; rw [h]; rfl)), tI⟩, tI⟩ ?_
  refine nK hK ?_; clear hK K
  refine aw_ret ?_
  rw [show (V.b true) = V.b (decide (chkF f = chkF f) && true) by simp]
  refine rP (V.b (decide (chkF f = chkF f) && true))
 ·
  rw [pgV, if_neg h1] at A B
  refine aw_skip ?_
  refine xt_n (hK _ ?_); clear hK K; refine sK fun K hK => wR 4 ?_
  refine aops_n hTT (M := []) (n := 1) [pv 23 ((yyWSPages2 f))] kR kR tI ?_
  refine eC (A) ?_
  refine aops_n hTT (M := []) (n := 5) [pv 22 (V.tup [V.nil, V.i (chkF f)]), pv 25 V.nil, pv 26 (V.i (chkF f)), pv 9 V.nil, pv 10 (V.i (chkF f))] kR kR tI ?_
  refine nK hK ?_; clear hK K; refine sK fun K hK => wR 5 ?_
  refine aops_n hTT (M := []) (n := 1) [pv 28 ((yyWSPages2 f))] kR kR tI ?_
  refine eC (B) ?_
  refine aops_n hTT (M := []) (n := 5) [pv 27 (V.tup [V.nil, V.i (chkF f)]), pv 30 V.nil, pv 31 (V.i (chkF f)), pv 11 V.nil, pv 12 (V.i (chkF f))] kR kR tI ?_
  refine nK hK ?_; clear hK K; refine sK fun K hK => wR 6 ?_
  refine aops_n hTT (M := []) (n := 4) [pv 33 ((yyWSPages2 f)), pv 34 (V.i row), pv 35 (V.i col), pv 36 (V.b back)] kR kR tI ?_
  refine eC (Page_ac f row col back hl) ?_
  refine aops_n hTT (M := []) (n := 5) [pv 32 (V.tup [V.i (pageN f row col back), V.i (pageE f row col back)]), pv 38 (V.i (pageN f row col back)), pv 39 (V.i (pageE f row col back)), pv 13 (V.i (pageN f row col back)), pv 14 (V.i (pageE f row col back))] kR kR tI ?_
  refine nK hK ?_; clear hK K; refine sK fun K hK => wR 7 ?_
  refine aops_n hTT (M := []) (n := 4) [pv 41 ((yyWSPages2 f)), pv 42 (V.i row), pv 43 (V.i col), pv 44 (V.b back)] kR kR tI ?_
  refine eC (rPage_ac f row col back hl) ?_
  refine aops_n hTT (M := []) (n := 5) [pv 40 (V.tup [V.i (pageN f row col back), V.i (pageE f row col back)]), pv 46 (V.i (pageN f row col back)), pv 47 (V.i (pageE f row col back)), pv 15 (V.i (pageN f row col back)), pv 16 (V.i (pageE f row col back))] kR kR tI ?_
  refine nK hK ?_; clear hK K; refine sK fun K hK => ?_; refine sK fun K hK => wR 8 ?_
  refine aops_n hTT (M := []) (n := 20) [pv 48 (V.i (chkF f)), pv 49 (V.i (chkF f)), pv 50 (V.b !decide (chkF f = chkF f)), pv 51 (V.b !decide (chkF f = chkF f)), pc 52 ((True ∧ True) ∧ (((!decide (chkF f = chkF f)) == false) = true → True)) (V.gd ((!decide (chkF f = chkF f)) == false) V.nil), pc 53 (((((!decide (chkF f = chkF f)) == false) = true → ((!decide (chkF f = chkF f)) == false) = true) ∧ True) ∧ (((!decide (chkF f = chkF f)) == false) = true → True)) (V.gd ((!decide (chkF f = chkF f)) == false) (V.i 0)), pc 54 ((True ∧ True) ∧ (((!decide (chkF f = chkF f)) == false) = true → True)) (V.gd ((!decide (chkF f = chkF f)) == false) V.nil), pc 55 (((((!decide (chkF f = chkF f)) == false) = true → ((!decide (chkF f = chkF f)) == false) = true) ∧ True) ∧ (((!decide (chkF f = chkF f)) == false) = true → True)) (V.gd ((!decide (chkF f = chkF f)) == false) (V.i 0)), pc 56 (((((!decide (chkF f = chkF f)) == false) = true → ((!decide (chkF f = chkF f)) == false) = true) ∧ (((!decide (chkF f = chkF f)) == false) = true → ((!decide (chkF f = chkF f)) == false) = true) ∧ True) ∧ (((!decide (chkF f = chkF f)) == false) = true → True)) (V.gd ((!decide (chkF f = chkF f)) == false) (V.b false)), pc 57 (True ∧ ((!decide (chkF f = chkF f)) = false → ((!decide (chkF f = chkF f)) == false) = true)) (V.b (!decide (chkF f = chkF f) && true)), pv 58 (V.b (!decide (chkF f = chkF f) && true)), pc 59 ((True ∧ True) ∧ (((!decide (chkF f = chkF f) && true) == false) = true → True)) (V.gd ((!decide (chkF f = chkF f) && true) == false) (V.i (pageN f row col back))), pc 60 ((True ∧ True) ∧ (((!decide (chkF f = chkF f) && true) == false) = true → True)) (V.gd ((!decide (chkF f = chkF f) && true) == false) (V.i (pageN f row col back))), pc 61 (((((!decide (chkF f = chkF f) && true) == false) = true → ((!decide (chkF f = chkF f) && true) == false) = true) ∧ (((!decide (chkF f = chkF f) && true) == false) = true → ((!decide (chkF f = chkF f) && true) == false) = true) ∧ True) ∧ (((!decide (chkF f = chkF f) && true) == false) = true → True)) (V.gd ((!decide (chkF f = chkF f) && true) == false) (V.b !decide (pageN f row col back = pageN f row col back))), pc 62 (True ∧ ((!decide (chkF f = chkF f) && true) = false → ((!decide (chkF f = chkF f) && true) == false) = true)) (V.b (!decide (chkF f = chkF f) && true || !decide (pageN f row col back = pageN f row col back))), pv 63 (V.b (!decide (chkF f = chkF f) && true || !decide (pageN f row col back = pageN f row col back))), pc 64 ((True ∧ True) ∧ (((!decide (chkF f = chkF f) && true || !decide (pageN f row col back = pageN f row col back)) == false) = true → True)) (V.gd ((!decide (chkF f = chkF f) && true || !decide (pageN f row col back = pageN f row col back)) == false) (V.i (pageE f row col back))), pc 65 ((True ∧ True) ∧ (((!decide (chkF f = chkF f) && true || !decide (pageN f row col back = pageN f row col back)) == false) = true → True)) (V.gd ((!decide (chkF f = chkF f) && true || !decide (pageN f row col back = pageN f row col back)) == false) (V.i (pageE f row col back))), pc 66 (((((!decide (chkF f = chkF f) && true || !decide (pageN f row col back = pageN f row col back)) == false) = true → ((!decide (chkF f = chkF f) && true || !decide (pageN f row col back = pageN f row col back)) == false) = true) ∧ (((!decide (chkF f = chkF f) && true || !decide (pageN f row col back = pageN f row col back)) == false) = true → ((!decide (chkF f = chkF f) && true || !decide (pageN f row col back = pageN f row col back)) == false) = true) ∧ True) ∧ (((!decide (chkF f = chkF f) && true || !decide (pageN f row col back = pageN f row col back)) == false) = true → True)) (V.gd ((!decide (chkF f = chkF f) && true || !decide (pageN f row col back = pageN f row col back)) == false) (V.b !decide (pageE f row col back = pageE f row col back))), pc 67 (True ∧ ((!decide (chkF f = chkF f) && true || !decide (pageN f row col back = pageN f row col back)) = false → ((!decide (chkF f = chkF f) && true || !decide (pageN f row col back = pageN f row col back)) == false) = true)) (V.b (!decide (chkF f = chkF f) && true || !decide (pageN f row col back = pageN f row col back) || !decide (pageE f row col back = pageE f row col back)))] kR kR ⟨⟨⟨tI, tI⟩, (fun _ => tI)⟩, ⟨⟨(by (exact fun h => h)), tI⟩, (fun _ => tI)⟩, ⟨⟨tI, tI⟩, (fun _ => tI)⟩, ⟨⟨(by (exact fun h => h)), tI⟩, (fun _ => tI)⟩, ⟨⟨(by (exact fun h => h)), ⟨(by (exact fun h => h)), tI⟩⟩, (fun _ => tI)⟩, ⟨tI, (by (intro h; rw [h]; rfl))⟩, ⟨⟨tI, tI⟩, (fun _ => tI)⟩, ⟨⟨tI, tI⟩, (fun _ => tI)⟩, ⟨⟨(by (exact fun h => h)), ⟨(by (exact fun h => h)), tI⟩⟩, (fun _ => tI)⟩, ⟨tI, (by (intro h; rw [h]; rfl))⟩, ⟨⟨tI, tI⟩, (fun _ => tI)⟩, ⟨⟨tI, tI⟩, (fun _ => tI)⟩, ⟨⟨(by (exact fun h => h)), ⟨(by (exact fun h => h)), tI⟩⟩, (fun _ => tI)⟩, ⟨tI, (by (intro h; rw [h]; rfl))⟩, tI⟩ ?_
  refine nK hK ?_; clear hK K
  refine w_cond (t := !decide (chkF f = chkF f) && true || !decide (pageN f row col back = pageN f row col back) || !decide (pageE f row col back = pageE f row col back)) kR (fun c2 => ?_) (fun c2 => ?_)
  ·
   simp at c2
  refine aw_skip ?_
  refine xt_n (hK _ ?_); clear hK K; refine sK fun K hK => ?_; refine sK fun K hK => wR 9 ?_
  refine aops_n hTT (M := []) (n := 1) [pv 17 (V.i 0)] kR kR tI ?_
  refine nK hK ?_; clear hK K
  refine aw_block ?_
  refine w_loop (ι := Nat) (fun k => [(0, V.ints f), (9, .nil), (11, .nil), (17, .i k)]) (fun _ => []) (fun k => k = 0) (fun k => 0) 0 rfl ?_ ?_
  ·
   refine le_ren [] (.cons kR (.cons kR (.cons kR (.cons kR .nil)))) .nil kR kR
  rintro k rfl
  refine sK fun K hK => ?_; refine sK fun K hK => wR 2 ?_
  refine aops_n hTT (M := []) (n := 4) [pv 68 (V.i 0), pv 69 V.nil, pv 70 (V.i 0), pv 71 (V.b false)] kR kR tI ?_
  refine nK hK ?_; clear hK K; refine w_false (t := false) kR rfl ?_
  refine aw_exit ?_
  refine xt_x ?_; refine xt_x ?_
  refine xb_same ?_
  refine xt_n ?_; clear hK K; refine hK _ ?_; clear hK K; refine sK fun K hK => wR 3 ?_
  refine aops_n hTT (M := []) (n := 1) [pv 83 ((yyWSPages2 f))] kR kR tI ?_
  refine eC (CheckFolds_ac f hl) ?_
  refine aops_n hTT (M := []) (n := 1) [pv 85 ((yyWSPages2 f))] kR kR tI ?_
  refine eC (rCheckFolds_ac f hl) ?_
  refine aops_n hTT (M := []) (n := 2) [pv 87 (V.b (decide (chkF f = chkF f))), pv 88 (V.b (decide (chkF f = chkF f)))] kR kR tI ?_
  refine eG 0 (g := decide (chkF f = chkF f) == true) (fun h => sWorks_ac) ?_
  refine aops_n hTT (M := []) (n := 2) [pc 90 ((decide (chkF f = chkF f) = true → (decide (chkF f = chkF f) == true) = true) ∧ True) (V.b (decide (chkF f = chkF f) && true)), pv 8 (V.b (decide (chkF f = chkF f) && true))] kR kR ⟨⟨(by (intro h; rw [h]; rfl)), tI⟩, tI⟩ ?_
  refine nK hK ?_; clear hK K
  refine aw_ret ?_
  rw [show (V.b true) = V.b (decide (chkF f = chkF f) && true) by simp]
  refine rP (V.b (decide (chkF f = chkF f) && true))
def spagesSh : List Sh := [(.sl (.int .i64)), (.int .i64), (.int .i64), .bool]
theorem spages_all (x : TL spagesSh) (hx : wfL spagesSh x) : AC Tryd.prog 3 (valL spagesSh x) (V.b true) [] := by
 obtain ⟨l, a, b, c, _⟩ := x
 obtain ⟨⟨h4, _⟩, _⟩ := hx
 exact pages_law l a b c h4
end Go.Proofs.YtfckkkmacjjmhaaDoor

namespace Go.Proofs.YtfckkkmacjjmhaaDoor
open Go.Ab Go.RowKit Go.Dw Go.Shelf Go.ChangeShapes Go.WideShapes Go.ChangeAt Go.Deep
def growsLaid : List (String × DataW Unit) := [("deadwax/sleeve.grows", Rows.laid_deadwax_sleeve_grows)]
theorem len2 {α : Type} (l : List α) (h : l.length = 2) : ∃ a b, l = [a, b] := by
 match l, h with
 | [a, b], _ => exact ⟨a, b, rfl⟩
theorem len3 {α : Type} (l : List α) (h : l.length = 3) : ∃ a b c, l = [a, b, c] := by
 match l, h with
 | [a, b, c], _ => exact ⟨a, b, c, rfl⟩
theorem len6 {α : Type} (l : List α) (h : l.length = 6) : ∃ a b c d e f, l = [a, b, c, d, e, f] := by
 match l, h with
 | [a, b, c, d, e, f], _ => exact ⟨a, b, c, d, e, f, rfl⟩
set_option maxRecDepth 100000 in
theorem pair_cells {W : World} {sp : Nat → Bool} {held : Bool} {m : Nat} {cs : List Value} {a b : Int} {y : DataW Unit × List MemPlace}
  (h : DataW.trod (fun _ => ()) Tryd.prog W 0 sp held m 112 cs = some y) (e : y.1 = .agg [.lit (.int .i64 a), .lit (.int .i64 b)]) :
  cs = [.int .i64 a, .int .i64 b] := by
 obtain ⟨xs, n, _, rfl, hl, hn, hel⟩ := DataW.trod_array Tryd.underlying112 h
 have c1 : Tryd.prog.cellsOf 3 = 1 := by kernel_rfl
 have c2 : Tryd.prog.cellsOf 112 = 2 := by kernel_rfl
 rw [c2] at hl
 obtain ⟨x, y, rfl⟩ := len2 xs hn
 obtain ⟨c, d, rfl⟩ := len2 cs hl
 obtain ⟨p, e1, e2, _⟩ := DataW.trod_int Tryd.underlying3 (hel 0 (by decide))
 obtain ⟨q, f1, f2, _⟩ := DataW.trod_int Tryd.underlying3 (hel 1 (by decide))
 rw [c1] at e1 f1
 simp only [List.map_cons, List.map_nil, DataW.agg.injEq, List.cons.injEq] at e
 obtain ⟨g1, g2, _⟩ := e
 rw [e2] at g1; rw [f2] at g2
 have h1 : c = .int .i64 p := (List.cons.inj (show [c] = [.int .i64 p] from e1)).1
 have h2 : d = .int .i64 q := (List.cons.inj (show [d] = [.int .i64 q] from f1)).1
 have h3 : p = a := by injection g1 with k; injection k
 have h4 : q = b := by injection g2 with k; injection k
 rw [h1, h2, h3, h4]
set_option maxRecDepth 100000 in
theorem grows_cells {W : World} (h : laidMetH Tryd.prog growsLaid W) (j : Nat) (a : Int) (hj : ([0, 0, 1, 2, 2, 1] : List Int)[j]? = some a) : W.cell? ⟨0, j, none⟩ = some (.int .i64 a) := by
 rw [MakeChecks.laidMetH_plain _ _ _ kR] at h
 obtain ⟨ps, ⟨g, t, cs, fuel, p, q, hg, ht, hv, hd, _, _⟩, _, _⟩ := h
 obtain rfl := Option.some.inj ((show Tryd.prog.globalNamed "deadwax/sleeve.grows" = some 0 by kernel_rfl).symm.trans hg)
 obtain rfl := Option.some.inj ((show (Tryd.prog.globals[0]?).map (·.type) = some 113 by kernel_rfl).symm.trans ht)
 obtain ⟨xs, m, _, ex, hl, hn, hel⟩ := DataW.trod_array Tryd.underlying113 hd
 have c2 : Tryd.prog.cellsOf 112 = 2 := by kernel_rfl
 have c6 : Tryd.prog.cellsOf 113 = 6 := by kernel_rfl
 rw [c6] at hl
 have hw := World.var?_cell hg hv j
 obtain ⟨x, y, z, rfl⟩ := len3 xs hn
 simp only [Prod.mk.injEq, Rows.laid_deadwax_sleeve_grows, List.map_cons, List.map_nil, DataW.agg.injEq, List.cons.injEq] at ex
 obtain ⟨⟨k1, k2, k3, _⟩, _⟩ := ex
 have e1 := pair_cells (hel 0 (by decide)) k1.symm
 have e2 := pair_cells (hel 1 (by decide)) k2.symm
 have e3 := pair_cells (hel 2 (by decide)) k3.symm
 rw [c2] at e1 e2 e3
 obtain ⟨l⟩ := cs
 obtain ⟨a0, a1, a2, a3, a4, a5, rfl⟩ := len6 l hl
 have u1 : [a0, a1] = [.int .i64 0, .int .i64 0] := e1
 have u2 : [a2, a3] = [.int .i64 1, .int .i64 2] := e2
 have u3 : [a4, a5] = [.int .i64 2, .int .i64 1] := e3
 clear e1 e2 e3 hel hd hl hv
 injection u1 with s1 u1; injection u1 with s2; injection u2 with s3 u2; injection u2 with s4; injection u3 with s5 u3; injection u3 with s6
 subst s1 s2 s3 s4 s5 s6
 rw [hw]
 match j, hj with
 | 0, hj => simp at hj; subst hj; rfl
 | 1, hj => simp at hj; subst hj; rfl
 | 2, hj => simp at hj; subst hj; rfl
 | 3, hj => simp at hj; subst hj; rfl
 | 4, hj => simp at hj; subst hj; rfl
 | 5, hj => simp at hj; subst hj; rfl
 | n + 6, hj => simp at hj
theorem gl_of_laid {W : World} (h : laidMetH Tryd.prog growsLaid W) (g : Nat) : R W (fun b => b < W.heap.size) ρ0 (gvals g) (gval g) := by
 by_cases hg : g = 0
 ·
  subst hg
  have h0 : 0 < W.heap.size := by
   have := grows_cells h 0 0 rfl
   unfold World.cell? at this
   split at this
   ·
    rename_i c t fr hb
    exact (Array.getElem?_eq_some_iff.1 hb).1
   ·
    cases this
  refine .ptr _ _ 0 0 (fun j => .int .i64 (([0, 0, 1, 2, 2, 1] : List Int).getD j 0)) h0 (fun j u hu => ⟨?_, rfl⟩) fun j u hu => ?_
  ·
   have hj : ∃ a, ([0, 0, 1, 2, 2, 1] : List Int)[j]? = some a := by
    have : j < 6 := by have := (List.getElem?_eq_some_iff.1 hu).1; simpa using this
    exact ⟨_, List.getElem?_eq_getElem (by simpa using this)⟩
   obtain ⟨a, ha⟩ := hj
   rw [Nat.zero_add, grows_cells h j a ha, List.getD, ha]; rfl
  ·
   match j, hu with
   | 0, hu => simp at hu; subst hu; exact .c _ _
   | 1, hu => simp at hu; subst hu; exact .c _ _
   | 2, hu => simp at hu; subst hu; exact .c _ _
   | 3, hu => simp at hu; subst hu; exact .c _ _
   | 4, hu => simp at hu; subst hu; exact .c _ _
   | 5, hu => simp at hu; subst hu; exact .c _ _
   | n + 6, hu => simp at hu
 ·
  have : gvals g = .any := by simp [gvals, hg]
  rw [this]; exact .any _ _
theorem lay_met (os : Os) (args : Array Value) : laidMetH Tryd.prog growsLaid ((World.laidAll Tryd.prog os growsLaid).forCall (fun _ _ => 0) ⟨#[], args, []⟩).memory := by
 rw [MakeChecks.laidMetH_plain _ _ _ kR]; exact laidMet_laidAll _ kR kR
end Go.Proofs.YtfckkkmacjjmhaaDoor
