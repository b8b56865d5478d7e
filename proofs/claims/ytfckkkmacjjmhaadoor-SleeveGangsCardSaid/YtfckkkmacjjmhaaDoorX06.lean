/-
  Several texts in one: The chapter's examples that all laws use. No condition. .. The listed variable of the sleeve chapter: its cells, out of the condition; the start that meets the condition.
-/
import Derived.Test.YtfckkkmacjjmhaaDoorTie
import Derived.Test.YtfckkkmacjjmhaaDoorCards
import Derived.ProofKit
import Derived.LaidMore
import Derived.Lay
import Derived.OpenShut
import Derived.Stop.Joined
import Derived.SevenTiedAt
import Derived.Test.YtfckkkmacjjmhaaDoorAbs42
import Derived.Test.YtfckkkmacjjmhaaDoorX04
import Derived.Test.YtfckkkmacjjmhaaDoorX05
import Derived.Test.YtfckkkmacjjmhaaDoorSPl10
import Derived.Test.YtfckkkmacjjmhaaDoorMC
namespace Go.Proofs.YtfckkkmacjjmhaaDoor
open Go.Ab Go.RowKit Go.Dw Go.Shelf
def exN : List Pan := [⟨-1, 0, 0, 310, 310⟩, ⟨0, 0, 0, 310, 310⟩, ⟨1, 1, 0, 310, 20⟩]
def exV : V := .sl 5 3 fun i => ([V.i (-1), V.i 0, V.i 0, V.i 310, V.i 310, V.i 0, V.i 0, V.i 0, V.i 310, V.i 310, V.i 1, V.i 1, V.i 0, V.i 310, V.i 20].drop (i * 5)).take 5
abbrev zzSN90 : V := V.sl 5 3 fun (i : Nat) => List.take (5 : Nat) (List.drop (i * 5) [V.i (-1), V.i 0, V.i 0, V.i 310, V.i 310, V.i 0, V.i 0, V.i 0, V.i 310, V.i 310, V.i 1, V.i 1, V.i 0, V.i 310, V.i 20])
set_option maxRecDepth 100000 in
theorem Example_ac : AC Tryd.prog 46 [] exV [] := by
 refine acI hTT hMX Tryd.func46 Tryd.ntmps46 fun C hC hF => ?_
 refine sK fun K hK => wR 2 ?_; refine aX hTT 1 [] tI ?_; refine nK hK ?_; clear hK K; refine sK fun K hK => wR 3 ?_; refine aX hTT 5 [] tI ?_; refine nK hK ?_; clear hK K
 refine aw_ret ?_
 refine rP (zzSN90)
theorem exV_imp : RImp exV (V.pans exN) := RImp.rows rfl fun i hi => by
 match i, hi with
 | 0, _ => rfl
 | 1, _ => rfl
 | 2, _ => rfl
theorem RImp_lit1 (l : List Int) : RImp (.sl 1 l.length fun i => ((l.map V.i).drop (i * 1)).take 1) (V.ints l) := RImp.rows rfl fun i hi => by
 rw [Nat.mul_one, List.drop_eq_getElem_cons (by simpa using hi)]
 simp [gi, List.getD_eq_getElem?_getD, List.getElem?_eq_getElem hi]
theorem ex_net : netE exN = 0 := by decide +kernel
theorem ex_2 : foldR exN 2 = ⟨0, 290, 310, 310, false⟩ := by rfl
theorem ex_page : pageN [1, 2] 0 1 true = 5 ∧ pageE [1, 2] 0 1 true = 0 := by decide +kernel
theorem ex_co : CO [1000, 300] := fun x hx => by simp at hx; omega
theorem ex_run : fewN [1000, 300] 8 = 167 := by
 refine fewN_eq ex_co (by decide) (by decide) ⟨by decide, by decide +kernel, fun s h1 h2 => ?_⟩
 have := plcS_mono ex_co h1 (show s ≤ 166 by omega) 2 (by decide)
 have e : plcS [1000, 300] 166 2 = 9 := by decide +kernel
 show (8 : Int) < plcS [1000, 300] s 2
 omega
theorem ex_runS : runS [1000, 300] 8 = 167 ∧ runE [1000, 300] 8 = 0 := by
 have h : chkC [1000, 300] 8 0 = 0 := by decide +kernel
 obtain ⟨e1, e2, _⟩ := runS_3 h (slots := 8) (by decide)
 exact ⟨by rw [e2, ex_run], e1⟩
set_option maxHeartbeats 2000000 in
set_option maxRecDepth 100000 in
theorem sWorks_ac : AC Tryd.prog 14 [] (.b true) [] := by
 refine acI hTT hMX Tryd.func14 Tryd.ntmps14 fun C hC hF => ?_
 have A1 := Page_ac [1, 2] 0 1 true (by simp)
 rw [ex_page.1, ex_page.2] at A1
 have A2 := Run_ac [1000, 300] 8 (by simp)
 rw [ex_runS.1, ex_runS.2] at A2
 have A3 := Folded_ac exN (by decide)
 rw [ex_net, netN_1 ex_net] at A3
 refine sK fun K hK => wR 2 ?_; refine aX hTT 1 [] tI ?_; refine nK hK ?_; clear hK K; refine sK fun K hK => wR 3 ?_; refine aX hTT 1 [] tI ?_
 refine eC (AC.conv (A1) (args' := [V.sl 1 2 fun (i : Nat) => List.take (1 : Nat) (List.drop (i * 1) [V.i 1, V.i 2]), V.i 0, V.i 1, V.b true]) ⟨?_, RImp.refl _, RImp.refl _, RImp.refl _, trivial⟩) ?_
 ·
  exact RImp_lit1 [1, 2]
 refine aX hTT 5 [] tI ?_; refine nK hK ?_; clear hK K; refine sK fun K hK => wR 4 ?_; refine aX hTT 1 [] tI ?_
 refine eC (AC.conv (A2) (args' := [V.sl 1 2 fun (i : Nat) => List.take (1 : Nat) (List.drop (i * 1) [V.i 1000, V.i 300]), V.i 8]) ⟨?_, RImp.refl _, trivial⟩) ?_
 ·
  exact RImp_lit1 [1000, 300]
 refine aX hTT 7 [] tI ?_; refine nK hK ?_; clear hK K; refine sK fun K hK => wR 5 ?_
 refine eC (Example_ac) ?_
 skip
 refine eC (AC.conv (A3) (args' := [zzSN90]) ⟨?_, trivial⟩) ?_
 ·
  exact exV_imp
 refine aX hTT 5 [] tI ?_; refine nK hK ?_; clear hK K; refine sK fun K hK => wR 6 ?_; refine aX hTT 27 [(2, .i ((0 : Int) + (0 : Int))), (4, .i ((0 : Int) + (0 : Int))), (7, .c (gA (true == true) True)), (8, .c (gD (true == true) True)), (9, .c ((true = true → (true == true) = true) ∧ True)), (11, .c (gA (true == true) True)), (12, .c (gD (true == true) True)), (13, .c ((true = true → (true == true) = true) ∧ True)), (15, .c (gA (true == true) True)), (16, .c (gB (true == true) True)), (17, .c (gD (true == true) True)), (18, .c ((true = true → (true == true) = true) ∧ True)), (20, .c (gA (true == true) True)), (21, .c (gD (true == true) ((0 : Int) ≤ (2 : Int) ∧ (2 : Int) < (↑(3 : Nat) : Int)))), (22, .c (gB (true == true) True)), (23, .c ((True ∧ True ∧ True ∧ True) ∧ ((true == true) = true → True))), (24, .c (gC (true == true) True)), (25, .c ((true = true → (true == true) = true) ∧ True))] ⟨oM, oM, ⟨⟨tI, tI⟩, (fun _ => tI)⟩, ⟨⟨(by (exact fun h => h)), ⟨tI, tI⟩⟩, (fun _ => tI)⟩, ⟨(by (exact fun h => h)), tI⟩, ⟨⟨tI, tI⟩, (fun _ => tI)⟩, ⟨⟨(by (exact fun h => h)), ⟨tI, tI⟩⟩, (fun _ => tI)⟩, ⟨(by (exact fun h => h)), tI⟩, ⟨⟨tI, tI⟩, (fun _ => tI)⟩, ⟨⟨(by (exact fun h => h)), tI⟩, (fun _ => tI)⟩, ⟨⟨(by (exact fun h => h)), ⟨tI, tI⟩⟩, (fun _ => tI)⟩, ⟨(by (exact fun h => h)), tI⟩, ⟨⟨tI, tI⟩, (fun _ => tI)⟩, ⟨⟨(by (exact fun h => h)), ⟨tI, tI⟩⟩, (by (intro _; simp; done))⟩, ⟨⟨(by (exact fun h => h)), tI⟩, (fun _ => tI)⟩, ⟨⟨tI, ⟨tI, ⟨tI, tI⟩⟩⟩, (fun _ => tI)⟩, ⟨⟨(by (exact fun h => h)), ⟨(by (exact fun h => h)), tI⟩⟩, (fun _ => tI)⟩, ⟨(by (exact fun h => h)), tI⟩, tI⟩ ?_; refine nK hK ?_; clear hK K
 refine aw_ret ?_
 refine rP (V.b (Rc.down (foldR exN (2 : Nat)) == false && true))
end Go.Proofs.YtfckkkmacjjmhaaDoor

namespace Go.Proofs.YtfckkkmacjjmhaaDoor
open Go.Ab Go.RowKit Go.Dw Go.Shelf
set_option maxRecDepth 100000 in
theorem sints_ac (l : List Int) (hl : l.length ≤ 4611686018427387904) : AC Tryd.prog 43 [V.ints l, V.ints l] (.b true) [] := by
 refine acI hTT hMX Tryd.func43 Tryd.ntmps43 fun C hC hF => ?_
 refine sK fun K hK => wR 2 ?_; refine aX hTT 1 [] tI ?_; refine nK hK ?_; clear hK K; refine sK fun K hK => ?_; refine sK fun K hK => wR 3 ?_; refine aX hTT 5 [] tI ?_; refine nK hK ?_; clear hK K
 refine w_cond (t := !decide ((↑(List.length l) : Int) = (↑(List.length l) : Int))) kR (fun c1 => ?_) (fun c1 => ?_)
 ·
  simp at c1
 refine aw_skip ?_
 refine xt_n (hK _ ?_); clear hK K; refine sK fun K hK => ?_; refine sK fun K hK => wR 4 ?_; refine aX hTT 1 [] tI ?_; refine nK hK ?_; clear hK K
 refine aw_block ?_
 refine w_loop (ι := Nat) (fun k => [(0, V.ints l), (1, V.ints l), (5, .i k)]) (fun _ => []) (fun k => k ≤ l.length) (fun k => l.length - k) 0 (Nat.zero_le _) ?_ ?_
 ·
  refine le_ren [] (.cons kR (.cons kR (.cons kR .nil))) .nil kR kR
 intro k hk
 refine sK fun K hK => ?_; refine sK fun K hK => wR 2 ?_; refine aX hTT 4 [] tI ?_; refine nK hK ?_; clear hK K
 refine w_cond (t := decide ((↑k : Int) < (↑(List.length l) : Int))) kR (fun c1 => ?_) (fun c1 => ?_)
 ·
  simp at c1
  refine aw_skip ?_
  refine xt_n (hK _ ?_); clear hK K; refine sK fun K hK => ?_
  refine aw_block ?_
  refine sK fun K hK => wD 3 ?_; refine aX hTT 9 [(2, .c ((0 : Int) ≤ (↑k : Int) ∧ (↑k : Int) < (↑(List.length l) : Int))), (6, .c ((0 : Int) ≤ (↑k : Int) ∧ (↑k : Int) < (↑(List.length l) : Int)))] ⟨oM, oM, tI⟩ ?_; refine aops_nil ⟨kR, ?_⟩; refine xt_n (hK _ ?_); clear hK K
  refine w_cond (t := !decide (gi l k = gi l k)) kR (fun c2 => ?_) (fun c2 => ?_)
  ·
   simp at c2
  refine aw_skip ?_
  refine xb_n ?_; refine xt_n (hK _ ?_); clear hK K; refine wR 4 ?_; refine aX hTT 3 [(1, .i ((↑k : Int) + 1))] ⟨oM, tI⟩ ?_; refine aops_nil ?_; refine xt_n ?_
  refine ⟨k + 1, by omega, by refine le_ren [] (.cons kR (.cons kR (.cons kR .nil))) .nil kR kR, by omega⟩
 simp at c1
 obtain rfl : k = l.length := by omega
 refine aw_exit ?_
 refine xt_x ?_; refine xt_x ?_
 refine xb_same ?_
 refine xt_n ?_; clear hK K; refine hK _ ?_; clear hK K; refine sK fun K hK => wR 3 ?_; refine aX hTT 1 [] tI ?_; refine nK hK ?_; clear hK K
 refine aw_ret ?_
 refine rP (V.b true)
abbrev yyWSGangs0 (c : List Int) (slots : Int) (plate : Int) (g : List Int) := (Prod.fst (rcostG c slots plate g) = Prod.fst (rcostG c slots plate g))
abbrev yyWSGangs1 (c : List Int) (slots : Int) (plate : Int) (g : List Int) := (Prod.snd (rcostG c slots plate g) = Prod.snd (rcostG c slots plate g))
abbrev yyWSGangs2 (c : List Int) (slots : Int) (plate : Int) := (Prod.snd (rgangV c slots plate) = Prod.snd (rgangV c slots plate))
set_option maxHeartbeats 2000000 in
set_option maxRecDepth 100000 in
theorem sgangs_law (c : List Int) (slots plate : Int) (g : List Int) (hl : c.length ≤ 4611686018427387904) (hg1 : g.length ≤ 4611686018427387904) : AC Tryd.prog 11 [V.ints c, .i slots, .i plate, V.ints g] (.b true) [] := by
 refine acI hTT hMX Tryd.func11 Tryd.ntmps11 fun C hC hF => ?_
 refine sK fun K hK => wR 2 ?_; refine aX hTT 1 [] tI ?_; refine nK hK ?_; clear hK K; refine sK fun K hK => ?_; refine sK fun K hK => wR 3 ?_; refine aX hTT 18 [(4, .c (gA (decide ((6 : Int) < (↑(List.length c) : Int)) == true) True)), (5, .c (gB (decide ((6 : Int) < (↑(List.length c) : Int)) == true) True)), (6, .c (gD (decide ((6 : Int) < (↑(List.length c) : Int)) == true) True)), (7, .c ((decide ((6 : Int) < (↑(List.length c) : Int)) = true → (decide ((6 : Int) < (↑(List.length c) : Int)) == true) = true) ∧ True)), (9, .c (gA ((decide ((6 : Int) < (↑(List.length c) : Int)) && decide ((↑(List.length c) : Int) ≤ 8)) == false) True)), (10, .c (gB ((decide ((6 : Int) < (↑(List.length c) : Int)) && decide ((↑(List.length c) : Int) ≤ 8)) == false) True)), (11, .c (gD ((decide ((6 : Int) < (↑(List.length c) : Int)) && decide ((↑(List.length c) : Int) ≤ 8)) == false) True)), (12, .c (True ∧ ((decide ((6 : Int) < (↑(List.length c) : Int)) && decide ((↑(List.length c) : Int) ≤ 8)) = false → ((decide ((6 : Int) < (↑(List.length c) : Int)) && decide ((↑(List.length c) : Int) ≤ 8)) == false) = true))), (14, .c (gA ((decide ((6 : Int) < (↑(List.length c) : Int)) && decide ((↑(List.length c) : Int) ≤ 8) || decide ((12 : Int) < (↑(List.length c) : Int))) == false) True)), (15, .c (gB ((decide ((6 : Int) < (↑(List.length c) : Int)) && decide ((↑(List.length c) : Int) ≤ 8) || decide ((12 : Int) < (↑(List.length c) : Int))) == false) True)), (16, .c (gD ((decide ((6 : Int) < (↑(List.length c) : Int)) && decide ((↑(List.length c) : Int) ≤ 8) || decide ((12 : Int) < (↑(List.length c) : Int))) == false) True)), (17, .c (True ∧ ((decide ((6 : Int) < (↑(List.length c) : Int)) && decide ((↑(List.length c) : Int) ≤ 8) || decide ((12 : Int) < (↑(List.length c) : Int))) = false → ((decide ((6 : Int) < (↑(List.length c) : Int)) && decide ((↑(List.length c) : Int) ≤ 8) || decide ((12 : Int) < (↑(List.length c) : Int))) == false) = true)))] ⟨⟨⟨tI, tI⟩, (fun _ => tI)⟩, ⟨⟨(by (exact fun h => h)), tI⟩, (fun _ => tI)⟩, ⟨⟨(by (exact fun h => h)), ⟨tI, tI⟩⟩, (fun _ => tI)⟩, ⟨(by (intro h; rw [h]; rfl)), tI⟩, ⟨⟨tI, tI⟩, (fun _ => tI)⟩, ⟨⟨(by (exact fun h => h)), tI⟩, (fun _ => tI)⟩, ⟨⟨(by (exact fun h => h)), ⟨tI, tI⟩⟩, (fun _ => tI)⟩, ⟨tI, (by (intro h; rw [h]; rfl))⟩, ⟨⟨tI, tI⟩, (fun _ => tI)⟩, ⟨⟨(by (exact fun h => h)), tI⟩, (fun _ => tI)⟩, ⟨⟨(by (exact fun h => h)), ⟨tI, tI⟩⟩, (fun _ => tI)⟩, ⟨tI, (by (intro h; rw [h]; rfl))⟩, tI⟩ ?_; refine nK hK ?_; clear hK K
 refine w_cond (t := decide ((6 : Int) < (↑(List.length c) : Int)) && decide ((↑(List.length c) : Int) ≤ 8) || decide ((12 : Int) < (↑(List.length c) : Int)) || decide ((12 : Int) < (↑(List.length g) : Int))) kR (fun c1 => ?_) (fun c1 => ?_)
 ·
  refine sK fun K hK => ?_
  refine wR 4 ?_
  refine eC (sWorks_ac) ?_
  refine aX hTT 1 [] tI ?_; refine nK hK ?_; clear hK K
  refine aw_ret ?_
  refine xt_r ?_
  refine rP (V.b true)
 have A := sCost_ac c slots plate g hl hg1
 rw [costG_eq] at A
 have B := Gang_ac c slots plate hl
 rw [gangV_eq] at B
 have hn : (rgangV c slots plate).1.length ≤ 4611686018427387904 := by
  have := bestR_len c slots plate c.length [] 0
  unfold rgangV
  split
  ·
   simp
  ·
   simp only [List.length_nil] at this ⊢
   omega
 refine aw_skip ?_
 refine xt_n (hK _ ?_); clear hK K; refine sK fun K hK => wR 4 ?_; refine aX hTT 4 [] tI ?_
 refine eC (A) ?_
 refine aX hTT 5 [] tI ?_; refine nK hK ?_; clear hK K; refine sK fun K hK => wR 5 ?_; refine aX hTT 4 [] tI ?_
 refine eC (rCost_ac c slots plate g hl hg1) ?_
 refine aX hTT 5 [] tI ?_; refine nK hK ?_; clear hK K; refine sK fun K hK => wR 6 ?_; refine aX hTT 3 [] tI ?_
 refine eC (B) ?_
 refine aX hTT 7 [] tI ?_; refine nK hK ?_; clear hK K; refine sK fun K hK => wR 7 ?_; refine aX hTT 3 [] tI ?_
 refine eC (rGang_ac c slots plate hl) ?_
 refine aX hTT 7 [] tI ?_; refine nK hK ?_; clear hK K; refine sK fun K hK => wR 8 ?_; refine aX hTT 11 [(4, .c (gA (decide (yyWSGangs0 c slots plate g) == true) True)), (5, .c (gA (decide (yyWSGangs0 c slots plate g) == true) True)), (6, .c (gC (decide (yyWSGangs0 c slots plate g) == true) True)), (7, .c ((decide (yyWSGangs0 c slots plate g) = true → (decide (yyWSGangs0 c slots plate g) == true) = true) ∧ True)), (9, .c (gA ((decide (yyWSGangs0 c slots plate g) && decide (yyWSGangs1 c slots plate g)) == true) True)), (10, .c (gA ((decide (yyWSGangs0 c slots plate g) && decide (yyWSGangs1 c slots plate g)) == true) True))] ⟨⟨⟨tI, tI⟩, (fun _ => tI)⟩, ⟨⟨tI, tI⟩, (fun _ => tI)⟩, ⟨⟨(by (exact fun h => h)), ⟨(by (exact fun h => h)), tI⟩⟩, (fun _ => tI)⟩, ⟨(by (intro h; rw [h]; rfl)), tI⟩, ⟨⟨tI, tI⟩, (fun _ => tI)⟩, ⟨⟨tI, tI⟩, (fun _ => tI)⟩, tI⟩ ?_
 refine eG 2 (g := (decide (yyWSGangs0 c slots plate g) && decide (yyWSGangs1 c slots plate g)) == true) (fun h => sints_ac (rgangV c slots plate).1 hn) ?_
 refine aX hTT 12 [(0, .c (((decide (yyWSGangs0 c slots plate g) && decide (yyWSGangs1 c slots plate g)) = true → ((decide (yyWSGangs0 c slots plate g) && decide (yyWSGangs1 c slots plate g)) == true) = true) ∧ True)), (2, .c (gA ((decide (yyWSGangs0 c slots plate g) && decide (yyWSGangs1 c slots plate g) && true) == true) True)), (3, .c (gA ((decide (yyWSGangs0 c slots plate g) && decide (yyWSGangs1 c slots plate g) && true) == true) True)), (4, .c (gC ((decide (yyWSGangs0 c slots plate g) && decide (yyWSGangs1 c slots plate g) && true) == true) True)), (5, .c (((decide (yyWSGangs0 c slots plate g) && decide (yyWSGangs1 c slots plate g) && true) = true → ((decide (yyWSGangs0 c slots plate g) && decide (yyWSGangs1 c slots plate g) && true) == true) = true) ∧ True)), (7, .c (gA ((decide (yyWSGangs0 c slots plate g) && decide (yyWSGangs1 c slots plate g) && true && decide (yyWSGangs2 c slots plate)) == true) True)), (8, .c (gA ((decide (yyWSGangs0 c slots plate g) && decide (yyWSGangs1 c slots plate g) && true && decide (yyWSGangs2 c slots plate)) == true) True)), (9, .c (gC ((decide (yyWSGangs0 c slots plate g) && decide (yyWSGangs1 c slots plate g) && true && decide (yyWSGangs2 c slots plate)) == true) True)), (10, .c (((decide (yyWSGangs0 c slots plate g) && decide (yyWSGangs1 c slots plate g) && true && decide (yyWSGangs2 c slots plate)) = true → ((decide (yyWSGangs0 c slots plate g) && decide (yyWSGangs1 c slots plate g) && true && decide (yyWSGangs2 c slots plate)) == true) = true) ∧ True))] ⟨⟨(by (intro h; rw [h]; rfl)), tI⟩, ⟨⟨tI, tI⟩, (fun _ => tI)⟩, ⟨⟨tI, tI⟩, (fun _ => tI)⟩, ⟨⟨(by (exact fun h => h)), ⟨(by (exact fun h => h)), tI⟩⟩, (fun _ => tI)⟩, ⟨(by (intro h; rw [h]; rfl)), tI⟩, ⟨⟨tI, tI⟩, (fun _ => tI)⟩, ⟨⟨tI, tI⟩, (fun _ => tI)⟩, ⟨⟨(by (exact fun h => h)), ⟨(by (exact fun h => h)), tI⟩⟩, (fun _ => tI)⟩, ⟨(by (intro h; rw [h]; rfl)), tI⟩, tI⟩ ?_
 refine eG 0 (g := (decide (yyWSGangs0 c slots plate g) && decide (yyWSGangs1 c slots plate g) && true && decide (yyWSGangs2 c slots plate) && decide (chkC c slots plate = chkC c slots plate)) == true) (fun h => sWorks_ac) ?_
 refine aX hTT 2 [(0, .c (((decide (yyWSGangs0 c slots plate g) && decide (yyWSGangs1 c slots plate g) && true && decide (yyWSGangs2 c slots plate) && decide (chkC c slots plate = chkC c slots plate)) = true → ((decide (yyWSGangs0 c slots plate g) && decide (yyWSGangs1 c slots plate g) && true && decide (yyWSGangs2 c slots plate) && decide (chkC c slots plate = chkC c slots plate)) == true) = true) ∧ True))] ⟨⟨(by (intro h; rw [h]; rfl)), tI⟩, tI⟩ ?_; refine nK hK ?_; clear hK K
 refine aw_ret ?_
 refine ret_pure (v' := V.b (decide (yyWSGangs0 c slots plate g) && decide (yyWSGangs1 c slots plate g) && true && decide (yyWSGangs2 c slots plate) && decide (chkC c slots plate = chkC c slots plate) && true)) (.inr rfl) kR ?_ kR
 simp
def sgangsSh : List Sh := [(.sl (.int .i64)), (.int .i64), (.int .i64), (.sl (.int .i64))]
theorem sgangs_all (x : TL sgangsSh) (hx : wfL sgangsSh x) : AC Tryd.prog 11 (valL sgangsSh x) (V.b true) [] := by
 obtain ⟨l, a, b, g, _⟩ := x
 obtain ⟨⟨h4, _⟩, _, _, ⟨h5, _⟩, _⟩ := hx
 exact sgangs_law l a b g h4 h5
end Go.Proofs.YtfckkkmacjjmhaaDoor

namespace Go.Proofs.YtfckkkmacjjmhaaDoor
open Go.Ab Go.RowKit Go.Dw Go.Shelf Go.ChangeShapes Go.WideShapes Go.ChangeAt Go.Deep
def growsLaid : List (String × DataW Unit) := [("deadwax/sleeve.grows", Rows.laid_deadwax_sleeve_grows)]
theorem len2 {α : Type} (l : List α) (h : l.length = 2) : ∃ a b, l = [a, b] := by
 match l, h with
 | [a, b], _ => exact ⟨a, b, rfl⟩
theorem len3 {α : Type} (l : List α) (h : l.length = 3) : ∃ a b c, l = [a, b, c] := by
 match l, h with
 | [a, b, c], _ => exact ⟨a, b, c, rfl⟩
theorem len6 {α : Type} (l : List α) (h : l.length = 6) : ∃ a b c d e f, l = [a, b, c, d, e, f] := by
 match l, h with
 | [a, b, c, d, e, f], _ => exact ⟨a, b, c, d, e, f, rfl⟩
set_option maxRecDepth 100000 in
theorem pair_cells {W : World} {sp : Nat → Bool} {held : Bool} {m : Nat} {cs : List Value} {a b : Int} {y : DataW Unit × List MemPlace}
  (h : DataW.trod (fun _ => ()) Tryd.prog W 0 sp held m 112 cs = some y) (e : y.1 = .agg [.lit (.int .i64 a), .lit (.int .i64 b)]) :
  cs = [.int .i64 a, .int .i64 b] := by
 obtain ⟨xs, n, _, rfl, hl, hn, hel⟩ := DataW.trod_array Tryd.underlying112 h
 have c1 : Tryd.prog.cellsOf 3 = 1 := by kernel_rfl
 have c2 : Tryd.prog.cellsOf 112 = 2 := by kernel_rfl
 rw [c2] at hl
 obtain ⟨x, y, rfl⟩ := len2 xs hn
 obtain ⟨c, d, rfl⟩ := len2 cs hl
 obtain ⟨p, e1, e2, _⟩ := DataW.trod_int Tryd.underlying3 (hel 0 (by decide))
 obtain ⟨q, f1, f2, _⟩ := DataW.trod_int Tryd.underlying3 (hel 1 (by decide))
 rw [c1] at e1 f1
 simp only [List.map_cons, List.map_nil, DataW.agg.injEq, List.cons.injEq] at e
 obtain ⟨g1, g2, _⟩ := e
 rw [e2] at g1; rw [f2] at g2
 have h1 : c = .int .i64 p := (List.cons.inj (show [c] = [.int .i64 p] from e1)).1
 have h2 : d = .int .i64 q := (List.cons.inj (show [d] = [.int .i64 q] from f1)).1
 have h3 : p = a := by injection g1 with k; injection k
 have h4 : q = b := by injection g2 with k; injection k
 rw [h1, h2, h3, h4]
set_option maxRecDepth 100000 in
theorem grows_cells {W : World} (h : laidMetH Tryd.prog growsLaid W) (j : Nat) (a : Int) (hj : ([0, 0, 1, 2, 2, 1] : List Int)[j]? = some a) : W.cell? ⟨0, j, none⟩ = some (.int .i64 a) := by
 rw [MakeChecks.laidMetH_plain _ _ _ kR] at h
 obtain ⟨ps, ⟨g, t, cs, fuel, p, q, hg, ht, hv, hd, _, _⟩, _, _⟩ := h
 obtain rfl := Option.some.inj ((show Tryd.prog.globalNamed "deadwax/sleeve.grows" = some 0 by kernel_rfl).symm.trans hg)
 obtain rfl := Option.some.inj ((show (Tryd.prog.globals[0]?).map (·.type) = some 113 by kernel_rfl).symm.trans ht)
 obtain ⟨xs, m, _, ex, hl, hn, hel⟩ := DataW.trod_array Tryd.underlying113 hd
 have c2 : Tryd.prog.cellsOf 112 = 2 := by kernel_rfl
 have c6 : Tryd.prog.cellsOf 113 = 6 := by kernel_rfl
 rw [c6] at hl
 have hw := World.var?_cell hg hv j
 obtain ⟨x, y, z, rfl⟩ := len3 xs hn
 simp only [Prod.mk.injEq, Rows.laid_deadwax_sleeve_grows, List.map_cons, List.map_nil, DataW.agg.injEq, List.cons.injEq] at ex
 obtain ⟨⟨k1, k2, k3, _⟩, _⟩ := ex
 have e1 := pair_cells (hel 0 (by decide)) k1.symm
 have e2 := pair_cells (hel 1 (by decide)) k2.symm
 have e3 := pair_cells (hel 2 (by decide)) k3.symm
 rw [c2] at e1 e2 e3
 obtain ⟨l⟩ := cs
 obtain ⟨a0, a1, a2, a3, a4, a5, rfl⟩ := len6 l hl
 have u1 : [a0, a1] = [.int .i64 0, .int .i64 0] := e1
 have u2 : [a2, a3] = [.int .i64 1, .int .i64 2] := e2
 have u3 : [a4, a5] = [.int .i64 2, .int .i64 1] := e3
 clear e1 e2 e3 hel hd hl hv
 injection u1 with s1 u1; injection u1 with s2; injection u2 with s3 u2; injection u2 with s4; injection u3 with s5 u3; injection u3 with s6
 subst s1 s2 s3 s4 s5 s6
 rw [hw]
 match j, hj with
 | 0, hj => simp at hj; subst hj; rfl
 | 1, hj => simp at hj; subst hj; rfl
 | 2, hj => simp at hj; subst hj; rfl
 | 3, hj => simp at hj; subst hj; rfl
 | 4, hj => simp at hj; subst hj; rfl
 | 5, hj => simp at hj; subst hj; rfl
 | n + 6, hj => simp at hj
theorem gl_of_laid {W : World} (h : laidMetH Tryd.prog growsLaid W) (g : Nat) : R W (fun b => b < W.heap.size) ρ0 (gvals g) (gval g) := by
 by_cases hg : g = 0
 ·
  subst hg
  have h0 : 0 < W.heap.size := by
   have := grows_cells h 0 0 rfl
   unfold World.cell? at this
   split at this
   ·
    rename_i c t fr hb
    exact (Array.getElem?_eq_some_iff.1 hb).1
   ·
    cases this
  refine .ptr _ _ 0 0 (fun j => .int .i64 (([0, 0, 1, 2, 2, 1] : List Int).getD j 0)) h0 (fun j u hu => ⟨?_, rfl⟩) fun j u hu => ?_
  ·
   have hj : ∃ a, ([0, 0, 1, 2, 2, 1] : List Int)[j]? = some a := by
    have : j < 6 := by have := (List.getElem?_eq_some_iff.1 hu).1; simpa using this
    exact ⟨_, List.getElem?_eq_getElem (by simpa using this)⟩
   obtain ⟨a, ha⟩ := hj
   rw [Nat.zero_add, grows_cells h j a ha, List.getD, ha]; rfl
  ·
   match j, hu with
   | 0, hu => simp at hu; subst hu; exact .c _ _
   | 1, hu => simp at hu; subst hu; exact .c _ _
   | 2, hu => simp at hu; subst hu; exact .c _ _
   | 3, hu => simp at hu; subst hu; exact .c _ _
   | 4, hu => simp at hu; subst hu; exact .c _ _
   | 5, hu => simp at hu; subst hu; exact .c _ _
   | n + 6, hu => simp at hu
 ·
  have : gvals g = .any := by simp [gvals, hg]
  rw [this]; exact .any _ _
theorem lay_met (os : Os) (args : Array Value) : laidMetH Tryd.prog growsLaid ((World.laidAll Tryd.prog os growsLaid).forCall (fun _ _ => 0) ⟨#[], args, []⟩).memory := by
 rw [MakeChecks.laidMetH_plain _ _ _ kR]; exact laidMet_laidAll _ kR kR
end Go.Proofs.YtfckkkmacjjmhaaDoor
