/-
  Several texts in one: Grooves of the top's laws, and how much of one fits: the walks of the program. Conditions: told in each theorem. .. The listed variables of the top: they are never read; the start that meets the condition.
-/
import Derived.Test.YtpmchnojeloohaaGreatDoorTie
import Derived.Test.YtpmchnojeloohaaGreatDoorCards
import Derived.ProofKit
import Derived.LaidMore
import Derived.Lay
import Derived.OpenShut
import Derived.Stop.Joined
import Derived.SevenTiedAt
import Derived.Test.YtpmchnojeloohaaGreatDoorAbs42
import Derived.Test.YtpmchnojeloohaaGreatDoorX11
import Derived.Test.YtpmchnojeloohaaGreatDoorX05
import Derived.Test.YtpmchnojeloohaaGreatDoorX06
import Derived.Test.YtpmchnojeloohaaGreatDoorX01
import Derived.Test.YtpmchnojeloohaaGreatDoorX09
import Derived.Test.YtpmchnojeloohaaGreatDoorX08
import Derived.Test.YtpmchnojeloohaaGreatDoorMC
namespace Go.Proofs.YtpmchnojeloohaaGreatDoor
open Go.Ab Go.RowKit Go.Dw Go.Shelf
theorem SOk.take {b : Bl} {l : List Pt} (h : SOk b l) (k : Nat) : SOk b (l.take k) := by
 refine ⟨h.b0, gChk_ok.2 ⟨?_, fun j hj => ?_⟩⟩
 ·
  have := h.len
  rw [List.length_take]; omega
 ·
  rw [List.length_take] at hj
  have : gp (l.take k) j = gp l j := by
   simp [gp, List.getD_eq_getElem?_getD, List.getElem?_take, show j < k by omega]
  rw [this]
  exact (gChk_ok.1 h.l0).2 j oM
end Go.Proofs.YtpmchnojeloohaaGreatDoor

namespace Go.Proofs.YtpmchnojeloohaaGreatDoor
open Go.Ab Go.RowKit Go.Dw Go.Shelf
theorem gp_takeB {l : List Pt} {k v : Nat} (h : v < k) : gp (l.take k) v = gp l v := by simp [gp, List.getD_eq_getElem?_getD, List.getElem?_take, h]
theorem LCut.take {b : Bl} {l : List Pt} {g : Nat → Int} {k k' : Nat} (hk : k ≤ k') (h : LCut b (l.take k') g) : LCut b (l.take k) g := by
 refine ⟨fun v hv => ?_, fun v hv => ?_⟩
 ·
  rw [List.length_take] at hv
  have := h.1 v (by rw [List.length_take]; omega)
  rw [gp_takeB (show v < k' by omega)] at this
  rw [gp_takeB (show v < k by omega)]
  refine ⟨this.1, this.2.1, fun hp => ?_⟩
  have := this.2.2 hp
  rw [gp_takeB (show v - b.per.toNat < k' by omega)] at this
  rw [gp_takeB (show v - b.per.toNat < k by omega)]
  exact this
 ·
  rw [List.length_take] at hv
  have := h.2 v (by rw [List.length_take]; omega)
  rw [gp_takeB (show v < k' by omega)] at this
  rw [gp_takeB (show v < k by omega)]
  exact this
def Narrower (l m : List Pt) : Prop := m.length = l.length ∧ ∀ v, v < l.length → (gp l v).1 ≤ (gp m v).1 ∧ (gp m v).2 ≤ (gp l v).2
theorem Narrower.cut {b : Bl} {l m : List Pt} {g : Nat → Int} (hn : Narrower l m) (h : LCut b l g) : LCut b m g :=
 ⟨h.1.anti hn.1 (fun v hv => (hn.2 v hv).1) fun v hv => (hn.2 v hv).2, fun v hv => by
  have := h.2 v (by rw [← hn.1]; exact hv)
  have := (hn.2 v (by rw [← hn.1]; exact hv)).1
  omega⟩
theorem Narrower.take {l m : List Pt} (hn : Narrower l m) (k : Nat) : Narrower (l.take k) (m.take k) := by
 refine ⟨by rw [List.length_take, List.length_take, hn.1], fun v hv => ?_⟩
 rw [List.length_take] at hv
 rw [gp_takeB oM, gp_takeB oM]
 exact hn.2 v oM
theorem wall_gChk {c : Cut} {q : List Pt} (hc : cutE c = 0) (hs : sChk q = 0) : gChk (q.map (wallP c)) = 0 := by
 obtain ⟨h1, h2⟩ := sChk_ok.1 hs
 refine gChk_ok.2 ⟨by simpa using h1, fun k hk => ?_⟩
 rw [List.length_map] at hk
 rw [gp_map hk]
 exact wallP_gE hc (h2 k hk)
end Go.Proofs.YtpmchnojeloohaaGreatDoor

namespace Go.Proofs.YtpmchnojeloohaaGreatDoor
open Go.Ab Go.RowKit Go.Dw Go.Shelf
def w3K : List (FuncId × List V × V) := [(11, [evCut, evR2 [(0, 0), (100, 100), (0, 0)]], .tup [evQ2 evPt, .i 0]), (56, [evCut, evQ2 evPt, .i 1000], .tup [.i 31831, .i 0]), (57, [.agg [evR1 [64], evR1 [128], .i 256], evR1 [100, 0, 0, -3]], .tup [evQ1 [100, 75, 37, 15], .i 0]), (10, [evTks, evPrt], .tup [evQ2 [(5, -5), (2, 0)], .i 0])]
theorem w3_ok : OrcOk2 Tryz.prog w3K := orc2_cons ev_Cut rfl rfl (orc2_cons ev_L rfl rfl (orc2_cons ev_Ap rfl rfl (orc2_cons ev_Ren rfl rfl orc2_nil)))
set_option maxRecDepth 100000 in
theorem works03_ac : AC Tryz.prog 24 [] (.b true) [] := AM.ac (cAMO (O := orc2 w3K) hTT hMX [] [] (fun _ => orc2_ok w3_ok) kR kR) (by decide)
end Go.Proofs.YtpmchnojeloohaaGreatDoor

namespace Go.Proofs.YtpmchnojeloohaaGreatDoor
open Go.Ab Go.RowKit Go.Dw Go.Shelf
def w4K : List (FuncId × List V × V) := [(74, [evFmt [1000, 400, 10, 20, 10, 30, 5], evTrk 3 [95, 20, 500, 30, 40, 800, 41, 10, 0]], .tup [evQ1 [1, 0, 2], .i 0]), (23, [evFmt [1000, 400, 10, 20, 10, 30, 5], .agg [.i 95, .i 20, .i 500]], .tup [.i 200, .i 0]), (24, [], .b true)]
theorem w4_ok : OrcOk2 Tryz.prog w4K := orc2_cons ev_Arr rfl rfl (orc2_cons ev_Wid rfl rfl (orc2_cons works03_ac rfl rfl orc2_nil))
set_option maxRecDepth 100000 in
theorem works04_ac : AC Tryz.prog 37 [] (.b true) [] := AM.ac (cAMO (O := orc2 w4K) hTT hMX [] [] (fun _ => orc2_ok w4_ok) kR kR) (by decide)
end Go.Proofs.YtpmchnojeloohaaGreatDoor

namespace Go.Proofs.YtpmchnojeloohaaGreatDoor
open Go.Ab Go.RowKit Go.Dw Go.Shelf
def w6L : List Pt := [(-100, 100), (-100, 90), (-95, 100)]
theorem w6R : AC Tryz.prog 17 [.agg [V.ints [0, 2, 10]], V.pts w6L] (.tup [V.pts [(-100, 92), (-97, 90), (-95, 92)], .i 0]) [] := by
 have A := Read_ac [0, 2, 10] w6L (by decide) (by decide)
 rw [show wallsR [0, 2, 10] w6L = [(-100, 92), (-97, 90), (-95, 92)] by decide +kernel, show checkBoth [0, 2, 10] w6L = 0 by decide +kernel] at A
 exact A
theorem w6B : AC Tryz.prog 36 [V.pts w6L] (.tup [.agg [.i 0, .i 25], .i 0]) [] := by
 have A := Balance_ac w6L (by decide)
 rw [show balArm w6L = (0, 25) by decide +kernel, show checkPts w6L = 0 by decide +kernel] at A
 exact A
theorem w6_lt {i : Nat} (h : i < 3) : i = 0 ∨ i = 1 ∨ i = 2 := by omega
def w6T : List V := [.agg [evR1 [0, 2, 10]], evR2 w6L]
def w6V : V := .tup [V.pts [(-100, 92), (-97, 90), (-95, 92)], .i 0]
theorem w6_read : AC Tryz.prog 17 w6T w6V [] := w6R.conv ⟨RImp.aggs ⟨RImp.rows rfl fun i hi => by rcases w6_lt hi with rfl | rfl | rfl <;> rfl, trivial⟩, RImp.rows rfl fun i hi => by rcases w6_lt hi with rfl | rfl | rfl <;> rfl, trivial⟩
theorem w6_bal : AC Tryz.prog 36 [evR2 w6L] (.tup [.agg [.i 0, .i 25], .i 0]) [] := w6B.conv ⟨RImp.rows rfl fun i hi => by rcases w6_lt hi with rfl | rfl | rfl <;> rfl, trivial⟩
def w6K : List (FuncId × List V × V) := [(17, w6T, w6V), (36, [evR2 w6L], .tup [.agg [.i 0, .i 25], .i 0]), (37, [], .b true)]
theorem w6_ok : OrcOk2 Tryz.prog w6K := orc2_cons w6_read rfl rfl (orc2_cons w6_bal rfl rfl (orc2_cons works04_ac rfl rfl orc2_nil))
set_option maxRecDepth 100000 in
theorem works06_ac : AC Tryz.prog 13 [] (.b true) [] := AM.ac (cAMO (O := orc2 w6K) hTT hMX [] [] (fun _ => orc2_ok w6_ok) kR kR) (by decide)
end Go.Proofs.YtpmchnojeloohaaGreatDoor

namespace Go.Proofs.YtpmchnojeloohaaGreatDoor
open Go.Ab Go.RowKit Go.Dw Go.Shelf
abbrev takeS : Sh := .fld .str (.lst (.sl (.fld (.int .i64) (.lst (.int .i64)))))
abbrev partS : Sh := .fld (.int .i64) (.fld (.int .i64) (.fld (.int .i64) (.fld (.int .i64) (.fld (.int .i64) (.fld (.int .i64) (.lst (.int .i64)))))))
theorem wtk_of {l : List Tk} (h : Sh.wf (.sl takeS) l) : WTk l := by
 obtain ⟨h1, h2⟩ := h
 refine ⟨h1, fun i hi => ?_, fun i hi => ?_, fun i hi k hk => ?_⟩
 ·
  obtain ⟨h3, _⟩ := h2 _ (gtk_mem hi)
  exact Nat.le_trans h3 (by decide)
 ·
  obtain ⟨_, h4, _⟩ := h2 _ (gtk_mem hi)
  exact h4
 ·
  obtain ⟨_, _, h5⟩ := h2 _ (gtk_mem hi)
  obtain ⟨q1, q2⟩ := h5 (gp (gtk l i).2 k) (by
   rw [gp, List.getD_eq_getElem?_getD, List.getElem?_eq_getElem hk]
   exact List.getElem_mem _)
  have q1 := wf_i64 q1
  have q2 := wf_i64 q2
  exact ⟨by simp only [inR]; omega, by simp only [inR]; omega⟩
end Go.Proofs.YtpmchnojeloohaaGreatDoor

namespace Go.Proofs.YtpmchnojeloohaaGreatDoor
open Go.Ab Go.RowKit Go.Dw Go.Shelf
theorem eFWNeedle {x c : Bool} (h : x = c) : (x == c) = true := by rw [h]; cases c <;> rfl
theorem sChk_allN {l : List Pt} (h : sChk l = 0) : l.length ≤ 4096 ∧ ∀ x ∈ l, sE x = true := by
 unfold sChk at h
 split at h
 ·
  omega
 ·
  split at h
  ·
   rename_i h2
   exact ⟨by omega, fun x hx => List.all_eq_true.1 h2 x hx⟩
  ·
   omega
theorem gChk_checkPtsN {l : List Pt} (h : gChk l = 0) : checkPts l = 0 := by
 obtain ⟨h1, h2⟩ := gChk_ok.1 h
 have h3 : l.all edgeB = true := all_gp.2 fun k hk => by
  have := gE_iff.1 (h2 k hk)
  exact (edgeB_iff _).2 ⟨this.1.1, this.1.2, this.2.1, this.2.2⟩
 rw [checkPts, if_neg oM, if_pos h3]
theorem roundE_63 {r a : Int} (h0 : 0 ≤ r) (h1 : r ≤ 63) (h2 : 1 ≤ a) (h3 : a ≤ 256) : roundE r a = 0 := by
 have : r.tdiv a ≤ 63 := by
  rw [Int.tdiv_eq_ediv_of_nonneg h0]
  have := Int.ediv_le_self a h0
  omega
 rw [roundE, if_neg oM, if_neg]
 unfold eltN
 omega
theorem told_backN {c : Cut} {s : Pt} (hc : cutE c = 0) (hs : sE s = true) (hgn : 1000 ≤ c.gain) : AC Tryz.prog 19 [c.v, .agg [.i (wallP c s).1, .i (wallP c s).2]] (.tup [.agg [.i s.1, .i s.2], .i 0]) [] := by
 obtain ⟨P, Q, hb⟩ := bOk_ex c (wallP c s)
 obtain ⟨t, hv, _, _, _, _, ts⟩ := back_of_wall hc hs hb
 have B2 := Back_ac c (wallP c s) P Q hb
 rw [hv, ts hgn] at B2
 exact B2
abbrev yyWNeedle0 (a : List Pt) : V := V.sl 2 (List.length a) fun (k : Nat) => [V.i (Prod.fst (gp a k)), V.i (Prod.snd (gp a k))]
set_option maxRecDepth 100000 in
theorem pointsN_ac (a b : List Pt) (hl : a.length = b.length) (ha : a.length ≤ 4611686018427387904) : AC Tryz.prog 18 [V.pts a, V.pts b] (.b (decide (a = b))) [] := by
 refine acI hTT hMX Tryz.func18 Tryz.ntmps18 fun C hC hF => ?_
 refine sX hTT 2 1 [] tI (sK fun K hK => sX hTT 3 5 [] tI ?_)
 refine w_cond (t := !decide ((↑(List.length a) : Int) = (↑(List.length b) : Int))) kR (fun c0 => ?_) (fun c0 => ?_)
 ·
  simp at c0
  omega
 refine aw_skip ?_
 refine xt_n (hK _ ?_); clear hK K; refine sK fun K hK => sX hTT 4 1 [] tI ?_
 refine aw_block ?_
 refine w_loop (ι := Nat) (fun k => [(0, V.pts a), (1, V.pts b), (5, .i k)]) (fun _ => []) (fun k => k ≤ a.length ∧ ∀ j, j < k → gp a j = gp b j) (fun k => a.length - k) 0 ⟨Nat.zero_le _, fun j hj => by omega⟩ ?_ ?_
 ·
  refine le_ren [] (.cons kR (.cons kR (.cons kR .nil))) .nil kR kR
 rintro k ⟨hk, hj⟩
 refine sK fun K hK => sX hTT 2 4 [] tI ?_
 refine w_cond (t := decide ((↑k : Int) < (↑(List.length a) : Int))) kR (fun c1 => ?_) (fun c1 => ?_)
 ·
  have hk1 : k < a.length := by simpa using c1
  refine aw_skip ?_
  refine xt_n (hK _ ?_); clear hK K; refine sK fun K hK => ?_
  refine aw_block ?_
  refine sK fun K hK => wD 3 (aX hTT 9 [(2, .c ((0 : Int) ≤ (↑k : Int) ∧ (↑k : Int) < (↑(List.length a) : Int))), (6, .c ((0 : Int) ≤ (↑k : Int) ∧ (↑k : Int) < (↑(List.length b) : Int)))] ⟨oM, oM, tI⟩ (aops_nil ⟨kR, (xt_n (hK _ ?_))⟩)); clear hK K
  refine w_cond (t := !(decide (Prod.fst (gp a k) = Prod.fst (gp b k)) && (decide (Prod.snd (gp a k) = Prod.snd (gp b k)) && true))) kR (fun c2 => ?_) (fun c2 => ?_)
  ·
   have e : decide (a = b) = false := decide_eq_false fun h => by subst h; simp at c2
   refine sX hTT 4 1 [] tI ?_
   refine aw_ret ?_
   refine xb_r ?_
   refine xt_r (xt_r ?_)
   refine xb_r ?_
   refine xt_r ?_
   rw [e]
   refine rP (V.b false)
  ·
   have e : gp a k = gp b k := by simp at c2; exact Prod.ext c2.1 c2.2
   refine aw_skip ?_
   refine xb_n (xt_n (hK _ ?_)); clear hK K; refine wR 4 (aX hTT 3 [(1, .i ((↑k : Int) + 1))] ⟨oM, tI⟩ (aops_nil (xt_n ?_)))
   refine ⟨k + 1, ⟨by omega, fun j hj2 => ?_⟩, by refine le_ren [] (.cons kR (.cons kR (.cons kR .nil))) .nil kR kR, by omega⟩
   by_cases e2 : j = k
   ·
    rw [e2]; exact e
   ·
    exact hj j oM
 ·
  have e : decide (a = b) = true := decide_eq_true (list_ext_gp hl fun j h => hj j (by simp at c1; omega))
  refine aw_exit ?_
  refine xt_x ?_; refine xt_x ?_
  refine xb_same ?_
  refine xt_n ?_; clear hK K; refine hK _ ?_; clear hK K; refine sX hTT 3 1 [] tI ?_
  refine aw_ret ?_
  rw [e]
  refine rP (V.b true)
abbrev yyWNeedle1 (l : List Pt) : V := V.sl 2 (List.length l) fun (k : Nat) => [V.i (Prod.fst (gp l k)), V.i (Prod.snd (gp l k))]
set_option maxRecDepth 100000 in
theorem samplesN_ac (l : List Pt) (hl : l.length ≤ 4611686018427387904) : AC Tryz.prog 14 [V.pts l, V.pts l] (.b true) [] := by
 refine acI hTT hMX Tryz.func14 Tryz.ntmps14 fun C hC hF => ?_
 refine sX hTT 2 1 [] tI (sK fun K hK => sX hTT 3 5 [] tI ?_)
 refine w_cond (t := !decide ((↑(List.length l) : Int) = (↑(List.length l) : Int))) kR (fun c0 => ?_) (fun c0 => ?_)
 ·
  simp at c0
 refine aw_skip ?_
 refine xt_n (hK _ ?_); clear hK K; refine sK fun K hK => sX hTT 4 1 [] tI ?_
 refine aw_block ?_
 refine w_loop (ι := Nat) (fun k => [(0, V.pts l), (1, V.pts l), (5, .i k)]) (fun _ => []) (fun k => k ≤ l.length) (fun k => l.length - k) 0 (Nat.zero_le _) ?_ ?_
 ·
  refine le_ren [] (.cons kR (.cons kR (.cons kR .nil))) .nil kR kR
 intro k hk
 refine sK fun K hK => sX hTT 2 4 [] tI ?_
 refine w_cond (t := decide ((↑k : Int) < (↑(List.length l) : Int))) kR (fun c1 => ?_) (fun c1 => ?_)
 ·
  have hk1 : k < l.length := by simpa using c1
  refine aw_skip ?_
  refine xt_n (hK _ ?_); clear hK K; refine sK fun K hK => ?_
  refine aw_block ?_
  refine sK fun K hK => wD 3 (aX hTT 9 [(2, .c ((0 : Int) ≤ (↑k : Int) ∧ (↑k : Int) < (↑(List.length l) : Int))), (6, .c ((0 : Int) ≤ (↑k : Int) ∧ (↑k : Int) < (↑(List.length l) : Int)))] ⟨oM, oM, tI⟩ (aops_nil ⟨kR, (xt_n (hK _ ?_))⟩)); clear hK K
  refine w_cond (t := !(decide (Prod.fst (gp l k) = Prod.fst (gp l k)) && (decide (Prod.snd (gp l k) = Prod.snd (gp l k)) && true))) kR (fun c2 => ?_) (fun c2 => ?_)
  ·
   simp at c2
  refine aw_skip ?_
  refine xb_n (xt_n (hK _ ?_)); clear hK K; refine wR 4 (aX hTT 3 [(1, .i ((↑k : Int) + 1))] ⟨oM, tI⟩ (aops_nil (xt_n ?_)))
  refine ⟨k + 1, by omega, by refine le_ren [] (.cons kR (.cons kR (.cons kR .nil))) .nil kR kR, by omega⟩
 ·
  refine aw_exit ?_
  refine xt_x ?_; refine xt_x ?_
  refine xb_same ?_
  refine xt_n ?_; clear hK K; refine hK _ ?_; clear hK K; refine sX hTT 3 1 [] tI ?_
  refine aw_ret ?_
  refine rP (V.b true)
theorem ReadN_ok (t : List Int) (l : List Pt) (ht : t.length ≤ 4611686018427387904) (hl : l.length ≤ 4611686018427387904) (h : checkBoth t l = 0) : AC Tryz.prog 17 [.agg [V.ints t], V.pts l] (.tup [V.pts (readP t l), .i 0]) [] := by
 have := Read_ac t l ht hl
 rwa [wallsR_eq h, h] at this
theorem sChk_inN {s : List Pt} (h : sChk s = 0) : ∀ k, k < s.length → sE (gp s k) = true := fun k hk => (sChk_allN h).2 (gp s k) (by
 rw [gp, List.getD_eq_getElem?_getD, List.getElem?_eq_getElem hk]
 exact List.getElem_mem _)
abbrev yyWNeedle4 (c : Cut) : List V := [V.i (Cut.half c), V.i (Cut.gain c), V.i (Cut.thin c), V.i (Cut.wide c), V.i (Cut.slope c), V.i (Cut.jerk c), V.i (Cut.sty c)]
abbrev yyWNeedle2 (c : Cut) : V := V.ptr (yyWNeedle4 c)
abbrev yyWNeedle3 (c : Cut) : V := V.agg (yyWNeedle4 c)
abbrev yyWNeedle5 (c : Cut) : V := V.ptr [V.i (Cut.gain c), V.i (Cut.thin c), V.i (Cut.wide c), V.i (Cut.slope c), V.i (Cut.jerk c), V.i (Cut.sty c)]
abbrev yyWNeedle6 := ((false == false) = true → (false == false) = true)
abbrev yyWNeedle7 := ((true == false) = true → (true == false) = true)
abbrev wleB0 (r : Int) : Bool := decide (r < 0) == false
abbrev wleB1 (s : List Pt) : Bool := decide ((60 : Int) < (↑(List.length s) : Int)) == false
abbrev wleB2 (c : Cut) (s : List Pt) : Bool := decide ((60 : Int) < (↑(List.length s) : Int)) || !decide (cutE c = 0)
set_option maxHeartbeats 4000000 in
set_option maxRecDepth 100000 in
theorem needle_law (l : List Tk) (p : List Pr) (c : Cut) (arc most : Int) (h : WTk l) (hp : p.length ≤ 4611686018427387904) (ha : 0 ≤ arc ∧ arc ≤ 255) (hm : 0 ≤ most ∧ most ≤ 255) : AC Tryz.prog 4 [V.tks l, V.prs p, c.v, .c (.int .u8 arc), .c (.int .u8 most)] (.b true) [] := by
 refine acI hTT hMX Tryz.func4 Tryz.ntmps4 fun C hC hF => ?_
 by_cases hpg : p.length ≤ 6 ∧ cpE l p = 0 ∧ enN p p.length ≤ 200 ∧ rnE l p = 0
 ·
  obtain ⟨g1, g2, g3, g4⟩ := hpg
  have hk := cpE_ok g2
  have hlen := rndL_len (l := l) (p := p)
  have hnn := hk.nn (Nat.le_refl p.length)
  have hs : sChk (rndL l p) = 0 := by
   unfold rnE at g4
   split at g4
   ·
    assumption
   ·
    omega
  have R := Render_ac l p hk
  rw [if_pos g4] at R
  refine sX hTT 2 2 [] tI (sK fun K hK => wR 3 (aX hTT 2 [] tI ?_))
  refine eC (programme_ok l p h g1 g2 g3 g4) ?_
  obtain ⟨s, hsd⟩ : ∃ s, s = rndL l p := ⟨_, rfl⟩
  rw [← hsd] at hlen hs R ⊢
  refine aX hTT 5 [] tI (nK hK ?_); clear hK K; refine sK fun K hK => sK fun K hK => wR 4 ?_; refine aX hTT 9 [(3, .c (gA (false == false) True)), (4, .c ((yyWNeedle6 ∧ True) ∧ ((false == false) = true → True))), (5, .c ((yyWNeedle6 ∧ True ∧ True) ∧ ((false == false) = true → True))), (6, .c (True ∧ (false = false → (false == false) = true))), (8, .c (gA (wleB1 s) True))] ⟨⟨⟨tI, tI⟩, (fun _ => tI)⟩, ⟨⟨(by (exact fun h => h)), tI⟩, (fun _ => tI)⟩, ⟨⟨(by (exact fun h => h)), ⟨tI, tI⟩⟩, (fun _ => tI)⟩, ⟨tI, eFWNeedle⟩, ⟨⟨tI, tI⟩, (fun _ => tI)⟩, tI⟩ ?_
  refine eG 1 (g := decide ((60 : Int) < (↑(List.length s) : Int)) == false) (fun g => refCheck_ac c) ?_
  refine aX hTT 7 [(0, .c (gD (wleB1 s) True)), (1, .c (True ∧ (decide ((60 : Int) < (↑(List.length s) : Int)) = false → (wleB1 s) = true))), (3, .c (gA ((wleB2 c s) == false) True)), (4, .c (gB ((wleB2 c s) == false) True)), (5, .c (gD ((wleB2 c s) == false) True)), (6, .c (True ∧ ((wleB2 c s) = false → ((wleB2 c s) == false) = true)))] ⟨⟨⟨(by (exact fun h => h)), ⟨tI, tI⟩⟩, (fun _ => tI)⟩, ⟨tI, eFWNeedle⟩, ⟨⟨tI, tI⟩, (fun _ => tI)⟩, ⟨⟨(by (exact fun h => h)), tI⟩, (fun _ => tI)⟩, ⟨⟨(by (exact fun h => h)), ⟨tI, tI⟩⟩, (fun _ => tI)⟩, ⟨tI, eFWNeedle⟩, tI⟩ ?_; refine nK hK ?_; clear hK K
  refine w_cond (t := decide ((60 : Int) < (↑(List.length s) : Int)) || !decide (cutE c = 0) || decide (Cut.gain c < 1000)) kR (fun c1 => ?_) (fun c1 => ?_)
  ·
   refine sK fun K hK => wR 5 ?_
   refine eC (works06_ac) ?_
   refine aX hTT 1 [] tI (nK hK ?_); clear hK K
   refine aw_ret ?_
   refine xt_r ?_
   refine rP (V.b true)
  have hcc : s.length ≤ 60 ∧ cutE c = 0 ∧ 1000 ≤ c.gain := by simp at c1; omega
  obtain ⟨s60, hc1, hgn⟩ := hcc
  have Cu := Cut_ac c s oM
  rw [cutR_3 hc1 hs] at Cu
  refine aw_skip ?_
  refine xt_n (hK _ ?_); clear hK K; refine sK fun K hK => wR 5 (aX hTT 2 [] tI ?_)
  refine eC (R) ?_
  refine aX hTT 5 [] tI (nK hK ?_); clear hK K; refine sK fun K hK => wR 6 (aX hTT 2 [] tI ?_)
  refine eC (Cu) ?_
  have hgw : ∀ k, k < s.length → gp (s.map (wallP c)) k = wallP c (gp s k) := fun k hk => gp_map hk
  have hlg : (s.map (wallP c)).length = s.length := by simp
  have hgc := gChk_checkPtsN (wall_gChk (q := s) hc1 hs)
  generalize s.map (wallP c) = w at hgw hlg hgc ⊢
  refine aX hTT 5 [] tI (nK hK ?_); clear hK K; refine sK fun K hK => sK fun K hK => wR 7 ?_; refine aX hTT 9 [(3, .c (gA (false == false) True)), (4, .c ((yyWNeedle6 ∧ True ∧ True) ∧ ((false == false) = true → True))), (5, .c (True ∧ (false = false → (false == false) = true))), (7, .c (gA (false == false) True)), (8, .c (gA (false == false) True))] ⟨⟨⟨tI, tI⟩, (fun _ => tI)⟩, ⟨⟨(by (exact fun h => h)), ⟨tI, tI⟩⟩, (fun _ => tI)⟩, ⟨tI, eFWNeedle⟩, ⟨⟨tI, tI⟩, (fun _ => tI)⟩, ⟨⟨tI, tI⟩, (fun _ => tI)⟩, tI⟩ ?_
  refine eG 2 (g := false == false) (fun g => samplesN_ac s oM) ?_
  refine aops_n hTT (M := []) (n := 9) [pc 71 ((yyWNeedle6 ∧ True) ∧ ((false == false) = true → True)) (V.gd (false == false) (V.b false)), pc 72 (True ∧ (false = false → (false == false) = true)) (V.b false), pv 73 (V.b false), pc 74 ((True ∧ True) ∧ ((false == false) = true → True)) (V.gd (false == false) (V.sl 2 (List.length w) fun (k : Nat) => [V.i (Prod.fst (gp w k)), V.i (Prod.snd (gp w k))])), pc 75 ((yyWNeedle6 ∧ True) ∧ ((false == false) = true → True)) (V.gd (false == false) (V.i (↑(List.length w) : Int))), pc 76 ((True ∧ True) ∧ ((false == false) = true → True)) (V.gd (false == false) (V.sl 2 (List.length s) fun (k : Nat) => [V.i (Prod.fst (gp s k)), V.i (Prod.snd (gp s k))])), pc 77 ((yyWNeedle6 ∧ True) ∧ ((false == false) = true → True)) (V.gd (false == false) (V.i (↑(List.length s) : Int))), pc 78 ((yyWNeedle6 ∧ yyWNeedle6 ∧ True) ∧ ((false == false) = true → True)) (V.gd (false == false) (V.b !decide ((↑(List.length w) : Int) = (↑(List.length s) : Int)))), pc 79 (True ∧ (false = false → (false == false) = true)) (V.b !decide ((↑(List.length w) : Int) = (↑(List.length s) : Int)))] kR kR ⟨⟨⟨(by (exact fun h => h)), tI⟩, (fun _ => tI)⟩, ⟨tI, eFWNeedle⟩, ⟨⟨tI, tI⟩, (fun _ => tI)⟩, ⟨⟨(by (exact fun h => h)), tI⟩, (fun _ => tI)⟩, ⟨⟨tI, tI⟩, (fun _ => tI)⟩, ⟨⟨(by (exact fun h => h)), tI⟩, (fun _ => tI)⟩, ⟨⟨(by (exact fun h => h)), ⟨(by (exact fun h => h)), tI⟩⟩, (fun _ => tI)⟩, ⟨tI, eFWNeedle⟩, tI⟩ ?_
  refine nK hK ?_; clear hK K
  refine w_cond (t := !decide ((↑(List.length w) : Int) = (↑(List.length s) : Int))) kR (fun c2 => ?_) (fun c2 => ?_)
  ·
   simp [hlg] at c2
  obtain ⟨a, hA⟩ : ∃ a, a = 1 + arc := ⟨_, rfl⟩
  have ha2 : 1 ≤ a ∧ a ≤ 256 := by omega
  have hm2 : 0 ≤ most.tmod 64 ∧ most.tmod 64 ≤ 63 := by rw [Int.tmod_eq_emod_of_nonneg hm.1]; omega
  obtain ⟨m, hM⟩ : ∃ m, m = most.tmod 64 := ⟨_, rfl⟩
  rw [← hM] at hm2
  have hrm := roundE_63 hm2.1 hm2.2 ha2.1 ha2.2
  have G := Greatest_ac w a m oM
  obtain ⟨q1, q2⟩ := great_3 hgc hrm
  rw [q1, q2] at G
  obtain ⟨b1, b2, b3, b4⟩ := best_spec w ha2.1 m.toNat
  obtain ⟨r, hR⟩ : ∃ r, r = best w a m.toNat := ⟨_, rfl⟩
  rw [← hR] at G b1 b2 b3 b4
  have b2 : r ≤ m := by omega
  have hr0 := roundE_63 b1 oM ha2.1 ha2.2
  have hb0 : checkBoth (eltL r a false) w = 0 := checkBoth_of (checkTip_round hr0) hgc
  have hl0 : (eltL r a false).length ≤ 64 := by
   rw [eltL_len]
   unfold roundE at hr0
   split at hr0
   ·
    omega
   ·
    split at hr0 <;> omega
  have X := ReadN_ok (eltL r a false) w oM oM hb0
  have hx : missP (eltL r a false) w = none := by
   rcases missI_tag2 (eltL r a false) w with ⟨h1, _⟩ | ⟨_, h2⟩
   ·
    exact h1
   ·
    rw [exactB, h2] at b3
    simp at b3
  rw [(exact_none hx).1] at X
  refine aw_skip ?_
  refine xt_n (hK _ ?_); clear hK K; refine sK fun K hK => wR 8 ?_
  refine aops_n hTT (M := []) (n := 8) [pv 80 (V.c (Value.int IntKind.u8 arc)), pc 81 ((-9223372036854775808 : Int) ≤ arc ∧ arc ≤ 9223372036854775807) (V.i arc), pc 82 ((-9223372036854775808 : Int) ≤ (1 : Int) + arc ∧ (1 : Int) + arc ≤ 9223372036854775807) (V.i ((1 : Int) + arc)), pv 83 (V.c (Value.int IntKind.u8 most)), pc 84 ((-9223372036854775808 : Int) ≤ most ∧ most ≤ 9223372036854775807) (V.i most), pc 85 ((64 : Int) ≠ (0 : Int)) (V.i (Int.tmod most (64 : Int))), pv 17 (V.i ((1 : Int) + arc)), pv 18 (V.i (Int.tmod most (64 : Int)))] kR kR ⟨oM, oM, oM, oM, tI⟩ ?_
  refine nK hK ?_; clear hK K; refine sK fun K hK => wR 9 ?_
  refine aops_n hTT (M := []) (n := 3) [pv 87 (V.sl 2 (List.length w) fun (k : Nat) => [V.i (Prod.fst (gp w k)), V.i (Prod.snd (gp w k))]), pv 88 (V.i ((1 : Int) + arc)), pv 89 (V.i (Int.tmod most (64 : Int)))] kR kR tI ?_
  rw [← hA, ← hM]
  refine eC (G) ?_
  refine aX hTT 5 [] tI (nK hK ?_); clear hK K; refine sK fun K hK => sK fun K hK => wR 10 ?_
  refine aops_n hTT (M := []) (n := 11) [pv 93 (V.i 0), pv 94 (V.b false), pv 95 (V.b false), pc 96 ((True ∧ True) ∧ ((false == false) = true → True)) (V.gd (false == false) (V.i r)), pc 97 ((yyWNeedle6 ∧ True ∧ True) ∧ ((false == false) = true → True)) (V.gd (false == false) (V.b (decide (r < 0)))), pc 98 (True ∧ (false = false → (false == false) = true)) (V.b (decide (r < 0))), pv 99 (V.b (decide (r < 0))), pc 100 ((True ∧ True) ∧ ((wleB0 r) = true → True)) (V.gd (wleB0 r) (V.i r)), pc 101 ((True ∧ True) ∧ ((wleB0 r) = true → True)) (V.gd (wleB0 r) (V.i m)), pc 102 ((((wleB0 r) = true → (wleB0 r) = true) ∧ ((wleB0 r) = true → (wleB0 r) = true) ∧ True) ∧ ((wleB0 r) = true → True)) (V.gd (wleB0 r) (V.b (decide (m < r)))), pc 103 (True ∧ (decide (r < 0) = false → (wleB0 r) = true)) (V.b (decide (r < 0) || decide (m < r)))] kR kR ⟨⟨⟨tI, tI⟩, (fun _ => tI)⟩, ⟨⟨(by (exact fun h => h)), ⟨tI, tI⟩⟩, (fun _ => tI)⟩, ⟨tI, eFWNeedle⟩, ⟨⟨tI, tI⟩, (fun _ => tI)⟩, ⟨⟨tI, tI⟩, (fun _ => tI)⟩, ⟨⟨(by (exact fun h => h)), ⟨(by (exact fun h => h)), tI⟩⟩, (fun _ => tI)⟩, ⟨tI, eFWNeedle⟩, tI⟩ ?_
  refine nK hK ?_; clear hK K
  refine w_cond (t := decide (r < 0) || decide (m < r)) kR (fun c3 => ?_) (fun c3 => ?_)
  ·
   simp at c3
   omega
  refine aw_skip ?_
  refine xt_n (hK _ ?_); clear hK K; refine sK fun K hK => wR 11 ?_
  refine aops_n hTT (M := []) (n := 2) [pv 105 (V.i r), pv 106 (V.i a)] kR kR tI ?_
  refine eC (Round_ok r a false hr0) ?_
  refine aops_n hTT (M := []) (n := 6) [pv 104 (V.tup [V.agg [V.sl 1 (List.length (eltL r a false)) fun (k : Nat) => [V.i (gi (eltL r a false) k)]], V.i 0]), pv 108 (V.agg [V.sl 1 (List.length (eltL r a false)) fun (k : Nat) => [V.i (gi (eltL r a false) k)]]), pv 109 (V.i 0), pn 20 (V.ref 1000020 0) (1000020 : Nat) (Ob.box 51 [V.nil]), pw ((0 : Nat) + (1 : Nat) ≤ (1 : Nat)) (1000020 : Nat) (Ob.box 51 [V.sl 1 (List.length (eltL r a false)) fun (k : Nat) => [V.i (gi (eltL r a false) k)]]), pv 14 (V.i 0)] kR kR ⟨oM, tI⟩ ?_
  refine nK hK ?_; clear hK K; refine sK fun K hK => wR 12 ?_
  refine aops_n hTT (M := []) (n := 2) [pc 111 ((0 : Nat) ≤ (1 : Nat)) (V.agg [V.sl 1 (List.length (eltL r a false)) fun (k : Nat) => [V.i (gi (eltL r a false) k)]]), pv 112 (V.sl 2 (List.length w) fun (k : Nat) => [V.i (Prod.fst (gp w k)), V.i (Prod.snd (gp w k))])] kR kR ⟨oM, tI⟩ ?_
  refine eC (X) ?_
  refine aops_n hTT (M := []) (n := 5) [pv 110 (V.tup [V.sl 2 (List.length w) fun (k : Nat) => [V.i (Prod.fst (gp w k)), V.i (Prod.snd (gp w k))], V.i 0]), pv 114 (V.sl 2 (List.length w) fun (k : Nat) => [V.i (Prod.fst (gp w k)), V.i (Prod.snd (gp w k))]), pv 115 (V.i 0), pv 21 (V.sl 2 (List.length w) fun (k : Nat) => [V.i (Prod.fst (gp w k)), V.i (Prod.snd (gp w k))]), pv 16 (V.i 0)] kR kR tI ?_
  refine nK hK ?_; clear hK K; refine sK fun K hK => sK fun K hK => wR 13 ?_
  refine aops_n hTT (M := []) (n := 9) [pv 116 (V.i 0), pv 117 (V.b false), pv 118 (V.b false), pc 119 ((True ∧ True) ∧ ((false == false) = true → True)) (V.gd (false == false) (V.i 0)), pc 120 ((yyWNeedle6 ∧ True ∧ True) ∧ ((false == false) = true → True)) (V.gd (false == false) (V.b false)), pc 121 (True ∧ (false = false → (false == false) = true)) (V.b false), pv 122 (V.b false), pc 123 ((True ∧ True) ∧ ((false == false) = true → True)) (V.gd (false == false) (V.sl 2 (List.length w) fun (k : Nat) => [V.i (Prod.fst (gp w k)), V.i (Prod.snd (gp w k))])), pc 124 ((True ∧ True) ∧ ((false == false) = true → True)) (V.gd (false == false) (V.sl 2 (List.length w) fun (k : Nat) => [V.i (Prod.fst (gp w k)), V.i (Prod.snd (gp w k))]))] kR kR ⟨⟨⟨tI, tI⟩, (fun _ => tI)⟩, ⟨⟨(by (exact fun h => h)), ⟨tI, tI⟩⟩, (fun _ => tI)⟩, ⟨tI, eFWNeedle⟩, ⟨⟨tI, tI⟩, (fun _ => tI)⟩, ⟨⟨tI, tI⟩, (fun _ => tI)⟩, tI⟩ ?_
  refine eG 2 (g := false == false) (fun g => pointsN_ac w w rfl oM) ?_
  rw [decide_eq_true (rfl : w = w)]
  refine aX hTT 2 [(0, .c ((yyWNeedle6 ∧ True) ∧ ((false == false) = true → True))), (1, .c (True ∧ (false = false → (false == false) = true)))] ⟨⟨⟨(by (exact fun h => h)), tI⟩, (fun _ => tI)⟩, ⟨tI, eFWNeedle⟩, tI⟩ ?_; refine nK hK ?_; clear hK K; refine w_false (t := false) kR rfl ?_
  refine aw_skip ?_
  refine xt_n (hK _ ?_); clear hK K; refine sK fun K hK => sX hTT 14 1 [] tI ?_
  refine aw_block ?_
  refine w_loop (ι := Nat) (fun i => [(7, .ptr [.i c.half, .i c.gain, .i c.thin, .i c.wide, .i c.slope, .i c.jerk, .i c.sty]), (13, V.pts s), (15, V.pts w), (17, .i a), (18, .i m), (19, .i r), (20, .ref 1 0), (21, V.pts w), (22, .i i)]) (fun _ => [(1, .box 51 [V.ints (eltL r a false)])]) (fun i => i ≤ w.length) (fun i => w.length - i) 0 (Nat.zero_le _) ?_ ?_
  ·
   refine le_ren (sl := [(1, Ob.box 51 [V.sl 1 (List.length (eltL r a false)) fun (k : Nat) => [V.i (gi (eltL r a false) k)]])]) [(1, 1000020)] (.cons kR (.cons kR (.cons kR (.cons kR (.cons kR (.cons kR (.cons kR (.cons kR (.cons kR .nil))))))))) (.cons ⟨Ob.box 51 [V.sl 1 (List.length (eltL r a false)) fun (k : Nat) => [V.i (gi (eltL r a false) k)]], kR, .box kR⟩ .nil) kR kR
  intro i hi
  refine sK fun K hK => sX hTT 2 4 [] tI ?_
  refine w_cond (t := decide ((↑i : Int) < (↑(List.length w) : Int))) kR (fun c4 => ?_) (fun c4 => ?_)
  ·
   have hi1 : i < w.length := by simpa using c4
   have B := told_backN (c := c) hc1 (sChk_inN hs i oM) hgn
   rw [← hgw i oM] at B
   refine aw_skip ?_
   refine xt_n (hK _ ?_); clear hK K; refine sK fun K hK => ?_
   refine aw_block ?_
   refine sK fun K hK => wD 3 (aX hTT 5 [(3, .c ((0 : Int) ≤ (↑i : Int) ∧ (↑i : Int) < (↑(List.length w) : Int)))] ⟨oM, tI⟩ ?_)
   refine eC (B) ?_
   refine aX hTT 6 [(3, .r (pn 23 (V.ref 200023 0) (200023 : Nat) (Ob.box 57 [V.i 0, V.i 0]))), (4, .r (pw ((0 : Nat) + (2 : Nat) ≤ (2 : Nat)) (200023 : Nat) (Ob.box 57 [V.i (Prod.fst (gp s i)), V.i (Prod.snd (gp s i))])))] ⟨oM, tI⟩ (aops_nil ⟨kR, (xt_n (hK _ ?_))⟩); clear hK K; refine sK fun K hK => wD 4 ?_; refine aX hTT 10 [(3, .c (gA (false == false) ((0 : Nat) ≤ (2 : Nat)))), (4, .c (gA (false == false) True)), (5, .c (gA (false == false) True)), (6, .c ((yyWNeedle6 ∧ yyWNeedle6 ∧ True) ∧ ((false == false) = true → (0 : Int) ≤ (↑i : Int) ∧ (↑i : Int) < (↑(List.length s) : Int)))), (7, .c ((yyWNeedle6 ∧ True) ∧ ((false == false) = true → True))), (8, .c ((yyWNeedle6 ∧ yyWNeedle6 ∧ True) ∧ ((false == false) = true → True))), (9, .c (True ∧ (false = false → (false == false) = true)))] ⟨⟨⟨tI, tI⟩, (by (intro _; simp; done))⟩, ⟨⟨tI, tI⟩, (fun _ => tI)⟩, ⟨⟨tI, tI⟩, (fun _ => tI)⟩, ⟨⟨(by (exact fun h => h)), ⟨(by (exact fun h => h)), tI⟩⟩, (by (intro hg; simp at hg; omega))⟩, ⟨⟨(by (exact fun h => h)), tI⟩, (fun _ => tI)⟩, ⟨⟨(by (exact fun h => h)), ⟨(by (exact fun h => h)), tI⟩⟩, (fun _ => tI)⟩, ⟨tI, eFWNeedle⟩, tI⟩ ?_; refine aops_nil ⟨kR, (xt_n (hK _ ?_))⟩; clear hK K
   refine w_cond (t := !(decide (Prod.fst (gp s i) = Prod.fst (gp s i)) && (decide (Prod.snd (gp s i) = Prod.snd (gp s i)) && true))) kR (fun c5 => ?_) (fun c5 => ?_)
   ·
    simp at c5
   refine aw_skip ?_
   refine xb_n (xt_n (hK _ ?_)); clear hK K; refine wR 5 (aX hTT 3 [(1, .i ((↑i : Int) + 1))] ⟨oM, tI⟩ (aops_nil (xt_n ?_)))
   refine ⟨i + 1, by omega, by refine le_ren (sl := [(1, Ob.box 51 [V.sl 1 (List.length (eltL r a false)) fun (k : Nat) => [V.i (gi (eltL r a false) k)]])]) [(1, 1)] (.cons kR (.cons kR (.cons kR (.cons kR (.cons kR (.cons kR (.cons kR (.cons kR (.cons kR .nil))))))))) (.cons ⟨Ob.box 51 [V.sl 1 (List.length (eltL r a false)) fun (k : Nat) => [V.i (gi (eltL r a false) k)]], kR, .box kR⟩ .nil) kR kR, by omega⟩
  refine aw_exit ?_
  refine xt_x ?_; refine xt_x ?_
  refine xb_same ?_
  refine xt_n ?_; clear hK K; refine hK _ ?_; clear hK K; refine sK fun K hK => sX hTT 3 3 [] tI ?_
  refine w_cond (t := decide (r = m)) kR (fun c5 => ?_) (fun c5 => ?_)
  ·
   refine sK fun K hK => wR 4 ?_
   refine eC (works06_ac) ?_
   refine aX hTT 1 [] tI (nK hK ?_); clear hK K
   refine aw_ret ?_
   refine xt_r ?_
   refine rP (V.b true)
  have hrm2 : r + 1 ≤ m := by simp at c5; omega
  have hr1 := roundE_63 (r := r + 1) oM oM ha2.1 ha2.2
  have hb1 : checkBoth (eltL (r + 1) a false) w = 0 := checkBoth_of (checkTip_round hr1) hgc
  have hl1 : (eltL (r + 1) a false).length ≤ 64 := by
   rw [eltL_len]
   unfold roundE at hr1
   split at hr1
   ·
    omega
   ·
    split at hr1 <;> omega
  have X1 := ReadN_ok (eltL (r + 1) a false) w oM oM hb1
  have hne : readP (eltL (r + 1) a false) w ≠ w := by
   have h5 := b4 (r + 1) oM oM
   rcases missI_tag2 (eltL (r + 1) a false) w with ⟨_, h2⟩ | ⟨h1, _⟩
   ·
    rw [exactB, h2] at h5
    simp at h5
   ·
    cases h6 : missP (eltL (r + 1) a false) w with
    | none => exact absurd h6 h1
    | some z =>
     have h7 := (exact_some h6).2.2.2.1
     intro e
     rw [e] at h7
     exact h7 rfl
  have hrl : (readP (eltL (r + 1) a false) w).length = w.length := readP_length _ _
  refine aw_skip ?_
  refine xt_n (hK _ ?_); clear hK K; refine sK fun K hK => wR 4 (aX hTT 3 [(1, .i (r + 1))] ⟨oM, tI⟩ ?_)
  refine eC (Round_ok (r + 1) a false hr1) ?_
  refine aX hTT 5 [(3, .r (pw ((0 : Nat) + (1 : Nat) ≤ (1 : Nat)) (1 : Nat) (Ob.box 51 [V.sl 1 (List.length (eltL (r + 1) a false)) fun (k : Nat) => [V.i (gi (eltL (r + 1) a false) k)]])))] ⟨oM, tI⟩ (nK hK ?_); clear hK K; refine sK fun K hK => wR 5 (aX hTT 2 [(0, .c ((0 : Nat) ≤ (1 : Nat)))] ⟨oM, tI⟩ ?_)
  refine eC (X1) ?_
  refine aX hTT 5 [] tI (nK hK ?_); clear hK K; refine sK fun K hK => wR 6 ?_; refine aX hTT 9 [(3, .c (gA (true == true) True)), (4, .c (gD (true == true) True)), (5, .c ((true = true → (true == true) = true) ∧ True)), (7, .c (gA (true == true) True)), (8, .c (gA (true == true) True))] ⟨⟨⟨tI, tI⟩, (fun _ => tI)⟩, ⟨⟨(by (exact fun h => h)), ⟨tI, tI⟩⟩, (fun _ => tI)⟩, ⟨(by (exact fun h => h)), tI⟩, ⟨⟨tI, tI⟩, (fun _ => tI)⟩, ⟨⟨tI, tI⟩, (fun _ => tI)⟩, tI⟩ ?_
  refine eG 2 (g := true == true) (fun g => pointsN_ac _ w hrl oM) ?_
  rw [decide_eq_false hne]
  refine aX hTT 3 [(0, .c (gB (true == true) True)), (1, .c ((true = true → (true == true) = true) ∧ True))] ⟨⟨⟨(by (exact fun h => h)), tI⟩, (fun _ => tI)⟩, ⟨(by (exact fun h => h)), tI⟩, tI⟩ ?_
  refine eG 0 (g := true == true) (fun g => works06_ac) ?_
  refine aX hTT 2 [(0, .c ((true = true → (true == true) = true) ∧ True))] ⟨⟨(by (exact fun h => h)), tI⟩, tI⟩ ?_; refine nK hK ?_; clear hK K
  refine aw_ret ?_
  refine rP (V.b true)
 ·
  refine sX hTT 2 2 [] tI (sK fun K hK => wR 3 (aX hTT 2 [] tI ?_))
  refine eC (programme_no l p h hp hpg) ?_
  refine aX hTT 5 [] tI (nK hK ?_); clear hK K; refine sK fun K hK => sK fun K hK => wR 4 ?_; refine aX hTT 9 [(3, .c (gA (true == false) True)), (4, .c ((yyWNeedle7 ∧ True) ∧ ((true == false) = true → True))), (5, .c ((yyWNeedle7 ∧ True ∧ True) ∧ ((true == false) = true → True))), (6, .c (True ∧ (true = false → (true == false) = true))), (8, .c (gA (true == false) True))] ⟨⟨⟨tI, tI⟩, (fun _ => tI)⟩, ⟨⟨(by (exact fun h => h)), tI⟩, (fun _ => tI)⟩, ⟨⟨(by (exact fun h => h)), ⟨tI, tI⟩⟩, (fun _ => tI)⟩, ⟨tI, (by (intro h; simp at h; done))⟩, ⟨⟨tI, tI⟩, (fun _ => tI)⟩, tI⟩ ?_
  refine eG 1 (g := true == false) (fun g => refCheck_ac c) ?_
  refine aX hTT 7 [(0, .c ((yyWNeedle7 ∧ True ∧ True) ∧ ((true == false) = true → True))), (1, .c (True ∧ (true = false → (true == false) = true))), (3, .c (gA (true == false) True)), (4, .c ((yyWNeedle7 ∧ True) ∧ ((true == false) = true → True))), (5, .c ((yyWNeedle7 ∧ True ∧ True) ∧ ((true == false) = true → True))), (6, .c (True ∧ (true = false → (true == false) = true)))] ⟨⟨⟨(by (exact fun h => h)), ⟨tI, tI⟩⟩, (fun _ => tI)⟩, ⟨tI, (by (intro h; simp at h; done))⟩, ⟨⟨tI, tI⟩, (fun _ => tI)⟩, ⟨⟨(by (exact fun h => h)), tI⟩, (fun _ => tI)⟩, ⟨⟨(by (exact fun h => h)), ⟨tI, tI⟩⟩, (fun _ => tI)⟩, ⟨tI, (by (intro h; simp at h; done))⟩, tI⟩ ?_; refine nK hK ?_; clear hK K; refine w_true (t := true) kR rfl (sK fun K hK => wR 5 ?_)
  refine eC (works06_ac) ?_
  refine aX hTT 1 [] tI (nK hK ?_); clear hK K
  refine aw_ret ?_
  refine xt_r ?_
  refine rP (V.b true)
def needleSh : List Sh := [(.sl takeS), (.sl partS), (.fld (.int .i64) (.fld (.int .i64) (.fld (.int .i64) (.fld (.int .i64) (.fld (.int .i64) (.fld (.int .i64) (.lst (.int .i64)))))))), (.int .u8), (.int .u8)]
theorem needle_all (x : TL needleSh) (hx : wfL needleSh x) : AC Tryz.prog 4 (valL needleSh x) (V.b true) [] := by
 obtain ⟨l, p, ⟨h, g, th, wi, sl, je, sty⟩, a, m, _⟩ := x
 obtain ⟨hl, ⟨hp, _⟩, _, ha, hm, _⟩ := hx
 exact needle_law l p ⟨h, g, th, wi, sl, je, sty⟩ a m (wtk_of hl) hp (wf_u8 ha) (wf_u8 hm)
end Go.Proofs.YtpmchnojeloohaaGreatDoor

namespace Go.Proofs.YtpmchnojeloohaaGreatDoor
open Go.Ab Go.RowKit Go.Dw Go.Shelf Go.ChangeShapes Go.WideShapes Go.ChangeAt Go.Deep
def growsLaid : List (String × DataW Unit) := [("unicode/utf8.acceptRanges", Rows.laid_unicode_utf8_acceptRanges), ("unicode/utf8.first", Rows.laid_unicode_utf8_first)]
theorem gl_of_laid {W : World} (h : laidMetH Tryz.prog growsLaid W) (g : Nat) : R W (fun b => b < W.heap.size) ρ0 (gvals g) (gval g) := .any _ _
theorem lay_met (os : Os) (args : Array Value) : laidMetH Tryz.prog growsLaid ((World.laidAll Tryz.prog os growsLaid).forCall (fun _ _ => 0) ⟨#[], args, []⟩).memory := by
 rw [MakeChecks.laidMetH_plain _ _ _ kR]; exact laidMet_laidAll _ kR kR
end Go.Proofs.YtpmchnojeloohaaGreatDoor
