/-
  Several texts in one: The fault of a groove: the walks of the program. Conditions: told in each theorem. .. The samples of points: the walks of both copies. Conditions: told in each theorem.
-/
import Derived.Test.YtepkjobndmmejaaGreatDoorAbs42
import Derived.Test.YtepkjobndmmejaaGreatDoorX06
import Derived.Test.YtepkjobndmmejaaGreatDoorX02
namespace Go.Proofs.YtepkjobndmmejaaGreatDoor
open Go.Ab Go.RowKit Go.Dw Go.Shelf
theorem nearT_idf (u : V) (b : Option Pt) (h : Pt) (a : Option Pt) (hu : u.idf = true) : V.idfL [u, gNearV b h a] = true := by
 cases b <;> cases a <;> simp [V.idfL, V.idf, gNearV, optP, hu]
def gRule (c : Cut) (l : List Pt) (r per : Int) (i : Nat) : Int := ruleP c r per (nb l i) (gp l i) (na l i)
theorem ruleP_bd (c : Cut) (r per : Int) (b : Option Pt) (h : Pt) (a : Option Pt) : 0 ≤ ruleP c r per b h a ∧ ruleP c r per b h a ≤ 5 := by
 unfold ruleP
 split
 ·
  omega
 split
 ·
  omega
 split
 ·
  omega
 split
 ·
  omega
 split <;> omega
theorem gRule_bd (c : Cut) (l : List Pt) (r per : Int) (i : Nat) : 0 ≤ gRule c l r per i ∧ gRule c l r per i ≤ 5 := ruleP_bd _ _ _ _ _ _
def faultN (c : Cut) (l : List Pt) (r per : Int) : Option Nat := (List.range l.length).find? fun i => decide (0 < gRule c l r per i)
def faultR (c : Cut) (l : List Pt) (r per : Int) : Int × Int := match faultN c l r per with
 | some i => ((i : Int), gRule c l r per i)
 | none => (0, 0)
theorem faultN_none {c : Cut} {l : List Pt} {r per : Int} : faultN c l r per = none ↔ ∀ i, i < l.length → gRule c l r per i = 0 := by
 unfold faultN
 rw [List.find?_eq_none]
 constructor
 ·
  intro h i hi
  have := h i (by simpa using hi)
  have := (gRule_bd c l r per i).1
  simp at *
  omega
 ·
  intro h i hi
  rw [h i (by simpa using hi)]
  decide
theorem faultN_some {c : Cut} {l : List Pt} {r per : Int} {i : Nat} : faultN c l r per = some i ↔ i < l.length ∧ 0 < gRule c l r per i ∧ ∀ j, j < i → gRule c l r per j = 0 := by
 unfold faultN
 rw [List.find?_range_eq_some]
 constructor
 ·
  rintro ⟨h1, h2, h3⟩
  refine ⟨by simpa using h2, by simpa using h1, fun j hj => ?_⟩
  have := h3 j hj
  have := (gRule_bd c l r per j).1
  simp at *
  omega
 ·
  rintro ⟨h1, h2, h3⟩
  exact ⟨by simpa using h2, by simpa using h1, fun j hj => by rw [h3 j hj]; decide⟩
theorem faultR_none {c : Cut} {l : List Pt} {r per : Int} (h : ∀ i, i < l.length → gRule c l r per i = 0) : faultR c l r per = (0, 0) := by rw [faultR, faultN_none.2 h]
theorem faultR_some {c : Cut} {l : List Pt} {r per : Int} {i : Nat} (h1 : i < l.length) (h2 : 0 < gRule c l r per i) (h3 : ∀ j, j < i → gRule c l r per j = 0) : faultR c l r per = ((i : Int), gRule c l r per i) := by rw [faultR, faultN_some.2 ⟨h1, h2, h3⟩]
theorem nb_Ed {l : List Pt} (hl : ∀ k, k < l.length → gE (gp l k) = true) (i : Nat) : EdO (nb l i) := by
 unfold nb
 split
 ·
  by_cases h : i - 1 < l.length
  ·
   exact gE_iff.1 (hl _ h)
  ·
   rw [gp_out oM]; show Ed (0, 0); unfold Ed; simp
 ·
  trivial
theorem na_Ed {l : List Pt} (hl : ∀ k, k < l.length → gE (gp l k) = true) (i : Nat) : EdO (na l i) := by
 unfold na
 split
 ·
  exact gE_iff.1 (hl _ (by assumption))
 ·
  trivial
set_option maxRecDepth 100000 in
theorem all_ac (u : List V) (hu : V.idfL u = true) : AC Tryz.prog 133 [.ptr u] (.fn (.func 149) [] [.ptr [.ptr u]]) [] := by
 refine acI hTT hMX Tryz.func133 Tryz.ntmps133 fun C hC hF => ?_
 refine sK fun K hK => wR 2 ?_; refine aX hTT 2 [] tI ?_; refine nK hK ?_; clear hK K; refine sK fun K hK => wR 3 ?_; refine aX hTT 2 [] tI ?_; refine nK hK ?_; clear hK K
 refine aw_ret ?_
 refine rP (V.fn (Fn.func (149 : Nat)) [] [V.ptr [V.ptr u]])
set_option maxRecDepth 100000 in
theorem fault_ac (c : Cut) (l : List Pt) (r per : Int) (hc : cutE c = 0) (hl : gChk l = 0) (hp : Plc r per) : AC Tryz.prog 119 [.ptr (trC c l r per)] (.tup [.i (faultR c l r per).1, .i (faultR c l r per).2]) [] := by
 obtain ⟨l1, l2⟩ := gChk_ok.1 hl
 refine acI hTT hMX Tryz.func119 Tryz.ntmps119 fun C hC hF => ?_
 refine sK fun K hK => wR 2 ?_; refine aX hTT 3 [(1, .r (pn 2 (V.ref 100002 0) (100002 : Nat) (Ob.box 3 [V.i 0]))), (2, .r (pn 3 (V.ref 100003 0) (100003 : Nat) (Ob.box 3 [V.i 0])))] tI ?_; refine nK hK ?_; clear hK K; refine sK fun K hK => ?_; refine sK fun K hK => wR 3 ?_; refine aX hTT 1 [] tI ?_
 refine eC (all_ac (trC c l r per) kR) ?_
 refine nK hK ?_; clear hK K
 refine aw_block ?_
 refine w_rangeI (caps := [V.ptr [V.ptr [V.i (Cut.half c), V.i (Cut.gain c), V.i (Cut.thin c), V.i (Cut.wide c), V.i (Cut.slope c), V.i (Cut.jerk c), V.i (Cut.sty c), V.sl 2 (List.length l) fun (k : Nat) => [V.i (Prod.fst (gp l k)), V.i (Prod.snd (gp l k))], V.i r, V.i per]]]) hF hC ((all_it c l r per l1)) kR kR ?_ kR [500, 501] [(500, 100002), (501, 100003)] [(1, .ptr [.ptr (trC c l r per)]), (2, .ref 500 0), (3, .ref 501 0)] (fun k => ∀ j, j < k → gRule c l r per j = 0) (fun _ => [.box 3 [.i 0], .box 3 [.i 0]]) (fun k e sx => e = .ret ∧ sx = [.box 3 [.i k], .box 3 [.i (gRule c l r per k)]] ∧ 0 < gRule c l r per k ∧ ∀ j, j < k → gRule c l r per j = 0) ?_ kR kR kR (.cons kR (.cons kR (.cons kR .nil))) (.cons ⟨Ob.box 3 [V.i 0], kR, .box kR⟩ (.cons ⟨Ob.box 3 [V.i 0], kR, .box kR⟩ .nil)) kR ?_ ?_ ?_ ?_ ?_
 ·
  intro x hx
  simp only [allV, List.mem_map] at hx
  obtain ⟨j, _, rfl⟩ := hx
  rfl
 ·
  intro j hj
  omega
 ·
  intro j o ho
  simp at ho
  rcases ho with rfl | rfl <;> rfl
 ·
  rintro k e sx ⟨_, rfl, _⟩ o ho
  simp at ho
  rcases ho with rfl | rfl <;> rfl
 ·
  rintro C' ⟨lx, hF'⟩ k x hx hok
  have hk : k < l.length := by have := (List.getElem?_eq_some_iff.1 hx).1; rwa [allV_len] at this
  rw [allV_get hk] at hx
  injection hx with hx
  subst hx
  refine sK fun K hK => wR 2 ?_; refine aX hTT 1 [] tI ?_; refine nK hK ?_; clear hK K; refine wR 3 ?_; refine aX hTT 2 [(0, .r (pn 5 (V.ref 200005 0) (200005 : Nat) (Ob.box 213 [V.c (Value.pointer none), V.c (Value.pointer none), V.c (Value.pointer none)]))), (1, .r (pw ((0 : Nat) + (3 : Nat) ≤ (3 : Nat)) (200005 : Nat) (Ob.box 213 [optP (nb l k), V.ptr [V.i (Prod.fst (gp l k)), V.i (Prod.snd (gp l k))], optP (na l k)])))] ⟨oM, tI⟩ ?_; refine aops_nil ?_; refine xt_n ?_
  refine aw_block ?_
  refine sK fun K hK => wR 4 ?_; refine aX hTT 2 [(1, .c ((0 : Nat) ≤ (3 : Nat)))] ⟨oM, tI⟩ ?_
  refine e_call (first := []) (caps := []) (rule_ac c l r per (nb l k) (gp l k) (na l k) hc hp (nb_Ed l2 k) (gE_iff.1 (l2 k hk)) (na_Ed l2 k)) kR kR ?_ kR kR ?_
  ·
   exact nearT_idf _ _ _ _ kR
  refine aX hTT 1 [] tI ?_; refine nK hK ?_; clear hK K; refine sK fun K hK => wR 5 ?_; refine aX hTT 2 [] tI ?_; refine nK hK ?_; clear hK K
  refine w_cond (t := decide ((0 : Int) < ruleP c r per (nb l k) (gp l k) (na l k))) kR (fun c1 => ?_) (fun c1 => ?_)
  ·
   have h1 : 0 < gRule c l r per k := by simp at c1; exact c1
   refine sK fun K hK => wR 6 ?_; refine aX hTT 4 [(2, .r (pw ((0 : Nat) + (1 : Nat) ≤ (1 : Nat)) (500 : Nat) (Ob.box 3 [V.i (↑k : Int)]))), (3, .r (pw ((0 : Nat) + (1 : Nat) ≤ (1 : Nat)) (501 : Nat) (Ob.box 3 [V.i (ruleP c r per (nb l k) (gp l k) (na l k))])))] ⟨oM, oM, tI⟩ ?_; refine nK hK ?_; clear hK K
   refine aw_ret ?_
   refine xb_r ?_
   refine ⟨_, ⟨rfl, rfl, h1, hok⟩, ?_⟩
   refine le_ren (sl := [(500, Ob.box 3 [V.i (↑k : Int)]), (501, Ob.box 3 [V.i (gRule c l r per k)])]) [] .nil (.cons ⟨Ob.box 3 [V.i (↑k : Int)], kR, .box kR⟩ (.cons ⟨Ob.box 3 [V.i (ruleP c r per (nb l k) (gp l k) (na l k))], kR, .box kR⟩ .nil)) kR kR
  ·
   have h1 : gRule c l r per k ≤ 0 := by simp at c1; exact c1
   have h2 := (gRule_bd c l r per k).1
   refine aw_skip ?_
   refine xb_n ?_
   refine ⟨fun j hj => ?_, ?_⟩
   ·
    rcases Nat.lt_or_ge j k with h | h
    ·
     exact hok j h
    ·
     obtain rfl : j = k := by omega
     omega
   ·
    refine le_ren (sl := [(500, Ob.box 3 [V.i 0]), (501, Ob.box 3 [V.i 0])]) [] .nil (.cons ⟨Ob.box 3 [V.i 0], kR, .box kR⟩ (.cons ⟨Ob.box 3 [V.i 0], kR, .box kR⟩ .nil)) kR kR
 ·
  intro hok
  rw [allV_len] at hok
  refine xb_n ?_; refine xt_n (hK _ ?_); clear hK K; refine sK fun K hK => wR 2 ?_; refine aX hTT 2 [(0, .r (pw ((0 : Nat) + (1 : Nat) ≤ (1 : Nat)) (500 : Nat) (Ob.box 3 [V.i 0]))), (1, .r (pw ((0 : Nat) + (1 : Nat) ≤ (1 : Nat)) (501 : Nat) (Ob.box 3 [V.i 0])))] ⟨oM, oM, tI⟩ ?_; refine nK hK ?_; clear hK K
  refine aw_ret ?_
  refine ret_of_le (le_freezeBox (t := (3 : Nat)) (cs := [V.i 0]) 500 kR kR) ?_
  refine ret_of_le (le_freezeBox (t := (3 : Nat)) (cs := [V.i 0]) 501 kR kR) ?_
  rw [faultR_none hok]
  refine rP (V.tup [V.i 0, V.i 0])
 ·
  rintro k e sx hk ⟨rfl, rfl, h1, h2⟩
  rw [allV_len] at hk
  refine aw_ret ?_
  refine xb_r ?_
  refine xt_r ?_
  refine ret_of_le (le_freezeBox (t := (3 : Nat)) (cs := [V.i (↑k : Int)]) 500 kR kR) ?_
  refine ret_of_le (le_freezeBox (t := (3 : Nat)) (cs := [V.i (gRule c l r per k)]) 501 kR kR) ?_
  rw [faultR_some hk h1 h2]
  refine rP (V.tup [V.i (↑k : Int), V.i (gRule c l r per k)])
def plcE (r per : Int) : Int := if betB r 0 4194304 && betB per 1 65536 then 0 else 3
set_option maxRecDepth 100000 in
theorem checkPlace_ac (r per : Int) : AC Tryz.prog 43 [.i r, .i per] (.i (plcE r per)) [] := by
 refine acI hTT hMX Tryz.func43 Tryz.ntmps43 fun C hC hF => ?_
 refine sK fun K hK => wR 2 ?_; refine aX hTT 1 [] tI ?_; refine nK hK ?_; clear hK K; refine sK fun K hK => ?_; refine sK fun K hK => wR 3 ?_; refine aX hTT 1 [] tI ?_
 refine eC (between_ac r 0 4194304) ?_
 refine aX hTT 3 [(2, .c (gA ((!betB r (0 : Int) (4194304 : Int)) == false) True))] ⟨⟨⟨tI, tI⟩, (fun _ => tI)⟩, tI⟩ ?_
 refine eG 1 (g := (!betB r (0 : Int) (4194304 : Int)) == false) (fun h => between_ac per 1 65536) ?_
 refine aX hTT 2 [(0, .c (gB ((!betB r (0 : Int) (4194304 : Int)) == false) True)), (1, .c (True ∧ ((!betB r (0 : Int) (4194304 : Int)) = false → ((!betB r (0 : Int) (4194304 : Int)) == false) = true)))] ⟨⟨⟨(by (exact fun h => h)), tI⟩, (fun _ => tI)⟩, ⟨tI, (by (intro h; rw [h]; rfl))⟩, tI⟩ ?_; refine nK hK ?_; clear hK K
 refine w_cond (t := !betB r (0 : Int) (4194304 : Int) || !betB per (1 : Int) (65536 : Int)) kR (fun c1 => ?_) (fun c1 => ?_)
 ·
  have e : plcE r per = 3 := by
   cases h1 : betB r 0 4194304 <;> cases h2 : betB per 1 65536 <;> simp [plcE, h1, h2] at c1 ⊢
  refine sK fun K hK => wR 4 ?_; refine aX hTT 1 [] tI ?_; refine nK hK ?_; clear hK K
  refine aw_ret ?_
  refine xt_r ?_
  rw [e]
  refine rP (V.i 3)
 ·
  have e : plcE r per = 0 := by
   cases h1 : betB r 0 4194304 <;> cases h2 : betB per 1 65536 <;> simp [plcE, h1, h2] at c1 ⊢
  refine aw_skip ?_
  refine xt_n (hK _ ?_); clear hK K; refine sK fun K hK => wR 4 ?_; refine aX hTT 1 [] tI ?_; refine nK hK ?_; clear hK K
  refine aw_ret ?_
  rw [e]
  refine rP (V.i 0)
def gErr (c : Cut) (l : List Pt) : Int := if cutE c = 0 then gChk l else cutE c
theorem gErr_1 {c : Cut} {l : List Pt} (h : ¬ cutE c = 0) : gErr c l = cutE c := by rw [gErr, if_neg h]
theorem gErr_2 {c : Cut} {l : List Pt} (h : cutE c = 0) : gErr c l = gChk l := by rw [gErr, if_pos h]
theorem gErr_ok {c : Cut} {l : List Pt} (h : gErr c l = 0) : cutE c = 0 ∧ gChk l = 0 := by
 by_cases hc : cutE c = 0
 ·
  rw [gErr_2 hc] at h; exact ⟨hc, h⟩
 ·
  rw [gErr_1 hc] at h; exact absurd h hc
abbrev yyGA50 (c : Cut) (l : List Pt) : Ob := Ob.box 97 [V.i (Cut.half c), V.i (Cut.gain c), V.i (Cut.thin c), V.i (Cut.wide c), V.i (Cut.slope c), V.i (Cut.jerk c), V.i (Cut.sty c), V.sl 2 (List.length l) fun (k : Nat) => [V.i (Prod.fst (gp l k)), V.i (Prod.snd (gp l k))], V.i 0, V.i 0]
set_option maxRecDepth 100000 in
theorem newTrack_ok (c : Cut) (l : List Pt) (hl : l.length ≤ 4611686018427387904) (h : gErr c l = 0) : AC Tryz.prog 116 [c.v, V.pts l] (.tup [.ref 0 0, .i 0]) [TrO c l 0 0] := by
 obtain ⟨h1, h2⟩ := gErr_ok h
 have A1 := cutCheck_ac c
 have A2 := gCheckPoints_ac l hl
 rw [h1] at A1
 rw [h2] at A2
 refine acI hTT hMX Tryz.func116 Tryz.ntmps116 fun C hC hF => ?_
 refine sK fun K hK => wR 2 ?_; refine aX hTT 3 [] tI ?_; refine nK hK ?_; clear hK K; refine sK fun K hK => ?_; refine sK fun K hK => wR 3 ?_; refine aX hTT 1 [] tI ?_
 refine eC (A1) ?_
 refine aX hTT 1 [] tI ?_; refine nK hK ?_; clear hK K; refine sK fun K hK => wR 4 ?_; refine aX hTT 2 [] tI ?_; refine nK hK ?_; clear hK K; refine w_false (t := false) kR rfl ?_
 refine aw_skip ?_
 refine xt_n (hK _ ?_); clear hK K; refine sK fun K hK => ?_; refine sK fun K hK => wR 5 ?_; refine aX hTT 1 [] tI ?_
 refine eC (A2) ?_
 refine aops_x (M := [21]) hTT 1 [] tI ?_
 refine nK hK ?_; clear hK K; refine sK fun K hK => wR 6 ?_
 refine aops_x (M := [21]) hTT 2 [] tI ?_
 refine nK hK ?_; clear hK K; refine w_false (t := false) kR rfl ?_
 refine aw_skip ?_
 refine xt_n (hK _ ?_); clear hK K; refine sK fun K hK => wR 7 ?_
 refine aops_x (M := [21]) hTT 6 [(3, .r (pn 21 (V.ref 600021 0) (600021 : Nat) ((yyGA50 c l))))] tI ?_
 refine nK hK ?_; clear hK K
 refine aw_ret ?_
 refine ret_own [(0, 600021)] [(4, V.ref 0 0), (5, V.i 0)] (.inr rfl) (.cons kR (.cons kR .nil)) (.cons ⟨(yyGA50 c l), kR, .box kR⟩ .nil) kR kR kR kR
set_option maxRecDepth 100000 in
theorem newTrack_no (c : Cut) (l : List Pt) (hl : l.length ≤ 4611686018427387904) (h : ¬ gErr c l = 0) : AC Tryz.prog 116 [c.v, V.pts l] (.tup [.c (.pointer none), .i (gErr c l)]) [] := by
 refine acI hTT hMX Tryz.func116 Tryz.ntmps116 fun C hC hF => ?_
 refine sK fun K hK => wR 2 ?_; refine aX hTT 3 [] tI ?_; refine nK hK ?_; clear hK K; refine sK fun K hK => ?_; refine sK fun K hK => wR 3 ?_; refine aX hTT 1 [] tI ?_
 refine eC (cutCheck_ac c) ?_
 refine aX hTT 1 [] tI ?_; refine nK hK ?_; clear hK K; refine sK fun K hK => wR 4 ?_; refine aX hTT 2 [] tI ?_; refine nK hK ?_; clear hK K
 refine w_cond (t := !decide (cutE c = 0)) kR (fun c1 => ?_) (fun c1 => ?_)
 ·
  simp at c1
  refine sK fun K hK => wR 5 ?_; refine aX hTT 3 [] tI ?_; refine nK hK ?_; clear hK K
  refine aw_ret ?_
  refine xt_r ?_
  rw [gErr_1 c1]
  refine rP (V.tup [V.c (Value.pointer none), V.i (cutE c)])
 simp at c1
 refine aw_skip ?_
 refine xt_n (hK _ ?_); clear hK K; refine sK fun K hK => ?_; refine sK fun K hK => wR 5 ?_; refine aX hTT 1 [] tI ?_
 refine eC (gCheckPoints_ac l hl) ?_
 refine aX hTT 1 [] tI ?_; refine nK hK ?_; clear hK K; refine sK fun K hK => wR 6 ?_; refine aX hTT 2 [] tI ?_; refine nK hK ?_; clear hK K
 refine w_cond (t := !decide (gChk l = 0)) kR (fun c2 => ?_) (fun c2 => ?_)
 ·
  refine sK fun K hK => ?_
  refine wR 7 ?_; refine aX hTT 3 [] tI ?_; refine nK hK ?_; clear hK K
  refine aw_ret ?_
  refine xt_r ?_
  rw [gErr_2 c1]
  refine rP (V.tup [V.c (Value.pointer none), V.i (gChk l)])
 ·
  simp at c2
  rw [gErr_2 c1] at h
  exact absurd c2 h
end Go.Proofs.YtepkjobndmmejaaGreatDoor

namespace Go.Proofs.YtepkjobndmmejaaGreatDoor
open Go.Ab Go.RowKit Go.Dw Go.Shelf
theorem RImp.int {a b : Int} (h : a = b) : RImp (V.i a) (V.i b) := by subst h; exact RImp.refl _
end Go.Proofs.YtepkjobndmmejaaGreatDoor

namespace Go.Proofs.YtepkjobndmmejaaGreatDoor
open Go.Ab Go.RowKit Go.Dw Go.Shelf
def turnE (per : Int) : Int := if betB per 1 65536 then 0 else 3
theorem turnE_ok {per : Int} : turnE per = 0 ↔ 1 ≤ per ∧ per ≤ 65536 := by
 unfold turnE
 cases h : betB per 1 65536 <;> simp [betB] at h ⊢ <;> omega
theorem turnE_or (per : Int) : turnE per = 0 ∨ turnE per = 3 := by unfold turnE; split <;> simp
theorem plcE_turn {r per : Int} : plcE r per = if betB r 0 4194304 then turnE per else 3 := by
 unfold plcE turnE
 cases betB r 0 4194304 <;> simp
structure IsFst (p : Int → Bool) (M F : Int) : Prop where
 b : 0 ≤ F ∧ F ≤ M
 lo : ∀ n, 0 ≤ n → n < F → p n = false
 hi : ∀ n, F ≤ n → n < M → p n = true
theorem fst_exists {p : Int → Bool} {M : Int} (hM : 0 ≤ M) (hm : ∀ m n, 0 ≤ m → m ≤ n → n < M → p m = true → p n = true) : ∃ F, IsFst p M F := by
 have key : ∀ k : Nat, (k : Int) ≤ M → ∃ F, (0 ≤ F ∧ F ≤ (k : Int)) ∧ (∀ n, 0 ≤ n → n < F → p n = false) ∧ ∀ n, F ≤ n → n < (k : Int) → p n = true := by
  intro k
  induction k with
  | zero => exact fun _ => ⟨0, by omega, fun n h1 h2 => by omega, fun n h1 h2 => by omega⟩
  | succ k ih =>
   intro hk
   obtain ⟨F, h1, h2, h3⟩ := ih oM
   cases hp : p k with
   | true =>
    refine ⟨F, by omega, h2, fun n a b => ?_⟩
    by_cases he : n = k
    ·
     subst he; exact hp
    ·
     exact h3 n a oM
   | false =>
    refine ⟨(k : Int) + 1, by omega, fun n a b => ?_, fun n a b => by omega⟩
    cases hn : p n with
    | false => rfl
    | true =>
     have := hm n k a oM oM hn
     rw [hp] at this; cases this
 obtain ⟨F, h1, h2, h3⟩ := key M.toNat oM
 exact ⟨F, by omega, h2, fun n a b => h3 n a oM⟩
theorem IsFst.iff {p : Int → Bool} {M F n : Int} (h : IsFst p M F) (h0 : 0 ≤ n) (hM : n < M) : p n = true ↔ F ≤ n := by
 constructor
 ·
  intro hp
  refine Int.not_lt.1 fun hl => ?_
  rw [h.lo n h0 hl] at hp; cases hp
 ·
  exact fun hl => h.hi n hl hM
end Go.Proofs.YtepkjobndmmejaaGreatDoor

namespace Go.Proofs.YtepkjobndmmejaaGreatDoor
open Go.Ab Go.RowKit Go.Dw Go.Shelf
def fitB (c : Cut) (l : List Pt) (per r : Int) : Bool := decide ((faultR c l r per).2 = 0)
abbrev TB (k : Nat) : Ob := .box 95 [.ref k 0]
theorem fault_am (c : Cut) (l : List Pt) (r per : Int) (hc : cutE c = 0) (hl : gChk l = 0) (hp : Plc r per) : AM Tryz.prog 119 [.ref 500 0] [TrO c l r per] (.tup [.i (faultR c l r per).1, .i (faultR c l r per).2]) [some (TrO c l r per)] [] :=
 AC.box (P := Tryz.prog) (fault_ac c l r per hc hl hp) 97 kR kR kR kR
abbrev RBL (k : Nat) : Ob := .box 32 [.fn (.func 118) [] [.ref k 0]]
abbrev HBL (a b : Nat) : Ob := .box 120 [.fn (.func 132) [] [.ref a 0, .ref b 0]]
abbrev zzGA80 : V := V.fn (Fn.func (132 : Nat)) [] [V.ref 501 0, V.ref 502 0]
abbrev zzGA81 : V := V.fn (Fn.func (132 : Nat)) [] [V.ref 500 0, V.ref 501 0]
abbrev qGA80 : Prop := (0 : Nat) ≤ (1 : Nat)
theorem qGA80_ : qGA80 := oM
abbrev yyGA80 (c : Cut) (l : List Pt) (r : Int) (per : Int) : Ob := Ob.box 97 [V.i (Cut.half c), V.i (Cut.gain c), V.i (Cut.thin c), V.i (Cut.wide c), V.i (Cut.slope c), V.i (Cut.jerk c), V.i (Cut.sty c), V.sl 2 (List.length l) fun (k : Nat) => [V.i (Prod.fst (gp l k)), V.i (Prod.snd (gp l k))], V.i r, V.i per]
set_option maxRecDepth 100000 in
theorem rightL_am (c : Cut) (l : List Pt) (r per : Int) (hc : cutE c = 0) (hl : gChk l = 0) (hp : Plc r per) :
  AM Tryz.prog 118 [.ref 500 0] [TB 501, TrO c l r per] (.b (fitB c l per r)) [some (TB 501), some (TrO c l r per)] [] := by
 refine am_intro hTT hMX (fn := Tryz.f118) (N := _) ⟨Tryz.func118, rfl, Tryz.ntmps118, kR⟩ (by simp) rfl (by simp) (by simp) fun C hF => ?_
 refine sK fun K hK => wR 2 ?_; refine aX hTT 1 [] tI ?_; refine nK hK ?_; clear hK K; refine sK fun K hK => wR 3 ?_; refine aX hTT 1 [(0, .c qGA80)] ⟨qGA80_, tI⟩ ?_
 refine aops_callR [501] (first := []) (caps := []) (ins' := [(yyGA80 c l r per)]) (v' := V.tup [V.i (Prod.fst (faultR c l r per)), V.i (Prod.snd (faultR c l r per))]) (δ := []) (kp := [501]) (fault_am c l r per hc hl hp) kR kR kR kR kR kR kR rfl kR kR ⟨kR, tI⟩ kR kR kR ?_
 refine aX hTT 5 [] tI ?_; refine nK hK ?_; clear hK K; refine sK fun K hK => wR 4 ?_; refine aX hTT 3 [] tI ?_; refine nK hK ?_; clear hK K
 refine aw_ret ?_
 refine retM (v' := V.b (decide (Prod.snd (faultR c l r per) = 0))) [] [(1, V.b (decide (Prod.snd (faultR c l r per) = 0)))] (.inr rfl) (.cons kR .nil) (.cons ⟨Ob.box 95 [V.ref 501 0], kR, .box kR⟩ (.cons ⟨(yyGA80 c l r per), kR, .box kR⟩ .nil)) kR kR kR kR kR kR kR
abbrev yyGA81 (c : Cut) (l : List Pt) (r' : Int) (per : Int) : Ob := Ob.box 97 [V.i (Cut.half c), V.i (Cut.gain c), V.i (Cut.thin c), V.i (Cut.wide c), V.i (Cut.slope c), V.i (Cut.jerk c), V.i (Cut.sty c), V.sl 2 (List.length l) fun (k : Nat) => [V.i (Prod.fst (gp l k)), V.i (Prod.snd (gp l k))], V.i r', V.i per]
set_option maxRecDepth 100000 in
theorem least1L_am (c : Cut) (l : List Pt) (r r' per : Int) (hc : cutE c = 0) (hl : gChk l = 0) (hp : Plc r' per) :
  AM Tryz.prog 132 [.i r', .ref 500 0, .ref 501 0] [TB 502, RBL 503, TrO c l r per, TB 502] (.b (fitB c l per r')) [some (TB 502), some (RBL 503), some (TrO c l r' per), some (TB 502)] [] := by
 refine am_intro hTT hMX (fn := Tryz.f132) (N := _) ⟨Tryz.func132, rfl, Tryz.ntmps132, kR⟩ (by simp) rfl (by simp) (by simp) fun C hF => ?_
 refine sK fun K hK => wR 2 ?_; refine aX hTT 1 [] tI ?_; refine nK hK ?_; clear hK K; refine sK fun K hK => wR 3 ?_; refine aX hTT 5 [(0, .c qGA80), (4, .r (pw ((8 : Nat) + (1 : Nat) ≤ (10 : Nat)) (502 : Nat) ((yyGA81 c l r' per))))] ⟨qGA80_, oM, tI⟩ ?_; refine nK hK ?_; clear hK K; refine sK fun K hK => wR 4 ?_; refine aX hTT 1 [(0, .c qGA80)] ⟨qGA80_, tI⟩ ?_
 refine aops_callR [503, 502] (first := []) (caps := [V.ref 503 0]) (ins' := [Ob.box 95 [V.ref 502 0], (yyGA81 c l r' per)]) (v' := V.b (fitB c l per r')) (δ := []) (kp := [503, 502]) (rightL_am c l r' per hc hl hp) kR kR kR kR kR kR kR rfl kR kR ⟨kR, ⟨kR, tI⟩⟩ kR kR kR ?_
 refine aX hTT 1 [] tI ?_; refine nK hK ?_; clear hK K
 refine aw_ret ?_
 refine retM (v' := V.b (fitB c l per r')) [] [(4, V.b (fitB c l per r'))] (.inr rfl) (.cons kR .nil) (.cons ⟨Ob.box 95 [V.ref 502 0], kR, .box kR⟩ (.cons ⟨Ob.box 32 [V.fn (Fn.func (118 : Nat)) [] [V.ref 503 0]], kR, .box kR⟩ (.cons ⟨(yyGA81 c l r' per), kR, .box kR⟩ (.cons ⟨Ob.box 95 [V.ref 502 0], kR, .box kR⟩ .nil)))) kR kR kR kR kR kR kR
abbrev yyGA82 : Ob := Ob.box 32 [V.fn (Fn.func (118 : Nat)) [] [V.ref 504 0]]
set_option maxRecDepth 100000 in
theorem first1L_am (c : Cut) (l : List Pt) (r r' per : Int) (hc : cutE c = 0) (hl : gChk l = 0) (hp : Plc r' per) :
  AM Tryz.prog 90 [.i r', .ref 500 0] [HBL 501 502, TB 503, RBL 504, TrO c l r per, TB 503] (.b (fitB c l per r')) [some (HBL 501 502), some (TB 503), some (RBL 504), some (TrO c l r' per), some (TB 503)] [] := by
 refine am_intro hTT hMX (fn := Tryz.f90) (N := _) ⟨Tryz.func90, rfl, Tryz.ntmps90, kR⟩ (by simp) rfl (by simp) (by simp) fun C hF => ?_
 refine sK fun K hK => wR 2 ?_; refine aX hTT 1 [] tI ?_; refine nK hK ?_; clear hK K; refine sK fun K hK => wR 3 ?_; refine aX hTT 2 [(0, .c qGA80)] ⟨qGA80_, tI⟩ ?_
 refine aops_callM [501, 502, 503, 504] (first := []) (caps := [V.ref 501 0, V.ref 502 0]) (ins' := [Ob.box 95 [V.ref 503 0], yyGA82, Ob.box 97 [V.i (Cut.half c), V.i (Cut.gain c), V.i (Cut.thin c), V.i (Cut.wide c), V.i (Cut.slope c), V.i (Cut.jerk c), V.i (Cut.sty c), V.sl 2 (List.length l) fun (k : Nat) => [V.i (Prod.fst (gp l k)), V.i (Prod.snd (gp l k))], V.i r, V.i per], Ob.box 95 [V.ref 503 0]]) (v' := V.b (fitB c l per r')) (δ := [(501, Option.some (Ob.box 95 [V.ref 503 0])), (502, Option.some (yyGA82)), (503, Option.some ((yyGA81 c l r' per))), (504, Option.some (Ob.box 95 [V.ref 503 0]))]) (kp := [501, 502, 503, 504]) (least1L_am c l r r' per hc hl hp) kR kR kR kR kR kR rfl rfl kR (.box kR kR (.box kR kR (.box kR kR (.box kR kR .nil)))) kR kR kR ?_
 refine aX hTT 1 [] tI ?_; refine nK hK ?_; clear hK K
 refine aw_ret ?_
 refine retM (v' := V.b (fitB c l per r')) [] [(3, V.b (fitB c l per r'))] (.inr rfl) (.cons kR .nil) (.cons ⟨Ob.box 120 [zzGA80], kR, .box kR⟩ (.cons ⟨Ob.box 95 [V.ref 503 0], kR, .box kR⟩ (.cons ⟨yyGA82, kR, .box kR⟩ (.cons ⟨(yyGA81 c l r' per), kR, .box kR⟩ (.cons ⟨Ob.box 95 [V.ref 503 0], kR, .box kR⟩ .nil))))) kR kR kR kR kR kR kR
abbrev yyGA83 (l : List Pt) : V := V.sl 2 (List.length l) fun (k : Nat) => [V.i (Prod.fst (gp l k)), V.i (Prod.snd (gp l k))]
abbrev yyGA84 := (502, yyGA82)
set_option maxRecDepth 100000 in
theorem searchL_am (c : Cut) (l : List Pt) (r0 per F : Int) (hc : cutE c = 0) (hl : gChk l = 0) (hp : 1 ≤ per ∧ per ≤ 65536) (hF' : IsFst (fitB c l per) 4194305 F) :
  AM Tryz.prog 89 [.i 4194305, .fn (.func 90) [] [.ref 500 0]] [HBL 501 502, TB 503, RBL 504, TrO c l r0 per, TB 503] (.i F) [none, none, none, none, none] [] := by
 have hFb := hF'.b
 refine am_intro hTT hMX (fn := Tryz.f89) (N := _) ⟨Tryz.func89, rfl, Tryz.ntmps89, kR⟩ (by simp) rfl (by simp) (by simp) fun C hF => ?_
 refine sK fun K hK => wR 2 ?_
 refine aops_n hTT (M := []) (n := 1) [pv 4 (V.i 0)] kR kR tI ?_
 refine nK hK ?_; clear hK K; refine sK fun K hK => wR 3 ?_
 refine aops_n hTT (M := []) (n := 3) [pv 8 (V.i 4194305), pv 5 (V.i 0), pv 6 (V.i 4194305)] kR kR tI ?_
 refine nK hK ?_; clear hK K; refine sK fun K hK => ?_
 refine aw_block ?_
 refine w_loop (ι := Int × Int × Int) (fun s => [(0, .i 4194305), (1, .fn (.func 90) [] [.ref 500 0]), (5, .i s.1), (6, .i s.2.1)]) (fun s => [(500, HBL 501 502), (501, TB 503), (502, RBL 504), (503, TrO c l s.2.2 per), (504, TB 503)])
  (fun s => 0 ≤ s.1 ∧ s.1 ≤ F ∧ F ≤ s.2.1 ∧ s.2.1 ≤ 4194305) (fun s => (s.2.1 - s.1).toNat) (0, 4194305, r0) ⟨Int.le_refl _, hFb.1, hFb.2, Int.le_refl _⟩ ?_ ?_
 ·
  refine le_ren (sl := [(500, Ob.box 120 [zzGA80]), (501, Ob.box 95 [V.ref 503 0]), yyGA84, (503, Ob.box 97 [V.i (Cut.half c), V.i (Cut.gain c), V.i (Cut.thin c), V.i (Cut.wide c), V.i (Cut.slope c), V.i (Cut.jerk c), V.i (Cut.sty c), (yyGA83 l), V.i (Prod.snd ((4194305 : Int), r0)), V.i per]), (504, Ob.box 95 [V.ref 503 0])]) [] (.cons kR (.cons kR (.cons kR (.cons kR .nil)))) (.cons ⟨Ob.box 120 [zzGA80], kR, .box kR⟩ (.cons ⟨Ob.box 95 [V.ref 503 0], kR, .box kR⟩ (.cons ⟨yyGA82, kR, .box kR⟩ (.cons ⟨Ob.box 97 [V.i (Cut.half c), V.i (Cut.gain c), V.i (Cut.thin c), V.i (Cut.wide c), V.i (Cut.slope c), V.i (Cut.jerk c), V.i (Cut.sty c), (yyGA83 l), V.i r0, V.i per], kR, .box kR⟩ (.cons ⟨Ob.box 95 [V.ref 503 0], kR, .box kR⟩ .nil))))) kR kR
 rintro ⟨i, j, r⟩ ⟨h1, h2, h3, h4⟩
 simp only at h1 h2 h3 h4
 refine sK fun K hK => ?_; refine sK fun K hK => wR 2 ?_
 refine aops_n hTT (M := []) (n := 3) [pv 9 (V.i i), pv 10 (V.i (Prod.fst (j, r))), pv 11 (V.b (decide (i < j)))] kR kR tI ?_
 refine nK hK ?_; clear hK K
 refine w_cond (t := decide (i < j)) kR (fun c1 => ?_) (fun c1 => ?_)
 ·
  have c1 : i < j := by simpa using c1
  obtain ⟨m, hm⟩ : ∃ m : Int, (i + j).fdiv ((2 : Int) ^ min (1 : Nat) (IntKind.bits IntKind.u64)) = m := ⟨_, rfl⟩
  have m1 : i ≤ m ∧ m < j := by
   have : (i + j).fdiv ((2 : Int) ^ min (1 : Nat) (IntKind.bits IntKind.u64)) = (i + j) / 2 := by
    rw [Int.fdiv_eq_ediv_of_nonneg _ (by decide)]; rfl
   omega
  refine aw_skip ?_
  refine xt_n (hK _ ?_); clear hK K
  refine aw_block ?_
  refine sK fun K hK => wR 3 ?_
  refine aops_n hTT (M := []) (n := 7) [pv 12 (V.i i), pv 13 (V.i (Prod.fst (j, r))), pc 14 ((-9223372036854775808 : Int) ≤ i + j ∧ i + j ≤ 9223372036854775807) (V.i (i + j)), pc 15 ((0 : Int) ≤ i + j ∧ i + j ≤ 18446744073709551615) (V.c (Value.int IntKind.u64 (i + j))), pc 16 ((0 : Int) ≤ (1 : Int)) (V.c (Value.int IntKind.u64 (Int.fdiv (i + j) ((2 : Int) ^ min (1 : Nat) (IntKind.bits IntKind.u64))))), pc 17 ((-9223372036854775808 : Int) ≤ Int.fdiv (i + j) ((2 : Int) ^ min (1 : Nat) (IntKind.bits IntKind.u64)) ∧ Int.fdiv (i + j) ((2 : Int) ^ min (1 : Nat) (IntKind.bits IntKind.u64)) ≤ 9223372036854775807) (V.i (Int.fdiv (i + j) ((2 : Int) ^ min (1 : Nat) (IntKind.bits IntKind.u64)))), pv 7 (V.i (Int.fdiv (i + j) ((2 : Int) ^ min (1 : Nat) (IntKind.bits IntKind.u64))))] kR kR ⟨oM, oM, oM, oM, tI⟩ ?_
  refine nK hK ?_; clear hK K; refine sK fun K hK => ?_
  rw [hm]
  refine wR 4 ?_
  refine aops_n hTT (M := []) (n := 2) [pv 18 (V.fn (Fn.func (90 : Nat)) [] [V.ref 500 0]), pv 19 (V.i m)] kR kR tI ?_
  refine aops_callM [500, 501, 502, 503, 504] (first := []) (caps := [V.ref 500 0]) (ins' := [Ob.box 120 [zzGA80], Ob.box 95 [V.ref 503 0], yyGA82, Ob.box 97 [V.i (Cut.half c), V.i (Cut.gain c), V.i (Cut.thin c), V.i (Cut.wide c), V.i (Cut.slope c), V.i (Cut.jerk c), V.i (Cut.sty c), (yyGA83 l), V.i (Prod.snd (j, r)), V.i per], Ob.box 95 [V.ref 503 0]]) (v' := V.b (fitB c l per m)) (δ := [(500, Option.some (Ob.box 120 [zzGA80])), (501, Option.some (Ob.box 95 [V.ref 503 0])), (502, Option.some (yyGA82)), (503, Option.some (Ob.box 97 [V.i (Cut.half c), V.i (Cut.gain c), V.i (Cut.thin c), V.i (Cut.wide c), V.i (Cut.slope c), V.i (Cut.jerk c), V.i (Cut.sty c), (yyGA83 l), V.i m, V.i per])), (504, Option.some (Ob.box 95 [V.ref 503 0]))]) (kp := [500, 501, 502, 503, 504]) (first1L_am c l r m per hc hl ⟨by omega, hp⟩) kR kR kR kR kR kR rfl rfl kR (.box kR kR (.box kR kR (.box kR kR (.box kR kR (.box kR kR .nil))))) kR kR kR ?_
  refine aops_n hTT (M := []) (n := 1) [pv 21 (V.b !fitB c l per m)] kR kR tI ?_
  refine nK hK ?_; clear hK K
  refine w_cond (t := !fitB c l per m) kR (fun c2 => ?_) (fun c2 => ?_)
  ·
   have q : fitB c l per m = false := by simpa using c2
   have m2 : m < F := by
    refine Int.not_le.1 fun h => ?_
    rw [hF'.hi m h oM] at q; cases q
   refine wR 5 ?_
   refine aops_n hTT (M := []) (n := 3) [pv 22 (V.i m), pc 23 ((-9223372036854775808 : Int) ≤ m + 1 ∧ m + 1 ≤ (9223372036854775807 : Int)) (V.i (m + 1)), pv 5 (V.i (m + 1))] kR kR ⟨oM, tI⟩ ?_
   refine aops_nil ?_; refine xb_n ?_; refine xt_n ?_
   refine ⟨(m + 1, j, m), ⟨by show 0 ≤ m + 1; omega, by show m + 1 ≤ F; omega, h3, h4⟩, ?_, by show (j - (m + 1)).toNat < (j - i).toNat; omega⟩
   refine le_ren (sl := [(500, Ob.box 120 [zzGA80]), (501, Ob.box 95 [V.ref 503 0]), yyGA84, (503, Ob.box 97 [V.i (Cut.half c), V.i (Cut.gain c), V.i (Cut.thin c), V.i (Cut.wide c), V.i (Cut.slope c), V.i (Cut.jerk c), V.i (Cut.sty c), (yyGA83 l), V.i (Prod.snd (j, m)), V.i per]), (504, Ob.box 95 [V.ref 503 0])]) [] (.cons kR (.cons kR (.cons kR (.cons kR .nil)))) (.cons ⟨Ob.box 120 [zzGA80], kR, .box kR⟩ (.cons ⟨Ob.box 95 [V.ref 503 0], kR, .box kR⟩ (.cons ⟨yyGA82, kR, .box kR⟩ (.cons ⟨Ob.box 97 [V.i (Cut.half c), V.i (Cut.gain c), V.i (Cut.thin c), V.i (Cut.wide c), V.i (Cut.slope c), V.i (Cut.jerk c), V.i (Cut.sty c), (yyGA83 l), V.i m, V.i per], kR, .box kR⟩ (.cons ⟨Ob.box 95 [V.ref 503 0], kR, .box kR⟩ .nil))))) kR kR
  ·
   have q : fitB c l per m = true := by simpa using c2
   have m2 : F ≤ m := by
    refine Int.not_lt.1 fun h => ?_
    rw [hF'.lo m oM h] at q; cases q
   refine wR 5 ?_
   refine aops_n hTT (M := []) (n := 2) [pv 24 (V.i m), pv 6 (V.i m)] kR kR tI ?_
   refine aops_nil ?_; refine xb_n ?_; refine xt_n ?_
   refine ⟨(i, m, m), ⟨h1, h2, m2, by show m ≤ 4194305; omega⟩, ?_, by show (m - i).toNat < (j - i).toNat; omega⟩
   refine le_ren (sl := [(500, Ob.box 120 [zzGA80]), (501, Ob.box 95 [V.ref 503 0]), yyGA84, (503, Ob.box 97 [V.i (Cut.half c), V.i (Cut.gain c), V.i (Cut.thin c), V.i (Cut.wide c), V.i (Cut.slope c), V.i (Cut.jerk c), V.i (Cut.sty c), (yyGA83 l), V.i (Prod.snd (m, m)), V.i per]), (504, Ob.box 95 [V.ref 503 0])]) [] (.cons kR (.cons kR (.cons kR (.cons kR .nil)))) (.cons ⟨Ob.box 120 [zzGA80], kR, .box kR⟩ (.cons ⟨Ob.box 95 [V.ref 503 0], kR, .box kR⟩ (.cons ⟨yyGA82, kR, .box kR⟩ (.cons ⟨Ob.box 97 [V.i (Cut.half c), V.i (Cut.gain c), V.i (Cut.thin c), V.i (Cut.wide c), V.i (Cut.slope c), V.i (Cut.jerk c), V.i (Cut.sty c), (yyGA83 l), V.i m, V.i per], kR, .box kR⟩ (.cons ⟨Ob.box 95 [V.ref 503 0], kR, .box kR⟩ .nil))))) kR kR
 ·
  have c1 : j ≤ i := by simpa using c1
  obtain rfl : i = F := by omega
  refine aw_exit ?_
  refine xt_x ?_; refine xt_x ?_
  refine xb_same ?_
  refine xt_n ?_; clear hK K; refine hK _ ?_; clear hK K; refine sK fun K hK => wR 3 ?_
  refine aops_n hTT (M := []) (n := 2) [pv 25 (V.i i), pv 4 (V.i i)] kR kR tI ?_
  refine nK hK ?_; clear hK K
  refine aw_ret ?_
  refine retM (v' := V.i i) [] [(4, V.i i)] (.inr rfl) (.cons kR .nil) .nil kR kR kR kR kR kR kR
set_option maxRecDepth 100000 in
theorem firstL_am (c : Cut) (l : List Pt) (r0 per F : Int) (hc : cutE c = 0) (hl : gChk l = 0) (hp : 1 ≤ per ∧ per ≤ 65536) (hF' : IsFst (fitB c l per) 4194305 F) :
  AM Tryz.prog 60 [.i 4194304, .fn (.func 132) [] [.ref 500 0, .ref 501 0]] [TB 502, RBL 503, TrO c l r0 per, TB 502] (.i F) [none, none, none, none] [] := by
 have hFb := hF'.b
 refine am_intro hTT hMX (fn := Tryz.f60) (N := _) ⟨Tryz.func60, rfl, Tryz.ntmps60, kR⟩ (by simp) rfl (by simp) (by simp) fun C hF => ?_
 refine sK fun K hK => wR 2 ?_
 refine aops_x (M := [3]) hTT 2 [(0, .r (pn 3 (V.ref 100003 0) (100003 : Nat) (Ob.box 120 [zzGA81])))] tI ?_
 refine nK hK ?_; clear hK K; refine sK fun K hK => wR 3 ?_
 refine aops_x (M := [3]) hTT 3 [(1, .i ((4194304 : Int) + (1 : Int)))] ⟨oM, tI⟩ ?_
 refine aops_callM [100003, 500, 501, 502, 503] (first := []) (caps := []) (ins' := [Ob.box 120 [zzGA81], Ob.box 95 [V.ref 502 0], Ob.box 32 [V.fn (Fn.func (118 : Nat)) [] [V.ref 503 0]], Ob.box 97 [V.i (Cut.half c), V.i (Cut.gain c), V.i (Cut.thin c), V.i (Cut.wide c), V.i (Cut.slope c), V.i (Cut.jerk c), V.i (Cut.sty c), V.sl 2 (List.length l) fun (k : Nat) => [V.i (Prod.fst (gp l k)), V.i (Prod.snd (gp l k))], V.i r0, V.i per], Ob.box 95 [V.ref 502 0]]) (v' := V.i F) (δ := [(100003, Option.none), (500, Option.none), (501, Option.none), (502, Option.none), (503, Option.none)]) (kp := [100003, 500, 501, 502, 503]) (searchL_am c l r0 per F hc hl hp hF') kR kR kR kR kR kR rfl rfl kR (.box kR kR (.box kR kR (.box kR kR (.box kR kR (.box kR kR .nil))))) kR kR kR ?_
 refine aX hTT 1 [] tI ?_; refine nK hK ?_; clear hK K
 refine aw_ret ?_
 refine retM (v' := V.i F) [] [(4, V.i F)] (.inr rfl) (.cons kR .nil) .nil kR kR kR kR kR kR kR
abbrev yyGA85 (c : Cut) (l : List Pt) (r0 : Int) (per : Int) : Ob := Ob.box 97 [V.i (Cut.half c), V.i (Cut.gain c), V.i (Cut.thin c), V.i (Cut.wide c), V.i (Cut.slope c), V.i (Cut.jerk c), V.i (Cut.sty c), (yyGA83 l), V.i r0, V.i per]
set_option maxRecDepth 100000 in
theorem leastIL_am (c : Cut) (l : List Pt) (r0 p0 per F : Int) (hc : cutE c = 0) (hl : gChk l = 0) (hp : 1 ≤ per ∧ per ≤ 65536) (hF' : IsFst (fitB c l per) 4194305 F) :
  AM Tryz.prog 117 [.ref 500 0, .i per, .fn (.func 118) [] [.ref 501 0]] [TrO c l r0 p0, TB 500] (.tup [.i (if F ≤ 4194304 then F else 0), .i (if F ≤ 4194304 then 0 else 14)]) [none, none] [] := by
 have hFb := hF'.b
 refine am_intro hTT hMX (fn := Tryz.f117) (N := _) ⟨Tryz.func117, rfl, Tryz.ntmps117, kR⟩ (by simp) rfl (by simp) (by simp) fun C hF => ?_
 refine sK fun K hK => wR 2 ?_
 refine aops_x (M := [3, 5]) hTT 4 [(0, .r (pn 3 (V.ref 100003 0) (100003 : Nat) (Ob.box 95 [V.ref 500 0]))), (1, .r (pn 5 (V.ref 100005 0) (100005 : Nat) (Ob.box 32 [V.fn (Fn.func (118 : Nat)) [] [V.ref 501 0]])))] tI ?_
 refine nK hK ?_; clear hK K; refine sK fun K hK => wR 3 ?_
 refine aops_x (M := [3, 5]) hTT 5 [(0, .c qGA80), (4, .r (pw ((9 : Nat) + (1 : Nat) ≤ (10 : Nat)) (500 : Nat) ((yyGA85 c l r0 per))))] ⟨qGA80_, oM, tI⟩ ?_
 refine nK hK ?_; clear hK K; refine sK fun K hK => wR 4 ?_
 refine aops_x (M := [3, 5]) hTT 1 [] tI ?_
 refine aops_callM [100003, 100005, 500, 501] (first := []) (caps := []) (ins' := [Ob.box 95 [V.ref 500 0], Ob.box 32 [V.fn (Fn.func (118 : Nat)) [] [V.ref 501 0]], (yyGA85 c l r0 per), Ob.box 95 [V.ref 500 0]]) (v' := V.i F) (δ := [(100003, Option.none), (100005, Option.none), (500, Option.none), (501, Option.none)]) (kp := [100003, 100005, 500, 501]) (firstL_am c l r0 per F hc hl hp hF') kR kR kR kR kR kR rfl rfl kR (.box kR kR (.box kR kR (.box kR kR (.box kR kR .nil)))) kR kR kR ?_
 refine aX hTT 1 [] tI ?_; refine nK hK ?_; clear hK K; refine sK fun K hK => ?_; refine sK fun K hK => wR 5 ?_; refine aX hTT 2 [] tI ?_; refine nK hK ?_; clear hK K
 refine w_cond (t := decide ((4194304 : Int) < F)) kR (fun c1 => ?_) (fun c1 => ?_)
 ·
  refine sK fun K hK => ?_
  refine wR 6 ?_; refine aX hTT 2 [] tI ?_; refine nK hK ?_; clear hK K
  refine aw_ret ?_
  refine xt_r ?_
  rw [if_neg (by simp at c1; omega), if_neg (by simp at c1; omega)]
  refine retM (v' := V.tup [V.i 0, V.i 14]) [] [(6, V.i 0), (7, V.i 14)] (.inr rfl) (.cons kR (.cons kR .nil)) .nil kR kR kR kR kR kR kR
 ·
  refine aw_skip ?_
  refine xt_n (hK _ ?_); clear hK K; refine sK fun K hK => wR 6 ?_; refine aX hTT 3 [] tI ?_; refine nK hK ?_; clear hK K
  refine aw_ret ?_
  rw [if_pos (by simp at c1; omega), if_pos (by simp at c1; omega)]
  refine retM (v' := V.tup [V.i F, V.i 0]) [] [(6, V.i F), (7, V.i 0)] (.inr rfl) (.cons kR (.cons kR .nil)) .nil kR kR kR kR kR kR kR
end Go.Proofs.YtepkjobndmmejaaGreatDoor

namespace Go.Proofs.YtepkjobndmmejaaGreatDoor
open Go.Ab Go.RowKit Go.Dw Go.Shelf
theorem gRule_zero {c : Cut} {l : List Pt} {r per : Int} {i : Nat} : gRule c l r per i = 0 ↔ ∀ k, 1 ≤ k → k ≤ 5 → ruleB c r per (nb l i) (gp l i) (na l i) k = false := by
 constructor
 ·
  intro h k h1 h5
  cases hk : ruleB c r per (nb l i) (gp l i) (na l i) k with
  | false => rfl
  | true =>
   exfalso
   obtain ⟨m, ⟨m1, m2⟩, m3, m4⟩ : ∃ m : Nat, (1 ≤ m ∧ m ≤ 5) ∧ ruleB c r per (nb l i) (gp l i) (na l i) m = true ∧ ∀ j, 1 ≤ j → j < m → ruleB c r per (nb l i) (gp l i) (na l i) j = false := by
    have ex : ∃ m : Nat, (1 ≤ m ∧ m ≤ 5) ∧ ruleB c r per (nb l i) (gp l i) (na l i) m = true := ⟨k, ⟨h1, h5⟩, hk⟩
    obtain ⟨m, hm, hl⟩ := least _ ex
    refine ⟨m, hm.1, hm.2, fun j a b => ?_⟩
    cases hj : ruleB c r per (nb l i) (gp l i) (na l i) j with
    | false => rfl
    | true => have := hl j ⟨⟨a, by omega⟩, hj⟩; omega
   rw [gRule, ruleP_at m1 m2 m4 m3] at h
   omega
 ·
  intro h
  exact ruleP_no h
theorem gArc_mono {r r' per : Int} (hr : 0 ≤ r) (h : r ≤ r') (hp : 1 ≤ per) : gArc r per ≤ gArc r' per := by
 unfold gArc
 have h1 : 0 ≤ 710 * r * (710 * r) := Int.mul_nonneg oM oM
 have h2 : 710 * r * (710 * r) ≤ 710 * r' * (710 * r') := Int.mul_le_mul oM oM oM oM
 rw [Int.tdiv_eq_ediv_of_nonneg h1, Int.tdiv_eq_ediv_of_nonneg oM]
 have h3 : 0 < 113 * per * (113 * per) := Int.mul_pos oM oM
 exact Int.ediv_le_ediv h3 h2
theorem ruleB_mono {c : Cut} {r r' per : Int} {b : Option Pt} {h : Pt} {a : Option Pt} {k : Nat} (hc : cutE c = 0) (hr : 0 ≤ r) (hrr : r ≤ r') (hp : 1 ≤ per) (h1 : ruleB c r per b h a k = false) : ruleB c r' per b h a k = false := by
 obtain ⟨c1, c2, c3, c4, c5, c6, c7⟩ := cutE_ok.1 hc
 have m1 : 710 * r * c.slope ≤ 710 * r' * c.slope := Int.mul_le_mul_of_nonneg_right oM c5.1
 have m2 := gArc_mono hr hrr hp
 unfold ruleB at h1 ⊢
 split at h1 <;> rename_i e
 ·
  exact h1
 ·
  exact h1
 ·
  simp only [steepB, decide_eq_false_iff_not] at h1 ⊢; omega
 ·
  exact h1
 ·
  simp only [sharpB, decide_eq_false_iff_not] at h1 ⊢; omega
theorem gRule_mono {c : Cut} {l : List Pt} {r r' per : Int} {i : Nat} (hc : cutE c = 0) (hr : 0 ≤ r) (hrr : r ≤ r') (hp : 1 ≤ per) (h : gRule c l r per i = 0) : gRule c l r' per i = 0 :=
 gRule_zero.2 fun k h1 h5 => ruleB_mono hc hr hrr hp (gRule_zero.1 h k h1 h5)
theorem fitB_iff {c : Cut} {l : List Pt} {per r : Int} : fitB c l per r = true ↔ ∀ i, i < l.length → gRule c l r per i = 0 := by
 unfold fitB
 rw [decide_eq_true_eq]
 constructor
 ·
  intro h
  cases hf : faultN c l r per with
  | none => exact faultN_none.1 hf
  | some i =>
   rw [faultR, hf] at h
   have := (faultN_some.1 hf).2.1
   simp only at h
   omega
 ·
  intro h
  rw [faultR_none h]
theorem fit_fst {c : Cut} (l : List Pt) {per : Int} (hc : cutE c = 0) (hp : 1 ≤ per) : ∃ F, IsFst (fitB c l per) 4194305 F :=
 fst_exists (by decide) fun m n h0 hmn _ hm => fitB_iff.2 fun i hi => gRule_mono hc h0 hmn hp (fitB_iff.1 hm i hi)
def leastR (c : Cut) (l : List Pt) (per F : Int) : Int × Int :=
 if gErr c l = 0 then (if turnE per = 0 then (if F ≤ 4194304 then (F, 0) else (0, 14)) else (0, 3)) else (0, gErr c l)
theorem leastR_1 {c : Cut} {l : List Pt} {per F : Int} (h : ¬ gErr c l = 0) : leastR c l per F = (0, gErr c l) := by rw [leastR, if_neg h]
theorem leastR_2 {c : Cut} {l : List Pt} {per F : Int} (h : gErr c l = 0) (h2 : ¬ turnE per = 0) : leastR c l per F = (0, 3) := by rw [leastR, if_pos h, if_neg h2]
theorem leastR_3 {c : Cut} {l : List Pt} {per F : Int} (h : gErr c l = 0) (h2 : turnE per = 0) : leastR c l per F = (if F ≤ 4194304 then F else 0, if F ≤ 4194304 then 0 else 14) := by
 rw [leastR, if_pos h, if_pos h2]; split <;> rfl
theorem plcE_0 (per : Int) : plcE 0 per = turnE per := by
 rw [plcE_turn, if_pos (by decide)]
def FstOk (c : Cut) (l : List Pt) (per F : Int) : Prop := gErr c l = 0 → turnE per = 0 → IsFst (fitB c l per) 4194305 F
abbrev yyGA90 (c : Cut) (l : List Pt) : Ob := Ob.box 97 [V.i (Cut.half c), V.i (Cut.gain c), V.i (Cut.thin c), V.i (Cut.wide c), V.i (Cut.slope c), V.i (Cut.jerk c), V.i (Cut.sty c), V.sl 2 (List.length l) fun (k : Nat) => [V.i (Prod.fst (gp l k)), V.i (Prod.snd (gp l k))], V.i 0, V.i 0]
abbrev yyGA91 (F : Int) : V := V.tup [V.i (if F ≤ 4194304 then F else (0 : Int)), V.i (if F ≤ 4194304 then (0 : Int) else (14 : Int))]
set_option maxRecDepth 100000 in
theorem Least_ac (c : Cut) (l : List Pt) (per F : Int) (hl : l.length ≤ 4611686018427387904) (hF' : FstOk c l per F) : AC Tryz.prog 95 [c.v, V.pts l, .i per] (.tup [.i (leastR c l per F).1, .i (leastR c l per F).2]) [] := by
 have P0 := checkPlace_ac 0 per
 rw [plcE_0] at P0
 refine acI hTT hMX Tryz.func95 Tryz.ntmps95 fun C hC hF => ?_
 by_cases h : gErr c l = 0
 ·
  obtain ⟨q1, q2⟩ := gErr_ok h
  refine sK fun K hK => wR 2 ?_; refine aX hTT 3 [] tI ?_; refine nK hK ?_; clear hK K; refine sK fun K hK => wR 3 ?_; refine aX hTT 2 [] tI ?_
  refine e_callO (first := []) (caps := []) (k := 200013) (v' := V.tup [V.ref 200013 0, V.i 0]) (ob' := (yyGA90 c l)) (newTrack_ok c l hl h) kR kR kR kR kR kR kR ?_
  refine aX hTT 6 [(3, .r (pn 8 (V.ref 200008 0) (200008 : Nat) (Ob.box 95 [V.c (Value.pointer none)]))), (4, .r (pw ((0 : Nat) + (1 : Nat) ≤ (1 : Nat)) (200008 : Nat) (Ob.box 95 [V.ref 200013 0])))] ⟨oM, tI⟩ ?_; refine nK hK ?_; clear hK K; refine sK fun K hK => ?_; refine sK fun K hK => wR 4 ?_; refine aX hTT 2 [] tI ?_; refine nK hK ?_; clear hK K; refine w_true (t := true) kR rfl ?_; refine wR 5 ?_; refine aX hTT 1 [] tI ?_
  refine eC (P0) ?_
  refine aX hTT 1 [] tI ?_; refine nK hK ?_; clear hK K; refine sK fun K hK => ?_; refine sK fun K hK => wR 6 ?_; refine aX hTT 2 [] tI ?_; refine nK hK ?_; clear hK K
  refine w_cond (t := !decide (turnE per = 0)) kR (fun c1 => ?_) (fun c1 => ?_)
  ·
   have h2 : ¬ turnE per = 0 := by simpa using c1
   refine sK fun K hK => wR 7 ?_; refine aX hTT 3 [] tI ?_; refine nK hK ?_; clear hK K
   refine aw_ret ?_
   refine xt_r ?_
   rw [leastR_2 h h2, (turnE_or per).resolve_left h2]
   refine rP (V.tup [V.i 0, V.i 3])
  ·
   have h2 : turnE per = 0 := by simpa using c1
   refine aw_skip ?_
   refine xt_n (hK _ ?_); clear hK K; refine sK fun K hK => wR 7 ?_; refine aX hTT 3 [(0, .c ((0 : Nat) ≤ (1 : Nat)))] ⟨oM, tI⟩ ?_
   refine aops_callM [200013, 200008] (first := []) (caps := []) (ins' := [(yyGA90 c l), Ob.box 95 [V.ref 200013 0]]) (v' := (yyGA91 F)) (δ := [(200013, Option.none), (200008, Option.none)]) (kp := [200013, 200008]) (leastIL_am c l 0 0 per F q1 q2 (turnE_ok.1 h2) (hF' h h2)) kR kR kR kR kR kR rfl rfl kR (.box kR kR (.box kR kR .nil)) kR kR kR ?_
   refine aX hTT 4 [] tI ?_; refine nK hK ?_; clear hK K
   refine aw_ret ?_
   rw [leastR_3 h h2]
   refine rP ((yyGA91 F))
 ·
  refine sK fun K hK => ?_
  refine wR 2 ?_; refine aX hTT 3 [] tI ?_; refine nK hK ?_; clear hK K; refine sK fun K hK => wR 3 ?_; refine aX hTT 2 [] tI ?_
  refine eC (newTrack_no c l hl h) ?_
  refine aX hTT 6 [(3, .r (pn 8 (V.ref 200008 0) (200008 : Nat) (Ob.box 95 [V.c (Value.pointer none)]))), (4, .r (pw ((0 : Nat) + (1 : Nat) ≤ (1 : Nat)) (200008 : Nat) (Ob.box 95 [V.c (Value.pointer none)])))] ⟨oM, tI⟩ ?_; refine nK hK ?_; clear hK K; refine sK fun K hK => ?_; refine sK fun K hK => wR 4 ?_; refine aX hTT 2 [] tI ?_; refine nK hK ?_; clear hK K
  refine w_cond (t := decide (gErr c l = 0)) kR (fun c1 => ?_) (fun c1 => ?_)
  ·
   simp at c1
   exact absurd c1 h
  refine aw_skip ?_
  refine xt_n (hK _ ?_); clear hK K; refine sK fun K hK => ?_; refine sK fun K hK => wR 5 ?_; refine aX hTT 2 [] tI ?_; refine nK hK ?_; clear hK K
  refine w_cond (t := !decide (gErr c l = 0)) kR (fun c1 => ?_) (fun c1 => ?_)
  ·
   refine sK fun K hK => ?_
   refine wR 6 ?_; refine aX hTT 3 [] tI ?_; refine nK hK ?_; clear hK K
   refine aw_ret ?_
   refine xt_r ?_
   rw [leastR_1 h]
   refine rP (V.tup [V.i 0, V.i (gErr c l)])
  ·
   simp at c1
   exact absurd c1 h
end Go.Proofs.YtepkjobndmmejaaGreatDoor

namespace Go.Proofs.YtepkjobndmmejaaGreatDoor
open Go.Ab Go.RowKit Go.Dw Go.Shelf
end Go.Proofs.YtepkjobndmmejaaGreatDoor

namespace Go.Proofs.YtepkjobndmmejaaGreatDoor
open Go.Ab Go.RowKit Go.Dw Go.Shelf
def exC : Cut := ⟨400, 2000, 200, 2000, 1000, 1000, 100⟩
theorem fit_at {c : Cut} {l : List Pt} {per F : Int} (hc : cutE c = 0) (hp : 1 ≤ per) (h0 : 0 < F) (hF : F ≤ 4194304) (h1 : fitB c l per (F - 1) = false) (h2 : fitB c l per F = true) : IsFst (fitB c l per) 4194305 F := by
 obtain ⟨G, hG⟩ := fit_fst l hc hp
 have a := (hG.iff (n := F) oM oM).1 h2
 have b : ¬ G ≤ F - 1 := fun h => by
  have := (hG.iff (n := F - 1) oM oM).2 h
  rw [h1] at this; cases this
 obtain rfl : F = G := by omega
 exact hG
def ex3 : List Pt := [(-400, 400), (-200, 600), (-400, 400)]
theorem exC_ok : cutE exC = 0 := by decide
theorem ex3_fst : IsFst (fitB exC ex3 1000) 4194305 31831 := fit_at exC_ok (by decide) (by decide) (by decide) (by decide +kernel) (by decide +kernel)
theorem ex3_least : leastR exC ex3 1000 31831 = (31831, 0) := by decide +kernel
theorem ex3_cut : cutR exC [(0, 0), (100, 100), (0, 0)] = (ex3, 0) := by decide +kernel
theorem gLit3 {row : Nat → List V} {x y z : Pt} (h0 : row 0 = [.i x.1, .i x.2]) (h1 : row 1 = [.i y.1, .i y.2]) (h2 : row 2 = [.i z.1, .i z.2]) : RImp (.sl 2 3 row) (V.pts [x, y, z]) := by
 refine RImp.rows rfl fun i hi => ?_
 rcases (by omega : i = 0 ∨ i = 1 ∨ i = 2) with rfl | rfl | rfl
 ·
  exact h0
 ·
  exact h1
 ·
  exact h2
theorem exL_ac : AC Tryz.prog 95 [exC.v, V.pts ex3, .i 1000] (.tup [.i 31831, .i 0]) [] := by
 have A := Least_ac exC ex3 1000 31831 (by decide) (fun _ _ => ex3_fst)
 rw [ex3_least] at A
 exact A
theorem exCut_ac : AC Tryz.prog 11 [exC.v, V.pts [(0, 0), (100, 100), (0, 0)]] (.tup [V.pts ex3, .i 0]) [] := by
 have A := Cut_ac exC [(0, 0), (100, 100), (0, 0)] (by decide)
 rw [ex3_cut] at A
 exact A
end Go.Proofs.YtepkjobndmmejaaGreatDoor

namespace Go.Proofs.YtepkjobndmmejaaGreatDoor
open Go.Ab Go.RowKit Go.Dw Go.Shelf
theorem chE_nn {g n : Int} (hg : 0 ≤ g) (hn : 0 ≤ n) : chE g n = n * g / 1000 := by
  unfold chE
  rw [Int.tdiv_eq_ediv_of_nonneg (Int.mul_nonneg hn hg)]
theorem chE_mono' {g m n : Int} (hg : 0 ≤ g) (h0 : 0 ≤ m) (h : m ≤ n) : chE g m ≤ chE g n := by
  rw [chE_nn hg h0, chE_nn hg oM]
  exact Int.ediv_le_ediv (by decide) (Int.mul_le_mul_of_nonneg_right h hg)
end Go.Proofs.YtepkjobndmmejaaGreatDoor
