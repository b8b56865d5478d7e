/-
  Several texts in one: Curves and chains that are valid: both copies. Condition: as many elements as a slice can have. .. The indexes of a list, from the first one to the last and back: what the iterator hands out. Condition: a length of at most 65536.
-/
import Derived.Test.YtepkjobndmmejaaGreatDoorAbs42
import Derived.Test.YtepkjobndmmejaaGreatDoorX08
import Derived.Test.YtepkjobndmmejaaGreatDoorX02
import Derived.Test.YtepkjobndmmejaaGreatDoorMC
import Derived.Test.YtepkjobndmmejaaGreatDoorX01
import Derived.Test.YtepkjobndmmejaaGreatDoorX00
namespace Go.Proofs.YtepkjobndmmejaaGreatDoor
open Go.Ab Go.RowKit Go.Dw Go.Shelf
abbrev V.cv (c : Cv) : V := .agg [V.ints c.feed, V.ints c.back, V.i c.share]
def cv0 : Cv := ⟨[], [], 0⟩
def gc (l : List Cv) (k : Nat) : Cv := l.getD k cv0
theorem gc_eq {l : List Cv} {k : Nat} (h : k < l.length) : gc l k = l[k] := by simp [gc, h]
def V.cvs (l : List Cv) : V := .sl 3 l.length fun k => [V.ints (gc l k).feed, V.ints (gc l k).back, V.i (gc l k).share]
def cvL (c : Cv) : Prop := c.feed.length ≤ bigL ∧ c.back.length ≤ bigL
theorem cvE_many {c : Cv} (h : 8 < c.feed.length ∨ 8 < c.back.length) : cvE c = 6 := by unfold cvE; rw [if_pos oM]
theorem cvE_few {c : Cv} (h1 : c.feed.length ≤ 8) (h2 : c.back.length ≤ 8) : cvE c = if (c.feed.any fun n => bey n 4096) || (c.back.any fun n => bey n 4096) || decide (c.share < 1) || decide (4096 < c.share) then 2 else 0 := by
 unfold cvE; rw [if_neg oM]
set_option maxRecDepth 100000 in
theorem CheckCurve_ac (c : Cv) (hl : cvL c) : AC Tryz.prog 156 [V.cv c] (.i (cvE c)) [] := by
 obtain ⟨hl1, hl2⟩ := hl
 refine acI hTT hMX Tryz.func156 Tryz.ntmps156 fun C hC hF => ?_
 refine sK fun K hK => wR 2 ?_; refine aX hTT 2 [] tI ?_; refine nK hK ?_; clear hK K; refine sK fun K hK => ?_
 refine aw_block ?_
 refine sK fun K hK => wR 3 ?_; refine aX hTT 9 [] tI ?_; refine nK hK ?_; clear hK K
 refine w_cond (t := decide ((8 : Int) < max (↑(List.length (Cv.feed c)) : Int) (↑(List.length (Cv.back c)) : Int))) kR (fun c1 => ?_) (fun c1 => ?_)
 ·
  simp at c1
  refine sK fun K hK => wR 4 ?_
  refine aops_n hTT (M := []) (n := 1) [pv (2 : Nat) (V.i (6 : Int))] kR kR tI ?_
  refine nK hK ?_; clear hK K
  refine aw_ret ?_
  refine xb_r ?_
  refine xt_r ?_
  rw [cvE_many oM]
  refine rP (V.i (6 : Int))
 ·
  simp at c1
  refine sK fun K hK => wR 4 ?_
  refine aops_n hTT (M := []) (n := 2) [pv (13 : Nat) (V.ptr [V.sl (1 : Nat) (List.length (Cv.feed c)) fun (k : Nat) => [V.i (gi (Cv.feed c) k)], V.sl (1 : Nat) (List.length (Cv.back c)) fun (k : Nat) => [V.i (gi (Cv.back c) k)], V.i (Cv.share c)]), pv (14 : Nat) (V.sl (1 : Nat) (List.length (Cv.feed c)) fun (k : Nat) => [V.i (gi (Cv.feed c) k)])] kR kR tI ?_
  refine eC (anyBeyond_ac c.feed 4096 hl1 (by decide)) ?_
  refine aops_n hTT (M := []) (n := 3) [pv (16 : Nat) (V.b (List.any (Cv.feed c) fun (n : Int) => bey n (4096 : Int))), pc (17 : Nat) ((True ∧ True) ∧ (((List.any (Cv.feed c) fun (n : Int) => bey n (4096 : Int)) == false) = true → True)) (V.gd ((List.any (Cv.feed c) fun (n : Int) => bey n (4096 : Int)) == false) (V.ptr [V.sl (1 : Nat) (List.length (Cv.back c)) fun (k : Nat) => [V.i (gi (Cv.back c) k)], V.i (Cv.share c)])), pc (18 : Nat) (((((List.any (Cv.feed c) fun (n : Int) => bey n (4096 : Int)) == false) = true → ((List.any (Cv.feed c) fun (n : Int) => bey n (4096 : Int)) == false) = true) ∧ True) ∧ (((List.any (Cv.feed c) fun (n : Int) => bey n (4096 : Int)) == false) = true → True)) (V.gd ((List.any (Cv.feed c) fun (n : Int) => bey n (4096 : Int)) == false) (V.sl (1 : Nat) (List.length (Cv.back c)) fun (k : Nat) => [V.i (gi (Cv.back c) k)]))] kR kR ⟨⟨⟨tI, tI⟩, (fun _ => tI)⟩, ⟨⟨(by (exact fun h => h)), tI⟩, (fun _ => tI)⟩, tI⟩ ?_
  refine eG 1 (g := (List.any (Cv.feed c) fun (n : Int) => bey n (4096 : Int)) == false) (fun h => anyBeyond_ac c.back 4096 hl2 (by decide)) ?_
  refine aops_n hTT (M := []) (n := 12) [pc (20 : Nat) (True ∧ ((List.any (Cv.feed c) fun (n : Int) => bey n (4096 : Int)) = false → ((List.any (Cv.feed c) fun (n : Int) => bey n (4096 : Int)) == false) = true)) (V.b ((List.any (Cv.feed c) fun (n : Int) => bey n (4096 : Int)) || List.any (Cv.back c) fun (n : Int) => bey n (4096 : Int))), pv (21 : Nat) (V.b ((List.any (Cv.feed c) fun (n : Int) => bey n (4096 : Int)) || List.any (Cv.back c) fun (n : Int) => bey n (4096 : Int))), pc (22 : Nat) ((True ∧ True) ∧ ((((List.any (Cv.feed c) fun (n : Int) => bey n (4096 : Int)) || List.any (Cv.back c) fun (n : Int) => bey n (4096 : Int)) == false) = true → True)) (V.gd (((List.any (Cv.feed c) fun (n : Int) => bey n (4096 : Int)) || List.any (Cv.back c) fun (n : Int) => bey n (4096 : Int)) == false) (V.ptr [V.i (Cv.share c)])), pc (23 : Nat) ((((((List.any (Cv.feed c) fun (n : Int) => bey n (4096 : Int)) || List.any (Cv.back c) fun (n : Int) => bey n (4096 : Int)) == false) = true → (((List.any (Cv.feed c) fun (n : Int) => bey n (4096 : Int)) || List.any (Cv.back c) fun (n : Int) => bey n (4096 : Int)) == false) = true) ∧ True) ∧ ((((List.any (Cv.feed c) fun (n : Int) => bey n (4096 : Int)) || List.any (Cv.back c) fun (n : Int) => bey n (4096 : Int)) == false) = true → True)) (V.gd (((List.any (Cv.feed c) fun (n : Int) => bey n (4096 : Int)) || List.any (Cv.back c) fun (n : Int) => bey n (4096 : Int)) == false) (V.i (Cv.share c))), pc (24 : Nat) ((((((List.any (Cv.feed c) fun (n : Int) => bey n (4096 : Int)) || List.any (Cv.back c) fun (n : Int) => bey n (4096 : Int)) == false) = true → (((List.any (Cv.feed c) fun (n : Int) => bey n (4096 : Int)) || List.any (Cv.back c) fun (n : Int) => bey n (4096 : Int)) == false) = true) ∧ True ∧ True) ∧ ((((List.any (Cv.feed c) fun (n : Int) => bey n (4096 : Int)) || List.any (Cv.back c) fun (n : Int) => bey n (4096 : Int)) == false) = true → True)) (V.gd (((List.any (Cv.feed c) fun (n : Int) => bey n (4096 : Int)) || List.any (Cv.back c) fun (n : Int) => bey n (4096 : Int)) == false) (V.b (decide (Cv.share c < 1)))), pc (25 : Nat) (True ∧ (((List.any (Cv.feed c) fun (n : Int) => bey n (4096 : Int)) || List.any (Cv.back c) fun (n : Int) => bey n (4096 : Int)) = false → (((List.any (Cv.feed c) fun (n : Int) => bey n (4096 : Int)) || List.any (Cv.back c) fun (n : Int) => bey n (4096 : Int)) == false) = true)) (V.b (((List.any (Cv.feed c) fun (n : Int) => bey n (4096 : Int)) || List.any (Cv.back c) fun (n : Int) => bey n (4096 : Int)) || decide (Cv.share c < 1))), pv (26 : Nat) (V.b (((List.any (Cv.feed c) fun (n : Int) => bey n (4096 : Int)) || List.any (Cv.back c) fun (n : Int) => bey n (4096 : Int)) || decide (Cv.share c < 1))), pc (27 : Nat) ((True ∧ True) ∧ (((((List.any (Cv.feed c) fun (n : Int) => bey n (4096 : Int)) || List.any (Cv.back c) fun (n : Int) => bey n (4096 : Int)) || decide (Cv.share c < 1)) == false) = true → True)) (V.gd ((((List.any (Cv.feed c) fun (n : Int) => bey n (4096 : Int)) || List.any (Cv.back c) fun (n : Int) => bey n (4096 : Int)) || decide (Cv.share c < 1)) == false) (V.ptr [V.i (Cv.share c)])), pc (28 : Nat) (((((((List.any (Cv.feed c) fun (n : Int) => bey n (4096 : Int)) || List.any (Cv.back c) fun (n : Int) => bey n (4096 : Int)) || decide (Cv.share c < 1)) == false) = true → ((((List.any (Cv.feed c) fun (n : Int) => bey n (4096 : Int)) || List.any (Cv.back c) fun (n : Int) => bey n (4096 : Int)) || decide (Cv.share c < 1)) == false) = true) ∧ True) ∧ (((((List.any (Cv.feed c) fun (n : Int) => bey n (4096 : Int)) || List.any (Cv.back c) fun (n : Int) => bey n (4096 : Int)) || decide (Cv.share c < 1)) == false) = true → True)) (V.gd ((((List.any (Cv.feed c) fun (n : Int) => bey n (4096 : Int)) || List.any (Cv.back c) fun (n : Int) => bey n (4096 : Int)) || decide (Cv.share c < 1)) == false) (V.i (Cv.share c))), pc (29 : Nat) (((((((List.any (Cv.feed c) fun (n : Int) => bey n (4096 : Int)) || List.any (Cv.back c) fun (n : Int) => bey n (4096 : Int)) || decide (Cv.share c < 1)) == false) = true → ((((List.any (Cv.feed c) fun (n : Int) => bey n (4096 : Int)) || List.any (Cv.back c) fun (n : Int) => bey n (4096 : Int)) || decide (Cv.share c < 1)) == false) = true) ∧ True ∧ True) ∧ (((((List.any (Cv.feed c) fun (n : Int) => bey n (4096 : Int)) || List.any (Cv.back c) fun (n : Int) => bey n (4096 : Int)) || decide (Cv.share c < 1)) == false) = true → True)) (V.gd ((((List.any (Cv.feed c) fun (n : Int) => bey n (4096 : Int)) || List.any (Cv.back c) fun (n : Int) => bey n (4096 : Int)) || decide (Cv.share c < 1)) == false) (V.b (decide ((4096 : Int) < Cv.share c)))), pc (30 : Nat) (True ∧ ((((List.any (Cv.feed c) fun (n : Int) => bey n (4096 : Int)) || List.any (Cv.back c) fun (n : Int) => bey n (4096 : Int)) || decide (Cv.share c < 1)) = false → ((((List.any (Cv.feed c) fun (n : Int) => bey n (4096 : Int)) || List.any (Cv.back c) fun (n : Int) => bey n (4096 : Int)) || decide (Cv.share c < 1)) == false) = true)) (V.b (((List.any (Cv.feed c) fun (n : Int) => bey n (4096 : Int)) || List.any (Cv.back c) fun (n : Int) => bey n (4096 : Int)) || decide (Cv.share c < 1) || decide ((4096 : Int) < Cv.share c))), pv (12 : Nat) (V.b (((List.any (Cv.feed c) fun (n : Int) => bey n (4096 : Int)) || List.any (Cv.back c) fun (n : Int) => bey n (4096 : Int)) || decide (Cv.share c < 1) || decide ((4096 : Int) < Cv.share c)))] kR kR ⟨⟨tI, (by (intro h; rw [h]; rfl))⟩, ⟨⟨tI, tI⟩, (fun _ => tI)⟩, ⟨⟨(by (exact fun h => h)), tI⟩, (fun _ => tI)⟩, ⟨⟨(by (exact fun h => h)), ⟨tI, tI⟩⟩, (fun _ => tI)⟩, ⟨tI, (by (intro h; rw [h]; rfl))⟩, ⟨⟨tI, tI⟩, (fun _ => tI)⟩, ⟨⟨(by (exact fun h => h)), tI⟩, (fun _ => tI)⟩, ⟨⟨(by (exact fun h => h)), ⟨tI, tI⟩⟩, (fun _ => tI)⟩, ⟨tI, (by (intro h; rw [h]; rfl))⟩, tI⟩ ?_
  refine nK hK ?_; clear hK K
  refine w_cond (t := ((List.any (Cv.feed c) fun (n : Int) => bey n (4096 : Int)) || List.any (Cv.back c) fun (n : Int) => bey n (4096 : Int)) || decide (Cv.share c < 1) || decide ((4096 : Int) < Cv.share c)) kR (fun c2 => ?_) (fun c2 => ?_)
  ·
   refine sK fun K hK => ?_
   refine wR 5 ?_; refine aX hTT 1 [] tI ?_; refine nK hK ?_; clear hK K
   refine aw_ret ?_
   refine xb_r ?_
   refine xt_r ?_
   rw [cvE_few oM oM, if_pos c2]
   refine rP (V.i (2 : Int))
  ·
   refine aw_skip ?_
   refine xb_n ?_; refine xt_n (hK _ ?_); clear hK K; refine sK fun K hK => wR 5 ?_; refine aX hTT 1 [] tI ?_; refine nK hK ?_; clear hK K
   refine aw_ret ?_
   rw [cvE_few oM oM, if_neg (by rw [c2]; decide)]
   refine rP (V.i (0 : Int))
def fChE (l : List Cv) : Int := if 8 < l.length then 6 else match l.find? fun c => decide (cvE c ≠ 0) with | some c => cvE c | none => 0
theorem fChE_first {l : List Cv} (h8 : l.length ≤ 8) {k : Nat} (hk : k < l.length) (h : cvE (gc l k) ≠ 0) (hj : ∀ j, j < k → cvE (gc l j) = 0) : fChE l = cvE (gc l k) := by
 have : l.find? (fun c => decide (cvE c ≠ 0)) = some (gc l k) := by
  rw [gc_eq hk] at h ⊢
  rw [List.find?_eq_some_iff_getElem]
  refine ⟨by simpa using h, k, hk, rfl, fun j hjk => ?_⟩
  have := hj j hjk
  rw [gc_eq oM] at this
  simp [this]
 unfold fChE
 rw [if_neg oM, this]
theorem fChE_ok {l : List Cv} : fChE l = 0 ↔ l.length ≤ 8 ∧ ∀ k, k < l.length → cvE (gc l k) = 0 := by
 constructor
 ·
  intro h
  have h8 : l.length ≤ 8 := by
   unfold fChE at h
   split at h
   ·
    cases h
   ·
    omega
  refine ⟨h8, fun k hk => ?_⟩
  by_cases hc : ∃ k, k < l.length ∧ cvE (gc l k) ≠ 0
  ·
   obtain ⟨j, ⟨h1, h2⟩, h3⟩ := least _ hc
   rw [fChE_first h8 h1 h2 fun i hi => by
    by_cases h0 : cvE (gc l i) = 0
    ·
     exact h0
    ·
     have := h3 i ⟨by omega, h0⟩; omega] at h
   exact absurd h h2
  ·
   by_cases h0 : cvE (gc l k) = 0
   ·
    exact h0
   ·
    exact absurd ⟨k, hk, h0⟩ hc
 ·
  rintro ⟨h8, h⟩
  have : l.find? (fun c => decide (cvE c ≠ 0)) = none := by
   rw [List.find?_eq_none]
   intro x hx
   obtain ⟨k, hk, rfl⟩ := List.getElem_of_mem hx
   have := h k hk
   rw [gc_eq hk] at this
   simp [this]
  unfold fChE
  rw [if_neg oM, this]
def cvsL (l : List Cv) : Prop := l.length ≤ bigL ∧ ∀ k, k < l.length → cvL (gc l k)
set_option maxRecDepth 100000 in
theorem checkChain_ac (l : List Cv) (hl : cvsL l) : AC Tryz.prog 135 [V.cvs l] (.i (fChE l)) [] := by
 obtain ⟨hl1, hl2⟩ := hl
 unfold bigL at hl1
 refine acI hTT hMX Tryz.func135 Tryz.ntmps135 fun C hC hF => ?_
 refine sK fun K hK => wR 2 ?_; refine aX hTT 1 [] tI ?_; refine nK hK ?_; clear hK K; refine sK fun K hK => ?_; refine sK fun K hK => wR 3 ?_; refine aX hTT 3 [] tI ?_; refine nK hK ?_; clear hK K
 refine w_cond (t := decide ((8 : Int) < (↑(List.length l) : Int))) kR (fun c1 => ?_) (fun c1 => ?_)
 ·
  simp at c1
  refine sK fun K hK => wR 4 ?_; refine aX hTT 1 [] tI ?_; refine nK hK ?_; clear hK K
  refine aw_ret ?_
  refine xt_r ?_
  rw [show fChE l = 6 by unfold fChE; rw [if_pos oM]]
  refine rP (V.i 6)
 simp at c1
 refine aw_skip ?_
 refine xt_n (hK _ ?_); clear hK K; refine sK fun K hK => ?_; refine sK fun K hK => wR 4 ?_; refine aX hTT 3 [] tI ?_; refine nK hK ?_; clear hK K
 refine aw_block ?_
 refine w_loop (ι := Nat) (fun k => [(9, V.cvs l), (10, .i l.length), (11, .i k)]) (fun _ => []) (fun k => k ≤ l.length ∧ ∀ j, j < k → cvE (gc l j) = 0) (fun k => l.length - k) 0 ⟨Nat.zero_le _, fun j hj => by omega⟩ ?_ ?_
 ·
  refine le_ren [] (.cons kR (.cons kR (.cons kR .nil))) .nil kR kR
 rintro k ⟨hk, hb⟩
 refine sK fun K hK => wR 2 ?_; refine aX hTT 1 [] tI ?_; refine nK hK ?_; clear hK K; refine sK fun K hK => ?_
 refine w_cond (t := decide ((↑k : Int) < (↑(List.length l) : Int))) kR (fun c2 => ?_) (fun c2 => ?_)
 ·
  simp at c2
  refine aw_skip ?_
  refine xt_n (hK _ ?_); clear hK K; refine sK fun K hK => ?_
  refine aw_block ?_
  refine sK fun K hK => wR 3 ?_; refine aX hTT 4 [(0, .c ((0 : Int) ≤ (↑k : Int) ∧ (↑k : Int) < (↑(List.length l) : Int))), (2, .r (pn 4 (V.ref 200004 0) (200004 : Nat) (Ob.box 162 [V.nil, V.nil, V.i 0]))), (3, .r (pw ((0 : Nat) + (3 : Nat) ≤ (3 : Nat)) (200004 : Nat) (Ob.box 162 [V.sl 1 (List.length (Cv.feed (gc l k))) fun (k_1 : Nat) => [V.i (gi (Cv.feed (gc l k)) k_1)], V.sl 1 (List.length (Cv.back (gc l k))) fun (k_1 : Nat) => [V.i (gi (Cv.back (gc l k)) k_1)], V.i (Cv.share (gc l k))])))] ⟨oM, oM, tI⟩ ?_; refine nK hK ?_; clear hK K; refine sK fun K hK => wR 4 ?_; refine aX hTT 1 [(0, .c ((0 : Nat) ≤ (3 : Nat)))] ⟨oM, tI⟩ ?_
  refine eC (CheckCurve_ac (gc l k) (hl2 k c2)) ?_
  refine aX hTT 1 [] tI ?_; refine nK hK ?_; clear hK K; refine sK fun K hK => wR 5 ?_; refine aX hTT 2 [] tI ?_; refine nK hK ?_; clear hK K
  refine w_cond (t := !decide (cvE (gc l k) = 0)) kR (fun c3 => ?_) (fun c3 => ?_)
  ·
   simp at c3
   refine sK fun K hK => wR 6 ?_; refine aX hTT 2 [] tI ?_; refine nK hK ?_; clear hK K
   refine aw_ret ?_
   refine xb_r ?_
   refine xt_r ?_; refine xt_r ?_
   refine xb_r ?_
   refine xt_r ?_
   rw [fChE_first oM c2 c3 hb]
   refine rP (V.i (cvE (gc l k)))
  ·
   simp at c3
   refine aw_skip ?_
   refine xb_n ?_; refine xt_n (hK _ ?_); clear hK K; refine wR 6 ?_; refine aX hTT 2 [(0, .i ((↑k : Int) + 1))] ⟨oM, tI⟩ ?_; refine aops_nil ?_; refine xt_n ?_
   refine ⟨k + 1, ⟨by omega, fun j hj => ?_⟩, by refine le_ren [] (.cons kR (.cons kR (.cons kR .nil))) .nil kR kR, by omega⟩
   by_cases h : j < k
   ·
    exact hb j h
   ·
    obtain rfl : j = k := by omega
    exact c3
 ·
  simp at c2
  refine aw_exit ?_
  refine xt_x ?_; refine xt_x ?_
  refine xb_same ?_
  refine xt_n ?_; clear hK K; refine hK _ ?_; clear hK K; refine sK fun K hK => wR 3 ?_; refine aX hTT 1 [] tI ?_; refine nK hK ?_; clear hK K
  refine aw_ret ?_
  rw [fChE_ok.2 ⟨by omega, fun k hk => hb k oM⟩]
  refine rP (V.i 0)
end Go.Proofs.YtepkjobndmmejaaGreatDoor

namespace Go.Proofs.YtepkjobndmmejaaGreatDoor
open Go.Ab Go.RowKit Go.Dw Go.Shelf
def ringC (h : List Int) (m : Nat) : List V := [V.i (gi h ((m + 7) % 8)), V.i (gi h ((m + 6) % 8)), V.i (gi h ((m + 5) % 8)), V.i (gi h ((m + 4) % 8)), V.i (gi h ((m + 3) % 8)), V.i (gi h ((m + 2) % 8)), V.i (gi h ((m + 1) % 8)), V.i (gi h (m % 8)), V.i m]
def stD (c : Cv) (hy hx : List Int) (m m' : Nat) : List V := ringC hy m ++ ringC hx m' ++ [V.ints c.feed, V.ints c.back, V.i c.share]
abbrev StO (c : Cv) (hy hx : List Int) (m m' : Nat) : Ob := .box 239 (stD c hy hx m m')
abbrev qFA30 : Prop := (8 : Int) ≠ (0 : Int)
theorem qFA30_ : qFA30 := oM
abbrev qFA31 : Prop := (17 : Nat) ≤ (21 : Nat)
theorem qFA31_ : qFA31 := oM
abbrev qFA32 : Prop := (8 : Nat) ≤ (21 : Nat)
theorem qFA32_ : qFA32 := oM
abbrev yyFA38 (c : Cv) : V := V.sl 1 (List.length (Cv.feed c)) fun (k : Nat) => [V.i (gi (Cv.feed c) k)]
abbrev yyFA39 (c : Cv) : V := V.sl 1 (List.length (Cv.back c)) fun (k : Nat) => [V.i (gi (Cv.back c) k)]
abbrev yyFA30 (c : Cv) (hy : List Int) (hx : List Int) (m : Nat) (n : Int) : Ob := Ob.box 239 [V.i (gi hy ((m + 7) % 8)), V.i (gi hy ((m + 6) % 8)), V.i (gi hy ((m + 5) % 8)), V.i (gi hy ((m + 4) % 8)), V.i (gi hy ((m + 3) % 8)), V.i (gi hy ((m + 2) % 8)), V.i (gi hy ((m + 1) % 8)), V.i (gi hy (m % 8)), V.i (↑m : Int), V.i (gi hx (((7 : Nat) + (7 : Nat)) % 8)), V.i (gi hx (((7 : Nat) + (6 : Nat)) % 8)), V.i (gi hx (((7 : Nat) + (5 : Nat)) % 8)), V.i (gi hx (((7 : Nat) + (4 : Nat)) % 8)), V.i (gi hx (((7 : Nat) + (3 : Nat)) % 8)), V.i (gi hx (((7 : Nat) + (2 : Nat)) % 8)), V.i (gi hx (((7 : Nat) + (1 : Nat)) % 8)), V.i n, V.i 0, (yyFA38 c), (yyFA39 c), V.i (Cv.share c)]
abbrev yyFA31 (c : Cv) (hy : List Int) (hx : List Int) (m : Nat) (n : Int) : Ob := Ob.box 239 [V.i (gi hy ((m + 7) % 8)), V.i (gi hy ((m + 6) % 8)), V.i (gi hy ((m + 5) % 8)), V.i (gi hy ((m + 4) % 8)), V.i (gi hy ((m + 3) % 8)), V.i (gi hy ((m + 2) % 8)), V.i (gi hy ((m + 1) % 8)), V.i (gi hy (m % 8)), V.i (↑m : Int), V.i n, V.i (gi hx (((0 : Nat) + (6 : Nat)) % 8)), V.i (gi hx (((0 : Nat) + (5 : Nat)) % 8)), V.i (gi hx (((0 : Nat) + (4 : Nat)) % 8)), V.i (gi hx (((0 : Nat) + (3 : Nat)) % 8)), V.i (gi hx (((0 : Nat) + (2 : Nat)) % 8)), V.i (gi hx (((0 : Nat) + (1 : Nat)) % 8)), V.i (gi hx ((0 : Nat) % (8 : Nat))), V.i 1, (yyFA38 c), (yyFA39 c), V.i (Cv.share c)]
abbrev yyFA32 (c : Cv) (hy : List Int) (hx : List Int) (m : Nat) (n : Int) : Ob := Ob.box 239 [V.i (gi hy ((m + 7) % 8)), V.i (gi hy ((m + 6) % 8)), V.i (gi hy ((m + 5) % 8)), V.i (gi hy ((m + 4) % 8)), V.i (gi hy ((m + 3) % 8)), V.i (gi hy ((m + 2) % 8)), V.i (gi hy ((m + 1) % 8)), V.i (gi hy (m % 8)), V.i (↑m : Int), V.i (gi hx (((1 : Nat) + (7 : Nat)) % 8)), V.i n, V.i (gi hx (((1 : Nat) + (5 : Nat)) % 8)), V.i (gi hx (((1 : Nat) + (4 : Nat)) % 8)), V.i (gi hx (((1 : Nat) + (3 : Nat)) % 8)), V.i (gi hx (((1 : Nat) + (2 : Nat)) % 8)), V.i (gi hx (((1 : Nat) + (1 : Nat)) % 8)), V.i (gi hx ((1 : Nat) % (8 : Nat))), V.i 2, (yyFA38 c), (yyFA39 c), V.i (Cv.share c)]
abbrev yyFA33 (c : Cv) (hy : List Int) (hx : List Int) (m : Nat) (n : Int) : Ob := Ob.box 239 [V.i (gi hy ((m + 7) % 8)), V.i (gi hy ((m + 6) % 8)), V.i (gi hy ((m + 5) % 8)), V.i (gi hy ((m + 4) % 8)), V.i (gi hy ((m + 3) % 8)), V.i (gi hy ((m + 2) % 8)), V.i (gi hy ((m + 1) % 8)), V.i (gi hy (m % 8)), V.i (↑m : Int), V.i (gi hx (((2 : Nat) + (7 : Nat)) % 8)), V.i (gi hx (((2 : Nat) + (6 : Nat)) % 8)), V.i n, V.i (gi hx (((2 : Nat) + (4 : Nat)) % 8)), V.i (gi hx (((2 : Nat) + (3 : Nat)) % 8)), V.i (gi hx (((2 : Nat) + (2 : Nat)) % 8)), V.i (gi hx (((2 : Nat) + (1 : Nat)) % 8)), V.i (gi hx ((2 : Nat) % (8 : Nat))), V.i 3, (yyFA38 c), (yyFA39 c), V.i (Cv.share c)]
abbrev yyFA34 (c : Cv) (hy : List Int) (hx : List Int) (m : Nat) (n : Int) : Ob := Ob.box 239 [V.i (gi hy ((m + 7) % 8)), V.i (gi hy ((m + 6) % 8)), V.i (gi hy ((m + 5) % 8)), V.i (gi hy ((m + 4) % 8)), V.i (gi hy ((m + 3) % 8)), V.i (gi hy ((m + 2) % 8)), V.i (gi hy ((m + 1) % 8)), V.i (gi hy (m % 8)), V.i (↑m : Int), V.i (gi hx (((3 : Nat) + (7 : Nat)) % 8)), V.i (gi hx (((3 : Nat) + (6 : Nat)) % 8)), V.i (gi hx (((3 : Nat) + (5 : Nat)) % 8)), V.i n, V.i (gi hx (((3 : Nat) + (3 : Nat)) % 8)), V.i (gi hx (((3 : Nat) + (2 : Nat)) % 8)), V.i (gi hx (((3 : Nat) + (1 : Nat)) % 8)), V.i (gi hx ((3 : Nat) % (8 : Nat))), V.i 4, (yyFA38 c), (yyFA39 c), V.i (Cv.share c)]
abbrev yyFA35 (c : Cv) (hy : List Int) (hx : List Int) (m : Nat) (n : Int) : Ob := Ob.box 239 [V.i (gi hy ((m + 7) % 8)), V.i (gi hy ((m + 6) % 8)), V.i (gi hy ((m + 5) % 8)), V.i (gi hy ((m + 4) % 8)), V.i (gi hy ((m + 3) % 8)), V.i (gi hy ((m + 2) % 8)), V.i (gi hy ((m + 1) % 8)), V.i (gi hy (m % 8)), V.i (↑m : Int), V.i (gi hx (((4 : Nat) + (7 : Nat)) % 8)), V.i (gi hx (((4 : Nat) + (6 : Nat)) % 8)), V.i (gi hx (((4 : Nat) + (5 : Nat)) % 8)), V.i (gi hx (((4 : Nat) + (4 : Nat)) % 8)), V.i n, V.i (gi hx (((4 : Nat) + (2 : Nat)) % 8)), V.i (gi hx (((4 : Nat) + (1 : Nat)) % 8)), V.i (gi hx ((4 : Nat) % (8 : Nat))), V.i 5, (yyFA38 c), (yyFA39 c), V.i (Cv.share c)]
abbrev yyFA36 (c : Cv) (hy : List Int) (hx : List Int) (m : Nat) (n : Int) : Ob := Ob.box 239 [V.i (gi hy ((m + 7) % 8)), V.i (gi hy ((m + 6) % 8)), V.i (gi hy ((m + 5) % 8)), V.i (gi hy ((m + 4) % 8)), V.i (gi hy ((m + 3) % 8)), V.i (gi hy ((m + 2) % 8)), V.i (gi hy ((m + 1) % 8)), V.i (gi hy (m % 8)), V.i (↑m : Int), V.i (gi hx (((5 : Nat) + (7 : Nat)) % 8)), V.i (gi hx (((5 : Nat) + (6 : Nat)) % 8)), V.i (gi hx (((5 : Nat) + (5 : Nat)) % 8)), V.i (gi hx (((5 : Nat) + (4 : Nat)) % 8)), V.i (gi hx (((5 : Nat) + (3 : Nat)) % 8)), V.i n, V.i (gi hx (((5 : Nat) + (1 : Nat)) % 8)), V.i (gi hx ((5 : Nat) % (8 : Nat))), V.i 6, (yyFA38 c), (yyFA39 c), V.i (Cv.share c)]
abbrev yyFA37 (c : Cv) (hy : List Int) (hx : List Int) (m : Nat) (n : Int) : Ob := Ob.box 239 [V.i (gi hy ((m + 7) % 8)), V.i (gi hy ((m + 6) % 8)), V.i (gi hy ((m + 5) % 8)), V.i (gi hy ((m + 4) % 8)), V.i (gi hy ((m + 3) % 8)), V.i (gi hy ((m + 2) % 8)), V.i (gi hy ((m + 1) % 8)), V.i (gi hy (m % 8)), V.i (↑m : Int), V.i (gi hx (((6 : Nat) + (7 : Nat)) % 8)), V.i (gi hx (((6 : Nat) + (6 : Nat)) % 8)), V.i (gi hx (((6 : Nat) + (5 : Nat)) % 8)), V.i (gi hx (((6 : Nat) + (4 : Nat)) % 8)), V.i (gi hx (((6 : Nat) + (3 : Nat)) % 8)), V.i (gi hx (((6 : Nat) + (2 : Nat)) % 8)), V.i n, V.i (gi hx ((6 : Nat) % (8 : Nat))), V.i 7, (yyFA38 c), (yyFA39 c), V.i (Cv.share c)]
set_option maxRecDepth 100000 in
theorem putI_ac (c : Cv) (hy hx : List Int) (m m' : Nat) (n : Int) (hm : m' < 8) : AM Tryz.prog 160 [.ref 500 9, .i n] [StO c hy hx m m'] (.tup []) [some (StO c hy (n :: hx) m ((m' + 1) % 8))] [] := by
 have hm2 : m' = 0 ∨ m' = 1 ∨ m' = 2 ∨ m' = 3 ∨ m' = 4 ∨ m' = 5 ∨ m' = 6 ∨ m' = 7 := by omega
 rcases hm2 with rfl | rfl | rfl | rfl | rfl | rfl | rfl | rfl
 ·
  refine am_intro hTT hMX (fn := Tryz.f160) (N := _) ⟨Tryz.func160, rfl, Tryz.ntmps160, kR⟩ (by simp) rfl (by simp) (by simp) fun C hF => ?_
  refine sK fun K hK => wD 2 ?_; refine aX hTT 10 [(4, .c qFA31), (8, .c ((0 : Int) ≤ (0 : Int) ∧ (0 : Int) < (↑(8 : Nat) : Int))), (9, .r (pw ((9 : Nat) + (1 : Nat) ≤ (21 : Nat)) (500 : Nat) (Ob.box 239 [V.i (gi hy ((m + 7) % 8)), V.i (gi hy ((m + 6) % 8)), V.i (gi hy ((m + 5) % 8)), V.i (gi hy ((m + 4) % 8)), V.i (gi hy ((m + 3) % 8)), V.i (gi hy ((m + 2) % 8)), V.i (gi hy ((m + 1) % 8)), V.i (gi hy (m % 8)), V.i (↑m : Int), V.i n, V.i (gi hx (((0 : Nat) + (6 : Nat)) % 8)), V.i (gi hx (((0 : Nat) + (5 : Nat)) % 8)), V.i (gi hx (((0 : Nat) + (4 : Nat)) % 8)), V.i (gi hx (((0 : Nat) + (3 : Nat)) % 8)), V.i (gi hx (((0 : Nat) + (2 : Nat)) % 8)), V.i (gi hx (((0 : Nat) + (1 : Nat)) % 8)), V.i (gi hx ((0 : Nat) % (8 : Nat))), V.i 0, (yyFA38 c), (yyFA39 c), V.i (Cv.share c)])))] ⟨qFA31_, oM, oM, tI⟩ ?_; refine aops_nil ⟨kR, ?_⟩; refine xt_n (hK _ ?_); clear hK K; refine wR 3 ?_; refine aX hTT 10 [(4, .c qFA31), (5, .i ((0 : Int) + (1 : Int))), (6, .c qFA30), (9, .r (pw ((17 : Nat) + (1 : Nat) ≤ (21 : Nat)) (500 : Nat) ((yyFA31 c hy hx m n))))] ⟨qFA31_, oM, qFA30_, oM, tI⟩ ?_; refine aops_nil ?_
  refine retM (v' := V.tup []) [] [] (.inl rfl) .nil (.cons ⟨(yyFA31 c hy hx m n), kR, .box kR⟩ .nil) kR kR kR kR kR kR kR
 ·
  refine am_intro hTT hMX (fn := Tryz.f160) (N := _) ⟨Tryz.func160, rfl, Tryz.ntmps160, kR⟩ (by simp) rfl (by simp) (by simp) fun C hF => ?_
  refine sK fun K hK => wD 2 ?_; refine aX hTT 10 [(4, .c qFA31), (8, .c ((0 : Int) ≤ (1 : Int) ∧ (1 : Int) < (↑(8 : Nat) : Int))), (9, .r (pw ((10 : Nat) + (1 : Nat) ≤ (21 : Nat)) (500 : Nat) (Ob.box 239 [V.i (gi hy ((m + 7) % 8)), V.i (gi hy ((m + 6) % 8)), V.i (gi hy ((m + 5) % 8)), V.i (gi hy ((m + 4) % 8)), V.i (gi hy ((m + 3) % 8)), V.i (gi hy ((m + 2) % 8)), V.i (gi hy ((m + 1) % 8)), V.i (gi hy (m % 8)), V.i (↑m : Int), V.i (gi hx (((1 : Nat) + (7 : Nat)) % 8)), V.i n, V.i (gi hx (((1 : Nat) + (5 : Nat)) % 8)), V.i (gi hx (((1 : Nat) + (4 : Nat)) % 8)), V.i (gi hx (((1 : Nat) + (3 : Nat)) % 8)), V.i (gi hx (((1 : Nat) + (2 : Nat)) % 8)), V.i (gi hx (((1 : Nat) + (1 : Nat)) % 8)), V.i (gi hx ((1 : Nat) % (8 : Nat))), V.i 1, (yyFA38 c), (yyFA39 c), V.i (Cv.share c)])))] ⟨qFA31_, oM, oM, tI⟩ ?_; refine aops_nil ⟨kR, ?_⟩; refine xt_n (hK _ ?_); clear hK K; refine wR 3 ?_; refine aX hTT 10 [(4, .c qFA31), (5, .i ((1 : Int) + (1 : Int))), (6, .c qFA30), (9, .r (pw ((17 : Nat) + (1 : Nat) ≤ (21 : Nat)) (500 : Nat) ((yyFA32 c hy hx m n))))] ⟨qFA31_, oM, qFA30_, oM, tI⟩ ?_; refine aops_nil ?_
  refine retM (v' := V.tup []) [] [] (.inl rfl) .nil (.cons ⟨(yyFA32 c hy hx m n), kR, .box kR⟩ .nil) kR kR kR kR kR kR kR
 ·
  refine am_intro hTT hMX (fn := Tryz.f160) (N := _) ⟨Tryz.func160, rfl, Tryz.ntmps160, kR⟩ (by simp) rfl (by simp) (by simp) fun C hF => ?_
  refine sK fun K hK => wD 2 ?_; refine aX hTT 10 [(4, .c qFA31), (8, .c ((0 : Int) ≤ (2 : Int) ∧ (2 : Int) < (↑(8 : Nat) : Int))), (9, .r (pw ((11 : Nat) + (1 : Nat) ≤ (21 : Nat)) (500 : Nat) (Ob.box 239 [V.i (gi hy ((m + 7) % 8)), V.i (gi hy ((m + 6) % 8)), V.i (gi hy ((m + 5) % 8)), V.i (gi hy ((m + 4) % 8)), V.i (gi hy ((m + 3) % 8)), V.i (gi hy ((m + 2) % 8)), V.i (gi hy ((m + 1) % 8)), V.i (gi hy (m % 8)), V.i (↑m : Int), V.i (gi hx (((2 : Nat) + (7 : Nat)) % 8)), V.i (gi hx (((2 : Nat) + (6 : Nat)) % 8)), V.i n, V.i (gi hx (((2 : Nat) + (4 : Nat)) % 8)), V.i (gi hx (((2 : Nat) + (3 : Nat)) % 8)), V.i (gi hx (((2 : Nat) + (2 : Nat)) % 8)), V.i (gi hx (((2 : Nat) + (1 : Nat)) % 8)), V.i (gi hx ((2 : Nat) % (8 : Nat))), V.i 2, (yyFA38 c), (yyFA39 c), V.i (Cv.share c)])))] ⟨qFA31_, oM, oM, tI⟩ ?_; refine aops_nil ⟨kR, ?_⟩; refine xt_n (hK _ ?_); clear hK K; refine wR 3 ?_; refine aX hTT 10 [(4, .c qFA31), (5, .i ((2 : Int) + (1 : Int))), (6, .c qFA30), (9, .r (pw ((17 : Nat) + (1 : Nat) ≤ (21 : Nat)) (500 : Nat) ((yyFA33 c hy hx m n))))] ⟨qFA31_, oM, qFA30_, oM, tI⟩ ?_; refine aops_nil ?_
  refine retM (v' := V.tup []) [] [] (.inl rfl) .nil (.cons ⟨(yyFA33 c hy hx m n), kR, .box kR⟩ .nil) kR kR kR kR kR kR kR
 ·
  refine am_intro hTT hMX (fn := Tryz.f160) (N := _) ⟨Tryz.func160, rfl, Tryz.ntmps160, kR⟩ (by simp) rfl (by simp) (by simp) fun C hF => ?_
  refine sK fun K hK => wD 2 ?_; refine aX hTT 10 [(4, .c qFA31), (8, .c ((0 : Int) ≤ (3 : Int) ∧ (3 : Int) < (↑(8 : Nat) : Int))), (9, .r (pw ((12 : Nat) + (1 : Nat) ≤ (21 : Nat)) (500 : Nat) (Ob.box 239 [V.i (gi hy ((m + 7) % 8)), V.i (gi hy ((m + 6) % 8)), V.i (gi hy ((m + 5) % 8)), V.i (gi hy ((m + 4) % 8)), V.i (gi hy ((m + 3) % 8)), V.i (gi hy ((m + 2) % 8)), V.i (gi hy ((m + 1) % 8)), V.i (gi hy (m % 8)), V.i (↑m : Int), V.i (gi hx (((3 : Nat) + (7 : Nat)) % 8)), V.i (gi hx (((3 : Nat) + (6 : Nat)) % 8)), V.i (gi hx (((3 : Nat) + (5 : Nat)) % 8)), V.i n, V.i (gi hx (((3 : Nat) + (3 : Nat)) % 8)), V.i (gi hx (((3 : Nat) + (2 : Nat)) % 8)), V.i (gi hx (((3 : Nat) + (1 : Nat)) % 8)), V.i (gi hx ((3 : Nat) % (8 : Nat))), V.i 3, (yyFA38 c), (yyFA39 c), V.i (Cv.share c)])))] ⟨qFA31_, oM, oM, tI⟩ ?_; refine aops_nil ⟨kR, ?_⟩; refine xt_n (hK _ ?_); clear hK K; refine wR 3 ?_; refine aX hTT 10 [(4, .c qFA31), (5, .i ((3 : Int) + (1 : Int))), (6, .c qFA30), (9, .r (pw ((17 : Nat) + (1 : Nat) ≤ (21 : Nat)) (500 : Nat) ((yyFA34 c hy hx m n))))] ⟨qFA31_, oM, qFA30_, oM, tI⟩ ?_; refine aops_nil ?_
  refine retM (v' := V.tup []) [] [] (.inl rfl) .nil (.cons ⟨(yyFA34 c hy hx m n), kR, .box kR⟩ .nil) kR kR kR kR kR kR kR
 ·
  refine am_intro hTT hMX (fn := Tryz.f160) (N := _) ⟨Tryz.func160, rfl, Tryz.ntmps160, kR⟩ (by simp) rfl (by simp) (by simp) fun C hF => ?_
  refine sK fun K hK => wD 2 ?_; refine aX hTT 10 [(4, .c qFA31), (8, .c ((0 : Int) ≤ (4 : Int) ∧ (4 : Int) < (↑(8 : Nat) : Int))), (9, .r (pw ((13 : Nat) + (1 : Nat) ≤ (21 : Nat)) (500 : Nat) (Ob.box 239 [V.i (gi hy ((m + 7) % 8)), V.i (gi hy ((m + 6) % 8)), V.i (gi hy ((m + 5) % 8)), V.i (gi hy ((m + 4) % 8)), V.i (gi hy ((m + 3) % 8)), V.i (gi hy ((m + 2) % 8)), V.i (gi hy ((m + 1) % 8)), V.i (gi hy (m % 8)), V.i (↑m : Int), V.i (gi hx (((4 : Nat) + (7 : Nat)) % 8)), V.i (gi hx (((4 : Nat) + (6 : Nat)) % 8)), V.i (gi hx (((4 : Nat) + (5 : Nat)) % 8)), V.i (gi hx (((4 : Nat) + (4 : Nat)) % 8)), V.i n, V.i (gi hx (((4 : Nat) + (2 : Nat)) % 8)), V.i (gi hx (((4 : Nat) + (1 : Nat)) % 8)), V.i (gi hx ((4 : Nat) % (8 : Nat))), V.i 4, (yyFA38 c), (yyFA39 c), V.i (Cv.share c)])))] ⟨qFA31_, oM, oM, tI⟩ ?_; refine aops_nil ⟨kR, ?_⟩; refine xt_n (hK _ ?_); clear hK K; refine wR 3 ?_; refine aX hTT 10 [(4, .c qFA31), (5, .i ((4 : Int) + (1 : Int))), (6, .c qFA30), (9, .r (pw ((17 : Nat) + (1 : Nat) ≤ (21 : Nat)) (500 : Nat) ((yyFA35 c hy hx m n))))] ⟨qFA31_, oM, qFA30_, oM, tI⟩ ?_; refine aops_nil ?_
  refine retM (v' := V.tup []) [] [] (.inl rfl) .nil (.cons ⟨(yyFA35 c hy hx m n), kR, .box kR⟩ .nil) kR kR kR kR kR kR kR
 ·
  refine am_intro hTT hMX (fn := Tryz.f160) (N := _) ⟨Tryz.func160, rfl, Tryz.ntmps160, kR⟩ (by simp) rfl (by simp) (by simp) fun C hF => ?_
  refine sK fun K hK => wD 2 ?_; refine aX hTT 10 [(4, .c qFA31), (8, .c ((0 : Int) ≤ (5 : Int) ∧ (5 : Int) < (↑(8 : Nat) : Int))), (9, .r (pw ((14 : Nat) + (1 : Nat) ≤ (21 : Nat)) (500 : Nat) (Ob.box 239 [V.i (gi hy ((m + 7) % 8)), V.i (gi hy ((m + 6) % 8)), V.i (gi hy ((m + 5) % 8)), V.i (gi hy ((m + 4) % 8)), V.i (gi hy ((m + 3) % 8)), V.i (gi hy ((m + 2) % 8)), V.i (gi hy ((m + 1) % 8)), V.i (gi hy (m % 8)), V.i (↑m : Int), V.i (gi hx (((5 : Nat) + (7 : Nat)) % 8)), V.i (gi hx (((5 : Nat) + (6 : Nat)) % 8)), V.i (gi hx (((5 : Nat) + (5 : Nat)) % 8)), V.i (gi hx (((5 : Nat) + (4 : Nat)) % 8)), V.i (gi hx (((5 : Nat) + (3 : Nat)) % 8)), V.i n, V.i (gi hx (((5 : Nat) + (1 : Nat)) % 8)), V.i (gi hx ((5 : Nat) % (8 : Nat))), V.i 5, (yyFA38 c), (yyFA39 c), V.i (Cv.share c)])))] ⟨qFA31_, oM, oM, tI⟩ ?_; refine aops_nil ⟨kR, ?_⟩; refine xt_n (hK _ ?_); clear hK K; refine wR 3 ?_; refine aX hTT 10 [(4, .c qFA31), (5, .i ((5 : Int) + (1 : Int))), (6, .c qFA30), (9, .r (pw ((17 : Nat) + (1 : Nat) ≤ (21 : Nat)) (500 : Nat) ((yyFA36 c hy hx m n))))] ⟨qFA31_, oM, qFA30_, oM, tI⟩ ?_; refine aops_nil ?_
  refine retM (v' := V.tup []) [] [] (.inl rfl) .nil (.cons ⟨(yyFA36 c hy hx m n), kR, .box kR⟩ .nil) kR kR kR kR kR kR kR
 ·
  refine am_intro hTT hMX (fn := Tryz.f160) (N := _) ⟨Tryz.func160, rfl, Tryz.ntmps160, kR⟩ (by simp) rfl (by simp) (by simp) fun C hF => ?_
  refine sK fun K hK => wD 2 ?_; refine aX hTT 10 [(4, .c qFA31), (8, .c ((0 : Int) ≤ (6 : Int) ∧ (6 : Int) < (↑(8 : Nat) : Int))), (9, .r (pw ((15 : Nat) + (1 : Nat) ≤ (21 : Nat)) (500 : Nat) (Ob.box 239 [V.i (gi hy ((m + 7) % 8)), V.i (gi hy ((m + 6) % 8)), V.i (gi hy ((m + 5) % 8)), V.i (gi hy ((m + 4) % 8)), V.i (gi hy ((m + 3) % 8)), V.i (gi hy ((m + 2) % 8)), V.i (gi hy ((m + 1) % 8)), V.i (gi hy (m % 8)), V.i (↑m : Int), V.i (gi hx (((6 : Nat) + (7 : Nat)) % 8)), V.i (gi hx (((6 : Nat) + (6 : Nat)) % 8)), V.i (gi hx (((6 : Nat) + (5 : Nat)) % 8)), V.i (gi hx (((6 : Nat) + (4 : Nat)) % 8)), V.i (gi hx (((6 : Nat) + (3 : Nat)) % 8)), V.i (gi hx (((6 : Nat) + (2 : Nat)) % 8)), V.i n, V.i (gi hx ((6 : Nat) % (8 : Nat))), V.i 6, (yyFA38 c), (yyFA39 c), V.i (Cv.share c)])))] ⟨qFA31_, oM, oM, tI⟩ ?_; refine aops_nil ⟨kR, ?_⟩; refine xt_n (hK _ ?_); clear hK K; refine wR 3 ?_; refine aX hTT 10 [(4, .c qFA31), (5, .i ((6 : Int) + (1 : Int))), (6, .c qFA30), (9, .r (pw ((17 : Nat) + (1 : Nat) ≤ (21 : Nat)) (500 : Nat) ((yyFA37 c hy hx m n))))] ⟨qFA31_, oM, qFA30_, oM, tI⟩ ?_; refine aops_nil ?_
  refine retM (v' := V.tup []) [] [] (.inl rfl) .nil (.cons ⟨(yyFA37 c hy hx m n), kR, .box kR⟩ .nil) kR kR kR kR kR kR kR
 ·
  refine am_intro hTT hMX (fn := Tryz.f160) (N := _) ⟨Tryz.func160, rfl, Tryz.ntmps160, kR⟩ (by simp) rfl (by simp) (by simp) fun C hF => ?_
  refine sK fun K hK => wD 2 ?_; refine aX hTT 10 [(4, .c qFA31), (8, .c ((0 : Int) ≤ (7 : Int) ∧ (7 : Int) < (↑(8 : Nat) : Int))), (9, .r (pw ((16 : Nat) + (1 : Nat) ≤ (21 : Nat)) (500 : Nat) (Ob.box 239 [V.i (gi hy ((m + 7) % 8)), V.i (gi hy ((m + 6) % 8)), V.i (gi hy ((m + 5) % 8)), V.i (gi hy ((m + 4) % 8)), V.i (gi hy ((m + 3) % 8)), V.i (gi hy ((m + 2) % 8)), V.i (gi hy ((m + 1) % 8)), V.i (gi hy (m % 8)), V.i (↑m : Int), V.i (gi hx (((7 : Nat) + (7 : Nat)) % 8)), V.i (gi hx (((7 : Nat) + (6 : Nat)) % 8)), V.i (gi hx (((7 : Nat) + (5 : Nat)) % 8)), V.i (gi hx (((7 : Nat) + (4 : Nat)) % 8)), V.i (gi hx (((7 : Nat) + (3 : Nat)) % 8)), V.i (gi hx (((7 : Nat) + (2 : Nat)) % 8)), V.i (gi hx (((7 : Nat) + (1 : Nat)) % 8)), V.i n, V.i 7, (yyFA38 c), (yyFA39 c), V.i (Cv.share c)])))] ⟨qFA31_, oM, oM, tI⟩ ?_; refine aops_nil ⟨kR, ?_⟩; refine xt_n (hK _ ?_); clear hK K; refine wR 3 ?_; refine aX hTT 10 [(4, .c qFA31), (5, .i ((7 : Int) + (1 : Int))), (6, .c qFA30), (9, .r (pw ((17 : Nat) + (1 : Nat) ≤ (21 : Nat)) (500 : Nat) ((yyFA30 c hy hx m n))))] ⟨qFA31_, oM, qFA30_, oM, tI⟩ ?_; refine aops_nil ?_
  refine retM (v' := V.tup []) [] [] (.inl rfl) .nil (.cons ⟨(yyFA30 c hy hx m n), kR, .box kR⟩ .nil) kR kR kR kR kR kR kR
abbrev yyFA310 (c : Cv) (hy : List Int) (hx : List Int) (m' : Nat) (n : Int) : Ob := Ob.box 239 [V.i (gi hy (((7 : Nat) + (7 : Nat)) % 8)), V.i (gi hy (((7 : Nat) + (6 : Nat)) % 8)), V.i (gi hy (((7 : Nat) + (5 : Nat)) % 8)), V.i (gi hy (((7 : Nat) + (4 : Nat)) % 8)), V.i (gi hy (((7 : Nat) + (3 : Nat)) % 8)), V.i (gi hy (((7 : Nat) + (2 : Nat)) % 8)), V.i (gi hy (((7 : Nat) + (1 : Nat)) % 8)), V.i n, V.i 0, V.i (gi hx ((m' + 7) % 8)), V.i (gi hx ((m' + 6) % 8)), V.i (gi hx ((m' + 5) % 8)), V.i (gi hx ((m' + 4) % 8)), V.i (gi hx ((m' + 3) % 8)), V.i (gi hx ((m' + 2) % 8)), V.i (gi hx ((m' + 1) % 8)), V.i (gi hx (m' % 8)), V.i (↑m' : Int), (yyFA38 c), (yyFA39 c), V.i (Cv.share c)]
abbrev yyFA311 (c : Cv) (hy : List Int) (hx : List Int) (m' : Nat) (n : Int) : Ob := Ob.box 239 [V.i n, V.i (gi hy (((0 : Nat) + (6 : Nat)) % 8)), V.i (gi hy (((0 : Nat) + (5 : Nat)) % 8)), V.i (gi hy (((0 : Nat) + (4 : Nat)) % 8)), V.i (gi hy (((0 : Nat) + (3 : Nat)) % 8)), V.i (gi hy (((0 : Nat) + (2 : Nat)) % 8)), V.i (gi hy (((0 : Nat) + (1 : Nat)) % 8)), V.i (gi hy ((0 : Nat) % (8 : Nat))), V.i 1, V.i (gi hx ((m' + 7) % 8)), V.i (gi hx ((m' + 6) % 8)), V.i (gi hx ((m' + 5) % 8)), V.i (gi hx ((m' + 4) % 8)), V.i (gi hx ((m' + 3) % 8)), V.i (gi hx ((m' + 2) % 8)), V.i (gi hx ((m' + 1) % 8)), V.i (gi hx (m' % 8)), V.i (↑m' : Int), (yyFA38 c), (yyFA39 c), V.i (Cv.share c)]
abbrev yyFA312 (c : Cv) (hy : List Int) (hx : List Int) (m' : Nat) (n : Int) : Ob := Ob.box 239 [V.i (gi hy (((1 : Nat) + (7 : Nat)) % 8)), V.i n, V.i (gi hy (((1 : Nat) + (5 : Nat)) % 8)), V.i (gi hy (((1 : Nat) + (4 : Nat)) % 8)), V.i (gi hy (((1 : Nat) + (3 : Nat)) % 8)), V.i (gi hy (((1 : Nat) + (2 : Nat)) % 8)), V.i (gi hy (((1 : Nat) + (1 : Nat)) % 8)), V.i (gi hy ((1 : Nat) % (8 : Nat))), V.i 2, V.i (gi hx ((m' + 7) % 8)), V.i (gi hx ((m' + 6) % 8)), V.i (gi hx ((m' + 5) % 8)), V.i (gi hx ((m' + 4) % 8)), V.i (gi hx ((m' + 3) % 8)), V.i (gi hx ((m' + 2) % 8)), V.i (gi hx ((m' + 1) % 8)), V.i (gi hx (m' % 8)), V.i (↑m' : Int), (yyFA38 c), (yyFA39 c), V.i (Cv.share c)]
abbrev yyFA313 (c : Cv) (hy : List Int) (hx : List Int) (m' : Nat) (n : Int) : Ob := Ob.box 239 [V.i (gi hy (((2 : Nat) + (7 : Nat)) % 8)), V.i (gi hy (((2 : Nat) + (6 : Nat)) % 8)), V.i n, V.i (gi hy (((2 : Nat) + (4 : Nat)) % 8)), V.i (gi hy (((2 : Nat) + (3 : Nat)) % 8)), V.i (gi hy (((2 : Nat) + (2 : Nat)) % 8)), V.i (gi hy (((2 : Nat) + (1 : Nat)) % 8)), V.i (gi hy ((2 : Nat) % (8 : Nat))), V.i 3, V.i (gi hx ((m' + 7) % 8)), V.i (gi hx ((m' + 6) % 8)), V.i (gi hx ((m' + 5) % 8)), V.i (gi hx ((m' + 4) % 8)), V.i (gi hx ((m' + 3) % 8)), V.i (gi hx ((m' + 2) % 8)), V.i (gi hx ((m' + 1) % 8)), V.i (gi hx (m' % 8)), V.i (↑m' : Int), (yyFA38 c), (yyFA39 c), V.i (Cv.share c)]
abbrev yyFA314 (c : Cv) (hy : List Int) (hx : List Int) (m' : Nat) (n : Int) : Ob := Ob.box 239 [V.i (gi hy (((3 : Nat) + (7 : Nat)) % 8)), V.i (gi hy (((3 : Nat) + (6 : Nat)) % 8)), V.i (gi hy (((3 : Nat) + (5 : Nat)) % 8)), V.i n, V.i (gi hy (((3 : Nat) + (3 : Nat)) % 8)), V.i (gi hy (((3 : Nat) + (2 : Nat)) % 8)), V.i (gi hy (((3 : Nat) + (1 : Nat)) % 8)), V.i (gi hy ((3 : Nat) % (8 : Nat))), V.i 4, V.i (gi hx ((m' + 7) % 8)), V.i (gi hx ((m' + 6) % 8)), V.i (gi hx ((m' + 5) % 8)), V.i (gi hx ((m' + 4) % 8)), V.i (gi hx ((m' + 3) % 8)), V.i (gi hx ((m' + 2) % 8)), V.i (gi hx ((m' + 1) % 8)), V.i (gi hx (m' % 8)), V.i (↑m' : Int), (yyFA38 c), (yyFA39 c), V.i (Cv.share c)]
abbrev yyFA315 (c : Cv) (hy : List Int) (hx : List Int) (m' : Nat) (n : Int) : Ob := Ob.box 239 [V.i (gi hy (((4 : Nat) + (7 : Nat)) % 8)), V.i (gi hy (((4 : Nat) + (6 : Nat)) % 8)), V.i (gi hy (((4 : Nat) + (5 : Nat)) % 8)), V.i (gi hy (((4 : Nat) + (4 : Nat)) % 8)), V.i n, V.i (gi hy (((4 : Nat) + (2 : Nat)) % 8)), V.i (gi hy (((4 : Nat) + (1 : Nat)) % 8)), V.i (gi hy ((4 : Nat) % (8 : Nat))), V.i 5, V.i (gi hx ((m' + 7) % 8)), V.i (gi hx ((m' + 6) % 8)), V.i (gi hx ((m' + 5) % 8)), V.i (gi hx ((m' + 4) % 8)), V.i (gi hx ((m' + 3) % 8)), V.i (gi hx ((m' + 2) % 8)), V.i (gi hx ((m' + 1) % 8)), V.i (gi hx (m' % 8)), V.i (↑m' : Int), (yyFA38 c), (yyFA39 c), V.i (Cv.share c)]
abbrev yyFA316 (c : Cv) (hy : List Int) (hx : List Int) (m' : Nat) (n : Int) : Ob := Ob.box 239 [V.i (gi hy (((5 : Nat) + (7 : Nat)) % 8)), V.i (gi hy (((5 : Nat) + (6 : Nat)) % 8)), V.i (gi hy (((5 : Nat) + (5 : Nat)) % 8)), V.i (gi hy (((5 : Nat) + (4 : Nat)) % 8)), V.i (gi hy (((5 : Nat) + (3 : Nat)) % 8)), V.i n, V.i (gi hy (((5 : Nat) + (1 : Nat)) % 8)), V.i (gi hy ((5 : Nat) % (8 : Nat))), V.i 6, V.i (gi hx ((m' + 7) % 8)), V.i (gi hx ((m' + 6) % 8)), V.i (gi hx ((m' + 5) % 8)), V.i (gi hx ((m' + 4) % 8)), V.i (gi hx ((m' + 3) % 8)), V.i (gi hx ((m' + 2) % 8)), V.i (gi hx ((m' + 1) % 8)), V.i (gi hx (m' % 8)), V.i (↑m' : Int), (yyFA38 c), (yyFA39 c), V.i (Cv.share c)]
abbrev yyFA317 (c : Cv) (hy : List Int) (hx : List Int) (m' : Nat) (n : Int) : Ob := Ob.box 239 [V.i (gi hy (((6 : Nat) + (7 : Nat)) % 8)), V.i (gi hy (((6 : Nat) + (6 : Nat)) % 8)), V.i (gi hy (((6 : Nat) + (5 : Nat)) % 8)), V.i (gi hy (((6 : Nat) + (4 : Nat)) % 8)), V.i (gi hy (((6 : Nat) + (3 : Nat)) % 8)), V.i (gi hy (((6 : Nat) + (2 : Nat)) % 8)), V.i n, V.i (gi hy ((6 : Nat) % (8 : Nat))), V.i 7, V.i (gi hx ((m' + 7) % 8)), V.i (gi hx ((m' + 6) % 8)), V.i (gi hx ((m' + 5) % 8)), V.i (gi hx ((m' + 4) % 8)), V.i (gi hx ((m' + 3) % 8)), V.i (gi hx ((m' + 2) % 8)), V.i (gi hx ((m' + 1) % 8)), V.i (gi hx (m' % 8)), V.i (↑m' : Int), (yyFA38 c), (yyFA39 c), V.i (Cv.share c)]
set_option maxRecDepth 100000 in
theorem putO_ac (c : Cv) (hy hx : List Int) (m m' : Nat) (n : Int) (hm : m < 8) : AM Tryz.prog 160 [.ref 500 0, .i n] [StO c hy hx m m'] (.tup []) [some (StO c (n :: hy) hx ((m + 1) % 8) m')] [] := by
 have hm2 : m = 0 ∨ m = 1 ∨ m = 2 ∨ m = 3 ∨ m = 4 ∨ m = 5 ∨ m = 6 ∨ m = 7 := by omega
 rcases hm2 with rfl | rfl | rfl | rfl | rfl | rfl | rfl | rfl
 ·
  refine am_intro hTT hMX (fn := Tryz.f160) (N := _) ⟨Tryz.func160, rfl, Tryz.ntmps160, kR⟩ (by simp) rfl (by simp) (by simp) fun C hF => ?_
  refine sK fun K hK => wD 2 ?_; refine aX hTT 10 [(4, .c qFA32), (8, .c ((0 : Int) ≤ (0 : Int) ∧ (0 : Int) < (↑(8 : Nat) : Int))), (9, .r (pw ((0 : Nat) + (1 : Nat) ≤ (21 : Nat)) (500 : Nat) (Ob.box 239 [V.i n, V.i (gi hy (((0 : Nat) + (6 : Nat)) % 8)), V.i (gi hy (((0 : Nat) + (5 : Nat)) % 8)), V.i (gi hy (((0 : Nat) + (4 : Nat)) % 8)), V.i (gi hy (((0 : Nat) + (3 : Nat)) % 8)), V.i (gi hy (((0 : Nat) + (2 : Nat)) % 8)), V.i (gi hy (((0 : Nat) + (1 : Nat)) % 8)), V.i (gi hy ((0 : Nat) % (8 : Nat))), V.i 0, V.i (gi hx ((m' + 7) % 8)), V.i (gi hx ((m' + 6) % 8)), V.i (gi hx ((m' + 5) % 8)), V.i (gi hx ((m' + 4) % 8)), V.i (gi hx ((m' + 3) % 8)), V.i (gi hx ((m' + 2) % 8)), V.i (gi hx ((m' + 1) % 8)), V.i (gi hx (m' % 8)), V.i (↑m' : Int), (yyFA38 c), (yyFA39 c), V.i (Cv.share c)])))] ⟨qFA32_, oM, oM, tI⟩ ?_; refine aops_nil ⟨kR, ?_⟩; refine xt_n (hK _ ?_); clear hK K; refine wR 3 ?_; refine aX hTT 10 [(4, .c qFA32), (5, .i ((0 : Int) + (1 : Int))), (6, .c qFA30), (9, .r (pw ((8 : Nat) + (1 : Nat) ≤ (21 : Nat)) (500 : Nat) ((yyFA311 c hy hx m' n))))] ⟨qFA32_, oM, qFA30_, oM, tI⟩ ?_; refine aops_nil ?_
  refine retM (v' := V.tup []) [] [] (.inl rfl) .nil (.cons ⟨(yyFA311 c hy hx m' n), kR, .box kR⟩ .nil) kR kR kR kR kR kR kR
 ·
  refine am_intro hTT hMX (fn := Tryz.f160) (N := _) ⟨Tryz.func160, rfl, Tryz.ntmps160, kR⟩ (by simp) rfl (by simp) (by simp) fun C hF => ?_
  refine sK fun K hK => wD 2 ?_; refine aX hTT 10 [(4, .c qFA32), (8, .c ((0 : Int) ≤ (1 : Int) ∧ (1 : Int) < (↑(8 : Nat) : Int))), (9, .r (pw ((1 : Nat) + (1 : Nat) ≤ (21 : Nat)) (500 : Nat) (Ob.box 239 [V.i (gi hy (((1 : Nat) + (7 : Nat)) % 8)), V.i n, V.i (gi hy (((1 : Nat) + (5 : Nat)) % 8)), V.i (gi hy (((1 : Nat) + (4 : Nat)) % 8)), V.i (gi hy (((1 : Nat) + (3 : Nat)) % 8)), V.i (gi hy (((1 : Nat) + (2 : Nat)) % 8)), V.i (gi hy (((1 : Nat) + (1 : Nat)) % 8)), V.i (gi hy ((1 : Nat) % (8 : Nat))), V.i 1, V.i (gi hx ((m' + 7) % 8)), V.i (gi hx ((m' + 6) % 8)), V.i (gi hx ((m' + 5) % 8)), V.i (gi hx ((m' + 4) % 8)), V.i (gi hx ((m' + 3) % 8)), V.i (gi hx ((m' + 2) % 8)), V.i (gi hx ((m' + 1) % 8)), V.i (gi hx (m' % 8)), V.i (↑m' : Int), (yyFA38 c), (yyFA39 c), V.i (Cv.share c)])))] ⟨qFA32_, oM, oM, tI⟩ ?_; refine aops_nil ⟨kR, ?_⟩; refine xt_n (hK _ ?_); clear hK K; refine wR 3 ?_; refine aX hTT 10 [(4, .c qFA32), (5, .i ((1 : Int) + (1 : Int))), (6, .c qFA30), (9, .r (pw ((8 : Nat) + (1 : Nat) ≤ (21 : Nat)) (500 : Nat) ((yyFA312 c hy hx m' n))))] ⟨qFA32_, oM, qFA30_, oM, tI⟩ ?_; refine aops_nil ?_
  refine retM (v' := V.tup []) [] [] (.inl rfl) .nil (.cons ⟨(yyFA312 c hy hx m' n), kR, .box kR⟩ .nil) kR kR kR kR kR kR kR
 ·
  refine am_intro hTT hMX (fn := Tryz.f160) (N := _) ⟨Tryz.func160, rfl, Tryz.ntmps160, kR⟩ (by simp) rfl (by simp) (by simp) fun C hF => ?_
  refine sK fun K hK => wD 2 ?_; refine aX hTT 10 [(4, .c qFA32), (8, .c ((0 : Int) ≤ (2 : Int) ∧ (2 : Int) < (↑(8 : Nat) : Int))), (9, .r (pw ((2 : Nat) + (1 : Nat) ≤ (21 : Nat)) (500 : Nat) (Ob.box 239 [V.i (gi hy (((2 : Nat) + (7 : Nat)) % 8)), V.i (gi hy (((2 : Nat) + (6 : Nat)) % 8)), V.i n, V.i (gi hy (((2 : Nat) + (4 : Nat)) % 8)), V.i (gi hy (((2 : Nat) + (3 : Nat)) % 8)), V.i (gi hy (((2 : Nat) + (2 : Nat)) % 8)), V.i (gi hy (((2 : Nat) + (1 : Nat)) % 8)), V.i (gi hy ((2 : Nat) % (8 : Nat))), V.i 2, V.i (gi hx ((m' + 7) % 8)), V.i (gi hx ((m' + 6) % 8)), V.i (gi hx ((m' + 5) % 8)), V.i (gi hx ((m' + 4) % 8)), V.i (gi hx ((m' + 3) % 8)), V.i (gi hx ((m' + 2) % 8)), V.i (gi hx ((m' + 1) % 8)), V.i (gi hx (m' % 8)), V.i (↑m' : Int), (yyFA38 c), (yyFA39 c), V.i (Cv.share c)])))] ⟨qFA32_, oM, oM, tI⟩ ?_; refine aops_nil ⟨kR, ?_⟩; refine xt_n (hK _ ?_); clear hK K; refine wR 3 ?_; refine aX hTT 10 [(4, .c qFA32), (5, .i ((2 : Int) + (1 : Int))), (6, .c qFA30), (9, .r (pw ((8 : Nat) + (1 : Nat) ≤ (21 : Nat)) (500 : Nat) ((yyFA313 c hy hx m' n))))] ⟨qFA32_, oM, qFA30_, oM, tI⟩ ?_; refine aops_nil ?_
  refine retM (v' := V.tup []) [] [] (.inl rfl) .nil (.cons ⟨(yyFA313 c hy hx m' n), kR, .box kR⟩ .nil) kR kR kR kR kR kR kR
 ·
  refine am_intro hTT hMX (fn := Tryz.f160) (N := _) ⟨Tryz.func160, rfl, Tryz.ntmps160, kR⟩ (by simp) rfl (by simp) (by simp) fun C hF => ?_
  refine sK fun K hK => wD 2 ?_; refine aX hTT 10 [(4, .c qFA32), (8, .c ((0 : Int) ≤ (3 : Int) ∧ (3 : Int) < (↑(8 : Nat) : Int))), (9, .r (pw ((3 : Nat) + (1 : Nat) ≤ (21 : Nat)) (500 : Nat) (Ob.box 239 [V.i (gi hy (((3 : Nat) + (7 : Nat)) % 8)), V.i (gi hy (((3 : Nat) + (6 : Nat)) % 8)), V.i (gi hy (((3 : Nat) + (5 : Nat)) % 8)), V.i n, V.i (gi hy (((3 : Nat) + (3 : Nat)) % 8)), V.i (gi hy (((3 : Nat) + (2 : Nat)) % 8)), V.i (gi hy (((3 : Nat) + (1 : Nat)) % 8)), V.i (gi hy ((3 : Nat) % (8 : Nat))), V.i 3, V.i (gi hx ((m' + 7) % 8)), V.i (gi hx ((m' + 6) % 8)), V.i (gi hx ((m' + 5) % 8)), V.i (gi hx ((m' + 4) % 8)), V.i (gi hx ((m' + 3) % 8)), V.i (gi hx ((m' + 2) % 8)), V.i (gi hx ((m' + 1) % 8)), V.i (gi hx (m' % 8)), V.i (↑m' : Int), (yyFA38 c), (yyFA39 c), V.i (Cv.share c)])))] ⟨qFA32_, oM, oM, tI⟩ ?_; refine aops_nil ⟨kR, ?_⟩; refine xt_n (hK _ ?_); clear hK K; refine wR 3 ?_; refine aX hTT 10 [(4, .c qFA32), (5, .i ((3 : Int) + (1 : Int))), (6, .c qFA30), (9, .r (pw ((8 : Nat) + (1 : Nat) ≤ (21 : Nat)) (500 : Nat) ((yyFA314 c hy hx m' n))))] ⟨qFA32_, oM, qFA30_, oM, tI⟩ ?_; refine aops_nil ?_
  refine retM (v' := V.tup []) [] [] (.inl rfl) .nil (.cons ⟨(yyFA314 c hy hx m' n), kR, .box kR⟩ .nil) kR kR kR kR kR kR kR
 ·
  refine am_intro hTT hMX (fn := Tryz.f160) (N := _) ⟨Tryz.func160, rfl, Tryz.ntmps160, kR⟩ (by simp) rfl (by simp) (by simp) fun C hF => ?_
  refine sK fun K hK => wD 2 ?_; refine aX hTT 10 [(4, .c qFA32), (8, .c ((0 : Int) ≤ (4 : Int) ∧ (4 : Int) < (↑(8 : Nat) : Int))), (9, .r (pw ((4 : Nat) + (1 : Nat) ≤ (21 : Nat)) (500 : Nat) (Ob.box 239 [V.i (gi hy (((4 : Nat) + (7 : Nat)) % 8)), V.i (gi hy (((4 : Nat) + (6 : Nat)) % 8)), V.i (gi hy (((4 : Nat) + (5 : Nat)) % 8)), V.i (gi hy (((4 : Nat) + (4 : Nat)) % 8)), V.i n, V.i (gi hy (((4 : Nat) + (2 : Nat)) % 8)), V.i (gi hy (((4 : Nat) + (1 : Nat)) % 8)), V.i (gi hy ((4 : Nat) % (8 : Nat))), V.i 4, V.i (gi hx ((m' + 7) % 8)), V.i (gi hx ((m' + 6) % 8)), V.i (gi hx ((m' + 5) % 8)), V.i (gi hx ((m' + 4) % 8)), V.i (gi hx ((m' + 3) % 8)), V.i (gi hx ((m' + 2) % 8)), V.i (gi hx ((m' + 1) % 8)), V.i (gi hx (m' % 8)), V.i (↑m' : Int), (yyFA38 c), (yyFA39 c), V.i (Cv.share c)])))] ⟨qFA32_, oM, oM, tI⟩ ?_; refine aops_nil ⟨kR, ?_⟩; refine xt_n (hK _ ?_); clear hK K; refine wR 3 ?_; refine aX hTT 10 [(4, .c qFA32), (5, .i ((4 : Int) + (1 : Int))), (6, .c qFA30), (9, .r (pw ((8 : Nat) + (1 : Nat) ≤ (21 : Nat)) (500 : Nat) ((yyFA315 c hy hx m' n))))] ⟨qFA32_, oM, qFA30_, oM, tI⟩ ?_; refine aops_nil ?_
  refine retM (v' := V.tup []) [] [] (.inl rfl) .nil (.cons ⟨(yyFA315 c hy hx m' n), kR, .box kR⟩ .nil) kR kR kR kR kR kR kR
 ·
  refine am_intro hTT hMX (fn := Tryz.f160) (N := _) ⟨Tryz.func160, rfl, Tryz.ntmps160, kR⟩ (by simp) rfl (by simp) (by simp) fun C hF => ?_
  refine sK fun K hK => wD 2 ?_; refine aX hTT 10 [(4, .c qFA32), (8, .c ((0 : Int) ≤ (5 : Int) ∧ (5 : Int) < (↑(8 : Nat) : Int))), (9, .r (pw ((5 : Nat) + (1 : Nat) ≤ (21 : Nat)) (500 : Nat) (Ob.box 239 [V.i (gi hy (((5 : Nat) + (7 : Nat)) % 8)), V.i (gi hy (((5 : Nat) + (6 : Nat)) % 8)), V.i (gi hy (((5 : Nat) + (5 : Nat)) % 8)), V.i (gi hy (((5 : Nat) + (4 : Nat)) % 8)), V.i (gi hy (((5 : Nat) + (3 : Nat)) % 8)), V.i n, V.i (gi hy (((5 : Nat) + (1 : Nat)) % 8)), V.i (gi hy ((5 : Nat) % (8 : Nat))), V.i 5, V.i (gi hx ((m' + 7) % 8)), V.i (gi hx ((m' + 6) % 8)), V.i (gi hx ((m' + 5) % 8)), V.i (gi hx ((m' + 4) % 8)), V.i (gi hx ((m' + 3) % 8)), V.i (gi hx ((m' + 2) % 8)), V.i (gi hx ((m' + 1) % 8)), V.i (gi hx (m' % 8)), V.i (↑m' : Int), (yyFA38 c), (yyFA39 c), V.i (Cv.share c)])))] ⟨qFA32_, oM, oM, tI⟩ ?_; refine aops_nil ⟨kR, ?_⟩; refine xt_n (hK _ ?_); clear hK K; refine wR 3 ?_; refine aX hTT 10 [(4, .c qFA32), (5, .i ((5 : Int) + (1 : Int))), (6, .c qFA30), (9, .r (pw ((8 : Nat) + (1 : Nat) ≤ (21 : Nat)) (500 : Nat) ((yyFA316 c hy hx m' n))))] ⟨qFA32_, oM, qFA30_, oM, tI⟩ ?_; refine aops_nil ?_
  refine retM (v' := V.tup []) [] [] (.inl rfl) .nil (.cons ⟨(yyFA316 c hy hx m' n), kR, .box kR⟩ .nil) kR kR kR kR kR kR kR
 ·
  refine am_intro hTT hMX (fn := Tryz.f160) (N := _) ⟨Tryz.func160, rfl, Tryz.ntmps160, kR⟩ (by simp) rfl (by simp) (by simp) fun C hF => ?_
  refine sK fun K hK => wD 2 ?_; refine aX hTT 10 [(4, .c qFA32), (8, .c ((0 : Int) ≤ (6 : Int) ∧ (6 : Int) < (↑(8 : Nat) : Int))), (9, .r (pw ((6 : Nat) + (1 : Nat) ≤ (21 : Nat)) (500 : Nat) (Ob.box 239 [V.i (gi hy (((6 : Nat) + (7 : Nat)) % 8)), V.i (gi hy (((6 : Nat) + (6 : Nat)) % 8)), V.i (gi hy (((6 : Nat) + (5 : Nat)) % 8)), V.i (gi hy (((6 : Nat) + (4 : Nat)) % 8)), V.i (gi hy (((6 : Nat) + (3 : Nat)) % 8)), V.i (gi hy (((6 : Nat) + (2 : Nat)) % 8)), V.i n, V.i (gi hy ((6 : Nat) % (8 : Nat))), V.i 6, V.i (gi hx ((m' + 7) % 8)), V.i (gi hx ((m' + 6) % 8)), V.i (gi hx ((m' + 5) % 8)), V.i (gi hx ((m' + 4) % 8)), V.i (gi hx ((m' + 3) % 8)), V.i (gi hx ((m' + 2) % 8)), V.i (gi hx ((m' + 1) % 8)), V.i (gi hx (m' % 8)), V.i (↑m' : Int), (yyFA38 c), (yyFA39 c), V.i (Cv.share c)])))] ⟨qFA32_, oM, oM, tI⟩ ?_; refine aops_nil ⟨kR, ?_⟩; refine xt_n (hK _ ?_); clear hK K; refine wR 3 ?_; refine aX hTT 10 [(4, .c qFA32), (5, .i ((6 : Int) + (1 : Int))), (6, .c qFA30), (9, .r (pw ((8 : Nat) + (1 : Nat) ≤ (21 : Nat)) (500 : Nat) ((yyFA317 c hy hx m' n))))] ⟨qFA32_, oM, qFA30_, oM, tI⟩ ?_; refine aops_nil ?_
  refine retM (v' := V.tup []) [] [] (.inl rfl) .nil (.cons ⟨(yyFA317 c hy hx m' n), kR, .box kR⟩ .nil) kR kR kR kR kR kR kR
 ·
  refine am_intro hTT hMX (fn := Tryz.f160) (N := _) ⟨Tryz.func160, rfl, Tryz.ntmps160, kR⟩ (by simp) rfl (by simp) (by simp) fun C hF => ?_
  refine sK fun K hK => wD 2 ?_; refine aX hTT 10 [(4, .c qFA32), (8, .c ((0 : Int) ≤ (7 : Int) ∧ (7 : Int) < (↑(8 : Nat) : Int))), (9, .r (pw ((7 : Nat) + (1 : Nat) ≤ (21 : Nat)) (500 : Nat) (Ob.box 239 [V.i (gi hy (((7 : Nat) + (7 : Nat)) % 8)), V.i (gi hy (((7 : Nat) + (6 : Nat)) % 8)), V.i (gi hy (((7 : Nat) + (5 : Nat)) % 8)), V.i (gi hy (((7 : Nat) + (4 : Nat)) % 8)), V.i (gi hy (((7 : Nat) + (3 : Nat)) % 8)), V.i (gi hy (((7 : Nat) + (2 : Nat)) % 8)), V.i (gi hy (((7 : Nat) + (1 : Nat)) % 8)), V.i n, V.i 7, V.i (gi hx ((m' + 7) % 8)), V.i (gi hx ((m' + 6) % 8)), V.i (gi hx ((m' + 5) % 8)), V.i (gi hx ((m' + 4) % 8)), V.i (gi hx ((m' + 3) % 8)), V.i (gi hx ((m' + 2) % 8)), V.i (gi hx ((m' + 1) % 8)), V.i (gi hx (m' % 8)), V.i (↑m' : Int), (yyFA38 c), (yyFA39 c), V.i (Cv.share c)])))] ⟨qFA32_, oM, oM, tI⟩ ?_; refine aops_nil ⟨kR, ?_⟩; refine xt_n (hK _ ?_); clear hK K; refine wR 3 ?_; refine aX hTT 10 [(4, .c qFA32), (5, .i ((7 : Int) + (1 : Int))), (6, .c qFA30), (9, .r (pw ((8 : Nat) + (1 : Nat) ≤ (21 : Nat)) (500 : Nat) ((yyFA310 c hy hx m' n))))] ⟨qFA32_, oM, qFA30_, oM, tI⟩ ?_; refine aops_nil ?_
  refine retM (v' := V.tup []) [] [] (.inl rfl) .nil (.cons ⟨(yyFA310 c hy hx m' n), kR, .box kR⟩ .nil) kR kR kR kR kR kR kR
abbrev yyFA319 (c : Cv) (hy : List Int) (hx : List Int) (m : Nat) (m' : Nat) : Ob := Ob.box 239 [V.i (gi hy ((m + 7) % 8)), V.i (gi hy ((m + 6) % 8)), V.i (gi hy ((m + 5) % 8)), V.i (gi hy ((m + 4) % 8)), V.i (gi hy ((m + 3) % 8)), V.i (gi hy ((m + 2) % 8)), V.i (gi hy ((m + 1) % 8)), V.i (gi hy (m % 8)), V.i (↑m : Int), V.i (gi hx ((m' + 7) % 8)), V.i (gi hx ((m' + 6) % 8)), V.i (gi hx ((m' + 5) % 8)), V.i (gi hx ((m' + 4) % 8)), V.i (gi hx ((m' + 3) % 8)), V.i (gi hx ((m' + 2) % 8)), V.i (gi hx ((m' + 1) % 8)), V.i (gi hx (m' % 8)), V.i (↑m' : Int), (yyFA38 c), (yyFA39 c), V.i (Cv.share c)]
abbrev yyFA318 (c : Cv) (hy : List Int) (hx : List Int) (m : Nat) (m' : Nat) := (500, (yyFA319 c hy hx m m'))
set_option maxRecDepth 100000 in
theorem weighI_ac (c : Cv) (hy hx : List Int) (m m' : Nat) (w : List Int) (n : Int) (hm : m' < 8) (hw : AllLe 4096 w) (hl : w.length ≤ 8) (hn : 0 ≤ n ∧ n ≤ 131072) (hh : AllLe n hx) : AM Tryz.prog 187 [.ref 500 9, V.ints w] [StO c hy hx m m'] (.i (dot w hx w.length)) [some (StO c hy hx m m')] [] := by
 refine am_intro hTT hMX (fn := Tryz.f187) (N := _) ⟨Tryz.func187, rfl, Tryz.ntmps187, kR⟩ (by simp) rfl (by simp) (by simp) fun C hF => ?_
 refine sK fun K hK => wR 2 ?_; refine aX hTT 1 [] tI ?_; refine nK hK ?_; clear hK K; refine sK fun K hK => wR 3 ?_; refine aX hTT 1 [] tI ?_; refine nK hK ?_; clear hK K; refine sK fun K hK => ?_; refine sK fun K hK => wR 4 ?_; refine aX hTT 3 [] tI ?_; refine nK hK ?_; clear hK K
 refine aw_block ?_
 refine w_loop (ι := Nat) (fun k => [(0, .ref 500 9), (5, .i (dot w hx k)), (8, V.ints w), (9, .i w.length), (10, .i k)]) (fun _ => [(500, StO c hy hx m m')]) (fun k => k ≤ w.length) (fun k => w.length - k) 0 (Nat.zero_le _) ?_ ?_
 ·
  refine le_ren (sl := [(yyFA318 c hy hx m m')]) [] (.cons kR (.cons kR (.cons kR (.cons kR (.cons kR .nil))))) (.cons ⟨(yyFA319 c hy hx m m'), kR, .box kR⟩ .nil) kR kR
 intro k hk
 have d1 := dot_bd (by decide) hn.1 hw hh k
 have d2 := mul_bd (hw.gi (by decide) k) (hh.gi hn.1 k)
 have e1 : (k : Int) * (4096 * n) ≤ 8 * (4096 * n) := Int.mul_le_mul_of_nonneg_right oM oM
 refine sK fun K hK => wR 2 ?_; refine aX hTT 1 [] tI ?_; refine nK hK ?_; clear hK K; refine sK fun K hK => ?_
 refine w_cond (t := decide ((↑k : Int) < (↑(List.length w) : Int))) kR (fun c1 => ?_) (fun c1 => ?_)
 ·
  simp at c1
  have hj : (((m' : Nat) : Int) + 8 - 1 - (k : Int)).tmod 8 = ((m' + 7 - k) % 8 : Nat) := by
   rw [Int.tmod_eq_emod_of_nonneg oM]
   omega
  have hi : (m' + (7 - (m' + 7 - k) % 8)) % 8 = k := by omega
  have hlt : (m' + 7 - k) % 8 < 8 := by omega
  rw [show gi hx k = gi hx ((m' + (7 - (m' + 7 - k) % 8)) % 8) by rw [hi]] at d2
  have hd : dot w hx (k + 1) = dot w hx k + gi w k * gi hx ((m' + (7 - (m' + 7 - k) % 8)) % 8) := by rw [hi]; rfl
  clear hi
  generalize (m' + 7 - k) % 8 = j at hj hlt hd d2
  have hj8 : j = 0 ∨ j = 1 ∨ j = 2 ∨ j = 3 ∨ j = 4 ∨ j = 5 ∨ j = 6 ∨ j = 7 := by omega
  refine aw_skip ?_
  refine xt_n (hK _ ?_); clear hK K; refine sK fun K hK => ?_
  refine aw_block ?_
  refine sK fun K hK => wR 3 ?_; refine aX hTT 5 [(1, .c ((0 : Int) ≤ (↑k : Int) ∧ (↑k : Int) < (↑(List.length w) : Int)))] ⟨oM, tI⟩ ?_; refine nK hK ?_; clear hK K; refine wD 4 ?_
  refine aops_n hTT (M := []) (n := 15) [pv 15 (V.i (dot w hx k)), pv 16 (V.i (gi w k)), pv 17 (V.ref 500 9), pv 18 (V.ref 500 9), pv 19 (V.ref 500 9), pv 20 (V.ref 500 17), pc 21 ((17 : Nat) ≤ (21 : Nat)) (V.i (↑m' : Int)), pc 22 ((-9223372036854775808 : Int) ≤ (↑m' : Int) + 8 ∧ (↑m' : Int) + 8 ≤ (9223372036854775807 : Int)) (V.i ((↑m' : Int) + 8)), pc 23 ((-9223372036854775808 : Int) ≤ (↑m' : Int) + 8 - (1 : Int) ∧ (↑m' : Int) + 8 - (1 : Int) ≤ (9223372036854775807 : Int)) (V.i ((↑m' : Int) + 8 - (1 : Int))), pv 24 (V.i (↑k : Int)), pc 25 ((-9223372036854775808 : Int) ≤ (↑m' : Int) + 8 - (1 : Int) - (↑k : Int) ∧ (↑m' : Int) + 8 - (1 : Int) - (↑k : Int) ≤ 9223372036854775807) (V.i ((↑m' : Int) + 8 - (1 : Int) - (↑k : Int))), pc 26 ((8 : Int) ≠ (0 : Int)) (V.i (Int.tmod ((↑m' : Int) + 8 - (1 : Int) - (↑k : Int)) (8 : Int))), pv 27 (V.ref 500 9), pv 28 (V.ref 500 9), pc 29 ((0 : Int) ≤ Int.tmod ((↑m' : Int) + 8 - (1 : Int) - (↑k : Int)) (8 : Int) ∧ Int.tmod ((↑m' : Int) + 8 - (1 : Int) - (↑k : Int)) (8 : Int) < (↑(8 : Nat) : Int)) (V.ref 500 ((9 : Nat) + Int.toNat (Int.tmod ((↑m' : Int) + 8 - (1 : Int) - (↑k : Int)) (8 : Int)) * 1))] kR kR ⟨oM, oM, oM, oM, oM, oM, tI⟩ ?_
  rcases hj8 with rfl | rfl | rfl | rfl | rfl | rfl | rfl | rfl
  ·
   simp only [Nat.reduceSub] at d2 hd
   skip
   rw [hj]
   refine aops_n hTT (M := []) (n := 4) [pc 30 ((9 : Nat) + (0 : Nat) * (1 : Nat) ≤ (21 : Nat)) (V.i (gi hx ((m' + 7) % 8))), pc 31 ((-9223372036854775808 : Int) ≤ gi w k * gi hx ((m' + 7) % 8) ∧ gi w k * gi hx ((m' + 7) % 8) ≤ 9223372036854775807) (V.i (gi w k * gi hx ((m' + 7) % 8))), pc 32 ((-9223372036854775808 : Int) ≤ dot w hx k + gi w k * gi hx ((m' + 7) % 8) ∧ dot w hx k + gi w k * gi hx ((m' + 7) % 8) ≤ 9223372036854775807) (V.i (dot w hx k + gi w k * gi hx ((m' + 7) % 8))), pv 5 (V.i (dot w hx k + gi w k * gi hx ((m' + 7) % 8)))] kR kR ⟨oM, oM, oM, tI⟩ ?_
   refine aops_nil ⟨kR, ?_⟩; refine xb_n ?_; refine xt_n (hK _ ?_); clear hK K; refine wR 5 ?_; refine aX hTT 2 [(0, .i ((↑k : Int) + 1))] ⟨oM, tI⟩ ?_; refine aops_nil ?_; refine xt_n ?_
   refine ⟨k + 1, by omega, ?_, by omega⟩
   rw [hd]
   refine le_ren (sl := [(yyFA318 c hy hx m m')]) [] (.cons kR (.cons kR (.cons kR (.cons kR (.cons kR .nil))))) (.cons ⟨(yyFA319 c hy hx m m'), kR, .box kR⟩ .nil) kR kR
  ·
   simp only [Nat.reduceSub] at d2 hd
   skip
   rw [hj]
   refine aX hTT 4 [(0, .c ((9 : Nat) + (1 : Nat) * (1 : Nat) ≤ (21 : Nat))), (1, .i (gi w k * gi hx ((m' + 6) % 8))), (2, .i (dot w hx k + gi w k * gi hx ((m' + 6) % 8)))] ⟨oM, oM, oM, tI⟩ ?_; refine aops_nil ⟨kR, ?_⟩; refine xb_n ?_; refine xt_n (hK _ ?_); clear hK K; refine wR 5 ?_; refine aX hTT 2 [(0, .i ((↑k : Int) + 1))] ⟨oM, tI⟩ ?_; refine aops_nil ?_; refine xt_n ?_
   refine ⟨k + 1, by omega, ?_, by omega⟩
   rw [hd]
   refine le_ren (sl := [(yyFA318 c hy hx m m')]) [] (.cons kR (.cons kR (.cons kR (.cons kR (.cons kR .nil))))) (.cons ⟨(yyFA319 c hy hx m m'), kR, .box kR⟩ .nil) kR kR
  ·
   simp only [Nat.reduceSub] at d2 hd
   skip
   rw [hj]
   refine aX hTT 4 [(0, .c ((9 : Nat) + (2 : Nat) * (1 : Nat) ≤ (21 : Nat))), (1, .i (gi w k * gi hx ((m' + 5) % 8))), (2, .i (dot w hx k + gi w k * gi hx ((m' + 5) % 8)))] ⟨oM, oM, oM, tI⟩ ?_; refine aops_nil ⟨kR, ?_⟩; refine xb_n ?_; refine xt_n (hK _ ?_); clear hK K; refine wR 5 ?_; refine aX hTT 2 [(0, .i ((↑k : Int) + 1))] ⟨oM, tI⟩ ?_; refine aops_nil ?_; refine xt_n ?_
   refine ⟨k + 1, by omega, ?_, by omega⟩
   rw [hd]
   refine le_ren (sl := [(yyFA318 c hy hx m m')]) [] (.cons kR (.cons kR (.cons kR (.cons kR (.cons kR .nil))))) (.cons ⟨(yyFA319 c hy hx m m'), kR, .box kR⟩ .nil) kR kR
  ·
   simp only [Nat.reduceSub] at d2 hd
   skip
   rw [hj]
   refine aX hTT 4 [(0, .c ((9 : Nat) + (3 : Nat) * (1 : Nat) ≤ (21 : Nat))), (1, .i (gi w k * gi hx ((m' + 4) % 8))), (2, .i (dot w hx k + gi w k * gi hx ((m' + 4) % 8)))] ⟨oM, oM, oM, tI⟩ ?_; refine aops_nil ⟨kR, ?_⟩; refine xb_n ?_; refine xt_n (hK _ ?_); clear hK K; refine wR 5 ?_; refine aX hTT 2 [(0, .i ((↑k : Int) + 1))] ⟨oM, tI⟩ ?_; refine aops_nil ?_; refine xt_n ?_
   refine ⟨k + 1, by omega, ?_, by omega⟩
   rw [hd]
   refine le_ren (sl := [(yyFA318 c hy hx m m')]) [] (.cons kR (.cons kR (.cons kR (.cons kR (.cons kR .nil))))) (.cons ⟨(yyFA319 c hy hx m m'), kR, .box kR⟩ .nil) kR kR
  ·
   simp only [Nat.reduceSub] at d2 hd
   skip
   rw [hj]
   refine aX hTT 4 [(0, .c ((9 : Nat) + (4 : Nat) * (1 : Nat) ≤ (21 : Nat))), (1, .i (gi w k * gi hx ((m' + 3) % 8))), (2, .i (dot w hx k + gi w k * gi hx ((m' + 3) % 8)))] ⟨oM, oM, oM, tI⟩ ?_; refine aops_nil ⟨kR, ?_⟩; refine xb_n ?_; refine xt_n (hK _ ?_); clear hK K; refine wR 5 ?_; refine aX hTT 2 [(0, .i ((↑k : Int) + 1))] ⟨oM, tI⟩ ?_; refine aops_nil ?_; refine xt_n ?_
   refine ⟨k + 1, by omega, ?_, by omega⟩
   rw [hd]
   refine le_ren (sl := [(yyFA318 c hy hx m m')]) [] (.cons kR (.cons kR (.cons kR (.cons kR (.cons kR .nil))))) (.cons ⟨(yyFA319 c hy hx m m'), kR, .box kR⟩ .nil) kR kR
  ·
   simp only [Nat.reduceSub] at d2 hd
   skip
   rw [hj]
   refine aX hTT 4 [(0, .c ((9 : Nat) + (5 : Nat) * (1 : Nat) ≤ (21 : Nat))), (1, .i (gi w k * gi hx ((m' + 2) % 8))), (2, .i (dot w hx k + gi w k * gi hx ((m' + 2) % 8)))] ⟨oM, oM, oM, tI⟩ ?_; refine aops_nil ⟨kR, ?_⟩; refine xb_n ?_; refine xt_n (hK _ ?_); clear hK K; refine wR 5 ?_; refine aX hTT 2 [(0, .i ((↑k : Int) + 1))] ⟨oM, tI⟩ ?_; refine aops_nil ?_; refine xt_n ?_
   refine ⟨k + 1, by omega, ?_, by omega⟩
   rw [hd]
   refine le_ren (sl := [(yyFA318 c hy hx m m')]) [] (.cons kR (.cons kR (.cons kR (.cons kR (.cons kR .nil))))) (.cons ⟨(yyFA319 c hy hx m m'), kR, .box kR⟩ .nil) kR kR
  ·
   simp only [Nat.reduceSub] at d2 hd
   skip
   rw [hj]
   refine aX hTT 4 [(0, .c ((9 : Nat) + (6 : Nat) * (1 : Nat) ≤ (21 : Nat))), (1, .i (gi w k * gi hx ((m' + 1) % 8))), (2, .i (dot w hx k + gi w k * gi hx ((m' + 1) % 8)))] ⟨oM, oM, oM, tI⟩ ?_; refine aops_nil ⟨kR, ?_⟩; refine xb_n ?_; refine xt_n (hK _ ?_); clear hK K; refine wR 5 ?_; refine aX hTT 2 [(0, .i ((↑k : Int) + 1))] ⟨oM, tI⟩ ?_; refine aops_nil ?_; refine xt_n ?_
   refine ⟨k + 1, by omega, ?_, by omega⟩
   rw [hd]
   refine le_ren (sl := [(yyFA318 c hy hx m m')]) [] (.cons kR (.cons kR (.cons kR (.cons kR (.cons kR .nil))))) (.cons ⟨(yyFA319 c hy hx m m'), kR, .box kR⟩ .nil) kR kR
  ·
   simp only [Nat.reduceSub, Nat.add_zero] at d2 hd
   skip
   rw [hj]
   refine aX hTT 4 [(0, .c ((9 : Nat) + (7 : Nat) * (1 : Nat) ≤ (21 : Nat))), (1, .i (gi w k * gi hx (m' % 8))), (2, .i (dot w hx k + gi w k * gi hx (m' % 8)))] ⟨oM, oM, oM, tI⟩ ?_; refine aops_nil ⟨kR, ?_⟩; refine xb_n ?_; refine xt_n (hK _ ?_); clear hK K; refine wR 5 ?_; refine aX hTT 2 [(0, .i ((↑k : Int) + 1))] ⟨oM, tI⟩ ?_; refine aops_nil ?_; refine xt_n ?_
   refine ⟨k + 1, by omega, ?_, by omega⟩
   rw [hd]
   refine le_ren (sl := [(yyFA318 c hy hx m m')]) [] (.cons kR (.cons kR (.cons kR (.cons kR (.cons kR .nil))))) (.cons ⟨(yyFA319 c hy hx m m'), kR, .box kR⟩ .nil) kR kR
 ·
  simp at c1
  obtain rfl : k = w.length := by omega
  refine aw_exit ?_
  refine xt_x ?_; refine xt_x ?_
  refine xb_same ?_
  refine xt_n ?_; clear hK K; refine hK _ ?_; clear hK K; refine sK fun K hK => wR 3 ?_; refine aX hTT 2 [] tI ?_; refine nK hK ?_; clear hK K
  refine aw_ret ?_
  refine retM (v' := V.i (dot w hx (List.length w))) [] [(4, V.i (dot w hx (List.length w)))] (.inr rfl) (.cons kR .nil) (.cons ⟨(yyFA319 c hy hx m m'), kR, .box kR⟩ .nil) kR kR kR kR kR kR kR
set_option maxRecDepth 100000 in
theorem weighO_ac (c : Cv) (hy hx : List Int) (m m' : Nat) (w : List Int) (n : Int) (hm : m < 8) (hw : AllLe 4096 w) (hl : w.length ≤ 8) (hn : 0 ≤ n ∧ n ≤ 131072) (hh : AllLe n hy) : AM Tryz.prog 187 [.ref 500 0, V.ints w] [StO c hy hx m m'] (.i (dot w hy w.length)) [some (StO c hy hx m m')] [] := by
 refine am_intro hTT hMX (fn := Tryz.f187) (N := _) ⟨Tryz.func187, rfl, Tryz.ntmps187, kR⟩ (by simp) rfl (by simp) (by simp) fun C hF => ?_
 refine sK fun K hK => wR 2 ?_; refine aX hTT 1 [] tI ?_; refine nK hK ?_; clear hK K; refine sK fun K hK => wR 3 ?_; refine aX hTT 1 [] tI ?_; refine nK hK ?_; clear hK K; refine sK fun K hK => ?_; refine sK fun K hK => wR 4 ?_; refine aX hTT 3 [] tI ?_; refine nK hK ?_; clear hK K
 refine aw_block ?_
 refine w_loop (ι := Nat) (fun k => [(0, .ref 500 0), (5, .i (dot w hy k)), (8, V.ints w), (9, .i w.length), (10, .i k)]) (fun _ => [(500, StO c hy hx m m')]) (fun k => k ≤ w.length) (fun k => w.length - k) 0 (Nat.zero_le _) ?_ ?_
 ·
  refine le_ren (sl := [(yyFA318 c hy hx m m')]) [] (.cons kR (.cons kR (.cons kR (.cons kR (.cons kR .nil))))) (.cons ⟨(yyFA319 c hy hx m m'), kR, .box kR⟩ .nil) kR kR
 intro k hk
 have d1 := dot_bd (by decide) hn.1 hw hh k
 have d2 := mul_bd (hw.gi (by decide) k) (hh.gi hn.1 k)
 have e1 : (k : Int) * (4096 * n) ≤ 8 * (4096 * n) := Int.mul_le_mul_of_nonneg_right oM oM
 refine sK fun K hK => wR 2 ?_; refine aX hTT 1 [] tI ?_; refine nK hK ?_; clear hK K; refine sK fun K hK => ?_
 refine w_cond (t := decide ((↑k : Int) < (↑(List.length w) : Int))) kR (fun c1 => ?_) (fun c1 => ?_)
 ·
  simp at c1
  have hj : (((m : Nat) : Int) + 8 - 1 - (k : Int)).tmod 8 = ((m + 7 - k) % 8 : Nat) := by
   rw [Int.tmod_eq_emod_of_nonneg oM]
   omega
  have hi : (m + (7 - (m + 7 - k) % 8)) % 8 = k := by omega
  have hlt : (m + 7 - k) % 8 < 8 := by omega
  rw [show gi hy k = gi hy ((m + (7 - (m + 7 - k) % 8)) % 8) by rw [hi]] at d2
  have hd : dot w hy (k + 1) = dot w hy k + gi w k * gi hy ((m + (7 - (m + 7 - k) % 8)) % 8) := by rw [hi]; rfl
  clear hi
  generalize (m + 7 - k) % 8 = j at hj hlt hd d2
  have hj8 : j = 0 ∨ j = 1 ∨ j = 2 ∨ j = 3 ∨ j = 4 ∨ j = 5 ∨ j = 6 ∨ j = 7 := by omega
  refine aw_skip ?_
  refine xt_n (hK _ ?_); clear hK K; refine sK fun K hK => ?_
  refine aw_block ?_
  refine sK fun K hK => wR 3 ?_; refine aX hTT 5 [(1, .c ((0 : Int) ≤ (↑k : Int) ∧ (↑k : Int) < (↑(List.length w) : Int)))] ⟨oM, tI⟩ ?_; refine nK hK ?_; clear hK K; refine wD 4 ?_
  refine aops_n hTT (M := []) (n := 15) [pv 15 (V.i (dot w hy k)), pv 16 (V.i (gi w k)), pv 17 (V.ref 500 0), pv 18 (V.ref 500 0), pv 19 (V.ref 500 0), pv 20 (V.ref 500 8), pc 21 ((8 : Nat) ≤ (21 : Nat)) (V.i (↑m : Int)), pc 22 ((-9223372036854775808 : Int) ≤ (↑m : Int) + 8 ∧ (↑m : Int) + 8 ≤ (9223372036854775807 : Int)) (V.i ((↑m : Int) + 8)), pc 23 ((-9223372036854775808 : Int) ≤ (↑m : Int) + 8 - (1 : Int) ∧ (↑m : Int) + 8 - (1 : Int) ≤ (9223372036854775807 : Int)) (V.i ((↑m : Int) + 8 - (1 : Int))), pv 24 (V.i (↑k : Int)), pc 25 ((-9223372036854775808 : Int) ≤ (↑m : Int) + 8 - (1 : Int) - (↑k : Int) ∧ (↑m : Int) + 8 - (1 : Int) - (↑k : Int) ≤ 9223372036854775807) (V.i ((↑m : Int) + 8 - (1 : Int) - (↑k : Int))), pc 26 ((8 : Int) ≠ (0 : Int)) (V.i (Int.tmod ((↑m : Int) + 8 - (1 : Int) - (↑k : Int)) (8 : Int))), pv 27 (V.ref 500 0), pv 28 (V.ref 500 0), pc 29 ((0 : Int) ≤ Int.tmod ((↑m : Int) + 8 - (1 : Int) - (↑k : Int)) (8 : Int) ∧ Int.tmod ((↑m : Int) + 8 - (1 : Int) - (↑k : Int)) (8 : Int) < (↑(8 : Nat) : Int)) (V.ref 500 ((0 : Nat) + Int.toNat (Int.tmod ((↑m : Int) + 8 - (1 : Int) - (↑k : Int)) (8 : Int)) * 1))] kR kR ⟨oM, oM, oM, oM, oM, oM, tI⟩ ?_
  rcases hj8 with rfl | rfl | rfl | rfl | rfl | rfl | rfl | rfl
  ·
   simp only [Nat.reduceSub] at d2 hd
   skip
   rw [hj]
   refine aops_n hTT (M := []) (n := 4) [pc 30 ((0 : Nat) + (0 : Nat) * (1 : Nat) ≤ (21 : Nat)) (V.i (gi hy ((m + 7) % 8))), pc 31 ((-9223372036854775808 : Int) ≤ gi w k * gi hy ((m + 7) % 8) ∧ gi w k * gi hy ((m + 7) % 8) ≤ 9223372036854775807) (V.i (gi w k * gi hy ((m + 7) % 8))), pc 32 ((-9223372036854775808 : Int) ≤ dot w hy k + gi w k * gi hy ((m + 7) % 8) ∧ dot w hy k + gi w k * gi hy ((m + 7) % 8) ≤ 9223372036854775807) (V.i (dot w hy k + gi w k * gi hy ((m + 7) % 8))), pv 5 (V.i (dot w hy k + gi w k * gi hy ((m + 7) % 8)))] kR kR ⟨oM, oM, oM, tI⟩ ?_
   refine aops_nil ⟨kR, ?_⟩; refine xb_n ?_; refine xt_n (hK _ ?_); clear hK K; refine wR 5 ?_; refine aX hTT 2 [(0, .i ((↑k : Int) + 1))] ⟨oM, tI⟩ ?_; refine aops_nil ?_; refine xt_n ?_
   refine ⟨k + 1, by omega, ?_, by omega⟩
   rw [hd]
   refine le_ren (sl := [(yyFA318 c hy hx m m')]) [] (.cons kR (.cons kR (.cons kR (.cons kR (.cons kR .nil))))) (.cons ⟨(yyFA319 c hy hx m m'), kR, .box kR⟩ .nil) kR kR
  ·
   simp only [Nat.reduceSub] at d2 hd
   skip
   rw [hj]
   refine aX hTT 4 [(0, .c ((0 : Nat) + (1 : Nat) * (1 : Nat) ≤ (21 : Nat))), (1, .i (gi w k * gi hy ((m + 6) % 8))), (2, .i (dot w hy k + gi w k * gi hy ((m + 6) % 8)))] ⟨oM, oM, oM, tI⟩ ?_; refine aops_nil ⟨kR, ?_⟩; refine xb_n ?_; refine xt_n (hK _ ?_); clear hK K; refine wR 5 ?_; refine aX hTT 2 [(0, .i ((↑k : Int) + 1))] ⟨oM, tI⟩ ?_; refine aops_nil ?_; refine xt_n ?_
   refine ⟨k + 1, by omega, ?_, by omega⟩
   rw [hd]
   refine le_ren (sl := [(yyFA318 c hy hx m m')]) [] (.cons kR (.cons kR (.cons kR (.cons kR (.cons kR .nil))))) (.cons ⟨(yyFA319 c hy hx m m'), kR, .box kR⟩ .nil) kR kR
  ·
   simp only [Nat.reduceSub] at d2 hd
   skip
   rw [hj]
   refine aX hTT 4 [(0, .c ((0 : Nat) + (2 : Nat) * (1 : Nat) ≤ (21 : Nat))), (1, .i (gi w k * gi hy ((m + 5) % 8))), (2, .i (dot w hy k + gi w k * gi hy ((m + 5) % 8)))] ⟨oM, oM, oM, tI⟩ ?_; refine aops_nil ⟨kR, ?_⟩; refine xb_n ?_; refine xt_n (hK _ ?_); clear hK K; refine wR 5 ?_; refine aX hTT 2 [(0, .i ((↑k : Int) + 1))] ⟨oM, tI⟩ ?_; refine aops_nil ?_; refine xt_n ?_
   refine ⟨k + 1, by omega, ?_, by omega⟩
   rw [hd]
   refine le_ren (sl := [(yyFA318 c hy hx m m')]) [] (.cons kR (.cons kR (.cons kR (.cons kR (.cons kR .nil))))) (.cons ⟨(yyFA319 c hy hx m m'), kR, .box kR⟩ .nil) kR kR
  ·
   simp only [Nat.reduceSub] at d2 hd
   skip
   rw [hj]
   refine aX hTT 4 [(0, .c ((0 : Nat) + (3 : Nat) * (1 : Nat) ≤ (21 : Nat))), (1, .i (gi w k * gi hy ((m + 4) % 8))), (2, .i (dot w hy k + gi w k * gi hy ((m + 4) % 8)))] ⟨oM, oM, oM, tI⟩ ?_; refine aops_nil ⟨kR, ?_⟩; refine xb_n ?_; refine xt_n (hK _ ?_); clear hK K; refine wR 5 ?_; refine aX hTT 2 [(0, .i ((↑k : Int) + 1))] ⟨oM, tI⟩ ?_; refine aops_nil ?_; refine xt_n ?_
   refine ⟨k + 1, by omega, ?_, by omega⟩
   rw [hd]
   refine le_ren (sl := [(yyFA318 c hy hx m m')]) [] (.cons kR (.cons kR (.cons kR (.cons kR (.cons kR .nil))))) (.cons ⟨(yyFA319 c hy hx m m'), kR, .box kR⟩ .nil) kR kR
  ·
   simp only [Nat.reduceSub] at d2 hd
   skip
   rw [hj]
   refine aX hTT 4 [(0, .c ((0 : Nat) + (4 : Nat) * (1 : Nat) ≤ (21 : Nat))), (1, .i (gi w k * gi hy ((m + 3) % 8))), (2, .i (dot w hy k + gi w k * gi hy ((m + 3) % 8)))] ⟨oM, oM, oM, tI⟩ ?_; refine aops_nil ⟨kR, ?_⟩; refine xb_n ?_; refine xt_n (hK _ ?_); clear hK K; refine wR 5 ?_; refine aX hTT 2 [(0, .i ((↑k : Int) + 1))] ⟨oM, tI⟩ ?_; refine aops_nil ?_; refine xt_n ?_
   refine ⟨k + 1, by omega, ?_, by omega⟩
   rw [hd]
   refine le_ren (sl := [(yyFA318 c hy hx m m')]) [] (.cons kR (.cons kR (.cons kR (.cons kR (.cons kR .nil))))) (.cons ⟨(yyFA319 c hy hx m m'), kR, .box kR⟩ .nil) kR kR
  ·
   simp only [Nat.reduceSub] at d2 hd
   skip
   rw [hj]
   refine aX hTT 4 [(0, .c ((0 : Nat) + (5 : Nat) * (1 : Nat) ≤ (21 : Nat))), (1, .i (gi w k * gi hy ((m + 2) % 8))), (2, .i (dot w hy k + gi w k * gi hy ((m + 2) % 8)))] ⟨oM, oM, oM, tI⟩ ?_; refine aops_nil ⟨kR, ?_⟩; refine xb_n ?_; refine xt_n (hK _ ?_); clear hK K; refine wR 5 ?_; refine aX hTT 2 [(0, .i ((↑k : Int) + 1))] ⟨oM, tI⟩ ?_; refine aops_nil ?_; refine xt_n ?_
   refine ⟨k + 1, by omega, ?_, by omega⟩
   rw [hd]
   refine le_ren (sl := [(yyFA318 c hy hx m m')]) [] (.cons kR (.cons kR (.cons kR (.cons kR (.cons kR .nil))))) (.cons ⟨(yyFA319 c hy hx m m'), kR, .box kR⟩ .nil) kR kR
  ·
   simp only [Nat.reduceSub] at d2 hd
   skip
   rw [hj]
   refine aX hTT 4 [(0, .c ((0 : Nat) + (6 : Nat) * (1 : Nat) ≤ (21 : Nat))), (1, .i (gi w k * gi hy ((m + 1) % 8))), (2, .i (dot w hy k + gi w k * gi hy ((m + 1) % 8)))] ⟨oM, oM, oM, tI⟩ ?_; refine aops_nil ⟨kR, ?_⟩; refine xb_n ?_; refine xt_n (hK _ ?_); clear hK K; refine wR 5 ?_; refine aX hTT 2 [(0, .i ((↑k : Int) + 1))] ⟨oM, tI⟩ ?_; refine aops_nil ?_; refine xt_n ?_
   refine ⟨k + 1, by omega, ?_, by omega⟩
   rw [hd]
   refine le_ren (sl := [(yyFA318 c hy hx m m')]) [] (.cons kR (.cons kR (.cons kR (.cons kR (.cons kR .nil))))) (.cons ⟨(yyFA319 c hy hx m m'), kR, .box kR⟩ .nil) kR kR
  ·
   simp only [Nat.reduceSub, Nat.add_zero] at d2 hd
   skip
   rw [hj]
   refine aX hTT 4 [(0, .c ((0 : Nat) + (7 : Nat) * (1 : Nat) ≤ (21 : Nat))), (1, .i (gi w k * gi hy (m % 8))), (2, .i (dot w hy k + gi w k * gi hy (m % 8)))] ⟨oM, oM, oM, tI⟩ ?_; refine aops_nil ⟨kR, ?_⟩; refine xb_n ?_; refine xt_n (hK _ ?_); clear hK K; refine wR 5 ?_; refine aX hTT 2 [(0, .i ((↑k : Int) + 1))] ⟨oM, tI⟩ ?_; refine aops_nil ?_; refine xt_n ?_
   refine ⟨k + 1, by omega, ?_, by omega⟩
   rw [hd]
   refine le_ren (sl := [(yyFA318 c hy hx m m')]) [] (.cons kR (.cons kR (.cons kR (.cons kR (.cons kR .nil))))) (.cons ⟨(yyFA319 c hy hx m m'), kR, .box kR⟩ .nil) kR kR
 ·
  simp at c1
  obtain rfl : k = w.length := by omega
  refine aw_exit ?_
  refine xt_x ?_; refine xt_x ?_
  refine xb_same ?_
  refine xt_n ?_; clear hK K; refine hK _ ?_; clear hK K; refine sK fun K hK => wR 3 ?_; refine aX hTT 2 [] tI ?_; refine nK hK ?_; clear hK K
  refine aw_ret ?_
  refine retM (v' := V.i (dot w hy (List.length w))) [] [(4, V.i (dot w hy (List.length w)))] (.inr rfl) (.cons kR .nil) (.cons ⟨(yyFA319 c hy hx m m'), kR, .box kR⟩ .nil) kR kR kR kR kR kR kR
end Go.Proofs.YtepkjobndmmejaaGreatDoor

namespace Go.Proofs.YtepkjobndmmejaaGreatDoor
open Go.Ab Go.RowKit Go.Dw Go.Shelf
abbrev St (c : Cv) (hy hx : List Int) (m : Nat) : Ob := StO c hy hx m m
abbrev yyFA40 (c : Cv) (hy : List Int) (hx : List Int) (m : Nat) : Ob := Ob.box 239 [V.i (gi hy ((m + 7) % 8)), V.i (gi hy ((m + 6) % 8)), V.i (gi hy ((m + 5) % 8)), V.i (gi hy ((m + 4) % 8)), V.i (gi hy ((m + 3) % 8)), V.i (gi hy ((m + 2) % 8)), V.i (gi hy ((m + 1) % 8)), V.i (gi hy (m % 8)), V.i (↑m : Int), V.i (gi hx ((m + 7) % 8)), V.i (gi hx ((m + 6) % 8)), V.i (gi hx ((m + 5) % 8)), V.i (gi hx ((m + 4) % 8)), V.i (gi hx ((m + 3) % 8)), V.i (gi hx ((m + 2) % 8)), V.i (gi hx ((m + 1) % 8)), V.i (gi hx (m % 8)), V.i (↑m : Int), V.sl 1 (List.length (Cv.feed c)) fun (k : Nat) => [V.i (gi (Cv.feed c) k)], V.sl 1 (List.length (Cv.back c)) fun (k : Nat) => [V.i (gi (Cv.back c) k)], V.i (Cv.share c)]
abbrev yyFA41 (c : Cv) (hy : List Int) (hx : List Int) := (dot (Cv.feed c) hx (List.length (Cv.feed c)) + dot (Cv.back c) hy (List.length (Cv.back c)))
set_option maxRecDepth 100000 in
theorem correction_ac (c : Cv) (hy hx : List Int) (m : Nat) (n : Int) (hc : cvOk c) (hm : m < 8) (hn : 0 ≤ n ∧ n ≤ 131072) (h1 : AllLe n hx) (h2 : AllLe n hy) : AM Tryz.prog 159 [.ref 500 0] [St c hy hx m] (.i (corr c hx hy)) [some (St c hy hx m)] [] := by
 have b := corr_bd hc hn.1 h1 h2
 obtain ⟨l1, l2, a1, a2, s1, s2⟩ := hc
 refine am_intro hTT hMX (fn := Tryz.f159) (N := _) ⟨Tryz.func159, rfl, Tryz.ntmps159, kR⟩ (by simp) rfl (by simp) (by simp) fun C hF => ?_
 refine sK fun K hK => wR 2 ?_; refine aX hTT 1 [] tI ?_; refine nK hK ?_; clear hK K; refine sK fun K hK => wD 3 ?_; refine aX hTT 8 [(7, .c ((18 : Nat) ≤ (21 : Nat)))] ⟨oM, tI⟩ ?_
 refine aops_callR [500] (first := []) (caps := []) (ins' := [(yyFA40 c hy hx m)]) (v' := V.i (dot (Cv.feed c) hx (List.length (Cv.feed c)))) (δ := []) (kp := [500]) (weighI_ac c hy hx m m c.feed n hm a1 l1 hn h1) kR kR kR kR kR kR kR rfl kR kR ⟨kR, tI⟩ kR kR kR ?_
 refine aX hTT 8 [(7, .c ((19 : Nat) ≤ (21 : Nat)))] ⟨oM, tI⟩ ?_
 refine aops_callR [500] (first := []) (caps := []) (ins' := [(yyFA40 c hy hx m)]) (v' := V.i (dot (Cv.back c) hy (List.length (Cv.back c)))) (δ := []) (kp := [500]) (weighO_ac c hy hx m m c.back n hm a2 l2 hn h2) kR kR kR kR kR kR kR rfl kR kR ⟨kR, tI⟩ kR kR kR ?_
 refine aops_n hTT (M := []) (n := 6) [pc 21 ((-9223372036854775808 : Int) ≤ dot (Cv.feed c) hx (List.length (Cv.feed c)) + dot (Cv.back c) hy (List.length (Cv.back c)) ∧ dot (Cv.feed c) hx (List.length (Cv.feed c)) + dot (Cv.back c) hy (List.length (Cv.back c)) ≤ 9223372036854775807) (V.i (yyFA41 c hy hx)), pv 22 (V.ref 500 0), pv 23 (V.ref 500 0), pv 24 (V.ref 500 18), pv 25 (V.ref 500 20), pc 26 ((20 : Nat) ≤ (21 : Nat)) (V.i (Cv.share c))] kR kR ⟨oM, oM, tI⟩ ?_
 refine eC (down_ac (dot c.feed hx c.feed.length + dot c.back hy c.back.length) c.share oM s1) ?_
 refine aX hTT 1 [] tI ?_; refine aops_nil ⟨kR, ?_⟩; refine xt_n (hK _ ?_); clear hK K
 refine aw_ret ?_
 refine retM (v' := V.i ((yyFA41 c hy hx) / Cv.share c)) [] [(2, V.i ((yyFA41 c hy hx) / Cv.share c))] (.inr rfl) (.cons kR .nil) (.cons ⟨(yyFA40 c hy hx m), kR, .box kR⟩ .nil) kR kR kR kR kR kR kR
abbrev PB (k : Nat) : Ob := .box 234 [.ref k 0]
abbrev qFA40 : Prop := (0 : Nat) ≤ (1 : Nat)
theorem qFA40_ : qFA40 := oM
abbrev yyFA48 (m : Nat) := (((m + 1) % 8 + (7 : Nat)) % 8)
abbrev yyFA49 (m : Nat) := (((m + 1) % 8 + (6 : Nat)) % 8)
abbrev yyFA410 (m : Nat) := (((m + 1) % 8 + (5 : Nat)) % 8)
abbrev yyFA411 (m : Nat) := (((m + 1) % 8 + (4 : Nat)) % 8)
abbrev yyFA412 (m : Nat) := (((m + 1) % 8 + (3 : Nat)) % 8)
abbrev yyFA413 (m : Nat) := (((m + 1) % 8 + (2 : Nat)) % 8)
abbrev yyFA414 (m : Nat) := (((m + 1) % 8 + (1 : Nat)) % 8)
abbrev yyFA46 (c : Cv) : V := V.sl 1 (List.length (Cv.feed c)) fun (k : Nat) => [V.i (gi (Cv.feed c) k)]
abbrev yyFA47 (c : Cv) : V := V.sl 1 (List.length (Cv.back c)) fun (k : Nat) => [V.i (gi (Cv.back c) k)]
abbrev yyFA42 (c : Cv) (hy : List Int) (hx : List Int) (m : Nat) (g : Int) : Ob := Ob.box 239 [V.i (gi (g :: hy) (yyFA48 m)), V.i (gi (g :: hy) (yyFA49 m)), V.i (gi (g :: hy) (yyFA410 m)), V.i (gi (g :: hy) (yyFA411 m)), V.i (gi (g :: hy) (yyFA412 m)), V.i (gi (g :: hy) (yyFA413 m)), V.i (gi (g :: hy) (yyFA414 m)), V.i (gi (g :: hy) ((m + 1) % 8 % (8 : Nat))), V.i (↑((m + 1) % 8) : Int), V.i (gi ((g - corr c hx hy) :: hx) (yyFA48 m)), V.i (gi ((g - corr c hx hy) :: hx) (yyFA49 m)), V.i (gi ((g - corr c hx hy) :: hx) (yyFA410 m)), V.i (gi ((g - corr c hx hy) :: hx) (yyFA411 m)), V.i (gi ((g - corr c hx hy) :: hx) (yyFA412 m)), V.i (gi ((g - corr c hx hy) :: hx) (yyFA413 m)), V.i (gi ((g - corr c hx hy) :: hx) (yyFA414 m)), V.i (gi ((g - corr c hx hy) :: hx) ((m + 1) % 8 % (8 : Nat))), V.i (↑((m + 1) % 8) : Int), (yyFA46 c), (yyFA47 c), V.i (Cv.share c)]
abbrev yyFA43 (c : Cv) (hy : List Int) (hx : List Int) (m : Nat) (g : Int) : Ob := Ob.box 239 [V.i (gi ((g + corr c hx hy) :: hy) (yyFA48 m)), V.i (gi ((g + corr c hx hy) :: hy) (yyFA49 m)), V.i (gi ((g + corr c hx hy) :: hy) (yyFA410 m)), V.i (gi ((g + corr c hx hy) :: hy) (yyFA411 m)), V.i (gi ((g + corr c hx hy) :: hy) (yyFA412 m)), V.i (gi ((g + corr c hx hy) :: hy) (yyFA413 m)), V.i (gi ((g + corr c hx hy) :: hy) (yyFA414 m)), V.i (gi ((g + corr c hx hy) :: hy) ((m + 1) % 8 % (8 : Nat))), V.i (↑((m + 1) % 8) : Int), V.i (gi (g :: hx) (yyFA48 m)), V.i (gi (g :: hx) (yyFA49 m)), V.i (gi (g :: hx) (yyFA410 m)), V.i (gi (g :: hx) (yyFA411 m)), V.i (gi (g :: hx) (yyFA412 m)), V.i (gi (g :: hx) (yyFA413 m)), V.i (gi (g :: hx) (yyFA414 m)), V.i (gi (g :: hx) ((m + 1) % 8 % (8 : Nat))), V.i (↑((m + 1) % 8) : Int), (yyFA46 c), (yyFA47 c), V.i (Cv.share c)]
abbrev yyFA44 (c : Cv) (hy : List Int) (hx : List Int) (m : Nat) (g : Int) : Ob := Ob.box 239 [V.i (gi hy ((m + 7) % 8)), V.i (gi hy ((m + 6) % 8)), V.i (gi hy ((m + 5) % 8)), V.i (gi hy ((m + 4) % 8)), V.i (gi hy ((m + 3) % 8)), V.i (gi hy ((m + 2) % 8)), V.i (gi hy ((m + 1) % 8)), V.i (gi hy (m % 8)), V.i (↑m : Int), V.i (gi ((g - corr c hx hy) :: hx) (yyFA48 m)), V.i (gi ((g - corr c hx hy) :: hx) (yyFA49 m)), V.i (gi ((g - corr c hx hy) :: hx) (yyFA410 m)), V.i (gi ((g - corr c hx hy) :: hx) (yyFA411 m)), V.i (gi ((g - corr c hx hy) :: hx) (yyFA412 m)), V.i (gi ((g - corr c hx hy) :: hx) (yyFA413 m)), V.i (gi ((g - corr c hx hy) :: hx) (yyFA414 m)), V.i (gi ((g - corr c hx hy) :: hx) ((m + 1) % 8 % (8 : Nat))), V.i (↑((m + 1) % 8) : Int), (yyFA46 c), (yyFA47 c), V.i (Cv.share c)]
abbrev yyFA45 (c : Cv) (hy : List Int) (hx : List Int) (m : Nat) (g : Int) : Ob := Ob.box 239 [V.i (gi hy ((m + 7) % 8)), V.i (gi hy ((m + 6) % 8)), V.i (gi hy ((m + 5) % 8)), V.i (gi hy ((m + 4) % 8)), V.i (gi hy ((m + 3) % 8)), V.i (gi hy ((m + 2) % 8)), V.i (gi hy ((m + 1) % 8)), V.i (gi hy (m % 8)), V.i (↑m : Int), V.i (gi (g :: hx) (yyFA48 m)), V.i (gi (g :: hx) (yyFA49 m)), V.i (gi (g :: hx) (yyFA410 m)), V.i (gi (g :: hx) (yyFA411 m)), V.i (gi (g :: hx) (yyFA412 m)), V.i (gi (g :: hx) (yyFA413 m)), V.i (gi (g :: hx) (yyFA414 m)), V.i (gi (g :: hx) ((m + 1) % 8 % (8 : Nat))), V.i (↑((m + 1) % 8) : Int), (yyFA46 c), (yyFA47 c), V.i (Cv.share c)]
set_option maxRecDepth 100000 in
theorem step1_ac (c : Cv) (u : Bool) (hy hx : List Int) (m : Nat) (n g : Int) (hc : cvOk c) (hm : m < 8) (hn : 0 ≤ n ∧ n ≤ 131072) (h1 : AllLe n hx) (h2 : AllLe n hy) (hg : -n ≤ g ∧ g ≤ n) :
  AM Tryz.prog 158 [.i g, .ptr [.b u], .ref 500 0] [PB 501, St c hy hx m] (.i (if u then g - corr c hx hy else g + corr c hx hy)) [some (PB 501), some (St c ((if u then g else g + corr c hx hy) :: hy) ((if u then g - corr c hx hy else g) :: hx) ((m + 1) % 8))] [] := by
 have b := corr_bd hc hn.1 h1 h2
 refine am_intro hTT hMX (fn := Tryz.f158) (N := _) ⟨Tryz.func158, rfl, Tryz.ntmps158, kR⟩ (by simp) rfl (by simp) (by simp) fun C hF => ?_
 refine sK fun K hK => wR 2 ?_; refine aX hTT 1 [] tI ?_; refine nK hK ?_; clear hK K; refine sK fun K hK => wR 3 ?_; refine aX hTT 4 [] tI ?_; refine nK hK ?_; clear hK K; refine sK fun K hK => ?_; refine sK fun K hK => wR 4 ?_; refine aX hTT 1 [] tI ?_; refine nK hK ?_; clear hK K
 refine w_cond (t := u) kR (fun c1 => ?_) (fun c1 => ?_)
 ·
  subst c1
  refine sK fun K hK => wR 5 ?_; refine aX hTT 2 [(1, .c qFA40)] ⟨qFA40_, tI⟩ ?_
  refine aops_callR [501] (first := []) (caps := []) (ins' := [(yyFA40 c hy hx m)]) (v' := V.i (corr c hx hy)) (δ := []) (kp := [501]) (correction_ac c hy hx m n hc hm hn h1 h2) kR kR kR kR kR kR kR rfl kR kR ⟨kR, tI⟩ kR kR kR ?_
  refine aX hTT 2 [(0, .i (g - corr c hx hy))] ⟨oM, tI⟩ ?_; refine nK hK ?_; clear hK K; refine sK fun K hK => wR 6 ?_; refine aX hTT 4 [(0, .c qFA40)] ⟨qFA40_, tI⟩ ?_
  refine aops_callM [501] (first := []) (caps := []) (ins' := [(yyFA40 c hy hx m)]) (v' := V.tup []) (δ := [(501, Option.some ((yyFA44 c hy hx m g)))]) (kp := [501]) (putI_ac c hy hx m m (g - corr c hx hy) hm) kR kR kR kR kR kR rfl rfl kR (.box kR kR .nil) kR kR kR ?_
  refine nK hK ?_; clear hK K; refine sK fun K hK => wR 7 ?_; refine aX hTT 4 [(0, .c qFA40)] ⟨qFA40_, tI⟩ ?_
  refine aops_callM [501] (first := []) (caps := []) (ins' := [(yyFA44 c hy hx m g)]) (v' := V.tup []) (δ := [(501, Option.some ((yyFA42 c hy hx m g)))]) (kp := [501]) (putO_ac c hy ((g - corr c hx hy) :: hx) m ((m + 1) % 8) g hm) kR kR kR kR kR kR rfl rfl kR (.box kR kR .nil) kR kR kR ?_
  refine nK hK ?_; clear hK K; refine sK fun K hK => wR 8 ?_; refine aX hTT 2 [] tI ?_; refine nK hK ?_; clear hK K
  refine aw_ret ?_
  refine xt_r ?_
  refine retM (v' := V.i (g - corr c hx hy)) [] [(4, V.i (g - corr c hx hy))] (.inr rfl) (.cons kR .nil) (.cons ⟨Ob.box 234 [V.ref 501 0], kR, .box kR⟩ (.cons ⟨(yyFA42 c hy hx m g), kR, .box kR⟩ .nil)) kR kR kR kR kR kR kR
 ·
  subst c1
  refine aw_skip ?_
  refine xt_n (hK _ ?_); clear hK K; refine sK fun K hK => wR 5 ?_; refine aX hTT 2 [(1, .c qFA40)] ⟨qFA40_, tI⟩ ?_
  refine aops_callR [501] (first := []) (caps := []) (ins' := [(yyFA40 c hy hx m)]) (v' := V.i (corr c hx hy)) (δ := []) (kp := [501]) (correction_ac c hy hx m n hc hm hn h1 h2) kR kR kR kR kR kR kR rfl kR kR ⟨kR, tI⟩ kR kR kR ?_
  refine aX hTT 2 [(0, .i (g + corr c hx hy))] ⟨oM, tI⟩ ?_; refine nK hK ?_; clear hK K; refine sK fun K hK => wR 6 ?_; refine aX hTT 4 [(0, .c qFA40)] ⟨qFA40_, tI⟩ ?_
  refine aops_callM [501] (first := []) (caps := []) (ins' := [(yyFA40 c hy hx m)]) (v' := V.tup []) (δ := [(501, Option.some ((yyFA45 c hy hx m g)))]) (kp := [501]) (putI_ac c hy hx m m g hm) kR kR kR kR kR kR rfl rfl kR (.box kR kR .nil) kR kR kR ?_
  refine nK hK ?_; clear hK K; refine sK fun K hK => wR 7 ?_; refine aX hTT 4 [(0, .c qFA40)] ⟨qFA40_, tI⟩ ?_
  refine aops_callM [501] (first := []) (caps := []) (ins' := [(yyFA45 c hy hx m g)]) (v' := V.tup []) (δ := [(501, Option.some ((yyFA43 c hy hx m g)))]) (kp := [501]) (putO_ac c hy (g :: hx) m ((m + 1) % 8) (g + corr c hx hy) hm) kR kR kR kR kR kR rfl rfl kR (.box kR kR .nil) kR kR kR ?_
  refine nK hK ?_; clear hK K; refine sK fun K hK => wR 8 ?_; refine aX hTT 2 [] tI ?_; refine nK hK ?_; clear hK K
  refine aw_ret ?_
  refine retM (v' := V.i (g + corr c hx hy)) [] [(4, V.i (g + corr c hx hy))] (.inr rfl) (.cons kR .nil) (.cons ⟨Ob.box 234 [V.ref 501 0], kR, .box kR⟩ (.cons ⟨(yyFA43 c hy hx m g), kR, .box kR⟩ .nil)) kR kR kR kR kR kR kR
abbrev FStep (u : Bool) (k : Nat) : V := .fn (.func 158) [] [.ptr [.b u], .ref k 0]
abbrev FIn (m : Int) : V := .fn (.func 161) [] [.ptr [.i m]]
abbrev yyFA415 (c : Cv) : Ob := Ob.box 239 [V.i 0, V.i 0, V.i 0, V.i 0, V.i 0, V.i 0, V.i 0, V.i 0, V.i 0, V.i 0, V.i 0, V.i 0, V.i 0, V.i 0, V.i 0, V.i 0, V.i 0, V.i 0, (yyFA46 c), (yyFA47 c), V.i (Cv.share c)]
set_option maxRecDepth 100000 in
theorem fStep_ac (c : Cv) (u : Bool) : AC Tryz.prog 139 [V.cv c, .b u] (FStep u 0) [PB 1, St c [] [] 0] := by
 refine acI hTT hMX Tryz.func139 Tryz.ntmps139 fun C hC hF => ?_
 refine sK fun K hK => wR 2 ?_
 refine aops_x (M := [8]) hTT 3 [] tI ?_
 refine nK hK ?_; clear hK K; refine sK fun K hK => wR 3 ?_
 refine aops_x (M := [8]) hTT 5 [(2, .r (pn 8 (V.ref 200008 0) (200008 : Nat) ((yyFA415 c)))), (3, .r (pn 5 (V.ref 200005 0) (200005 : Nat) (Ob.box 234 [V.c (Value.pointer none)]))), (4, .r (pw ((0 : Nat) + (1 : Nat) ≤ (1 : Nat)) (200005 : Nat) (Ob.box 234 [V.ref 200008 0])))] ⟨oM, tI⟩ ?_
 refine nK hK ?_; clear hK K; refine sK fun K hK => wR 4 ?_
 refine aops_x (M := [8]) hTT 2 [] tI ?_
 refine nK hK ?_; clear hK K
 refine aw_ret ?_
 refine ret_of_M ?_
 refine retM (v' := V.fn (Fn.func (158 : Nat)) [] [V.ptr [V.b u], V.ref 0 0]) [(0, 200005), (1, 200008)] [(4, V.fn (Fn.func (158 : Nat)) [] [V.ptr [V.b u], V.ref 0 0])] (.inr rfl) (.cons kR .nil) (.cons ⟨Ob.box 234 [V.ref 200008 0], kR, .box kR⟩ (.cons ⟨(yyFA415 c), kR, .box kR⟩ .nil)) kR kR kR kR kR kR kR
set_option maxRecDepth 100000 in
theorem within_ac (m : Int) : AC Tryz.prog 140 [.i m] (FIn m) [] := by
 refine acI hTT hMX Tryz.func140 Tryz.ntmps140 fun C hC hF => ?_
 refine sK fun K hK => wR 2 ?_; refine aX hTT 2 [] tI ?_; refine nK hK ?_; clear hK K; refine sK fun K hK => wR 3 ?_; refine aX hTT 2 [] tI ?_; refine nK hK ?_; clear hK K
 refine aw_ret ?_
 refine rP (V.fn (Fn.func (161 : Nat)) [] [V.ptr [V.i m]])
set_option maxRecDepth 100000 in
theorem within1_ac (n m : Int) (hm : 0 ≤ m ∧ m ≤ 4611686018427387904) : AC Tryz.prog 161 [.i n, .ptr [.i m]] (.b (!bey n m)) [] := by
 refine acI hTT hMX Tryz.func161 Tryz.ntmps161 fun C hC hF => ?_
 refine sK fun K hK => wR 2 ?_; refine aX hTT 1 [] tI ?_; refine nK hK ?_; clear hK K; refine sK fun K hK => wR 3 ?_; refine aX hTT 2 [] tI ?_
 refine eC (beyond_ac n m hm) ?_
 refine aX hTT 2 [] tI ?_; refine nK hK ?_; clear hK K
 refine aw_ret ?_
 refine rP (V.b !bey n m)
end Go.Proofs.YtepkjobndmmejaaGreatDoor

namespace Go.Proofs.YtepkjobndmmejaaGreatDoor
open Go.Ab Go.RowKit Go.Dw Go.Shelf
theorem step1_hist (c : Cv) (u : Bool) (l : List Int) (k : Nat) (n : Int) (hc : cvOk c) (hn : 0 ≤ n ∧ n ≤ 131072) (ha : AllLe n l) (hf : fine c u l n k) :
  AM Tryz.prog 158 [.i (gi l k), .ptr [.b u], .ref 500 0] [PB 501, St c (hist c u l k).2 (hist c u l k).1 (k % 8)] (.i (outK c u l k)) [some (PB 501), some (St c (hist c u l (k + 1)).2 (hist c u l (k + 1)).1 ((k + 1) % 8))] [] := by
 obtain ⟨b1, b2⟩ := hist_bd hn.1 ha hf
 refine (step1_ac c u (hist c u l k).2 (hist c u l k).1 (k % 8) n (gi l k) hc oM hn b1 b2 (ha.gi hn.1 k)).conv rfl ?_
 rw [show (k + 1) % 8 = (k % 8 + 1) % 8 by omega, hist_x, hist_y]
 cases u <;> rfl
abbrev yyFA50 (c : Cv) : V := V.sl 1 (List.length (Cv.feed c)) fun (k : Nat) => [V.i (gi (Cv.feed c) k)]
abbrev yyFA51 (c : Cv) : V := V.sl 1 (List.length (Cv.back c)) fun (k : Nat) => [V.i (gi (Cv.back c) k)]
set_option maxRecDepth 100000 in
theorem each_ok (c : Cv) (u : Bool) (l : List Int) (mx : Int) (hc : cvOk c) (hl : l.length ≤ 8192) (hm : 0 ≤ mx ∧ mx ≤ 131072) (ha : AllLe mx l) (hf : fine c u l mx l.length) :
  AM Tryz.prog 138 [V.ints l, FStep u 500, FIn mx] [PB 501, St c [] [] 0] (.tup [.own 0, .i 0]) [none, none] [.row 2 1 l.length fun k => [.i (gi (resL c u l) k)]] := by
 refine am_intro hTT hMX (fn := Tryz.f138) (N := _) ⟨Tryz.func138, rfl, Tryz.ntmps138, kR⟩ (by simp) rfl (by simp) (by simp) fun C hF => ?_
 refine sK fun K hK => wR 2 ?_; refine aX hTT 2 [] tI ?_; refine nK hK ?_; clear hK K; refine sK fun K hK => wR 3 ?_; refine aX hTT 4 [(2, .r (PR.mk (some (14 : Nat)) (some ((0 : Int) ≤ (0 : Int) ∧ (0 : Int) ≤ (↑(List.length l) : Int) ∧ (↑(List.length l) : Int) ≤ 1099511627776)) (V.own 200014) [((200014 : Nat), some (Ob.row 2 1 0 fun (x : Nat) => [V.c (Value.int IntKind.i64 0)]))] false))] ⟨⟨oM, oM⟩, tI⟩ ?_; refine nK hK ?_; clear hK K; refine sK fun K hK => ?_; refine sK fun K hK => wR 4 ?_; refine aX hTT 3 [] tI ?_; refine nK hK ?_; clear hK K
 refine aw_block ?_
 refine w_loop (ι := Nat) (fun k => [(1, FStep u 500), (2, FIn mx), (8, .own 8), (15, V.ints l), (16, .i l.length), (17, .i k)])
  (fun k => [(500, PB 501), (501, St c (hist c u l k).2 (hist c u l k).1 (k % 8)), (8, .row 2 1 k fun j => [.i (gi (resL c u l) j)])]) (fun k => k ≤ l.length ∧ fine c u l mx k) (fun k => l.length - k) 0 ⟨Nat.zero_le _, fun j hj => by omega⟩ ?_ ?_
 ·
  refine le_ren (tl := [(1, V.fn (Fn.func (158 : Nat)) [] [V.ptr [V.b u], V.ref 500 0]), (2, V.fn (Fn.func (161 : Nat)) [] [V.ptr [V.i mx]]), (8, V.own 8), (15, V.sl 1 (List.length l) fun (k : Nat) => [V.i (gi l k)]), (16, V.i (↑(List.length l) : Int)), (17, V.i 0)]) (sl := [(500, Ob.box 234 [V.ref 501 0]), (501, Ob.box 239 [V.i (gi (Prod.snd (hist c u l (0 : Nat))) (((0 : Nat) % (8 : Nat) + (7 : Nat)) % 8)), V.i (gi (Prod.snd (hist c u l (0 : Nat))) (((0 : Nat) % (8 : Nat) + (6 : Nat)) % 8)), V.i (gi (Prod.snd (hist c u l (0 : Nat))) (((0 : Nat) % (8 : Nat) + (5 : Nat)) % 8)), V.i (gi (Prod.snd (hist c u l (0 : Nat))) (((0 : Nat) % (8 : Nat) + (4 : Nat)) % 8)), V.i (gi (Prod.snd (hist c u l (0 : Nat))) (((0 : Nat) % (8 : Nat) + (3 : Nat)) % 8)), V.i (gi (Prod.snd (hist c u l (0 : Nat))) (((0 : Nat) % (8 : Nat) + (2 : Nat)) % 8)), V.i (gi (Prod.snd (hist c u l (0 : Nat))) (((0 : Nat) % (8 : Nat) + (1 : Nat)) % 8)), V.i (gi (Prod.snd (hist c u l (0 : Nat))) ((0 : Nat) % (8 : Nat) % (8 : Nat))), V.i 0, V.i (gi (Prod.fst (hist c u l (0 : Nat))) (((0 : Nat) % (8 : Nat) + (7 : Nat)) % 8)), V.i (gi (Prod.fst (hist c u l (0 : Nat))) (((0 : Nat) % (8 : Nat) + (6 : Nat)) % 8)), V.i (gi (Prod.fst (hist c u l (0 : Nat))) (((0 : Nat) % (8 : Nat) + (5 : Nat)) % 8)), V.i (gi (Prod.fst (hist c u l (0 : Nat))) (((0 : Nat) % (8 : Nat) + (4 : Nat)) % 8)), V.i (gi (Prod.fst (hist c u l (0 : Nat))) (((0 : Nat) % (8 : Nat) + (3 : Nat)) % 8)), V.i (gi (Prod.fst (hist c u l (0 : Nat))) (((0 : Nat) % (8 : Nat) + (2 : Nat)) % 8)), V.i (gi (Prod.fst (hist c u l (0 : Nat))) (((0 : Nat) % (8 : Nat) + (1 : Nat)) % 8)), V.i (gi (Prod.fst (hist c u l (0 : Nat))) ((0 : Nat) % (8 : Nat) % (8 : Nat))), V.i 0, (yyFA50 c), (yyFA51 c), V.i (Cv.share c)]), (8, Ob.row 2 1 0 fun (j : Nat) => [V.i (gi (resL c u l) j)])]) [(8, 200014)] (.cons kR (.cons kR (.cons kR (.cons kR (.cons kR (.cons kR .nil)))))) (.cons ⟨Ob.box 234 [V.ref 501 0], kR, .box kR⟩ (.cons ⟨Ob.box 239 [V.i (gi [] (((0 : Nat) + (7 : Nat)) % 8)), V.i (gi [] (((0 : Nat) + (6 : Nat)) % 8)), V.i (gi [] (((0 : Nat) + (5 : Nat)) % 8)), V.i (gi [] (((0 : Nat) + (4 : Nat)) % 8)), V.i (gi [] (((0 : Nat) + (3 : Nat)) % 8)), V.i (gi [] (((0 : Nat) + (2 : Nat)) % 8)), V.i (gi [] (((0 : Nat) + (1 : Nat)) % 8)), V.i (gi [] ((0 : Nat) % (8 : Nat))), V.i 0, V.i (gi [] (((0 : Nat) + (7 : Nat)) % 8)), V.i (gi [] (((0 : Nat) + (6 : Nat)) % 8)), V.i (gi [] (((0 : Nat) + (5 : Nat)) % 8)), V.i (gi [] (((0 : Nat) + (4 : Nat)) % 8)), V.i (gi [] (((0 : Nat) + (3 : Nat)) % 8)), V.i (gi [] (((0 : Nat) + (2 : Nat)) % 8)), V.i (gi [] (((0 : Nat) + (1 : Nat)) % 8)), V.i (gi [] ((0 : Nat) % (8 : Nat))), V.i 0, (yyFA50 c), (yyFA51 c), V.i (Cv.share c)], kR, .box kR⟩ (.cons ⟨Ob.row 2 1 0 fun (x : Nat) => [V.c (Value.int IntKind.i64 0)], kR, .row kR ?_⟩ .nil))) kR kR
  intro i hi
  omega
 rintro k ⟨hk, hfk⟩
 refine sK fun K hK => wR 2 ?_; refine aX hTT 1 [] tI ?_; refine nK hK ?_; clear hK K; refine sK fun K hK => ?_
 refine w_cond (t := decide ((↑k : Int) < (↑(List.length l) : Int))) kR (fun c1 => ?_) (fun c1 => ?_)
 ·
  simp at c1
  refine aw_skip ?_
  refine xt_n (hK _ ?_); clear hK K; refine sK fun K hK => ?_
  refine aw_block ?_
  refine sK fun K hK => wR 3 ?_; refine aX hTT 3 [(0, .c ((0 : Int) ≤ (↑k : Int) ∧ (↑k : Int) < (↑(List.length l) : Int)))] ⟨oM, tI⟩ ?_; refine nK hK ?_; clear hK K; refine sK fun K hK => wR 4 ?_; refine aX hTT 2 [] tI ?_
  refine aops_callM [500, 501] (first := []) (caps := [V.ptr [V.b u], V.ref 500 0]) (ins' := [Ob.box 234 [V.ref 501 0], Ob.box 239 [V.i (gi (Prod.snd (hist c u l k)) ((k % 8 + (7 : Nat)) % 8)), V.i (gi (Prod.snd (hist c u l k)) ((k % 8 + (6 : Nat)) % 8)), V.i (gi (Prod.snd (hist c u l k)) ((k % 8 + (5 : Nat)) % 8)), V.i (gi (Prod.snd (hist c u l k)) ((k % 8 + (4 : Nat)) % 8)), V.i (gi (Prod.snd (hist c u l k)) ((k % 8 + (3 : Nat)) % 8)), V.i (gi (Prod.snd (hist c u l k)) ((k % 8 + (2 : Nat)) % 8)), V.i (gi (Prod.snd (hist c u l k)) ((k % 8 + (1 : Nat)) % 8)), V.i (gi (Prod.snd (hist c u l k)) (k % 8 % (8 : Nat))), V.i (↑(k % 8) : Int), V.i (gi (Prod.fst (hist c u l k)) ((k % 8 + (7 : Nat)) % 8)), V.i (gi (Prod.fst (hist c u l k)) ((k % 8 + (6 : Nat)) % 8)), V.i (gi (Prod.fst (hist c u l k)) ((k % 8 + (5 : Nat)) % 8)), V.i (gi (Prod.fst (hist c u l k)) ((k % 8 + (4 : Nat)) % 8)), V.i (gi (Prod.fst (hist c u l k)) ((k % 8 + (3 : Nat)) % 8)), V.i (gi (Prod.fst (hist c u l k)) ((k % 8 + (2 : Nat)) % 8)), V.i (gi (Prod.fst (hist c u l k)) ((k % 8 + (1 : Nat)) % 8)), V.i (gi (Prod.fst (hist c u l k)) (k % 8 % (8 : Nat))), V.i (↑(k % 8) : Int), (yyFA50 c), (yyFA51 c), V.i (Cv.share c)]]) (v' := V.i (outK c u l k)) (δ := [(500, Option.some (Ob.box 234 [V.ref 501 0])), (501, Option.some (Ob.box 239 [V.i (gi (Prod.snd (hist c u l (k + 1))) (((k + 1) % 8 + (7 : Nat)) % 8)), V.i (gi (Prod.snd (hist c u l (k + 1))) (((k + 1) % 8 + (6 : Nat)) % 8)), V.i (gi (Prod.snd (hist c u l (k + 1))) (((k + 1) % 8 + (5 : Nat)) % 8)), V.i (gi (Prod.snd (hist c u l (k + 1))) (((k + 1) % 8 + (4 : Nat)) % 8)), V.i (gi (Prod.snd (hist c u l (k + 1))) (((k + 1) % 8 + (3 : Nat)) % 8)), V.i (gi (Prod.snd (hist c u l (k + 1))) (((k + 1) % 8 + (2 : Nat)) % 8)), V.i (gi (Prod.snd (hist c u l (k + 1))) (((k + 1) % 8 + (1 : Nat)) % 8)), V.i (gi (Prod.snd (hist c u l (k + 1))) ((k + 1) % 8 % (8 : Nat))), V.i (↑((k + 1) % 8) : Int), V.i (gi (Prod.fst (hist c u l (k + 1))) (((k + 1) % 8 + (7 : Nat)) % 8)), V.i (gi (Prod.fst (hist c u l (k + 1))) (((k + 1) % 8 + (6 : Nat)) % 8)), V.i (gi (Prod.fst (hist c u l (k + 1))) (((k + 1) % 8 + (5 : Nat)) % 8)), V.i (gi (Prod.fst (hist c u l (k + 1))) (((k + 1) % 8 + (4 : Nat)) % 8)), V.i (gi (Prod.fst (hist c u l (k + 1))) (((k + 1) % 8 + (3 : Nat)) % 8)), V.i (gi (Prod.fst (hist c u l (k + 1))) (((k + 1) % 8 + (2 : Nat)) % 8)), V.i (gi (Prod.fst (hist c u l (k + 1))) (((k + 1) % 8 + (1 : Nat)) % 8)), V.i (gi (Prod.fst (hist c u l (k + 1))) ((k + 1) % 8 % (8 : Nat))), V.i (↑((k + 1) % 8) : Int), (yyFA50 c), (yyFA51 c), V.i (Cv.share c)]))]) (kp := [500, 501]) (step1_hist c u l k mx hc hm ha hfk) kR kR kR kR kR kR rfl rfl kR (.box kR kR (.box kR kR .nil)) kR kR kR ?_
  refine aX hTT 1 [] tI ?_; refine nK hK ?_; clear hK K; refine sK fun K hK => ?_; refine sK fun K hK => wR 5 ?_; refine aX hTT 2 [] tI ?_
  refine e_call (first := []) (caps := [V.ptr [V.i mx]]) (within1_ac (outK c u l k) mx oM) kR kR kR kR kR ?_
  refine aX hTT 1 [] tI ?_; refine nK hK ?_; clear hK K
  refine w_cond (t := !!bey (outK c u l k) mx) kR (fun c2 => ?_) (fun c2 => ?_)
  ·
   simp at c2
   rw [hf k c1] at c2
   cases c2
  simp at c2
  refine aw_skip ?_
  refine xt_n (hK _ ?_); clear hK K; refine wR 6 ?_; refine aX hTT 5 [(3, .r (PR.mk (some (31 : Nat)) (some (k + 1 ≤ (1099511627776 : Nat))) (V.own 500031) [((8 : Nat), none), ((500031 : Nat), some (Ob.row 2 1 (k + 1) (appRow k (fun (j : Nat) => [V.i (gi (resL c u l) j)]) fun (i : Nat) => List.take (1 : Nat) (List.drop (i * 1) [V.i (outK c u l k)]))))] false))] ⟨oM, tI⟩ ?_; refine aops_nil ?_; refine xb_n ?_; refine xt_n (hK _ ?_); clear hK K; refine wR 7 ?_; refine aX hTT 2 [(0, .i ((↑k : Int) + 1))] ⟨oM, tI⟩ ?_; refine aops_nil ?_; refine xt_n ?_
  refine ⟨k + 1, ⟨by omega, fun i hi => ?_⟩, ?_, by omega⟩
  ·
   by_cases h : i < k
   ·
    exact hfk i h
   ·
    obtain rfl : i = k := by omega
    exact c2
  refine le_ren (tl := [(1, V.fn (Fn.func (158 : Nat)) [] [V.ptr [V.b u], V.ref 500 0]), (2, V.fn (Fn.func (161 : Nat)) [] [V.ptr [V.i mx]]), (8, V.own 8), (15, V.sl 1 (List.length l) fun (k : Nat) => [V.i (gi l k)]), (16, V.i (↑(List.length l) : Int)), (17, V.i (↑(k + 1) : Int))]) (sl := [(500, Ob.box 234 [V.ref 501 0]), (501, Ob.box 239 [V.i (gi (Prod.snd (hist c u l (k + 1))) (((k + 1) % 8 + (7 : Nat)) % 8)), V.i (gi (Prod.snd (hist c u l (k + 1))) (((k + 1) % 8 + (6 : Nat)) % 8)), V.i (gi (Prod.snd (hist c u l (k + 1))) (((k + 1) % 8 + (5 : Nat)) % 8)), V.i (gi (Prod.snd (hist c u l (k + 1))) (((k + 1) % 8 + (4 : Nat)) % 8)), V.i (gi (Prod.snd (hist c u l (k + 1))) (((k + 1) % 8 + (3 : Nat)) % 8)), V.i (gi (Prod.snd (hist c u l (k + 1))) (((k + 1) % 8 + (2 : Nat)) % 8)), V.i (gi (Prod.snd (hist c u l (k + 1))) (((k + 1) % 8 + (1 : Nat)) % 8)), V.i (gi (Prod.snd (hist c u l (k + 1))) ((k + 1) % 8 % (8 : Nat))), V.i (↑((k + 1) % 8) : Int), V.i (gi (Prod.fst (hist c u l (k + 1))) (((k + 1) % 8 + (7 : Nat)) % 8)), V.i (gi (Prod.fst (hist c u l (k + 1))) (((k + 1) % 8 + (6 : Nat)) % 8)), V.i (gi (Prod.fst (hist c u l (k + 1))) (((k + 1) % 8 + (5 : Nat)) % 8)), V.i (gi (Prod.fst (hist c u l (k + 1))) (((k + 1) % 8 + (4 : Nat)) % 8)), V.i (gi (Prod.fst (hist c u l (k + 1))) (((k + 1) % 8 + (3 : Nat)) % 8)), V.i (gi (Prod.fst (hist c u l (k + 1))) (((k + 1) % 8 + (2 : Nat)) % 8)), V.i (gi (Prod.fst (hist c u l (k + 1))) (((k + 1) % 8 + (1 : Nat)) % 8)), V.i (gi (Prod.fst (hist c u l (k + 1))) ((k + 1) % 8 % (8 : Nat))), V.i (↑((k + 1) % 8) : Int), (yyFA50 c), (yyFA51 c), V.i (Cv.share c)]), (8, Ob.row 2 1 (k + 1) fun (j : Nat) => [V.i (gi (resL c u l) j)])]) [(8, 500031)] (.cons kR (.cons kR (.cons kR (.cons kR (.cons kR (.cons kR .nil)))))) (.cons ⟨Ob.box 234 [V.ref 501 0], kR, .box kR⟩ (.cons ⟨Ob.box 239 [V.i (gi (Prod.snd (hist c u l (k + 1))) (((k + 1) % 8 + (7 : Nat)) % 8)), V.i (gi (Prod.snd (hist c u l (k + 1))) (((k + 1) % 8 + (6 : Nat)) % 8)), V.i (gi (Prod.snd (hist c u l (k + 1))) (((k + 1) % 8 + (5 : Nat)) % 8)), V.i (gi (Prod.snd (hist c u l (k + 1))) (((k + 1) % 8 + (4 : Nat)) % 8)), V.i (gi (Prod.snd (hist c u l (k + 1))) (((k + 1) % 8 + (3 : Nat)) % 8)), V.i (gi (Prod.snd (hist c u l (k + 1))) (((k + 1) % 8 + (2 : Nat)) % 8)), V.i (gi (Prod.snd (hist c u l (k + 1))) (((k + 1) % 8 + (1 : Nat)) % 8)), V.i (gi (Prod.snd (hist c u l (k + 1))) ((k + 1) % 8 % (8 : Nat))), V.i (↑((k + 1) % 8) : Int), V.i (gi (Prod.fst (hist c u l (k + 1))) (((k + 1) % 8 + (7 : Nat)) % 8)), V.i (gi (Prod.fst (hist c u l (k + 1))) (((k + 1) % 8 + (6 : Nat)) % 8)), V.i (gi (Prod.fst (hist c u l (k + 1))) (((k + 1) % 8 + (5 : Nat)) % 8)), V.i (gi (Prod.fst (hist c u l (k + 1))) (((k + 1) % 8 + (4 : Nat)) % 8)), V.i (gi (Prod.fst (hist c u l (k + 1))) (((k + 1) % 8 + (3 : Nat)) % 8)), V.i (gi (Prod.fst (hist c u l (k + 1))) (((k + 1) % 8 + (2 : Nat)) % 8)), V.i (gi (Prod.fst (hist c u l (k + 1))) (((k + 1) % 8 + (1 : Nat)) % 8)), V.i (gi (Prod.fst (hist c u l (k + 1))) ((k + 1) % 8 % (8 : Nat))), V.i (↑((k + 1) % 8) : Int), (yyFA50 c), (yyFA51 c), V.i (Cv.share c)], kR, .box kR⟩ (.cons ⟨Ob.row 2 1 (k + 1) (appRow k (fun (j : Nat) => [V.i (gi (resL c u l) j)]) fun (i : Nat) => List.take (1 : Nat) (List.drop (i * 1) [V.i (outK c u l k)])), kR, .row kR ?_⟩ .nil))) kR kR
  intro i hi
  by_cases h : i < k
  ·
   rw [appRow, if_pos h]
   rfl
  ·
   obtain rfl : i = k := by omega
   rw [appRow, if_neg h, Nat.sub_self]
   show _ = [V.i (gi (resL c u l) i)]
   rw [resL_gi c1]
   rfl
 ·
  simp at c1
  obtain rfl : k = l.length := by omega
  refine aw_exit ?_
  refine xt_x ?_; refine xt_x ?_
  refine xb_same ?_
  refine xt_n ?_; clear hK K; refine hK _ ?_; clear hK K; refine sK fun K hK => wR 3 ?_; refine aX hTT 3 [] tI ?_; refine nK hK ?_; clear hK K
  refine aw_ret ?_
  refine retM (v' := V.tup [V.own 0, V.i 0]) [(0, 8)] [(6, V.own 0), (7, V.i 0)] (.inr rfl) (.cons kR (.cons kR .nil)) (.cons ⟨Ob.row 2 1 (List.length l) fun (j : Nat) => [V.i (gi (resL c u l) j)], kR, .row kR (fun _ _ => rfl)⟩ .nil) kR kR kR kR kR kR kR
set_option maxRecDepth 100000 in
theorem each_no (c : Cv) (u : Bool) (l : List Int) (mx : Int) (hc : cvOk c) (hl : l.length ≤ 8192) (hm : 0 ≤ mx ∧ mx ≤ 131072) (ha : AllLe mx l) {j : Nat} (hj : j < l.length) (hb : bey (outK c u l j) mx = true) :
  AM Tryz.prog 138 [V.ints l, FStep u 500, FIn mx] [PB 501, St c [] [] 0] (.tup [.nil, .i 4]) [none, none] [] := by
 refine am_intro hTT hMX (fn := Tryz.f138) (N := _) ⟨Tryz.func138, rfl, Tryz.ntmps138, kR⟩ (by simp) rfl (by simp) (by simp) fun C hF => ?_
 refine sK fun K hK => wR 2 ?_; refine aX hTT 2 [] tI ?_; refine nK hK ?_; clear hK K; refine sK fun K hK => wR 3 ?_; refine aX hTT 4 [(2, .r (PR.mk (some (14 : Nat)) (some ((0 : Int) ≤ (0 : Int) ∧ (0 : Int) ≤ (↑(List.length l) : Int) ∧ (↑(List.length l) : Int) ≤ 1099511627776)) (V.own 200014) [((200014 : Nat), some (Ob.row 2 1 0 fun (x : Nat) => [V.c (Value.int IntKind.i64 0)]))] false))] ⟨⟨oM, oM⟩, tI⟩ ?_; refine nK hK ?_; clear hK K; refine sK fun K hK => ?_; refine sK fun K hK => wR 4 ?_; refine aX hTT 3 [] tI ?_; refine nK hK ?_; clear hK K
 refine aw_block ?_
 refine w_loop (ι := Nat) (fun k => [(1, FStep u 500), (2, FIn mx), (8, .own 8), (15, V.ints l), (16, .i l.length), (17, .i k)])
  (fun k => [(500, PB 501), (501, St c (hist c u l k).2 (hist c u l k).1 (k % 8)), (8, .row 2 1 k fun j => [.i (gi (resL c u l) j)])]) (fun k => k ≤ l.length ∧ fine c u l mx k) (fun k => l.length - k) 0 ⟨Nat.zero_le _, fun j hj => by omega⟩ ?_ ?_
 ·
  refine le_ren (tl := [(1, V.fn (Fn.func (158 : Nat)) [] [V.ptr [V.b u], V.ref 500 0]), (2, V.fn (Fn.func (161 : Nat)) [] [V.ptr [V.i mx]]), (8, V.own 8), (15, V.sl 1 (List.length l) fun (k : Nat) => [V.i (gi l k)]), (16, V.i (↑(List.length l) : Int)), (17, V.i 0)]) (sl := [(500, Ob.box 234 [V.ref 501 0]), (501, Ob.box 239 [V.i (gi (Prod.snd (hist c u l (0 : Nat))) (((0 : Nat) % (8 : Nat) + (7 : Nat)) % 8)), V.i (gi (Prod.snd (hist c u l (0 : Nat))) (((0 : Nat) % (8 : Nat) + (6 : Nat)) % 8)), V.i (gi (Prod.snd (hist c u l (0 : Nat))) (((0 : Nat) % (8 : Nat) + (5 : Nat)) % 8)), V.i (gi (Prod.snd (hist c u l (0 : Nat))) (((0 : Nat) % (8 : Nat) + (4 : Nat)) % 8)), V.i (gi (Prod.snd (hist c u l (0 : Nat))) (((0 : Nat) % (8 : Nat) + (3 : Nat)) % 8)), V.i (gi (Prod.snd (hist c u l (0 : Nat))) (((0 : Nat) % (8 : Nat) + (2 : Nat)) % 8)), V.i (gi (Prod.snd (hist c u l (0 : Nat))) (((0 : Nat) % (8 : Nat) + (1 : Nat)) % 8)), V.i (gi (Prod.snd (hist c u l (0 : Nat))) ((0 : Nat) % (8 : Nat) % (8 : Nat))), V.i 0, V.i (gi (Prod.fst (hist c u l (0 : Nat))) (((0 : Nat) % (8 : Nat) + (7 : Nat)) % 8)), V.i (gi (Prod.fst (hist c u l (0 : Nat))) (((0 : Nat) % (8 : Nat) + (6 : Nat)) % 8)), V.i (gi (Prod.fst (hist c u l (0 : Nat))) (((0 : Nat) % (8 : Nat) + (5 : Nat)) % 8)), V.i (gi (Prod.fst (hist c u l (0 : Nat))) (((0 : Nat) % (8 : Nat) + (4 : Nat)) % 8)), V.i (gi (Prod.fst (hist c u l (0 : Nat))) (((0 : Nat) % (8 : Nat) + (3 : Nat)) % 8)), V.i (gi (Prod.fst (hist c u l (0 : Nat))) (((0 : Nat) % (8 : Nat) + (2 : Nat)) % 8)), V.i (gi (Prod.fst (hist c u l (0 : Nat))) (((0 : Nat) % (8 : Nat) + (1 : Nat)) % 8)), V.i (gi (Prod.fst (hist c u l (0 : Nat))) ((0 : Nat) % (8 : Nat) % (8 : Nat))), V.i 0, (yyFA50 c), (yyFA51 c), V.i (Cv.share c)]), (8, Ob.row 2 1 0 fun (j : Nat) => [V.i (gi (resL c u l) j)])]) [(8, 200014)] (.cons kR (.cons kR (.cons kR (.cons kR (.cons kR (.cons kR .nil)))))) (.cons ⟨Ob.box 234 [V.ref 501 0], kR, .box kR⟩ (.cons ⟨Ob.box 239 [V.i (gi [] (((0 : Nat) + (7 : Nat)) % 8)), V.i (gi [] (((0 : Nat) + (6 : Nat)) % 8)), V.i (gi [] (((0 : Nat) + (5 : Nat)) % 8)), V.i (gi [] (((0 : Nat) + (4 : Nat)) % 8)), V.i (gi [] (((0 : Nat) + (3 : Nat)) % 8)), V.i (gi [] (((0 : Nat) + (2 : Nat)) % 8)), V.i (gi [] (((0 : Nat) + (1 : Nat)) % 8)), V.i (gi [] ((0 : Nat) % (8 : Nat))), V.i 0, V.i (gi [] (((0 : Nat) + (7 : Nat)) % 8)), V.i (gi [] (((0 : Nat) + (6 : Nat)) % 8)), V.i (gi [] (((0 : Nat) + (5 : Nat)) % 8)), V.i (gi [] (((0 : Nat) + (4 : Nat)) % 8)), V.i (gi [] (((0 : Nat) + (3 : Nat)) % 8)), V.i (gi [] (((0 : Nat) + (2 : Nat)) % 8)), V.i (gi [] (((0 : Nat) + (1 : Nat)) % 8)), V.i (gi [] ((0 : Nat) % (8 : Nat))), V.i 0, (yyFA50 c), (yyFA51 c), V.i (Cv.share c)], kR, .box kR⟩ (.cons ⟨Ob.row 2 1 0 fun (x : Nat) => [V.c (Value.int IntKind.i64 0)], kR, .row kR ?_⟩ .nil))) kR kR
  intro i hi
  omega
 rintro k ⟨hk, hfk⟩
 refine sK fun K hK => wR 2 ?_; refine aX hTT 1 [] tI ?_; refine nK hK ?_; clear hK K; refine sK fun K hK => ?_
 refine w_cond (t := decide ((↑k : Int) < (↑(List.length l) : Int))) kR (fun c1 => ?_) (fun c1 => ?_)
 ·
  simp at c1
  refine aw_skip ?_
  refine xt_n (hK _ ?_); clear hK K; refine sK fun K hK => ?_
  refine aw_block ?_
  refine sK fun K hK => wR 3 ?_; refine aX hTT 3 [(0, .c ((0 : Int) ≤ (↑k : Int) ∧ (↑k : Int) < (↑(List.length l) : Int)))] ⟨oM, tI⟩ ?_; refine nK hK ?_; clear hK K; refine sK fun K hK => wR 4 ?_; refine aX hTT 2 [] tI ?_
  refine aops_callM [500, 501] (first := []) (caps := [V.ptr [V.b u], V.ref 500 0]) (ins' := [Ob.box 234 [V.ref 501 0], Ob.box 239 [V.i (gi (Prod.snd (hist c u l k)) ((k % 8 + (7 : Nat)) % 8)), V.i (gi (Prod.snd (hist c u l k)) ((k % 8 + (6 : Nat)) % 8)), V.i (gi (Prod.snd (hist c u l k)) ((k % 8 + (5 : Nat)) % 8)), V.i (gi (Prod.snd (hist c u l k)) ((k % 8 + (4 : Nat)) % 8)), V.i (gi (Prod.snd (hist c u l k)) ((k % 8 + (3 : Nat)) % 8)), V.i (gi (Prod.snd (hist c u l k)) ((k % 8 + (2 : Nat)) % 8)), V.i (gi (Prod.snd (hist c u l k)) ((k % 8 + (1 : Nat)) % 8)), V.i (gi (Prod.snd (hist c u l k)) (k % 8 % (8 : Nat))), V.i (↑(k % 8) : Int), V.i (gi (Prod.fst (hist c u l k)) ((k % 8 + (7 : Nat)) % 8)), V.i (gi (Prod.fst (hist c u l k)) ((k % 8 + (6 : Nat)) % 8)), V.i (gi (Prod.fst (hist c u l k)) ((k % 8 + (5 : Nat)) % 8)), V.i (gi (Prod.fst (hist c u l k)) ((k % 8 + (4 : Nat)) % 8)), V.i (gi (Prod.fst (hist c u l k)) ((k % 8 + (3 : Nat)) % 8)), V.i (gi (Prod.fst (hist c u l k)) ((k % 8 + (2 : Nat)) % 8)), V.i (gi (Prod.fst (hist c u l k)) ((k % 8 + (1 : Nat)) % 8)), V.i (gi (Prod.fst (hist c u l k)) (k % 8 % (8 : Nat))), V.i (↑(k % 8) : Int), (yyFA50 c), (yyFA51 c), V.i (Cv.share c)]]) (v' := V.i (outK c u l k)) (δ := [(500, Option.some (Ob.box 234 [V.ref 501 0])), (501, Option.some (Ob.box 239 [V.i (gi (Prod.snd (hist c u l (k + 1))) (((k + 1) % 8 + (7 : Nat)) % 8)), V.i (gi (Prod.snd (hist c u l (k + 1))) (((k + 1) % 8 + (6 : Nat)) % 8)), V.i (gi (Prod.snd (hist c u l (k + 1))) (((k + 1) % 8 + (5 : Nat)) % 8)), V.i (gi (Prod.snd (hist c u l (k + 1))) (((k + 1) % 8 + (4 : Nat)) % 8)), V.i (gi (Prod.snd (hist c u l (k + 1))) (((k + 1) % 8 + (3 : Nat)) % 8)), V.i (gi (Prod.snd (hist c u l (k + 1))) (((k + 1) % 8 + (2 : Nat)) % 8)), V.i (gi (Prod.snd (hist c u l (k + 1))) (((k + 1) % 8 + (1 : Nat)) % 8)), V.i (gi (Prod.snd (hist c u l (k + 1))) ((k + 1) % 8 % (8 : Nat))), V.i (↑((k + 1) % 8) : Int), V.i (gi (Prod.fst (hist c u l (k + 1))) (((k + 1) % 8 + (7 : Nat)) % 8)), V.i (gi (Prod.fst (hist c u l (k + 1))) (((k + 1) % 8 + (6 : Nat)) % 8)), V.i (gi (Prod.fst (hist c u l (k + 1))) (((k + 1) % 8 + (5 : Nat)) % 8)), V.i (gi (Prod.fst (hist c u l (k + 1))) (((k + 1) % 8 + (4 : Nat)) % 8)), V.i (gi (Prod.fst (hist c u l (k + 1))) (((k + 1) % 8 + (3 : Nat)) % 8)), V.i (gi (Prod.fst (hist c u l (k + 1))) (((k + 1) % 8 + (2 : Nat)) % 8)), V.i (gi (Prod.fst (hist c u l (k + 1))) (((k + 1) % 8 + (1 : Nat)) % 8)), V.i (gi (Prod.fst (hist c u l (k + 1))) ((k + 1) % 8 % (8 : Nat))), V.i (↑((k + 1) % 8) : Int), (yyFA50 c), (yyFA51 c), V.i (Cv.share c)]))]) (kp := [500, 501]) (step1_hist c u l k mx hc hm ha hfk) kR kR kR kR kR kR rfl rfl kR (.box kR kR (.box kR kR .nil)) kR kR kR ?_
  refine aX hTT 1 [] tI ?_; refine nK hK ?_; clear hK K; refine sK fun K hK => ?_; refine sK fun K hK => wR 5 ?_; refine aX hTT 2 [] tI ?_
  refine e_call (first := []) (caps := [V.ptr [V.i mx]]) (within1_ac (outK c u l k) mx oM) kR kR kR kR kR ?_
  refine aX hTT 1 [] tI ?_; refine nK hK ?_; clear hK K
  refine w_cond (t := !!bey (outK c u l k) mx) kR (fun c2 => ?_) (fun c2 => ?_)
  ·
   simp at c2
   refine sK fun K hK => wR 6 ?_; refine aX hTT 2 [] tI ?_; refine nK hK ?_; clear hK K
   refine aw_ret ?_
   refine xt_r ?_
   refine xb_r ?_
   refine xt_r ?_; refine xt_r ?_
   refine xb_r ?_
   refine xt_r ?_
   refine retM (v' := V.tup [V.nil, V.i 4]) [] [(6, V.nil), (7, V.i 4)] (.inr rfl) (.cons kR (.cons kR .nil)) .nil kR kR kR kR kR kR kR
  simp at c2
  refine aw_skip ?_
  refine xt_n (hK _ ?_); clear hK K; refine wR 6 ?_; refine aX hTT 5 [(3, .r (PR.mk (some (31 : Nat)) (some (k + 1 ≤ (1099511627776 : Nat))) (V.own 500031) [((8 : Nat), none), ((500031 : Nat), some (Ob.row 2 1 (k + 1) (appRow k (fun (j : Nat) => [V.i (gi (resL c u l) j)]) fun (i : Nat) => List.take (1 : Nat) (List.drop (i * 1) [V.i (outK c u l k)]))))] false))] ⟨oM, tI⟩ ?_; refine aops_nil ?_; refine xb_n ?_; refine xt_n (hK _ ?_); clear hK K; refine wR 7 ?_; refine aX hTT 2 [(0, .i ((↑k : Int) + 1))] ⟨oM, tI⟩ ?_; refine aops_nil ?_; refine xt_n ?_
  refine ⟨k + 1, ⟨by omega, fun i hi => ?_⟩, ?_, by omega⟩
  ·
   by_cases h : i < k
   ·
    exact hfk i h
   ·
    obtain rfl : i = k := by omega
    exact c2
  refine le_ren (tl := [(1, V.fn (Fn.func (158 : Nat)) [] [V.ptr [V.b u], V.ref 500 0]), (2, V.fn (Fn.func (161 : Nat)) [] [V.ptr [V.i mx]]), (8, V.own 8), (15, V.sl 1 (List.length l) fun (k : Nat) => [V.i (gi l k)]), (16, V.i (↑(List.length l) : Int)), (17, V.i (↑(k + 1) : Int))]) (sl := [(500, Ob.box 234 [V.ref 501 0]), (501, Ob.box 239 [V.i (gi (Prod.snd (hist c u l (k + 1))) (((k + 1) % 8 + (7 : Nat)) % 8)), V.i (gi (Prod.snd (hist c u l (k + 1))) (((k + 1) % 8 + (6 : Nat)) % 8)), V.i (gi (Prod.snd (hist c u l (k + 1))) (((k + 1) % 8 + (5 : Nat)) % 8)), V.i (gi (Prod.snd (hist c u l (k + 1))) (((k + 1) % 8 + (4 : Nat)) % 8)), V.i (gi (Prod.snd (hist c u l (k + 1))) (((k + 1) % 8 + (3 : Nat)) % 8)), V.i (gi (Prod.snd (hist c u l (k + 1))) (((k + 1) % 8 + (2 : Nat)) % 8)), V.i (gi (Prod.snd (hist c u l (k + 1))) (((k + 1) % 8 + (1 : Nat)) % 8)), V.i (gi (Prod.snd (hist c u l (k + 1))) ((k + 1) % 8 % (8 : Nat))), V.i (↑((k + 1) % 8) : Int), V.i (gi (Prod.fst (hist c u l (k + 1))) (((k + 1) % 8 + (7 : Nat)) % 8)), V.i (gi (Prod.fst (hist c u l (k + 1))) (((k + 1) % 8 + (6 : Nat)) % 8)), V.i (gi (Prod.fst (hist c u l (k + 1))) (((k + 1) % 8 + (5 : Nat)) % 8)), V.i (gi (Prod.fst (hist c u l (k + 1))) (((k + 1) % 8 + (4 : Nat)) % 8)), V.i (gi (Prod.fst (hist c u l (k + 1))) (((k + 1) % 8 + (3 : Nat)) % 8)), V.i (gi (Prod.fst (hist c u l (k + 1))) (((k + 1) % 8 + (2 : Nat)) % 8)), V.i (gi (Prod.fst (hist c u l (k + 1))) (((k + 1) % 8 + (1 : Nat)) % 8)), V.i (gi (Prod.fst (hist c u l (k + 1))) ((k + 1) % 8 % (8 : Nat))), V.i (↑((k + 1) % 8) : Int), (yyFA50 c), (yyFA51 c), V.i (Cv.share c)]), (8, Ob.row 2 1 (k + 1) fun (j : Nat) => [V.i (gi (resL c u l) j)])]) [(8, 500031)] (.cons kR (.cons kR (.cons kR (.cons kR (.cons kR (.cons kR .nil)))))) (.cons ⟨Ob.box 234 [V.ref 501 0], kR, .box kR⟩ (.cons ⟨Ob.box 239 [V.i (gi (Prod.snd (hist c u l (k + 1))) (((k + 1) % 8 + (7 : Nat)) % 8)), V.i (gi (Prod.snd (hist c u l (k + 1))) (((k + 1) % 8 + (6 : Nat)) % 8)), V.i (gi (Prod.snd (hist c u l (k + 1))) (((k + 1) % 8 + (5 : Nat)) % 8)), V.i (gi (Prod.snd (hist c u l (k + 1))) (((k + 1) % 8 + (4 : Nat)) % 8)), V.i (gi (Prod.snd (hist c u l (k + 1))) (((k + 1) % 8 + (3 : Nat)) % 8)), V.i (gi (Prod.snd (hist c u l (k + 1))) (((k + 1) % 8 + (2 : Nat)) % 8)), V.i (gi (Prod.snd (hist c u l (k + 1))) (((k + 1) % 8 + (1 : Nat)) % 8)), V.i (gi (Prod.snd (hist c u l (k + 1))) ((k + 1) % 8 % (8 : Nat))), V.i (↑((k + 1) % 8) : Int), V.i (gi (Prod.fst (hist c u l (k + 1))) (((k + 1) % 8 + (7 : Nat)) % 8)), V.i (gi (Prod.fst (hist c u l (k + 1))) (((k + 1) % 8 + (6 : Nat)) % 8)), V.i (gi (Prod.fst (hist c u l (k + 1))) (((k + 1) % 8 + (5 : Nat)) % 8)), V.i (gi (Prod.fst (hist c u l (k + 1))) (((k + 1) % 8 + (4 : Nat)) % 8)), V.i (gi (Prod.fst (hist c u l (k + 1))) (((k + 1) % 8 + (3 : Nat)) % 8)), V.i (gi (Prod.fst (hist c u l (k + 1))) (((k + 1) % 8 + (2 : Nat)) % 8)), V.i (gi (Prod.fst (hist c u l (k + 1))) (((k + 1) % 8 + (1 : Nat)) % 8)), V.i (gi (Prod.fst (hist c u l (k + 1))) ((k + 1) % 8 % (8 : Nat))), V.i (↑((k + 1) % 8) : Int), (yyFA50 c), (yyFA51 c), V.i (Cv.share c)], kR, .box kR⟩ (.cons ⟨Ob.row 2 1 (k + 1) (appRow k (fun (j : Nat) => [V.i (gi (resL c u l) j)]) fun (i : Nat) => List.take (1 : Nat) (List.drop (i * 1) [V.i (outK c u l k)])), kR, .row kR ?_⟩ .nil))) kR kR
  intro i hi
  by_cases h : i < k
  ·
   rw [appRow, if_pos h]
   rfl
  ·
   obtain rfl : i = k := by omega
   rw [appRow, if_neg h, Nat.sub_self]
   show _ = [V.i (gi (resL c u l) i)]
   rw [resL_gi c1]
   rfl
 ·
  simp at c1
  obtain rfl : k = l.length := by omega
  rw [hfk j hj] at hb
  cases hb
theorem AC.emp {P : Program} {f : FuncId} {v : V} {obs : List Ob} {sz : Nat} {row : Nat → List V} (h : ∀ A c, AC P f [.c (.slice A 0 c)] v obs) : AC P f [.sl sz 0 row] v obs := by
 refine ⟨(h none 0).1, fun L w vs hL hgl hv => ?_⟩
 obtain ⟨vs⟩ := vs
 obtain ⟨x, e, hr⟩ := hv.get (i := 0) rfl
 obtain ⟨A, c, rfl, _⟩ := hr.sl_inv
 refine (h A c).2 L w _ hL hgl ?_
 have hn := hv.1
 match vs, hn, e with
 | [y], _, e =>
  simp at e; subst e
  exact .cons (.c _ _) .nil
theorem emp_ints {w : World} {L : Nat → Prop} {ρ : Nat → Option Value} {A : Option Addr} {c : Nat} {x : Value} (h : R w L ρ (.c (.slice A 0 c)) x) : R w L ρ (V.ints []) x := by
 rw [h.c_inv]
 exact .sl0 _ _ _ _ _
set_option maxRecDepth 100000 in
theorem Clone_pos (l : List Int) (hl : l.length ≤ 8192) (h0 : 0 < l.length) : AC Tryz.prog 137 [V.ints l] (V.ints l) [] := by
 refine acI hTT hMX Tryz.func137 Tryz.ntmps137 fun C hC hF => ?_
 refine sK fun K hK => wR 2 ?_
 refine aops_x (M := [5]) hTT 1 [] tI ?_
 refine nK hK ?_; clear hK K; refine sK fun K hK => ?_; refine sK fun K hK => wR 3 ?_
 refine aops_x (M := [5]) hTT 2 [(1, .c ((0 : Nat) < List.length l))] ⟨oM, tI⟩ ?_
 refine nK hK ?_; clear hK K; refine w_false (t := false) kR rfl ?_
 refine aw_skip ?_
 refine xt_n (hK _ ?_); clear hK K; refine sK fun K hK => wR 4 ?_
 refine aops_x (M := [5]) hTT 4 [(0, .r (pn 5 (V.own 300005) (300005 : Nat) (Ob.row 2 1 0 fun (i : Nat) => List.take (1 : Nat) (List.drop (i * 1) (repV (0 : Nat) [V.c (Value.int IntKind.i64 0)]))))), (2, .r (PR.mk (some (7 : Nat)) (some ((0 : Nat) + List.length l ≤ 1099511627776)) (V.own 300007) [((300005 : Nat), none), ((300007 : Nat), some (Ob.row 2 1 ((0 : Nat) + List.length l) (appRow (0 : Nat) (fun (i : Nat) => List.take (1 : Nat) (List.drop (i * 1) (repV (0 : Nat) [V.c (Value.int IntKind.i64 0)]))) fun (k : Nat) => [V.i (gi l k)])))] false))] ⟨oM, tI⟩ ?_
 refine nK hK ?_; clear hK K
 refine aw_ret ?_
 refine ret_of_le (le_shut 2 300007 (e := (2 : Nat)) (sz := (1 : Nat)) (n := (0 : Nat) + List.length l) (n' := l.length) (row := appRow (0 : Nat) (fun (i : Nat) => List.take (1 : Nat) (List.drop (i * 1) (repV (0 : Nat) [V.c (Value.int IntKind.i64 0)]))) fun (k : Nat) => [V.i (gi l k)]) (row' := (fun k => [.i (gi l k)])) kR kR (fun _ _ => rfl) ?_ ?_) ?_
 ·
  omega
 ·
  intro i hi
  rw [appRow, if_neg oM, Nat.sub_zero]
 refine rP (V.sl 1 (List.length l) fun (k : Nat) => [V.i (gi l k)])
theorem Clone_nil (c : Nat) : AC Tryz.prog 137 [.c (.slice none 0 c)] (V.ints []) [] := by
 refine acI hTT hMX Tryz.func137 Tryz.ntmps137 fun C hC hF => ?_
 refine sK fun K hK => wR 2 ?_; refine aX hTT 1 [] tI ?_; refine nK hK ?_; clear hK K; refine sK fun K hK => ?_; refine sK fun K hK => wR 3 ?_; refine aX hTT 2 [] tI ?_; refine nK hK ?_; clear hK K; refine w_true (t := true) kR rfl ?_; refine sK fun K hK => wR 4 ?_; refine aX hTT 1 [] tI ?_; refine nK hK ?_; clear hK K
 refine aw_ret ?_
 refine xt_r ?_
 refine ret_of_le (le_nil 2 (sz := 1) 0 (fun k => [.i (gi [] k)]) kR ?_) ?_
 ·
  rfl
 refine rP (V.sl 1 0 fun (k : Nat) => [V.i (gi [] k)])
set_option maxRecDepth 100000 in
theorem Clone_emp (a : Addr) (c : Nat) : AC Tryz.prog 137 [.c (.slice (some a) 0 c)] (V.ints []) [] := by
 refine acI hTT hMX Tryz.func137 Tryz.ntmps137 fun C hC hF => ?_
 refine sK fun K hK => wR 2 ?_; refine aX hTT 1 [] tI ?_; refine nK hK ?_; clear hK K; refine sK fun K hK => ?_; refine sK fun K hK => wR 3 ?_; refine aX hTT 2 [] tI ?_; refine nK hK ?_; clear hK K; refine w_false (t := false) kR rfl ?_
 refine aw_skip ?_
 refine xt_n (hK _ ?_); clear hK K; refine sK fun K hK => ?_
 refine w_le (le_val 0 (V.ints []) fun w L ρ x hx => emp_ints hx) ?_
 refine wR 4 ?_
 refine aops_x (M := [5]) hTT 4 [(0, .r (pn 5 (V.own 300005) (300005 : Nat) (Ob.row 2 1 0 fun (i : Nat) => List.take (1 : Nat) (List.drop (i * 1) (repV (0 : Nat) [V.c (Value.int IntKind.i64 0)]))))), (2, .r (PR.mk (some (7 : Nat)) (some ((0 : Nat) + (0 : Nat) ≤ (1099511627776 : Nat))) (V.own 300007) [((300005 : Nat), none), ((300007 : Nat), some (Ob.row 2 1 0 (appRow (0 : Nat) (fun (i : Nat) => List.take (1 : Nat) (List.drop (i * 1) (repV (0 : Nat) [V.c (Value.int IntKind.i64 0)]))) fun (k : Nat) => [V.i (gi [] k)])))] false))] ⟨oM, tI⟩ ?_
 refine nK hK ?_; clear hK K
 refine aw_ret ?_
 refine ret_of_le (le_shut 2 300007 (e := (2 : Nat)) (sz := (1 : Nat)) (n := (0 : Nat)) (n' := 0) (row := appRow (0 : Nat) (fun (i : Nat) => List.take (1 : Nat) (List.drop (i * 1) (repV (0 : Nat) [V.c (Value.int IntKind.i64 0)]))) fun (k : Nat) => [V.i (gi [] k)]) (row' := (fun k => [.i (gi [] k)])) kR kR (fun _ _ => rfl) ?_ ?_) ?_
 ·
  rfl
 ·
  intro i hi
  omega
 refine rP (V.sl 1 0 fun (k : Nat) => [V.i (gi [] k)])
theorem Clone_ac (l : List Int) (hl : l.length ≤ 8192) : AC Tryz.prog 137 [V.ints l] (V.ints l) [] := by
 by_cases h0 : 0 < l.length
 ·
  exact Clone_pos l hl h0
 ·
  obtain rfl : l = [] := List.length_eq_zero_iff.1 oM
  refine AC.emp fun A c => ?_
  cases A with
  | some a => exact Clone_emp a c
  | none => exact Clone_nil c
end Go.Proofs.YtepkjobndmmejaaGreatDoor

namespace Go.Proofs.YtepkjobndmmejaaGreatDoor
open Go.Ab Go.RowKit Go.Dw Go.Shelf
def seqC (l : List Cv) (u : Bool) : List Cv := if u then l.reverse else l
theorem seqC_len (l : List Cv) (u : Bool) : (seqC l u).length = l.length := by cases u <;> simp [seqC]
theorem seqC_gc {l : List Cv} {u : Bool} {k : Nat} (hk : k < l.length) : gc (seqC l u) k = gc l (if u then l.length - 1 - k else k) := by
 cases u
 ·
  rfl
 ·
  simp [seqC, gc, List.getElem?_reverse hk]
theorem take_gc {l : List Cv} {k : Nat} (hk : k < l.length) : l.take (k + 1) = l.take k ++ [gc l k] := by
 rw [gc_eq hk, List.take_succ_eq_append_getElem hk]
theorem chainI_fold (l : List Cv) (u : Bool) (m : Int) (x : List Int) : chainI l u m x = foldI u m (seqC l u) (some x) := by cases u <;> rfl
theorem foldI_snoc {u : Bool} {m : Int} {l : List Cv} {k : Nat} {x y : List Int} (hk : k < l.length) (h : foldI u m (l.take k) (some x) = some y) : foldI u m (l.take (k + 1)) (some x) = runI (gc l k) u m y := by
 rw [take_gc hk, foldI_append, h]; rfl
theorem foldI_stop {u : Bool} {m : Int} {l : List Cv} {k : Nat} {x : List Int} (h : foldI u m (l.take k) (some x) = none) : foldI u m l (some x) = none := by
 rw [← List.take_append_drop k l, foldI_append, h, foldI_none]
def chR (l : List Cv) (u : Bool) (x : List Int) : Int × List Int :=
 if fChE l ≠ 0 then (fChE l, []) else if sigE x ≠ 0 then (sigE x, []) else match chainI l u 32767 x with
  | some y => (0, y)
  | none => (4, [])
theorem chR_1 {l : List Cv} {u : Bool} {x : List Int} (h : ¬ fChE l = 0) : chR l u x = (fChE l, []) := by rw [chR, if_pos h]
theorem chR_2 {l : List Cv} {u : Bool} {x : List Int} (h : fChE l = 0) (h2 : ¬ sigE x = 0) : chR l u x = (sigE x, []) := by rw [chR, if_neg (by simp [h]), if_pos h2]
theorem chR_3 {l : List Cv} {u : Bool} {x : List Int} (h : fChE l = 0) (h2 : sigE x = 0) (h3 : chainI l u 32767 x = none) : chR l u x = (4, []) := by rw [chR, if_neg (by simp [h]), if_neg (by simp [h2]), h3]
theorem chR_4 {l : List Cv} {u : Bool} {x y : List Int} (h : fChE l = 0) (h2 : sigE x = 0) (h3 : chainI l u 32767 x = some y) : chR l u x = (0, y) := by rw [chR, if_neg (by simp [h]), if_neg (by simp [h2]), h3]
theorem fine_or (c : Cv) (u : Bool) (l : List Int) (m : Int) : fine c u l m l.length ∨ ∃ j, j < l.length ∧ bey (outK c u l j) m = true := by
 by_cases h : ∃ j, j < l.length ∧ bey (outK c u l j) m = true
 ·
  exact .inr h
 ·
  refine .inl fun j hj => ?_
  cases hb : bey (outK c u l j) m with
  | false => rfl
  | true => exact absurd ⟨j, hj, hb⟩ h
abbrev zzFA60 : V := V.tup [V.sl 1 0 fun (k : Nat) => [V.i (gi [] k)], V.i 4]
set_option maxRecDepth 100000 in
theorem chain_ac (l : List Cv) (x : List Int) (u : Bool) (hl : cvsL l) (hx : x.length ≤ bigL) : AC Tryz.prog 120 [V.cvs l, V.ints x, .b u] (.tup [V.ints (chR l u x).2, .i (chR l u x).1]) [] := by
 refine acI hTT hMX Tryz.func120 Tryz.ntmps120 fun C hC hF => ?_
 refine sK fun K hK => wR 2 ?_; refine aX hTT 2 [] tI ?_; refine nK hK ?_; clear hK K; refine sK fun K hK => ?_; refine sK fun K hK => wR 3 ?_; refine aX hTT 1 [] tI ?_
 refine eC (checkChain_ac l hl) ?_
 refine aX hTT 1 [] tI ?_; refine nK hK ?_; clear hK K; refine sK fun K hK => wR 4 ?_; refine aX hTT 2 [] tI ?_; refine nK hK ?_; clear hK K
 refine w_cond (t := !decide (fChE l = 0)) kR (fun c1 => ?_) (fun c1 => ?_)
 ·
  simp at c1
  refine sK fun K hK => wR 5 ?_; refine aX hTT 3 [] tI ?_; refine nK hK ?_; clear hK K
  refine aw_ret ?_
  refine xt_r ?_
  rw [chR_1 c1]
  refine ret_of_le (le_nil 6 (sz := 1) 0 (fun k => [.i (gi [] k)]) kR ?_) ?_
  ·
   rfl
  refine rP (V.tup [V.sl 1 0 fun (k : Nat) => [V.i (gi [] k)], V.i (fChE l)])
 simp at c1
 refine aw_skip ?_
 refine xt_n (hK _ ?_); clear hK K; refine sK fun K hK => ?_; refine sK fun K hK => wR 5 ?_; refine aX hTT 1 [] tI ?_
 refine eC (checkSignal_ac x hx) ?_
 refine aX hTT 1 [] tI ?_; refine nK hK ?_; clear hK K; refine sK fun K hK => wR 6 ?_; refine aX hTT 2 [] tI ?_; refine nK hK ?_; clear hK K
 refine w_cond (t := !decide (sigE x = 0)) kR (fun c2 => ?_) (fun c2 => ?_)
 ·
  simp at c2
  refine sK fun K hK => wR 7 ?_; refine aX hTT 3 [] tI ?_; refine nK hK ?_; clear hK K
  refine aw_ret ?_
  refine xt_r ?_
  rw [chR_2 c1 c2]
  refine ret_of_le (le_nil 6 (sz := 1) 0 (fun k => [.i (gi [] k)]) kR ?_) ?_
  ·
   rfl
  refine rP (V.tup [V.sl 1 0 fun (k : Nat) => [V.i (gi [] k)], V.i (sigE x)])
 simp at c2
 obtain ⟨g1, g2⟩ := sigE_ok.1 c2
 obtain ⟨g3, g4⟩ := fChE_ok.1 c1
 refine aw_skip ?_
 refine xt_n (hK _ ?_); clear hK K; refine sK fun K hK => wR 7 ?_; refine aX hTT 1 [] tI ?_
 refine eC (Clone_ac x oM) ?_
 refine aX hTT 1 [] tI ?_; refine nK hK ?_; clear hK K; refine sK fun K hK => ?_; refine sK fun K hK => wR 8 ?_; refine aX hTT 3 [] tI ?_; refine nK hK ?_; clear hK K
 refine aw_block ?_
 refine w_loop (ι := Nat × List Int) (fun y => [(0, V.cvs l), (1, V.ints y.2), (2, .b u), (27, .i l.length), (28, .i y.1)]) (fun _ => []) (fun y => y.1 ≤ l.length ∧ y.2.length = x.length ∧ AllLe 32767 y.2 ∧ foldI u 32767 ((seqC l u).take y.1) (some x) = some y.2) (fun y => l.length - y.1) (0, x) ⟨Nat.zero_le _, rfl, g2, rfl⟩ ?_ ?_
 ·
  show Le _ ⟨mkT [(0, V.cvs l), (1, V.ints x), (2, .b u), (27, .i l.length), (28, .i 0)], mkS [], 1⟩
  refine le_ren [] (.cons kR (.cons kR (.cons kR (.cons kR (.cons kR .nil))))) .nil kR kR
 rintro ⟨k, y⟩ ⟨hk, hy, ha, hf⟩
 simp only at hk hy ha hf ⊢
 refine sK fun K hK => wR 2 ?_; refine aX hTT 1 [] tI ?_; refine nK hK ?_; clear hK K; refine sK fun K hK => ?_
 refine w_cond (t := decide ((↑k : Int) < (↑(List.length l) : Int))) kR (fun c3 => ?_) (fun c3 => ?_)
 ·
  simp at c3
  have hcv : cvOk (gc (seqC l u) k) := by
   rw [seqC_gc c3]
   refine cvE_ok.1 (g4 _ ?_)
   split <;> omega
  have hsn := foldI_snoc (u := u) (m := 32767) (l := seqC l u) (by rw [seqC_len]; exact c3) hf
  have hsq := seqC_gc (l := l) (u := u) c3
  refine aw_skip ?_
  refine xt_n (hK _ ?_); clear hK K; refine sK fun K hK => ?_
  refine aw_block ?_
  refine sK fun K hK => wR 3 ?_; refine aX hTT 2 [] tI ?_; refine nK hK ?_; clear hK K; refine sK fun K hK => wR 4 ?_; refine aX hTT 6 [(2, .c ((0 : Int) ≤ (↑k : Int) ∧ (↑k : Int) < (↑(List.length l) : Int))), (4, .r (pn 11 (V.ref 300011 0) (300011 : Nat) (Ob.box 162 [V.nil, V.nil, V.i 0]))), (5, .r (pw ((0 : Nat) + (3 : Nat) ≤ (3 : Nat)) (300011 : Nat) (Ob.box 162 [V.sl 1 (List.length (Cv.feed (gc l k))) fun (k_1 : Nat) => [V.i (gi (Cv.feed (gc l k)) k_1)], V.sl 1 (List.length (Cv.back (gc l k))) fun (k_1 : Nat) => [V.i (gi (Cv.back (gc l k)) k_1)], V.i (Cv.share (gc l k))])))] ⟨oM, oM, tI⟩ ?_; refine nK hK ?_; clear hK K; refine sK fun K hK => ?_; refine sK fun K hK => wR 5 ?_; refine aX hTT 1 [] tI ?_; refine nK hK ?_; clear hK K
  refine w_cond (t := u) kR (fun c4 => ?_) (fun c4 => ?_)
  ·
   subst c4
   have hq : gc (seqC l true) k = gc l ((l.length : Int) - 1 - (k : Int)).toNat := by
    rw [hsq, if_pos rfl]
    congr 1
    omega
   rw [hq] at hcv hsn
   refine wR 6 ?_; refine aX hTT 9 [(3, .i ((↑(List.length l) : Int) - 1)), (5, .i ((↑(List.length l) : Int) - 1 - (↑k : Int))), (6, .c ((0 : Int) ≤ (↑(List.length l) : Int) - 1 - (↑k : Int) ∧ (↑(List.length l) : Int) - 1 - (↑k : Int) < (↑(List.length l) : Int))), (8, .r (pw ((0 : Nat) + (3 : Nat) ≤ (3 : Nat)) (300011 : Nat) (Ob.box 162 [V.sl 1 (List.length (Cv.feed (gc l (Int.toNat ((↑(List.length l) : Int) - 1 - (↑k : Int)))))) fun (k_1 : Nat) => [V.i (gi (Cv.feed (gc l (Int.toNat ((↑(List.length l) : Int) - 1 - (↑k : Int))))) k_1)], V.sl 1 (List.length (Cv.back (gc l (Int.toNat ((↑(List.length l) : Int) - 1 - (↑k : Int)))))) fun (k_1 : Nat) => [V.i (gi (Cv.back (gc l (Int.toNat ((↑(List.length l) : Int) - 1 - (↑k : Int))))) k_1)], V.i (Cv.share (gc l (Int.toNat ((↑(List.length l) : Int) - 1 - (↑k : Int)))))])))] ⟨oM, oM, oM, oM, tI⟩ ?_; refine nK hK ?_; clear hK K; refine sK fun K hK => wR 7 ?_; refine aX hTT 3 [(1, .c ((0 : Nat) ≤ (3 : Nat)))] ⟨oM, tI⟩ ?_
   refine aops_callN (first := []) (caps := []) (v' := V.fn (Fn.func (158 : Nat)) [] [V.ptr [V.b true], V.ref 600048 0]) (δ := [(600048, Option.some (Ob.box 234 [V.ref 601048 0])), (601048, Option.some (Ob.box 239 [V.i (gi [] (((0 : Nat) + (7 : Nat)) % 8)), V.i (gi [] (((0 : Nat) + (6 : Nat)) % 8)), V.i (gi [] (((0 : Nat) + (5 : Nat)) % 8)), V.i (gi [] (((0 : Nat) + (4 : Nat)) % 8)), V.i (gi [] (((0 : Nat) + (3 : Nat)) % 8)), V.i (gi [] (((0 : Nat) + (2 : Nat)) % 8)), V.i (gi [] (((0 : Nat) + (1 : Nat)) % 8)), V.i (gi [] ((0 : Nat) % (8 : Nat))), V.i 0, V.i (gi [] (((0 : Nat) + (7 : Nat)) % 8)), V.i (gi [] (((0 : Nat) + (6 : Nat)) % 8)), V.i (gi [] (((0 : Nat) + (5 : Nat)) % 8)), V.i (gi [] (((0 : Nat) + (4 : Nat)) % 8)), V.i (gi [] (((0 : Nat) + (3 : Nat)) % 8)), V.i (gi [] (((0 : Nat) + (2 : Nat)) % 8)), V.i (gi [] (((0 : Nat) + (1 : Nat)) % 8)), V.i (gi [] ((0 : Nat) % (8 : Nat))), V.i 0, V.sl 1 (List.length (Cv.feed (gc l (Int.toNat ((↑(List.length l) : Int) - 1 - (↑k : Int)))))) fun (k_1 : Nat) => [V.i (gi (Cv.feed (gc l (Int.toNat ((↑(List.length l) : Int) - 1 - (↑k : Int))))) k_1)], V.sl 1 (List.length (Cv.back (gc l (Int.toNat ((↑(List.length l) : Int) - 1 - (↑k : Int)))))) fun (k_1 : Nat) => [V.i (gi (Cv.back (gc l (Int.toNat ((↑(List.length l) : Int) - 1 - (↑k : Int))))) k_1)], V.i (Cv.share (gc l (Int.toNat ((↑(List.length l) : Int) - 1 - (↑k : Int)))))]))]) (fStep_ac (gc l ((l.length : Int) - 1 - (k : Int)).toNat) true) kR kR kR kR kR kR kR ?_
   skip
   refine eC (within_ac 32767) ?_
   skip
   rcases fine_or (gc l ((l.length : Int) - 1 - (k : Int)).toNat) true y 32767 with hfi | ⟨j, hj, hb⟩
   ·
    rw [runI_some hfi] at hsn
    refine aops_callM [600048, 601048] (first := []) (caps := []) (ins' := [Ob.box 234 [V.ref 601048 0], Ob.box 239 [V.i (gi [] (((0 : Nat) + (7 : Nat)) % 8)), V.i (gi [] (((0 : Nat) + (6 : Nat)) % 8)), V.i (gi [] (((0 : Nat) + (5 : Nat)) % 8)), V.i (gi [] (((0 : Nat) + (4 : Nat)) % 8)), V.i (gi [] (((0 : Nat) + (3 : Nat)) % 8)), V.i (gi [] (((0 : Nat) + (2 : Nat)) % 8)), V.i (gi [] (((0 : Nat) + (1 : Nat)) % 8)), V.i (gi [] ((0 : Nat) % (8 : Nat))), V.i 0, V.i (gi [] (((0 : Nat) + (7 : Nat)) % 8)), V.i (gi [] (((0 : Nat) + (6 : Nat)) % 8)), V.i (gi [] (((0 : Nat) + (5 : Nat)) % 8)), V.i (gi [] (((0 : Nat) + (4 : Nat)) % 8)), V.i (gi [] (((0 : Nat) + (3 : Nat)) % 8)), V.i (gi [] (((0 : Nat) + (2 : Nat)) % 8)), V.i (gi [] (((0 : Nat) + (1 : Nat)) % 8)), V.i (gi [] ((0 : Nat) % (8 : Nat))), V.i 0, V.sl 1 (List.length (Cv.feed (gc l (Int.toNat ((↑(List.length l) : Int) - 1 - (↑k : Int)))))) fun (k_1 : Nat) => [V.i (gi (Cv.feed (gc l (Int.toNat ((↑(List.length l) : Int) - 1 - (↑k : Int))))) k_1)], V.sl 1 (List.length (Cv.back (gc l (Int.toNat ((↑(List.length l) : Int) - 1 - (↑k : Int)))))) fun (k_1 : Nat) => [V.i (gi (Cv.back (gc l (Int.toNat ((↑(List.length l) : Int) - 1 - (↑k : Int))))) k_1)], V.i (Cv.share (gc l (Int.toNat ((↑(List.length l) : Int) - 1 - (↑k : Int)))))]]) (v' := V.tup [V.own 600050, V.i 0]) (δ := [(600048, Option.none), (601048, Option.none), (600050, Option.some (Ob.row 2 1 (List.length y) fun (i : Nat) => V.renL (nameG (6 : Nat) (some 50) [(600048 : Nat), (601048 : Nat)]) [V.i (gi (resL (gc l (Int.toNat ((↑(List.length l) : Int) - 1 - (↑k : Int)))) true y) i)]))]) (kp := [600048, 601048]) (each_ok (gc l ((l.length : Int) - 1 - (k : Int)).toNat) true y 32767 hcv oM (by decide) ha hfi) kR kR kR kR kR kR rfl rfl kR (.box kR kR (.box kR kR .nil)) kR kR kR ?_
    refine aX hTT 5 [] tI ?_; refine nK hK ?_; clear hK K; refine sK fun K hK => ?_; refine sK fun K hK => ?_
    refine w_le (le_shut 12 600050 (e := (2 : Nat)) (sz := (1 : Nat)) (n := List.length y) (n' := (resL (gc l ((l.length : Int) - 1 - (k : Int)).toNat) true y).length) (row := fun (i : Nat) => V.renL (nameG (6 : Nat) (some (50 : Tmp)) [(600048 : Nat), (601048 : Nat)]) [V.i (gi (resL (gc l (Int.toNat ((↑(List.length l) : Int) - 1 - (↑k : Int)))) true y) i)]) (row' := (fun j => [.i (gi (resL (gc l ((l.length : Int) - 1 - (k : Int)).toNat) true y) j)])) kR kR (fun _ _ => rfl) ?_ ?_) ?_
    ·
     rw [resL_len]
    ·
     intro i hi
     rfl
    refine wR 8 ?_; refine aX hTT 2 [] tI ?_; refine nK hK ?_; clear hK K; refine w_false (t := false) kR rfl ?_
    refine aw_skip ?_
    refine xt_n (hK _ ?_); clear hK K; refine wR 9 ?_; refine aX hTT 2 [] tI ?_; refine aops_nil ?_; refine xb_n ?_; refine xt_n (hK _ ?_); clear hK K; refine wR 10 ?_; refine aX hTT 2 [(0, .i ((↑k : Int) + 1))] ⟨oM, tI⟩ ?_; refine aops_nil ?_; refine xt_n ?_
    refine ⟨(k + 1, resL (gc l ((l.length : Int) - 1 - (k : Int)).toNat) true y), ⟨by omega, by simp only [resL_len, hy], any_bey.1 (any_resL.2 hfi), hsn⟩, ?_, by simp only; omega⟩
    show Le _ ⟨mkT [(0, V.cvs l), (1, V.ints (resL (gc l ((l.length : Int) - 1 - (k : Int)).toNat) true y)), (2, .b true), (27, .i l.length), (28, .i ((k + 1 : Nat) : Int))], mkS [], 1⟩
    refine le_ren [] (.cons kR (.cons kR (.cons kR (.cons kR (.cons kR .nil))))) .nil kR kR
   ·
    rw [runI_none hj hb] at hsn
    refine aops_callM [600048, 601048] (first := []) (caps := []) (ins' := [Ob.box 234 [V.ref 601048 0], Ob.box 239 [V.i (gi [] (((0 : Nat) + (7 : Nat)) % 8)), V.i (gi [] (((0 : Nat) + (6 : Nat)) % 8)), V.i (gi [] (((0 : Nat) + (5 : Nat)) % 8)), V.i (gi [] (((0 : Nat) + (4 : Nat)) % 8)), V.i (gi [] (((0 : Nat) + (3 : Nat)) % 8)), V.i (gi [] (((0 : Nat) + (2 : Nat)) % 8)), V.i (gi [] (((0 : Nat) + (1 : Nat)) % 8)), V.i (gi [] ((0 : Nat) % (8 : Nat))), V.i 0, V.i (gi [] (((0 : Nat) + (7 : Nat)) % 8)), V.i (gi [] (((0 : Nat) + (6 : Nat)) % 8)), V.i (gi [] (((0 : Nat) + (5 : Nat)) % 8)), V.i (gi [] (((0 : Nat) + (4 : Nat)) % 8)), V.i (gi [] (((0 : Nat) + (3 : Nat)) % 8)), V.i (gi [] (((0 : Nat) + (2 : Nat)) % 8)), V.i (gi [] (((0 : Nat) + (1 : Nat)) % 8)), V.i (gi [] ((0 : Nat) % (8 : Nat))), V.i 0, V.sl 1 (List.length (Cv.feed (gc l (Int.toNat ((↑(List.length l) : Int) - 1 - (↑k : Int)))))) fun (k_1 : Nat) => [V.i (gi (Cv.feed (gc l (Int.toNat ((↑(List.length l) : Int) - 1 - (↑k : Int))))) k_1)], V.sl 1 (List.length (Cv.back (gc l (Int.toNat ((↑(List.length l) : Int) - 1 - (↑k : Int)))))) fun (k_1 : Nat) => [V.i (gi (Cv.back (gc l (Int.toNat ((↑(List.length l) : Int) - 1 - (↑k : Int))))) k_1)], V.i (Cv.share (gc l (Int.toNat ((↑(List.length l) : Int) - 1 - (↑k : Int)))))]]) (v' := V.tup [V.nil, V.i 4]) (δ := [(600048, Option.none), (601048, Option.none)]) (kp := [600048, 601048]) (each_no (gc l ((l.length : Int) - 1 - (k : Int)).toNat) true y 32767 hcv oM (by decide) ha hj hb) kR kR kR kR kR kR rfl rfl kR (.box kR kR (.box kR kR .nil)) kR kR kR ?_
    refine aX hTT 5 [] tI ?_; refine nK hK ?_; clear hK K; refine sK fun K hK => ?_; refine sK fun K hK => wR 8 ?_; refine aX hTT 2 [] tI ?_; refine nK hK ?_; clear hK K; refine w_true (t := true) kR rfl ?_; refine sK fun K hK => wR 9 ?_; refine aX hTT 3 [] tI ?_; refine nK hK ?_; clear hK K
    refine aw_ret ?_
    refine xt_r ?_
    refine xb_r ?_
    refine xt_r ?_; refine xt_r ?_
    refine xb_r ?_
    refine xt_r ?_
    rw [chR_3 c1 c2 ((chainI_fold l true 32767 x).trans (foldI_stop hsn))]
    refine ret_of_le (le_nil 6 (sz := 1) 0 (fun k => [.i (gi [] k)]) kR ?_) ?_
    ·
     rfl
    refine rP (zzFA60)
  ·
   subst c4
   have hq : gc (seqC l false) k = gc l k := hsq
   rw [hq] at hcv hsn
   refine aw_skip ?_
   refine xt_n (hK _ ?_); clear hK K; refine sK fun K hK => wR 6 ?_; refine aX hTT 3 [(1, .c ((0 : Nat) ≤ (3 : Nat)))] ⟨oM, tI⟩ ?_
   refine aops_callN (first := []) (caps := []) (v' := V.fn (Fn.func (158 : Nat)) [] [V.ptr [V.b false], V.ref 500048 0]) (δ := [(500048, Option.some (Ob.box 234 [V.ref 501048 0])), (501048, Option.some (Ob.box 239 [V.i (gi [] (((0 : Nat) + (7 : Nat)) % 8)), V.i (gi [] (((0 : Nat) + (6 : Nat)) % 8)), V.i (gi [] (((0 : Nat) + (5 : Nat)) % 8)), V.i (gi [] (((0 : Nat) + (4 : Nat)) % 8)), V.i (gi [] (((0 : Nat) + (3 : Nat)) % 8)), V.i (gi [] (((0 : Nat) + (2 : Nat)) % 8)), V.i (gi [] (((0 : Nat) + (1 : Nat)) % 8)), V.i (gi [] ((0 : Nat) % (8 : Nat))), V.i 0, V.i (gi [] (((0 : Nat) + (7 : Nat)) % 8)), V.i (gi [] (((0 : Nat) + (6 : Nat)) % 8)), V.i (gi [] (((0 : Nat) + (5 : Nat)) % 8)), V.i (gi [] (((0 : Nat) + (4 : Nat)) % 8)), V.i (gi [] (((0 : Nat) + (3 : Nat)) % 8)), V.i (gi [] (((0 : Nat) + (2 : Nat)) % 8)), V.i (gi [] (((0 : Nat) + (1 : Nat)) % 8)), V.i (gi [] ((0 : Nat) % (8 : Nat))), V.i 0, V.sl 1 (List.length (Cv.feed (gc l k))) fun (k_1 : Nat) => [V.i (gi (Cv.feed (gc l k)) k_1)], V.sl 1 (List.length (Cv.back (gc l k))) fun (k_1 : Nat) => [V.i (gi (Cv.back (gc l k)) k_1)], V.i (Cv.share (gc l k))]))]) (fStep_ac (gc l k) false) kR kR kR kR kR kR kR ?_
   skip
   refine eC (within_ac 32767) ?_
   skip
   rcases fine_or (gc l k) false y 32767 with hfi | ⟨j, hj, hb⟩
   ·
    rw [runI_some hfi] at hsn
    refine aops_callM [500048, 501048] (first := []) (caps := []) (ins' := [Ob.box 234 [V.ref 501048 0], Ob.box 239 [V.i (gi [] (((0 : Nat) + (7 : Nat)) % 8)), V.i (gi [] (((0 : Nat) + (6 : Nat)) % 8)), V.i (gi [] (((0 : Nat) + (5 : Nat)) % 8)), V.i (gi [] (((0 : Nat) + (4 : Nat)) % 8)), V.i (gi [] (((0 : Nat) + (3 : Nat)) % 8)), V.i (gi [] (((0 : Nat) + (2 : Nat)) % 8)), V.i (gi [] (((0 : Nat) + (1 : Nat)) % 8)), V.i (gi [] ((0 : Nat) % (8 : Nat))), V.i 0, V.i (gi [] (((0 : Nat) + (7 : Nat)) % 8)), V.i (gi [] (((0 : Nat) + (6 : Nat)) % 8)), V.i (gi [] (((0 : Nat) + (5 : Nat)) % 8)), V.i (gi [] (((0 : Nat) + (4 : Nat)) % 8)), V.i (gi [] (((0 : Nat) + (3 : Nat)) % 8)), V.i (gi [] (((0 : Nat) + (2 : Nat)) % 8)), V.i (gi [] (((0 : Nat) + (1 : Nat)) % 8)), V.i (gi [] ((0 : Nat) % (8 : Nat))), V.i 0, V.sl 1 (List.length (Cv.feed (gc l k))) fun (k_1 : Nat) => [V.i (gi (Cv.feed (gc l k)) k_1)], V.sl 1 (List.length (Cv.back (gc l k))) fun (k_1 : Nat) => [V.i (gi (Cv.back (gc l k)) k_1)], V.i (Cv.share (gc l k))]]) (v' := V.tup [V.own 500050, V.i 0]) (δ := [(500048, Option.none), (501048, Option.none), (500050, Option.some (Ob.row 2 1 (List.length y) fun (i : Nat) => V.renL (nameG (5 : Nat) (some 50) [(500048 : Nat), (501048 : Nat)]) [V.i (gi (resL (gc l k) false y) i)]))]) (kp := [500048, 501048]) (each_ok (gc l k) false y 32767 hcv oM (by decide) ha hfi) kR kR kR kR kR kR rfl rfl kR (.box kR kR (.box kR kR .nil)) kR kR kR ?_
    refine aX hTT 5 [] tI ?_; refine nK hK ?_; clear hK K; refine sK fun K hK => ?_; refine sK fun K hK => ?_
    refine w_le (le_shut 12 500050 (e := (2 : Nat)) (sz := (1 : Nat)) (n := List.length y) (n' := (resL (gc l k) false y).length) (row := fun (i : Nat) => V.renL (nameG (5 : Nat) (some (50 : Tmp)) [(500048 : Nat), (501048 : Nat)]) [V.i (gi (resL (gc l k) false y) i)]) (row' := (fun j => [.i (gi (resL (gc l k) false y) j)])) kR kR (fun _ _ => rfl) ?_ ?_) ?_
    ·
     rw [resL_len]
    ·
     intro i hi
     rfl
    refine wR 7 ?_; refine aX hTT 2 [] tI ?_; refine nK hK ?_; clear hK K; refine w_false (t := false) kR rfl ?_
    refine aw_skip ?_
    refine xt_n (hK _ ?_); clear hK K; refine wR 8 ?_; refine aX hTT 2 [] tI ?_; refine aops_nil ?_; refine xb_n ?_; refine xt_n (hK _ ?_); clear hK K; refine wR 9 ?_; refine aX hTT 2 [(0, .i ((↑k : Int) + 1))] ⟨oM, tI⟩ ?_; refine aops_nil ?_; refine xt_n ?_
    refine ⟨(k + 1, resL (gc l k) false y), ⟨by omega, by simp only [resL_len, hy], any_bey.1 (any_resL.2 hfi), hsn⟩, ?_, by simp only; omega⟩
    show Le _ ⟨mkT [(0, V.cvs l), (1, V.ints (resL (gc l k) false y)), (2, .b false), (27, .i l.length), (28, .i ((k + 1 : Nat) : Int))], mkS [], 1⟩
    refine le_ren [] (.cons kR (.cons kR (.cons kR (.cons kR (.cons kR .nil))))) .nil kR kR
   ·
    rw [runI_none hj hb] at hsn
    refine aops_callM [500048, 501048] (first := []) (caps := []) (ins' := [Ob.box 234 [V.ref 501048 0], Ob.box 239 [V.i (gi [] (((0 : Nat) + (7 : Nat)) % 8)), V.i (gi [] (((0 : Nat) + (6 : Nat)) % 8)), V.i (gi [] (((0 : Nat) + (5 : Nat)) % 8)), V.i (gi [] (((0 : Nat) + (4 : Nat)) % 8)), V.i (gi [] (((0 : Nat) + (3 : Nat)) % 8)), V.i (gi [] (((0 : Nat) + (2 : Nat)) % 8)), V.i (gi [] (((0 : Nat) + (1 : Nat)) % 8)), V.i (gi [] ((0 : Nat) % (8 : Nat))), V.i 0, V.i (gi [] (((0 : Nat) + (7 : Nat)) % 8)), V.i (gi [] (((0 : Nat) + (6 : Nat)) % 8)), V.i (gi [] (((0 : Nat) + (5 : Nat)) % 8)), V.i (gi [] (((0 : Nat) + (4 : Nat)) % 8)), V.i (gi [] (((0 : Nat) + (3 : Nat)) % 8)), V.i (gi [] (((0 : Nat) + (2 : Nat)) % 8)), V.i (gi [] (((0 : Nat) + (1 : Nat)) % 8)), V.i (gi [] ((0 : Nat) % (8 : Nat))), V.i 0, V.sl 1 (List.length (Cv.feed (gc l k))) fun (k_1 : Nat) => [V.i (gi (Cv.feed (gc l k)) k_1)], V.sl 1 (List.length (Cv.back (gc l k))) fun (k_1 : Nat) => [V.i (gi (Cv.back (gc l k)) k_1)], V.i (Cv.share (gc l k))]]) (v' := V.tup [V.nil, V.i 4]) (δ := [(500048, Option.none), (501048, Option.none)]) (kp := [500048, 501048]) (each_no (gc l k) false y 32767 hcv oM (by decide) ha hj hb) kR kR kR kR kR kR rfl rfl kR (.box kR kR (.box kR kR .nil)) kR kR kR ?_
    refine aX hTT 5 [] tI ?_; refine nK hK ?_; clear hK K; refine sK fun K hK => ?_; refine sK fun K hK => wR 7 ?_; refine aX hTT 2 [] tI ?_; refine nK hK ?_; clear hK K; refine w_true (t := true) kR rfl ?_; refine sK fun K hK => wR 8 ?_; refine aX hTT 3 [] tI ?_; refine nK hK ?_; clear hK K
    refine aw_ret ?_
    refine xt_r ?_
    refine xb_r ?_
    refine xt_r ?_; refine xt_r ?_
    refine xb_r ?_
    refine xt_r ?_
    rw [chR_3 c1 c2 ((chainI_fold l false 32767 x).trans (foldI_stop hsn))]
    refine ret_of_le (le_nil 6 (sz := 1) 0 (fun k => [.i (gi [] k)]) kR ?_) ?_
    ·
     rfl
    refine rP (zzFA60)
 ·
  simp at c3
  obtain rfl : k = l.length := by omega
  rw [List.take_of_length_le (by rw [seqC_len]; omega)] at hf
  refine aw_exit ?_
  refine xt_x ?_; refine xt_x ?_
  refine xb_same ?_
  refine xt_n ?_; clear hK K; refine hK _ ?_; clear hK K; refine sK fun K hK => wR 3 ?_; refine aX hTT 3 [] tI ?_; refine nK hK ?_; clear hK K
  refine aw_ret ?_
  rw [chR_4 c1 c2 ((chainI_fold l u 32767 x).trans hf)]
  refine rP (V.tup [V.sl 1 (List.length y) fun (k : Nat) => [V.i (gi y k)], V.i 0])
end Go.Proofs.YtepkjobndmmejaaGreatDoor

namespace Go.Proofs.YtepkjobndmmejaaGreatDoor
open Go.Ab Go.RowKit Go.Dw Go.Shelf
theorem cvs_one {c : Cv} (h : cvL c) : cvsL [c] := ⟨by unfold bigL; simp, fun k hk => by simp at hk; subst hk; exact h⟩
def apR (c : Cv) (u : Bool) (x : List Int) : Int × List Int := chR [c] u x
set_option maxRecDepth 100000 in
theorem Apply_ac (c : Cv) (x : List Int) (hc : cvL c) (hx : x.length ≤ bigL) : AC Tryz.prog 96 [V.cv c, V.ints x] (.tup [V.ints (apR c false x).2, .i (apR c false x).1]) [] := by
 refine acI hTT hMX Tryz.func96 Tryz.ntmps96 fun C hC hF => ?_
 refine sK fun K hK => wR 2 ?_; refine aX hTT 3 [] tI ?_; refine nK hK ?_; clear hK K; refine sK fun K hK => wR 3 ?_; refine aX hTT 3 [] tI ?_
 refine eC (AC.conv (chain_ac [c] x false (cvs_one hc) hx) (args' := [V.sl 3 1 fun (i : Nat) => List.take (3 : Nat) (List.drop (i * 3) [V.sl 1 (List.length (Cv.feed c)) fun (k : Nat) => [V.i (gi (Cv.feed c) k)], V.sl 1 (List.length (Cv.back c)) fun (k : Nat) => [V.i (gi (Cv.back c) k)], V.i (Cv.share c)]), V.sl 1 (List.length x) fun (k : Nat) => [V.i (gi x k)], V.b false]) ⟨?_, RImp.refl _, RImp.refl _, trivial⟩) ?_
 ·
  refine RImp.rows rfl fun i hi => ?_
  obtain rfl : i = 0 := by omega
  rfl
 refine aX hTT 4 [] tI ?_; refine nK hK ?_; clear hK K
 refine aw_ret ?_
 refine rP (V.tup [V.sl 1 (List.length (Prod.snd (chR [c] false x))) fun (k : Nat) => [V.i (gi (Prod.snd (chR [c] false x)) k)], V.i (Prod.fst (chR [c] false x))])
def hl (f : Nat → Int) : Nat → List Int
 | 0 => []
 | t + 1 => f t :: hl f t
end Go.Proofs.YtepkjobndmmejaaGreatDoor

namespace Go.Proofs.YtepkjobndmmejaaGreatDoor
open Go.Ab Go.RowKit Go.Dw Go.Shelf
end Go.Proofs.YtepkjobndmmejaaGreatDoor

namespace Go.Proofs.YtepkjobndmmejaaGreatDoor
open Go.Ab Go.RowKit Go.Dw Go.Shelf
attribute [local go_sem] Oper.semAt_some
end Go.Proofs.YtepkjobndmmejaaGreatDoor
