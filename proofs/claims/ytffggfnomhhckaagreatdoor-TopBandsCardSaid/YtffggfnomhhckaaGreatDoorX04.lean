/-
  Several texts in one: Which cutters are valid: the walks of both copies. No condition. .. Edges of samples, in plain Lean. Conditions: told in each theorem.
-/
import Derived.Test.YtffggfnomhhckaaGreatDoorAbs42
import Derived.Test.YtffggfnomhhckaaGreatDoorMC
import Derived.Test.YtffggfnomhhckaaGreatDoorMD
import Derived.Test.YtffggfnomhhckaaGreatDoorX00
import Derived.Test.YtffggfnomhhckaaGreatDoorX01
namespace Go.Proofs.YtffggfnomhhckaaGreatDoor
open Go.Ab Go.RowKit Go.Dw Go.Shelf
def betB (x lo hi : Int) : Bool := decide (lo ≤ x) && decide (x ≤ hi)
set_option maxRecDepth 100000 in
theorem between_ac (x lo hi : Int) : AC Tryz.prog 62 [.i x, .i lo, .i hi] (.b (betB x lo hi)) [] := by
 refine acI hTT hMX Tryz.func62 Tryz.ntmps62 fun C hC hF => ?_
 refine sX hTT 2 1 [] tI ?_; refine sX hTT 3 9 [(4, .c (gA (decide (lo ≤ x) == true) True)), (5, .c (gA (decide (lo ≤ x) == true) True)), (6, .c (gC (decide (lo ≤ x) == true) True)), (7, .c ((decide (lo ≤ x) = true → (decide (lo ≤ x) == true) = true) ∧ True))] ⟨⟨⟨tI, tI⟩, (fun _ => tI)⟩, ⟨⟨tI, tI⟩, (fun _ => tI)⟩, ⟨⟨(by (exact fun h => h)), ⟨(by (exact fun h => h)), tI⟩⟩, (fun _ => tI)⟩, ⟨(by (intro h; rw [h]; rfl)), tI⟩, tI⟩ ?_
 refine aw_ret ?_
 refine rP (V.b (decide (lo ≤ x) && decide (x ≤ hi)))
structure Cut where
 half : Int
 gain : Int
 thin : Int
 wide : Int
 slope : Int
 jerk : Int
 sty : Int
def Cut.v (c : Cut) : V := .agg [.i c.half, .i c.gain, .i c.thin, .i c.wide, .i c.slope, .i c.jerk, .i c.sty]
end Go.Proofs.YtffggfnomhhckaaGreatDoor

namespace Go.Proofs.YtffggfnomhhckaaGreatDoor
open Go.Ab Go.RowKit Go.Dw Go.Shelf
def gE (p : Pt) : Bool := betB p.1 (-4194304) 4194304 && betB p.2 (-4194304) 4194304
def sE (p : Pt) : Bool := betB p.1 (-32767) 32767 && betB p.2 (-32767) 32767
def gChk (l : List Pt) : Int := if 4096 < l.length then 6 else if l.all gE then 0 else 2
theorem gE_iff {p : Pt} : gE p = true ↔ (-4194304 ≤ p.1 ∧ p.1 ≤ 4194304) ∧ -4194304 ≤ p.2 ∧ p.2 ≤ 4194304 := by simp [gE, betB]
theorem all_gp {l : List Pt} {f : Pt → Bool} : l.all f = true ↔ ∀ k, k < l.length → f (gp l k) = true := by
 rw [List.all_eq_true]
 constructor
 ·
  intro h k hk
  have : gp l k = l[k] := by simp [gp, List.getD_eq_getElem?_getD, List.getElem?_eq_getElem hk]
  rw [this]; exact h _ (List.getElem_mem hk)
 ·
  intro h x hx
  obtain ⟨k, hk, rfl⟩ := List.getElem_of_mem hx
  have : gp l k = l[k] := by simp [gp, List.getD_eq_getElem?_getD, List.getElem?_eq_getElem hk]
  rw [← this]; exact h k hk
theorem gChk_many {l : List Pt} (h : 4096 < l.length) : gChk l = 6 := by rw [gChk, if_pos h]
theorem gChk_bad {l : List Pt} {k : Nat} (h : ¬ 4096 < l.length) (hk : k < l.length) (hb : gE (gp l k) = false) : gChk l = 2 := by
 rw [gChk, if_neg h, if_neg]
 intro ha
 rw [all_gp.1 ha k hk] at hb
 cases hb
theorem gChk_good {l : List Pt} (h : ¬ 4096 < l.length) (hb : ∀ k, k < l.length → gE (gp l k) = true) : gChk l = 0 := by rw [gChk, if_neg h, if_pos (all_gp.2 hb)]
theorem gChk_ok {l : List Pt} : gChk l = 0 ↔ l.length ≤ 4096 ∧ ∀ k, k < l.length → gE (gp l k) = true := by
 constructor
 ·
  intro h
  unfold gChk at h
  split at h
  ·
   cases h
  ·
   split at h
   ·
    rename_i h1 h2; exact ⟨by omega, all_gp.1 h2⟩
   ·
    cases h
 ·
  rintro ⟨h1, h2⟩; exact gChk_good oM h2
set_option maxRecDepth 100000 in
theorem gEdged_ac (p : Pt) : AC Tryz.prog 59 [.agg [.i p.1, .i p.2]] (.b (gE p)) [] := by
 refine acI hTT hMX Tryz.func59 Tryz.ntmps59 fun C hC hF => ?_
 refine sK fun K hK => wR 2 ?_
 refine aops_n hTT (M := []) (n := 2) [pv (1 : Nat) (V.ptr [V.i (Prod.fst p), V.i (Prod.snd p)]), pv (2 : Nat) (V.b false)] kR kR tI ?_
 refine nK hK ?_; clear hK K; refine sK fun K hK => wR 3 ?_
 refine aops_n hTT (M := []) (n := 2) [pv (3 : Nat) (V.ptr [V.i (Prod.fst p), V.i (Prod.snd p)]), pv (4 : Nat) (V.i (Prod.fst p))] kR kR tI ?_
 refine eC (between_ac p.1 (-4194304) 4194304) ?_
 refine aops_n hTT (M := []) (n := 3) [pv (6 : Nat) (V.b (betB (Prod.fst p) (-4194304 : Int) (4194304 : Int))), pc (7 : Nat) ((True ∧ True) ∧ ((betB (Prod.fst p) (-4194304 : Int) (4194304 : Int) == true) = true → True)) (V.gd (betB (Prod.fst p) (-4194304 : Int) (4194304 : Int) == true) (V.ptr [V.i (Prod.snd p)])), pc (8 : Nat) ((((betB (Prod.fst p) (-4194304 : Int) (4194304 : Int) == true) = true → (betB (Prod.fst p) (-4194304 : Int) (4194304 : Int) == true) = true) ∧ True) ∧ ((betB (Prod.fst p) (-4194304 : Int) (4194304 : Int) == true) = true → True)) (V.gd (betB (Prod.fst p) (-4194304 : Int) (4194304 : Int) == true) (V.i (Prod.snd p)))] kR kR ⟨⟨⟨tI, tI⟩, (fun _ => tI)⟩, ⟨⟨(by (exact fun h => h)), tI⟩, (fun _ => tI)⟩, tI⟩ ?_
 refine eG 1 (g := betB (Prod.fst p) (-4194304 : Int) (4194304 : Int) == true) (fun h => between_ac p.2 (-4194304) 4194304) ?_
 refine aops_n hTT (M := []) (n := 2) [pc (10 : Nat) ((betB (Prod.fst p) (-4194304 : Int) (4194304 : Int) = true → (betB (Prod.fst p) (-4194304 : Int) (4194304 : Int) == true) = true) ∧ True) (V.b (betB (Prod.fst p) (-4194304 : Int) (4194304 : Int) && betB (Prod.snd p) (-4194304 : Int) (4194304 : Int))), pv (2 : Nat) (V.b (betB (Prod.fst p) (-4194304 : Int) (4194304 : Int) && betB (Prod.snd p) (-4194304 : Int) (4194304 : Int)))] kR kR ⟨⟨(by (intro h; rw [h]; rfl)), tI⟩, tI⟩ ?_
 refine nK hK ?_; clear hK K
 refine aw_ret ?_
 refine rP (V.b (betB (Prod.fst p) (-4194304 : Int) (4194304 : Int) && betB (Prod.snd p) (-4194304 : Int) (4194304 : Int)))
set_option maxRecDepth 100000 in
theorem gCheckPoints_ac (l : List Pt) (hl : l.length ≤ 4611686018427387904) : AC Tryz.prog 36 [V.pts l] (.i (gChk l)) [] := by
 refine acI hTT hMX Tryz.func36 Tryz.ntmps36 fun C hC hF => ?_
 refine sX hTT 2 1 [] tI (sK fun K hK => sX hTT 3 3 [] tI ?_)
 refine w_cond (t := decide ((4096 : Int) < (↑(List.length l) : Int))) kR (fun c1 => ?_) (fun c1 => ?_)
 ·
  simp at c1
  refine sX hTT 4 1 [] tI ?_
  refine aw_ret ?_
  refine xt_r ?_
  rw [gChk_many oM]
  refine rP (V.i 6)
 simp at c1
 refine aw_skip ?_
 refine xt_n (hK _ ?_); clear hK K; refine sK fun K hK => sX hTT 4 3 [] tI ?_
 refine aw_block ?_
 refine w_loop (ι := Nat) (fun k => [(8, V.pts l), (9, .i l.length), (10, .i k)]) (fun _ => []) (fun k => k ≤ l.length ∧ ∀ j, j < k → gE (gp l j) = true) (fun k => l.length - k) 0 ⟨Nat.zero_le _, fun j hj => by omega⟩ ?_ ?_
 ·
  refine le_ren [] (.cons kR (.cons kR (.cons kR .nil))) .nil kR kR
 rintro k ⟨hk, hj⟩
 refine sX hTT 2 1 [] tI (sK fun K hK => ?_)
 refine w_cond (t := decide ((↑k : Int) < (↑(List.length l) : Int))) kR (fun c2 => ?_) (fun c2 => ?_)
 ·
  simp at c2
  refine aw_skip ?_
  refine xt_n (hK _ ?_); clear hK K; refine sK fun K hK => ?_
  refine aw_block ?_
  refine sX hTT 3 4 [(0, .c ((0 : Int) ≤ (↑k : Int) ∧ (↑k : Int) < (↑(List.length l) : Int))), (2, .r (pn 4 (V.ref 200004 0) (200004 : Nat) (Ob.box 57 [V.i 0, V.i 0]))), (3, .r (pw ((0 : Nat) + (2 : Nat) ≤ (2 : Nat)) (200004 : Nat) (Ob.box 57 [V.i (Prod.fst (gp l k)), V.i (Prod.snd (gp l k))])))] ⟨oM, oM, tI⟩ (sK fun K hK => wR 4 (aX hTT 1 [(0, .c ((0 : Nat) ≤ (2 : Nat)))] ⟨oM, tI⟩ ?_))
  refine eC (gEdged_ac (gp l k)) ?_
  refine aX hTT 1 [] tI (nK hK ?_); clear hK K
  refine w_cond (t := !gE (gp l k)) kR (fun c3 => ?_) (fun c3 => ?_)
  ·
   refine sK fun K hK => ?_
   refine wR 5 (aX hTT 1 [] tI (nK hK ?_)); clear hK K
   refine aw_ret ?_
   refine xb_r ?_
   refine xt_r (xt_r ?_)
   refine xb_r ?_
   refine xt_r ?_
   rw [gChk_bad oM oM (by simpa using c3)]
   refine rP (V.i 2)
  refine aw_skip ?_
  refine xb_n (xt_n (hK _ ?_)); clear hK K; refine wR 5 (aX hTT 2 [(0, .i ((↑k : Int) + 1))] ⟨oM, tI⟩ (aops_nil (xt_n ?_)))
  refine ⟨k + 1, ⟨by omega, fun i hi => ?_⟩, by refine le_ren [] (.cons kR (.cons kR (.cons kR .nil))) .nil kR kR, by omega⟩
  by_cases he : i = k
  ·
   subst he; simpa using c3
  ·
   exact hj i oM
 ·
  simp at c2
  refine aw_exit ?_
  refine xt_x ?_; refine xt_x ?_
  refine xb_same ?_
  refine xt_n ?_; clear hK K; refine hK _ ?_; clear hK K; refine sX hTT 3 1 [] tI ?_
  refine aw_ret ?_
  rw [gChk_good oM fun i hi => hj i oM]
  refine rP (V.i 0)
end Go.Proofs.YtffggfnomhhckaaGreatDoor

namespace Go.Proofs.YtffggfnomhhckaaGreatDoor
open Go.Ab Go.RowKit Go.Dw Go.Shelf
abbrev Tk := List UInt8 × List Pt
abbrev Pr := Int × Int × Int × Int × Int × Int × Int
def Pr.tk (x : Pr) : Int := x.1
def Pr.fr (x : Pr) : Int := x.2.1
def Pr.to (x : Pr) : Int := x.2.2.1
def Pr.gap (x : Pr) : Int := x.2.2.2.1
def Pr.inn (x : Pr) : Int := x.2.2.2.2.1
def Pr.out (x : Pr) : Int := x.2.2.2.2.2.1
def Pr.lev (x : Pr) : Int := x.2.2.2.2.2.2
def Pr.c (x : Pr) : List V := [.i x.tk, .i x.fr, .i x.to, .i x.gap, .i x.inn, .i x.out, .i x.lev]
def Pr.long (x : Pr) : Int := x.to - x.fr
def gtk (l : List Tk) (k : Nat) : Tk := l.getD k ([], [])
def gpr (p : List Pr) (k : Nat) : Pr := p.getD k (0, 0, 0, 0, 0, 0, 0)
def nmV (s : List UInt8) : V := .c (.string ⟨s.toArray⟩)
def gby (s : List UInt8) (k : Nat) : Int := ((s.getD k 0).toNat : Int)
def nmB (s : List UInt8) : Bool := decide (1 ≤ s.length) && decide (s.length ≤ 20) && (List.range s.length).all fun k => chB (gby s k)
theorem strB_gby (s : List UInt8) {k : Nat} (h : k < s.length) : strB ⟨s.toArray⟩ k = gby s k := by
 simp [strB, gby, h]
def tkBad (t : Tk) : Bool := !nmB t.1 || decide (t.2.length = 0) || !t.2.all sE
def dupB (l : List Tk) : Bool := (List.range l.length).any fun i => (List.range i).any fun k => decide ((gtk l i).1 = (gtk l k).1)
def ctE (l : List Tk) : Int := if l.length < 1 ∨ 16 < l.length then 6 else if l.any fun t => decide (4096 < t.2.length) then 6 else if l.any tkBad then 2 else if dupB l then 12 else 0
def prB (l : List Tk) (x : Pr) : Bool := decide (0 ≤ x.tk ∧ x.tk < l.length ∧ 0 ≤ x.fr ∧ x.fr < x.to ∧ x.to ≤ (gtk l x.tk.toNat).2.length ∧ -4096 ≤ x.gap ∧ x.gap ≤ 4096 ∧ 0 ≤ x.inn ∧ x.inn ≤ 1000 ∧ 0 ≤ x.out ∧ x.out ≤ 1000 ∧ 0 ≤ x.lev ∧ x.lev ≤ 4000)
def enN (p : List Pr) : Nat → Int
 | 0 => 0
 | i + 1 => enN p i + (gpr p i).gap + (gpr p i).long
def bgN (p : List Pr) (i : Nat) : Int := enN p i + (gpr p i).gap
theorem enN_succ (p : List Pr) (i : Nat) : enN p (i + 1) = bgN p i + (gpr p i).long := rfl
def plB (p : List Pr) (i : Nat) : Bool :=
 !((decide (i = 0) && decide (bgN p i < 0)) || (decide (0 < i) && (decide ((gpr p i).gap < -(gpr p i).long) || decide ((gpr p i).gap < -(gpr p (i - 1)).long))) || (decide (1 < i) && decide (bgN p i < enN p (i - 1))))
structure POk (l : List Tk) (p : List Pr) : Prop where
 ct : ctE l = 0
 le : p.length ≤ 32
 pr : ∀ i, i < p.length → prB l (gpr p i) = true
 pl : ∀ i, i < p.length → plB p i = true
 en : enN p p.length ≤ 4096
theorem gtk_mem {p : List Tk} {i : Nat} (h : i < p.length) : gtk p i ∈ p := by
 rw [gtk, List.getD_eq_getElem?_getD, List.getElem?_eq_getElem h]
 exact List.getElem_mem _
theorem prB_ok {l : List Tk} {x : Pr} (h : prB l x = true) : 0 ≤ x.tk ∧ x.tk < l.length ∧ 0 ≤ x.fr ∧ x.fr < x.to ∧ x.to ≤ (gtk l x.tk.toNat).2.length ∧ -4096 ≤ x.gap ∧ x.gap ≤ 4096 ∧ 0 ≤ x.inn ∧ x.inn ≤ 1000 ∧ 0 ≤ x.out ∧ x.out ≤ 1000 ∧ 0 ≤ x.lev ∧ x.lev ≤ 4000 := of_decide_eq_true h
theorem ctE_tk {l : List Tk} (h : ctE l = 0) {i : Nat} (hi : i < l.length) : nmB (gtk l i).1 = true ∧ 1 ≤ (gtk l i).2.length ∧ (gtk l i).2.length ≤ 4096 ∧ (gtk l i).2.all sE = true := by
 unfold ctE at h
 split at h
 ·
  omega
 ·
  split at h
  ·
   omega
  ·
   rename_i h1
   split at h
   ·
    omega
   ·
    rename_i h2
    have a1 : ¬ 4096 < (gtk l i).2.length := fun h3 => h1 (List.any_eq_true.2 ⟨_, gtk_mem hi, by simpa using h3⟩)
    have a2 : tkBad (gtk l i) = false := by
     cases h3 : tkBad (gtk l i) with
     | false => rfl
     | true => exact absurd (List.any_eq_true.2 ⟨_, gtk_mem hi, h3⟩) h2
    simp only [tkBad, Bool.or_eq_false_iff, Bool.not_eq_false', decide_eq_false_iff_not] at a2
    exact ⟨a2.1.1, by omega, by omega, a2.2⟩
def loud (s : Int) (x : Pr) (k : Int) : Int := (s * x.lev * min (k + 1) (x.inn + 1) * min (x.long - k) (x.out + 1)).tdiv (1000 * (x.inn + 1) * (x.out + 1))
def snd (l : List Tk) (x : Pr) (k : Int) : Pt := (loud (gp (gtk l x.tk.toNat).2 (x.fr + k).toNat).1 x k, loud (gp (gtk l x.tk.toNat).2 (x.fr + k).toNat).2 x k)
end Go.Proofs.YtffggfnomhhckaaGreatDoor

namespace Go.Proofs.YtffggfnomhhckaaGreatDoor
open Go.Ab Go.RowKit Go.Dw Go.Shelf
abbrev Fm := List UInt8 × Int × Int × Int × Int × Int × Int × Int
def Fm.ou (f : Fm) : Int := f.2.1
def Fm.inn (f : Fm) : Int := f.2.2.1
def Fm.per (f : Fm) : Int := f.2.2.2.1
def Fm.lead (f : Fm) : Int := f.2.2.2.2.1
def Fm.gap (f : Fm) : Int := f.2.2.2.2.2.1
def Fm.tail (f : Fm) : Int := f.2.2.2.2.2.2.1
def Fm.cost (f : Fm) : Int := f.2.2.2.2.2.2.2
def Fm.c (f : Fm) : List V := [nmV f.1, .i f.ou, .i f.inn, .i f.per, .i f.lead, .i f.gap, .i f.tail, .i f.cost]
def gfm (l : List Fm) (k : Nat) : Fm := l.getD k ([], 0, 0, 0, 0, 0, 0, 0)
def V.fms (l : List Fm) : V := .sl 8 l.length fun k => (gfm l k).c
abbrev Tr := Int × Int × Int
def Tr.c (t : Tr) : List V := [.i t.1, .i t.2.1, .i t.2.2]
def gtr (l : List Tr) (k : Nat) : Tr := l.getD k (0, 0, 0)
def V.trs (l : List Tr) : V := .sl 3 l.length fun k => (gtr l k).c
def fmB (f : Fm) : Bool := nmB f.1 && (betB f.ou 0 4194304 && (betB f.inn 0 (f.ou - 1) && (betB f.per 1 65536 && (betB f.lead 0 4194304 && (betB f.gap 0 4194304 && (betB f.tail 0 4194304 && betB f.cost 0 1048576))))))
structure Fm.ok (f : Fm) : Prop where
 nm : nmB f.1 = true
 ou : 1 ≤ f.ou ∧ f.ou ≤ 4194304
 inn : 0 ≤ f.inn ∧ f.inn ≤ f.ou - 1
 per : 1 ≤ f.per ∧ f.per ≤ 65536
 lead : 0 ≤ f.lead ∧ f.lead ≤ 4194304
 gap : 0 ≤ f.gap ∧ f.gap ≤ 4194304
 tail : 0 ≤ f.tail ∧ f.tail ≤ 4194304
 cost : 0 ≤ f.cost ∧ f.cost ≤ 1048576
theorem fmB_ok {f : Fm} (h : fmB f = true) : f.ok := by
 simp only [fmB, betB, Bool.and_eq_true, decide_eq_true_eq] at h
 obtain ⟨h1, h2, h3, h4, h5, h6, h7, h8⟩ := h
 exact ⟨h1, by omega, h3, h4, h5, h6, h7, h8⟩
def trB (t : Tr) : Bool := betB t.1 1 16777216 && (betB t.2.1 1 4096 && betB t.2.2 0 4194304)
theorem trB_ok {t : Tr} (h : trB t = true) : (1 ≤ t.1 ∧ t.1 ≤ 16777216) ∧ (1 ≤ t.2.1 ∧ t.2.1 ≤ 4096) ∧ 0 ≤ t.2.2 ∧ t.2.2 ≤ 4194304 := by
 simp only [trB, betB, Bool.and_eq_true, decide_eq_true_eq] at h
 exact h
def widI (f : Fm) (t : Tr) : Int := t.2.1 * (t.1 + f.per - 1).tdiv f.per
theorem tdiv_bd {x p : Int} (hx : 0 ≤ x) (hp : 1 ≤ p) : 0 ≤ x.tdiv p ∧ x.tdiv p ≤ x := by
 rw [Int.tdiv_eq_ediv_of_nonneg hx]
 exact ⟨Int.ediv_nonneg hx oM, Int.ediv_le_self _ hx⟩
theorem widI_bd {f : Fm} {t : Tr} (hf : f.ok) (ht : trB t = true) : 0 ≤ (t.1 + f.per - 1).tdiv f.per ∧ (t.1 + f.per - 1).tdiv f.per ≤ 16842752 ∧ 0 ≤ widI f t ∧ widI f t ≤ 68987912192 := by
 obtain ⟨h1, h2, _⟩ := trB_ok ht
 obtain ⟨p1, p2⟩ := hf.per
 have h := tdiv_bd (x := t.1 + f.per - 1) oM p1
 have h3 : (t.1 + f.per - 1).tdiv f.per ≤ 16842752 := by omega
 refine ⟨h.1, h3, Int.mul_nonneg oM h.1, ?_⟩
 have := Int.mul_le_mul h2.2 h3 h.1 (by decide)
 unfold widI
 omega
def bTo (f : Fm) (t : Nat → Tr) : Nat → Int
 | 0 => f.ou - f.lead
 | k + 1 => bTo f t k - (if k = 0 then 0 else f.gap) - widI f (t k)
def bFr (f : Fm) (t : Nat → Tr) (k : Nat) : Int := bTo f t k - (if k = 0 then 0 else f.gap)
theorem bTo_succ (f : Fm) (t : Nat → Tr) (k : Nat) : bTo f t (k + 1) = bFr f t k - widI f (t k) := rfl
theorem bTo_bd {f : Fm} {t : Nat → Tr} (hf : f.ok) : ∀ n, n ≤ 64 → (∀ k, k < n → trB (t k) = true) → -4194304 - 73000000000 * (n : Int) ≤ bTo f t n ∧ bTo f t n ≤ 4194304
 | 0, _, _ => by
  have := hf.ou; have := hf.lead
  simp only [bTo]; omega
 | n + 1, hn, h => by
  have ih := bTo_bd hf n oM fun k hk => h k oM
  have w := (widI_bd hf (h n oM)).2.2
  have := hf.gap
  simp only [bTo]
  split <;> omega
theorem bTo_ext {f : Fm} {t t' : Nat → Tr} : ∀ n, (∀ k, k < n → t k = t' k) → bTo f t n = bTo f t' n
 | 0, _ => rfl
 | n + 1, h => by rw [bTo, bTo, bTo_ext n fun k hk => h k oM, h n oM]
def psB (f : Fm) (t : Nat → Tr) (n : Nat) : Bool := (List.range n).all (fun k => decide ((t k).2.2 ≤ bTo f t (k + 1))) && decide (f.inn ≤ bTo f t n - f.tail)
theorem psB_iff {f : Fm} {t : Nat → Tr} {n : Nat} : psB f t n = true ↔ (∀ k, k < n → (t k).2.2 ≤ bTo f t (k + 1)) ∧ f.inn ≤ bTo f t n - f.tail := by
 simp [psB]
theorem psB_ext {f : Fm} {t t' : Nat → Tr} {n : Nat} (h : ∀ k, k < n → t k = t' k) : psB f t n = psB f t' n := by
 have e : ∀ x y : Bool, (x = true ↔ y = true) → x = y := by decide
 refine e _ _ ?_
 rw [psB_iff, psB_iff, bTo_ext n h]
 constructor
 ·
  rintro ⟨h1, h2⟩
  exact ⟨fun k hk => by rw [← h k hk, ← bTo_ext (k + 1) fun j hj => h j oM]; exact h1 k hk, h2⟩
 ·
  rintro ⟨h1, h2⟩
  exact ⟨fun k hk => by rw [h k hk, bTo_ext (k + 1) fun j hj => h j oM]; exact h1 k hk, h2⟩
def plC4 (f : Fm) (l : List Tr) : List V := f.c ++ [V.trs l]
def trO (l : List Tr) (o : List Int) (k : Nat) : Tr := gtr l (gi o k).toNat
def bndC (f : Fm) (l : List Tr) (o : List Int) (k : Nat) : List V := [.i (gi o k), .i (bFr f (trO l o) k), .i (bTo f (trO l o) (k + 1))]
def V.bnds (f : Fm) (l : List Tr) (o : List Int) : V := .sl 3 o.length (bndC f l o)
end Go.Proofs.YtffggfnomhhckaaGreatDoor

namespace Go.Proofs.YtffggfnomhhckaaGreatDoor
open Go.Ab Go.RowKit Go.Dw Go.Shelf
def twN (p : Nat → Bool) : Nat → Nat
 | 0 => 0
 | n + 1 => if twN p n = n ∧ p n = true then n + 1 else twN p n
theorem twN_le (p : Nat → Bool) : ∀ n, twN p n ≤ n
 | 0 => Nat.le_refl _
 | n + 1 => by
  have := twN_le p n
  rw [twN]; split <;> omega
theorem twN_all (p : Nat → Bool) : ∀ n m, m < twN p n → p m = true
 | 0, m, h => by simp [twN] at h
 | n + 1, m, h => by
  rw [twN] at h
  split at h
  ·
   rename_i h1
   by_cases e : m = n
   ·
    rw [e]; exact h1.2
   ·
    exact twN_all p n m oM
  ·
   exact twN_all p n m h
theorem twN_end (p : Nat → Bool) : ∀ n, twN p n < n → p (twN p n) = false
 | 0, h => by simp at h
 | n + 1, h => by
  rw [twN] at h ⊢
  split
  ·
   rename_i h1
   rw [if_pos h1] at h
   omega
  ·
   rename_i h1
   by_cases e : twN p n = n
   ·
    rw [e]
    cases hp : p n with
    | false => rfl
    | true => exact absurd ⟨e, hp⟩ h1
   ·
    exact twN_end p n (by have := twN_le p n; omega)
theorem twN_is {p : Nat → Bool} {n m : Nat} (h1 : m ≤ n) (h2 : ∀ k, k < m → p k = true) (h3 : m < n → p m = false) : twN p n = m := by
 have a := twN_le p n
 rcases Nat.lt_trichotomy (twN p n) m with h | h | h
 ·
  have := twN_end p n oM
  rw [h2 _ h] at this; cases this
 ·
  exact h
 ·
  have := twN_all p n m h
  rw [h3 oM] at this; cases this
def sh (l : List Tr) (i m : Nat) : Tr := gtr l (i + m)
def faK (fs : List Fm) (l : List Tr) (i k : Nat) : List (Nat × Nat) := (List.range (twN (fun m => psB (gfm fs k) (sh l i) (m + 1)) (l.length - i))).map fun m => (k, m + 1)
def faN (fs : List Fm) (l : List Tr) (i n : Nat) : List (Nat × Nat) := (List.range n).flatMap (faK fs l i)
def facesL (fs : List Fm) (l : List Tr) (i : Nat) : List (Nat × Nat) := faN fs l i fs.length
theorem faN_succ (fs : List Fm) (l : List Tr) (i n : Nat) : faN fs l i (n + 1) = faN fs l i n ++ faK fs l i n := by
 simp [faN, List.range_succ]
theorem faN_pre {fs : List Fm} {l : List Tr} {i k : Nat} : ∀ {n}, k < n → ∃ r, faN fs l i n = faN fs l i k ++ (faK fs l i k ++ r)
 | 0, h => by omega
 | n + 1, h => by
  by_cases e : k = n
  ·
   exact ⟨[], by rw [e, faN_succ]; simp⟩
  ·
   obtain ⟨r, hr⟩ := faN_pre (fs := fs) (l := l) (i := i) (k := k) (n := n) oM
   exact ⟨r ++ faK fs l i n, by rw [faN_succ, hr]; simp⟩
theorem faK_len (fs : List Fm) (l : List Tr) (i k : Nat) : (faK fs l i k).length = twN (fun m => psB (gfm fs k) (sh l i) (m + 1)) (l.length - i) := by simp [faK]
theorem faces_get {fs : List Fm} {l : List Tr} {i k m : Nat} (hk : k < fs.length) (hm : m < (faK fs l i k).length) : (facesL fs l i)[(faN fs l i k).length + m]? = some (k, m + 1) := by
 obtain ⟨r, hr⟩ := faN_pre (fs := fs) (l := l) (i := i) hk
 rw [facesL, hr, List.getElem?_append_right oM, Nat.add_sub_cancel_left, List.getElem?_append_left hm]
 rw [faK_len] at hm
 simp [faK, hm]
theorem faces_len {fs : List Fm} {l : List Tr} {i k m : Nat} (hk : k < fs.length) (hm : m < (faK fs l i k).length) : (faN fs l i k).length + m < (facesL fs l i).length := (List.getElem?_eq_some_iff.1 (faces_get hk hm)).1
theorem faces_mem {fs : List Fm} {l : List Tr} {i : Nat} {x : Nat × Nat} (h : x ∈ facesL fs l i) : x.1 < fs.length ∧ 1 ≤ x.2 ∧ i + x.2 ≤ l.length ∧ psB (gfm fs x.1) (sh l i) x.2 = true := by
 simp only [facesL, faN, faK, List.mem_flatMap, List.mem_range, List.mem_map] at h
 obtain ⟨k, hk, m, hm, rfl⟩ := h
 have h1 := twN_le (fun m => psB (gfm fs k) (sh l i) (m + 1)) (l.length - i)
 have h2 := twN_all _ _ _ hm
 exact ⟨hk, by simp, by simp only; omega, h2⟩
abbrev Wo := Nat → Int × Int
def noneW : Int × Int := (-1, 0)
def lessW (w v : Int × Int) : Bool := if v = noneW ∨ w = noneW then decide (w ≠ noneW) else decide (w.1 < v.1) || (decide (w.1 = v.1) && decide (w.2 < v.2))
structure BB where
 w : Wo
 f : Wo
def newW (fs : List Fm) (s : BB) (i : Nat) (x : Nat × Nat) : Int × Int := ((s.w (i + x.2)).1 + (gfm fs x.1).cost, (s.w (i + x.2)).2 + 1)
def stepB (fs : List Fm) (i : Nat) (s : BB) (x : Nat × Nat) : BB :=
 if s.w (i + x.2) = noneW then s else if lessW (newW fs s i x) (s.w i) then ⟨upd s.w i (newW fs s i x), upd s.f i ((x.1 : Int), (x.2 : Int))⟩ else s
def foldB (fs : List Fm) (i : Nat) (s : BB) (L : List (Nat × Nat)) : BB := L.foldl (stepB fs i) s
theorem foldB_snoc (fs : List Fm) (i : Nat) (s : BB) (L : List (Nat × Nat)) (x : Nat × Nat) : foldB fs i s (L ++ [x]) = stepB fs i (foldB fs i s L) x := by simp [foldB]
theorem foldB_take {fs : List Fm} {i : Nat} {s : BB} {L : List (Nat × Nat)} {k : Nat} {x : Nat × Nat} (h : L[k]? = some x) : foldB fs i s (L.take (k + 1)) = stepB fs i (foldB fs i s (L.take k)) x := by
 rw [List.take_add_one, h]
 exact foldB_snoc _ _ _ _ _
def bestS (fs : List Fm) (l : List Tr) : Nat → BB
 | 0 => ⟨fun _ => (0, 0), fun _ => (0, 0)⟩
 | n + 1 => foldB fs (l.length - 1 - n) ⟨upd (bestS fs l n).w (l.length - 1 - n) noneW, (bestS fs l n).f⟩ (facesL fs l (l.length - 1 - n))
structure FaOk (fs : List Fm) (l : List Tr) (i : Nat) (x : Nat × Nat) : Prop where
 k : x.1 < fs.length
 m : 1 ≤ x.2
 e : i + x.2 ≤ l.length
 p : psB (gfm fs x.1) (sh l i) x.2 = true
structure StOk (fs : List Fm) (l : List Tr) (i : Nat) (s0 s : BB) : Prop where
 w : ∀ j, j ≠ i → s.w j = s0.w j
 f : ∀ j, j ≠ i → s.f j = s0.f j
 g : s.w i ≠ noneW → ∃ x, FaOk fs l i x ∧ s.f i = ((x.1 : Int), (x.2 : Int)) ∧ s.w (i + x.2) ≠ noneW
theorem step_ok {fs : List Fm} {l : List Tr} {i : Nat} {s0 s : BB} {x : Nat × Nat} (h : StOk fs l i s0 s) (hx : FaOk fs l i x) : StOk fs l i s0 (stepB fs i s x) := by
 have hm := hx.m
 unfold stepB
 split
 ·
  exact h
 ·
  rename_i h1
  split
  ·
   refine ⟨fun j hj => by simp only [upd_ne _ _ hj]; exact h.w j hj, fun j hj => by simp only [upd_ne _ _ hj]; exact h.f j hj, fun _ => ⟨x, hx, by simp only [upd_same], ?_⟩⟩
   simp only
   rw [upd_ne _ _ oM]
   exact h1
  ·
   exact h
theorem fold_ok {fs : List Fm} {l : List Tr} {i : Nat} {s0 : BB} (h0 : s0.w i = noneW) (L : List (Nat × Nat)) (hL : ∀ x ∈ L, FaOk fs l i x) : StOk fs l i s0 (foldB fs i s0 L) := by
 have key : ∀ (L : List (Nat × Nat)) (s : BB), (∀ x ∈ L, FaOk fs l i x) → StOk fs l i s0 s → StOk fs l i s0 (foldB fs i s L) := by
  intro L
  induction L with
  | nil => intro s _ h; exact h
  | cons x L ih => intro s hL h; exact ih _ (fun y hy => hL y (by simp [hy])) (step_ok h (hL x (by simp)))
 exact key L s0 hL ⟨fun _ _ => rfl, fun _ _ => rfl, fun h => absurd h0 h⟩
theorem faces_ok {fs : List Fm} {l : List Tr} {i : Nat} : ∀ x ∈ facesL fs l i, FaOk fs l i x := fun x hx => by
 obtain ⟨h1, h2, h3, h4⟩ := faces_mem hx
 exact ⟨h1, h2, h3, h4⟩
structure BOk4 (fs : List Fm) (l : List Tr) (n : Nat) (s : BB) : Prop where
 last : s.w l.length = (0, 0)
 g : ∀ i, l.length - n ≤ i → i < l.length → s.w i ≠ noneW → ∃ x, FaOk fs l i x ∧ s.f i = ((x.1 : Int), (x.2 : Int)) ∧ s.w (i + x.2) ≠ noneW
theorem best_ok {fs : List Fm} {l : List Tr} : ∀ n, n ≤ l.length → BOk4 fs l n (bestS fs l n)
 | 0, _ => ⟨rfl, fun i h1 h2 => by omega⟩
 | n + 1, hn => by
  have ih := best_ok (fs := fs) (l := l) n oM
  have S := fold_ok (fs := fs) (l := l) (i := l.length - 1 - n) (s0 := ⟨upd (bestS fs l n).w (l.length - 1 - n) noneW, (bestS fs l n).f⟩) (upd_same _ _ _) _ faces_ok
  refine ⟨?_, fun i h1 h2 hw => ?_⟩
  ·
   have := S.w l.length oM
   dsimp only at this
   rw [upd_ne _ _ oM, ih.last] at this
   exact this
  ·
   by_cases e : i = l.length - 1 - n
   ·
    subst e
    exact S.g hw
   ·
    have e1 := S.w i e
    have e2 := S.f i e
    simp only at e1 e2
    rw [upd_ne _ _ e] at e1
    obtain ⟨x, hx, hf, hg⟩ := ih.g i oM h2 (by rw [← e1]; exact hw)
    refine ⟨x, hx, e2.trans hf, ?_⟩
    have e3 := S.w (i + x.2) oM
    simp only at e3
    rw [upd_ne _ _ oM] at e3
    show (foldB _ _ _ _).w _ ≠ _
    rw [e3]; exact hg
def BdW (c : Int) (w : Wo) : Prop := ∀ i, -1 ≤ (w i).1 ∧ (w i).1 ≤ 1048576 * c ∧ 0 ≤ (w i).2 ∧ (w i).2 ≤ c
end Go.Proofs.YtffggfnomhhckaaGreatDoor

namespace Go.Proofs.YtffggfnomhhckaaGreatDoor
open Go.Ab Go.RowKit Go.Dw Go.Shelf
structure PV (l : List Tk) (p : List Pr) : Prop where
 ct : ctE l = 0
 le : p.length ≤ 32
 pr : ∀ i, i < p.length → prB l (gpr p i) = true
theorem PV.at {l : List Tk} {p : List Pr} (h : PV l p) {i : Nat} (hi : i < p.length) : (1 ≤ (gpr p i).long ∧ (gpr p i).long ≤ 4096) ∧ (-4096 ≤ (gpr p i).gap ∧ (gpr p i).gap ≤ 4096) ∧ (0 ≤ (gpr p i).fr ∧ (gpr p i).fr ≤ 4096) ∧ 0 ≤ (gpr p i).to ∧ (gpr p i).to ≤ 4096 := by
 have h1 := prB_ok (h.pr i hi)
 have h2 : (gpr p i).tk.toNat < l.length := by omega
 have h3 := (ctE_tk h.ct h2).2.2.1
 unfold Pr.long
 omega
theorem PV.any {l : List Tk} {p : List Pr} (h : PV l p) (i : Nat) : (-1000000 ≤ (gpr p i).to ∧ (gpr p i).to ≤ 1000000) ∧ (-1000000 ≤ (gpr p i).fr ∧ (gpr p i).fr ≤ 1000000) ∧ -1000000 ≤ (gpr p i).long ∧ (gpr p i).long ≤ 1000000 := by
 by_cases hi : i < p.length
 ·
  have := h.at hi
  omega
 ·
  have e : gpr p i = (0, 0, 0, 0, 0, 0, 0) := by rw [gpr, List.getD_eq_getElem?_getD, List.getElem?_eq_none oM]; rfl
  rw [e]
  exact ⟨⟨by decide, by decide⟩, ⟨by decide, by decide⟩, by decide, by decide⟩
theorem PV.en {l : List Tk} {p : List Pr} (h : PV l p) : ∀ i, i ≤ p.length → -8192 * (i : Int) ≤ enN p i ∧ enN p i ≤ 8192 * i
 | 0, _ => by simp [enN]
 | i + 1, hi => by
  have := h.en i oM
  have h1 := h.at (i := i) oM
  rw [enN]
  omega
end Go.Proofs.YtffggfnomhhckaaGreatDoor

namespace Go.Proofs.YtffggfnomhhckaaGreatDoor
open Go.Ab Go.RowKit Go.Dw Go.Shelf
theorem plB_ok {p : List Pr} {i : Nat} (h : plB p i = true) : (i = 0 → 0 ≤ bgN p i) ∧ (0 < i → -(gpr p i).long ≤ (gpr p i).gap ∧ -(gpr p (i - 1)).long ≤ (gpr p i).gap) ∧ (1 < i → enN p (i - 1) ≤ bgN p i) := by
 simp only [plB, Bool.not_eq_true', Bool.or_eq_false_iff, Bool.and_eq_false_iff, decide_eq_false_iff_not] at h
 obtain ⟨⟨h1, h2⟩, h3⟩ := h
 refine ⟨fun e => ?_, fun e => ?_, fun e => ?_⟩
 ·
  rcases h1 with h1 | h1
  ·
   exact absurd e h1
  ·
   omega
 ·
  rcases h2 with h2 | ⟨h2, h4⟩
  ·
   exact absurd e h2
  ·
   omega
 ·
  rcases h3 with h3 | h3
  ·
   exact absurd e h3
  ·
   omega
theorem POk.long {l : List Tk} {p : List Pr} (h : POk l p) {i : Nat} (hi : i < p.length) : 1 ≤ (gpr p i).long := by
 have := prB_ok (h.pr i hi)
 unfold Pr.long
 omega
theorem POk.step {l : List Tk} {p : List Pr} (h : POk l p) {i : Nat} (hi : i < p.length) : enN p i ≤ enN p (i + 1) := by
 have h1 := h.long hi
 obtain ⟨a, b, _⟩ := plB_ok (h.pl i hi)
 rw [enN_succ]
 by_cases e : i = 0
 ·
  have := a e
  subst e
  simp only [enN]
  omega
 ·
  have := b oM
  unfold bgN
  omega
theorem POk.mono {l : List Tk} {p : List Pr} (h : POk l p) {i k : Nat} (hik : i ≤ k) (hk : k ≤ p.length) : enN p i ≤ enN p k := by
 induction k with
 | zero => rw [show i = 0 by omega]; exact Int.le_refl _
 | succ k ih =>
  by_cases e : i = k + 1
  ·
   rw [e]; exact Int.le_refl _
  ·
   have := ih oM oM
   have := h.step (i := k) oM
   omega
end Go.Proofs.YtffggfnomhhckaaGreatDoor

namespace Go.Proofs.YtffggfnomhhckaaGreatDoor
open Go.Ab Go.RowKit Go.Dw Go.Shelf
end Go.Proofs.YtffggfnomhhckaaGreatDoor
