/-
  Several texts in one: What a tip reads and sweeps: the exported Read and Sweep. No condition but the sizes of slices. .. 'sharper': the tip that it returns, what it is, and what it reads. No condition but the sizes of slices.
-/
import Derived.Deep.RegionHeld3
import Derived.Deep.DeepCutAuto
import Derived.Test.YtepkjobndmmejaaGreatDoorX03
import Derived.Test.YtepkjobndmmejaaGreatDoorAbs42
import Derived.Test.YtepkjobndmmejaaGreatDoorMC
namespace Go.Proofs.YtepkjobndmmejaaGreatDoor
open Go.RowKit Go.Dw Go.Shelf
def checkBoth (t : List Int) (l : List Pt) : Int := if checkTip t = 0 then checkPts l else checkTip t
theorem check_calls (A : Option Addr) (n c : Nat) (t : List Int) (B : Option Addr) (m d : Nat) (l : List Pt) (w : World) (ht : IntsAt w A n t) (hn : n ≤ 4611686018427387904) (hl : PtsAt w B m l) (hm : m ≤ 4611686018427387904) :
  Calls Tryz.prog 37 #[.agg #[.slice A n c], .slice B m d] w fun e w' => e = .returned (.int .i64 (checkBoth t l)) ∧ Below w.heap.size w w' := by
 have hb0 := below_new w (.cells #[.slice A n c] 27)
 go_enter Tryz.func37, Tryz.ntmps37
 go_wp2_with fail
 generalize w.alloc (.cells #[.slice A n c] 27) = w0 at *
 refine (checkTip_calls A n c t w0 (ht.below' hb0) hn).mono ?_
 rintro e w1 ⟨rfl, hw1⟩
 have hb1 := hb0.trans (hw1.mono hb0.size)
 by_cases h0 : checkTip t = 0
 ·
  have e0 : checkBoth t l = checkPts l := by simp [checkBoth, h0]
  have E0 := Lib.hid e0
  clear e0
  rw [h0]
  go_wp2_with fail
  refine (checkPts_calls B m d l w1 (hl.below' hb1) hm).mono ?_
  rintro e w2 ⟨rfl, hw2⟩
  go_wp2
  go_ret
  exact ⟨ret_int (by rw [E0.out]), hb1.trans (hw2.mono hb1.size)⟩
 ·
  have e0 : checkBoth t l = checkTip t := by simp [checkBoth, h0]
  have E0 := Lib.hid e0
  clear e0
  have d0 : (checkTip t != 0) = true := by simpa using h0
  go_wp2
  go_ret
  exact ⟨ret_int (by rw [E0.out]), hb1⟩
theorem foldB_bound (down : Bool) (lo hi : Int) : ∀ (vs : List Int) (f : Int), lo ≤ f → f ≤ hi → (∀ v ∈ vs, if down then v ≤ hi else lo ≤ v) → lo ≤ foldB down f vs ∧ foldB down f vs ≤ hi
 | [], f, h1, h2, _ => ⟨h1, h2⟩
 | v :: vs, f, h1, h2, h3 => by
  have hv := h3 v (by simp)
  refine foldB_bound down lo hi vs (pickB down v f) ?_ ?_ (fun x hx => h3 x (by simp [hx]))
  ·
   cases down <;> simp [pickB] at hv ⊢ <;> omega
  ·
   cases down <;> simp [pickB] at hv ⊢ <;> omega
theorem near_lt {i n r k : Nat} (hk : k < nearN i n r) : nearLo i r + k < n ∧ dist (nearLo i r + k) i < r := by
 unfold nearN nearLo dist at *; omega
theorem walkAt_bound (t h : List Int) (down : Bool) (i : Nat) (lo hi : Int) (hi' : i < h.length) (hh : ∀ x ∈ h, lo ≤ x ∧ x ≤ hi) (ht : ∀ x ∈ t, 0 ≤ x) : lo ≤ walkAt t h down i ∧ walkAt t h down i ≤ hi := by
 have h0 := (forall_gi.1 hh) i hi'
 refine foldB_bound down lo hi _ _ h0.1 h0.2 ?_
 intro v hv
 simp only [List.mem_map, List.mem_range] at hv
 obtain ⟨k, hk, rfl⟩ := hv
 obtain ⟨k1, k2⟩ := near_lt hk
 have h1 := (forall_gi.1 hh) _ k1
 have h2 := (forall_gi (p := fun x => 0 ≤ x) |>.1 ht) _ k2
 cases down <;> simp <;> omega
theorem walkL_bound (t h : List Int) (down : Bool) (lo hi : Int) (hh : ∀ x ∈ h, lo ≤ x ∧ x ≤ hi) (ht : ∀ x ∈ t, 0 ≤ x) : ∀ x ∈ walkL t h down, lo ≤ x ∧ x ≤ hi := by
 intro x hx
 simp only [walkL, List.mem_map, List.mem_range] at hx
 obtain ⟨i, hi', rfl⟩ := hx
 exact walkAt_bound t h down i lo hi hi' hh ht
theorem ofE_bound {l : List Pt} (hl : ∀ p ∈ l, -4194304 ≤ p.1 ∧ p.1 ≤ 4194304 ∧ -4194304 ≤ p.2 ∧ p.2 ≤ 4194304) (inn : Bool) : ∀ x ∈ l.map (ofE inn), -4194304 ≤ x ∧ x ≤ 4194304 := by
 intro x hx
 obtain ⟨p, hp, rfl⟩ := List.mem_map.1 hx
 have := hl p hp
 cases inn <;> simp [ofE] <;> omega
def readT (t h : List Int) : List Int := walkL t h false
def readP (t : List Int) (l : List Pt) : List Pt := wallsT (readT t) l
set_option maxHeartbeats 1000000 in
theorem thr_read (g : Nat) (At : Option Addr) (r ct n : Nat) (t h : List Int) (w : World) (hb : Box w g 27 #[.slice At r ct]) (ht : IntsAt w At r t) (hn : n ≤ 65536) (hr : r ≤ 65536)
  (hhb : ∀ x ∈ h, -4194304 ≤ x ∧ x ≤ 4194304) (htb : ∀ x ∈ t, 0 ≤ x ∧ x ≤ 4194304) : Thr 70 #[.pointer (some ⟨g, 0, none⟩)] (readT t) n h w := by
 intro A c W hW hh
 have d1 : W.cell? ⟨g, 0, none⟩ = some (.slice At r ct) := (hb.below' hW).cell 0
 show Calls Tryz.prog 70 #[.slice A n c, .pointer (some ⟨g, 0, none⟩)] W _
 go_enter Tryz.func70, Tryz.ntmps70
 go_wp2_with fail
 refine (walk_calls At A r ct n c t h false W hn hr (ht.below' hW) hh (fun x hx => by have := hhb x hx; omega) (fun x hx => by have := htb x hx; omega)).mono ?_
 rintro e w' ⟨g', hg, rfl, hbg, hbw⟩
 go_wp2
 go_ret
 exact ⟨g', hg, rfl, hbg, hbw⟩
def wallsR (t : List Int) (l : List Pt) : List Pt := if checkBoth t l = 0 then readP t l else []
theorem checkBoth_ok {t : List Int} {l : List Pt} (h : checkBoth t l = 0) : checkTip t = 0 ∧ checkPts l = 0 := by
 unfold checkBoth at h
 by_cases h0 : checkTip t = 0
 ·
  rw [if_pos h0] at h; exact ⟨h0, h⟩
 ·
  rw [if_neg h0] at h; exact absurd h h0
set_option maxHeartbeats 1000000 in
theorem read_calls (A : Option Addr) (r c : Nat) (t : List Int) (B : Option Addr) (n d : Nat) (l : List Pt) (w : World) (ht : IntsAt w A r t) (hl : PtsAt w B n l) (h0 : checkBoth t l = 0) :
  Calls Tryz.prog 39 #[.agg #[.slice A r c], .slice B n d] w fun e w' => ∃ v, e = .returned v ∧ w'.ownsRow w.heap.size 81 2 v (readP t l).length ((readP t l).flatMap encP) ∧ Below w.heap.size w w' := by
 obtain ⟨k1, k2⟩ := checkBoth_ok h0
 obtain ⟨m1, m2, _, _, m3⟩ := checkTip_ok k1
 obtain ⟨m4, m5⟩ := checkPts_ok k2
 have hb0 := below_new w (.cells #[.slice A r c] 27)
 have hbx := Box.new w 27 #[.slice A r c]
 have q1 := hl.1
 have q2 := ht.1
 have e1 : (readP t l).length = n := by simp [readP, wallsT, wallsP, q1]
 have Q1 := Lib.hid q1
 have Q2 := Lib.hid q2
 have E1 := Lib.hid e1
 clear h0 k1 k2 e1
 go_enter Tryz.func39, Tryz.ntmps39
 go_wp2_with fail
 generalize w.alloc (.cells #[.slice A r c] 27) = w0 at *
 refine (walls_calls B n d l 70 _ (readT t) w0 (hl.below' hb0) (by omega) m5 (fun args w => enters_of Tryz.func70 (by kernel_rfl) rfl args w)
  (fun inn => thr_read _ A r c n t _ w0 hbx (ht.below' hb0) (by omega) (by omega) (ofE_bound m5 inn) m3) (fun inn => by simp [readT, walkL, Q1.out])
  (fun inn x hx => by have := walkL_bound t _ false _ _ (ofE_bound m5 inn) (fun y hy => (m3 y hy).1) x hx; omega)).mono ?_
 rintro e w1 ⟨v, rfl, hown, hb1⟩
 go_wp2
 go_ret
 exact ⟨v, rfl, by rw [E1.out]; exact ⟨hown.1, by
  rcases hown.2 with h | ⟨g, cap, cur, hv, hg, rest⟩
  ·
   exact .inl h
  ·
   exact .inr ⟨g, cap, cur, hv, by have := hb0.size; omega, rest⟩⟩, hb0.trans (hb1.mono hb0.size)⟩
set_option maxHeartbeats 1000000 in
theorem Read_calls (A : Option Addr) (r c : Nat) (t : List Int) (B : Option Addr) (n d : Nat) (l : List Pt) (w : World) (ht : IntsAt w A r t) (hl : PtsAt w B n l) (hr : r ≤ 4611686018427387904) (hn : n ≤ 4611686018427387904) :
  Calls Tryz.prog 27 #[.agg #[.slice A r c], .slice B n d] w fun e w' => ∃ v, e = .returned (.tuple #[v, .int .i64 (checkBoth t l)]) ∧ w'.ownsRow w.heap.size 81 2 v (wallsR t l).length ((wallsR t l).flatMap encP) ∧ Below w.heap.size w w' := by
 have hb0 := below_new w (.cells #[.slice A r c] 27)
 have hbx := Box.new w 27 #[.slice A r c]
 by_cases h0 : checkBoth t l = 0
 ·
  have e1 : wallsR t l = readP t l := by simp [wallsR, h0]
  have E1 := Lib.hid e1
  have H0 := Lib.hid h0
  clear e1 h0
  go_enter Tryz.func27, Tryz.ntmps27
  go_wp2_with fail
  generalize w.alloc (.cells #[.slice A r c] 27) = w0 at *
  refine (check_calls A r c t B n d l w0 (ht.below' hb0) hr (hl.below' hb0) hn).mono ?_
  rintro e w1 ⟨rfl, hw1⟩
  have hb1 := hb0.trans (hw1.mono hb0.size)
  have d1 : w1.cell? ⟨w.heap.size, 0, none⟩ = some (.slice A r c) := (hbx.below' hw1).cell 0
  rw [H0.out]
  go_wp2_with fail
  refine (read_calls A r c t B n d l w1 (ht.below' hb1) (hl.below' hb1) H0.out).mono ?_
  rintro e w2 ⟨v, rfl, hown, hw2⟩
  go_wp2
  go_ret2
  refine ⟨v, by rw [H0.out]; rfl, ?_, hb1.trans (hw2.mono hb1.size)⟩
  rw [E1.out]
  refine ⟨hown.1, ?_⟩
  rcases hown.2 with h | ⟨g, cap, cur, hv, hg, rest⟩
  ·
   exact .inl h
  ·
   exact .inr ⟨g, cap, cur, hv, by have := hb1.size; omega, rest⟩
 ·
  have d0 : (checkBoth t l != 0) = true := by simpa using h0
  have e1 : wallsR t l = [] := by simp [wallsR, h0]
  have E1 := Lib.hid e1
  clear e1
  go_enter Tryz.func27, Tryz.ntmps27
  go_wp2_with fail
  generalize w.alloc (.cells #[.slice A r c] 27) = w0 at *
  refine (check_calls A r c t B n d l w0 (ht.below' hb0) hr (hl.below' hb0) hn).mono ?_
  rintro e w1 ⟨rfl, hw1⟩
  go_wp2
  go_ret2
  exact ⟨_, rfl, by rw [E1.out]; exact World.ownsRow_nil _ _ _ _, hb0.trans (hw1.mono hb0.size)⟩
end Go.Proofs.YtepkjobndmmejaaGreatDoor

namespace Go.Proofs.YtepkjobndmmejaaGreatDoor
open Go.Ab Go.RowKit Go.Dw Go.Shelf
theorem find_first {p : Nat → Bool} {n k : Nat} (hk : k < n) (hp : p k = true) (h : ∀ j, j < k → p j = false) : (List.range n).find? p = some k := by
 rw [List.find?_range_eq_some]
 exact ⟨hp, by simpa using hk, fun j hj => by simp [h j hj]⟩
theorem find_none {p : Nat → Bool} {n : Nat} (h : ∀ j, j < n → p j = false) : (List.range n).find? p = none := by
 rw [List.find?_eq_none]
 intro x hx
 simp [h x (by simpa using hx)]
theorem gp_bd {l : List Pt} (h : ∀ p ∈ l, -4194304 ≤ p.1 ∧ p.1 ≤ 4194304 ∧ -4194304 ≤ p.2 ∧ p.2 ≤ 4194304) (k : Nat) : -4194304 ≤ (gp l k).1 ∧ (gp l k).1 ≤ 4194304 ∧ -4194304 ≤ (gp l k).2 ∧ (gp l k).2 ≤ 4194304 := by
 by_cases hk : k < l.length
 ·
  exact h _ (gp_mem hk)
 ·
  simp [gp, List.getD_eq_getElem?_getD, List.getElem?_eq_none (Nat.le_of_not_lt hk)]
end Go.Proofs.YtepkjobndmmejaaGreatDoor

namespace Go.Proofs.YtepkjobndmmejaaGreatDoor
open Go.RowKit Go.Dw Go.Shelf
def bendAt (l : List Pt) (i : Nat) : Int := (gp l (i - 1)).1 + (gp l (i - 1)).2 + (gp l (i + 1)).1 + (gp l (i + 1)).2 - 2 * ((gp l i).1 + (gp l i).2)
def bendsTo (l : List Pt) (k : Nat) : List Int := (List.range k).map fun i => bendAt l (i + 1)
def bendsL (l : List Pt) : List Int := bendsTo l (l.length - 2)
theorem bendsTo_succ (l : List Pt) (k : Nat) : bendsTo l (k + 1) = bendsTo l k ++ [bendAt l (k + 1)] := by simp [bendsTo, List.range_succ]
set_option maxRecDepth 100000 in
set_option maxHeartbeats 1000000 in
theorem bends_calls (A : Option Addr) (n c : Nat) (l : List Pt) (w : World) (hl : PtsAt w A n l) (hn : n ≤ 4096) (hlb : ∀ p ∈ l, -4194304 ≤ p.1 ∧ p.1 ≤ 4194304 ∧ -4194304 ≤ p.2 ∧ p.2 ≤ 4194304) :
  Calls Tryz.prog 49 #[.slice A n c] w fun e w' => ∃ v, e = .returned v ∧ w'.ownsRow w.heap.size 2 1 v (n - 2) ((bendsL l).flatMap encI) ∧ Below w.heap.size w w' := by
 obtain ⟨i0, hel⟩ := el_i64
 have Hl := Lib.hid hl.1
 go_enter Tryz.func49, Tryz.ntmps49
 go_wp2
 go_loopw [3, 4] (fun v i wr => ∃ k : Nat, k ≤ n - 2 ∧ i = .int .i64 ((k : Int) + 1) ∧ wr.ownsRow w.heap.size 2 1 v k ((bendsTo l k).flatMap encI) ∧ Below w.heap.size w wr) (fun _ i _ => n - (intOf i).toNat)
 case atStart => exact ⟨0, Nat.zero_le _, rfl, World.ownsRow_nil _ _ _ _, Below.refl _ _⟩
 case round =>
  obtain ⟨k, hk, rfl, hown, hbl⟩ := hrel
  by_cases hlt : k + 2 < n
  ·
   obtain ⟨b, o, rfl, hb, p0, p1⟩ := pts_at (hl.below' hbl) (show k < n by omega)
   obtain ⟨b', o', hA, _, p2, p3⟩ := pts_at (hl.below' hbl) (show k + 1 < n by omega)
   injection hA with hA; injection hA with hA1 hA2; subst hA1 hA2
   obtain ⟨b', o', hA, _, p4, p5⟩ := pts_at (hl.below' hbl) hlt
   injection hA with hA; injection hA with hA1 hA2; subst hA1 hA2
   have q0 := (forall_gp.1 hlb) k (by rw [Hl.out]; omega)
   have q1 := (forall_gp.1 hlb) (k + 1) (by rw [Hl.out]; omega)
   have q2 := (forall_gp.1 hlb) (k + 2) (by rw [Hl.out]; omega)
   have n1 : IntKind.i64.wrap ((k : Int) + 1 - 1) = (k : Int) := by rw [IntWalk.i64_in _ (by omega)]; omega
   have n2 : IntKind.i64.wrap ((k : Int) + 1 + 1) = (k : Int) + 2 := by rw [IntWalk.i64_in _ (by omega)]; omega
   have n1' : IntKind.i64.wrap (k : Int) = (k : Int) := IntWalk.i64_in _ (by omega)
   have n2' : IntKind.i64.wrap ((k : Int) + 2) = (k : Int) + 2 := IntWalk.i64_in _ (by omega)
   have n3 : ((k : Int) + 2).toNat = k + 2 := by omega
   have n4 : ((k : Int) + 1).toNat = k + 1 := by omega
   have n5 : (0 : Int) ≤ (k : Int) + 2 := by omega
   have n6 : (k : Int) + 2 < (n : Int) := by omega
   have n7 : (0 : Int) ≤ (k : Int) + 1 := by omega
   have n8 : (k : Int) + 1 < (n : Int) := by omega
   have n9 : (k : Int) < (n : Int) := by omega
   go_upto_region 5 with fail
   have sof : ∀ w', Below wr.heap.size wr w' → w'.cell? ⟨b, o + k * 2, none⟩ = some (.int .i64 (gp l k).1) ∧ w'.cell? ⟨b, o + k * 2 + 1, none⟩ = some (.int .i64 (gp l k).2) ∧ w'.cell? ⟨b, o + (k + 1) * 2, none⟩ = some (.int .i64 (gp l (k + 1)).1) ∧ w'.cell? ⟨b, o + (k + 1) * 2 + 1, none⟩ = some (.int .i64 (gp l (k + 1)).2) ∧ w'.cell? ⟨b, o + (k + 2) * 2, none⟩ = some (.int .i64 (gp l (k + 2)).1) ∧ w'.cell? ⟨b, o + (k + 2) * 2 + 1, none⟩ = some (.int .i64 (gp l (k + 2)).2) := fun w' hw =>
    ⟨(hw.cell (p := ⟨b, o + k * 2, none⟩) hb).trans p0, (hw.cell (p := ⟨b, o + k * 2 + 1, none⟩) hb).trans p1, (hw.cell (p := ⟨b, o + (k + 1) * 2, none⟩) hb).trans p2, (hw.cell (p := ⟨b, o + (k + 1) * 2 + 1, none⟩) hb).trans p3, (hw.cell (p := ⟨b, o + (k + 2) * 2, none⟩) hb).trans p4, (hw.cell (p := ⟨b, o + (k + 2) * 2 + 1, none⟩) hb).trans p5⟩
   have Sof := Lib.hid sof
   clear sof
   go_cut [5, 6, 7] (fun s5 s6 s7 wx => ∃ g5 g6 g7 : Nat, s5 = .pointer (some ⟨g5, 0, none⟩) ∧ s6 = .pointer (some ⟨g6, 0, none⟩) ∧ s7 = .pointer (some ⟨g7, 0, none⟩) ∧
    Box wx g5 81 #[.int .i64 (gp l k).1, .int .i64 (gp l k).2] ∧ Box wx g6 81 #[.int .i64 (gp l (k + 1)).1, .int .i64 (gp l (k + 1)).2] ∧ Box wx g7 81 #[.int .i64 (gp l (k + 2)).1, .int .i64 (gp l (k + 2)).2] ∧ Below wr.heap.size wr wx)
   case first =>
    go_region_held3 (fun w' => w'.cell? ⟨b, o + k * 2, none⟩ = some (.int .i64 (gp l k).1) ∧ w'.cell? ⟨b, o + k * 2 + 1, none⟩ = some (.int .i64 (gp l k).2) ∧ w'.cell? ⟨b, o + (k + 1) * 2, none⟩ = some (.int .i64 (gp l (k + 1)).1) ∧ w'.cell? ⟨b, o + (k + 1) * 2 + 1, none⟩ = some (.int .i64 (gp l (k + 1)).2) ∧ w'.cell? ⟨b, o + (k + 2) * 2, none⟩ = some (.int .i64 (gp l (k + 2)).1) ∧ w'.cell? ⟨b, o + (k + 2) * 2 + 1, none⟩ = some (.int .i64 (gp l (k + 2)).2))
     ((refine Sof.out _ ?_; repeat (first | exact Below.refl _ _ | apply Below.drew | (refine Below.alloc ?_ (by simp <;> omega) _) | (refine Below.setCell ?_ (by simp <;> omega) _)))) (fail)
    all_goals
     go_wp2_with fail
     go_meet
     refine ⟨_, _, _, rfl, rfl, rfl, ?_, ?_, ?_, ?_⟩
     all_goals first
      | exact Box.newD _ _ _ (by simp)
      | exact ((Box.newA _ _ _ (by simp)).alloc _).drew
      | exact (((Box.newA _ _ _ (by simp)).alloc _).alloc _).drew
      | (repeat (first | exact Below.refl _ _ | apply Below.drew | (refine Below.alloc ?_ (by simp <;> omega) _) | (refine Below.setCell ?_ (by simp <;> omega) _)))
   case rest =>
    obtain ⟨g5, g6, g7, rfl, rfl, rfl, x5, x6, x7, hbx⟩ := hcut
    have y0 : wc.cell? ⟨g5, 0, none⟩ = some (.int .i64 (gp l k).1) := x5.cell 0
    have y1 : wc.cell? ⟨g5, 1, none⟩ = some (.int .i64 (gp l k).2) := x5.cell 1
    have y2 : wc.cell? ⟨g6, 0, none⟩ = some (.int .i64 (gp l (k + 1)).1) := x6.cell 0
    have y3 : wc.cell? ⟨g6, 1, none⟩ = some (.int .i64 (gp l (k + 1)).2) := x6.cell 1
    have y4 : wc.cell? ⟨g7, 0, none⟩ = some (.int .i64 (gp l (k + 2)).1) := x7.cell 0
    have y5 : wc.cell? ⟨g7, 1, none⟩ = some (.int .i64 (gp l (k + 2)).2) := x7.cell 1
    have hown1 := own_below' hown hbx
    have hbl1 := hbl.trans (hbx.mono hbl.size)
    have e1 : (gp l k).1 + (gp l k).2 + (gp l (k + 2)).1 + (gp l (k + 2)).2 - 2 * ((gp l (k + 1)).1 + (gp l (k + 1)).2) = bendAt l (k + 1) := rfl
    have E1 := Lib.hid e1
    clear e1
    go_wp2_with (at_builtin; refine wpList_push hel rfl _ _ rfl rfl (hown1.alloc _) rfl (Box.new wc 2 _) rfl (by intro u hu; simp at hu; subst hu; rfl) (by omega) (by decide) (by have := hbl1.size; simp; omega) ?_; intro v' w2 hown2 hg2)
    go_roundw
    case rel =>
     refine ⟨k + 1, by omega, by go_num, ?_, ?_⟩
     ·
      rw [bendsTo_succ, List.flatMap_append, ← E1.out]; exact hown2
     ·
      exact (hbl1.alloc hbl1.size _).grown hg2 (by have := hbl1.size; simp; omega) (fun g e => by have := hown1.lt g e; omega)
    case measure => simp [intOf]; omega
  ·
   have hk2 : k = n - 2 := by omega
   subst hk2
   have n8 : ((n - 2 : Nat) : Int) + 1 + 1 = ((n - 2 : Nat) : Int) + 2 := by omega
   go_wp2
   go_ret
   exact ⟨_, rfl, by rw [bendsL, Hl.out]; exact hown, hbl⟩
end Go.Proofs.YtepkjobndmmejaaGreatDoor

namespace Go.Proofs.YtepkjobndmmejaaGreatDoor
open Go.RowKit Go.Dw Go.Shelf
def minTo (l : List Int) : Nat → Int
 | 0 => gi l 0
 | k + 1 => min (minTo l k) (gi l (k + 1))
def maxTo (l : List Int) : Nat → Int
 | 0 => gi l 0
 | k + 1 => max (maxTo l k) (gi l (k + 1))
theorem min_calls (A : Option Addr) (n c : Nat) (l : List Int) (w : World) (hl : IntsAt w A n l) (h0 : 0 < n) (hn : n ≤ 65536) :
  Calls Tryz.prog 50 #[.slice A n c] w fun e w' => e = .returned (.int .i64 (minTo l (n - 1))) ∧ w = w' := by
 obtain ⟨b, o, rfl, hb, hc0⟩ := ints_at hl h0
 rw [Nat.add_zero] at hc0
 go_enter Tryz.func50, Tryz.ntmps50
 go_wp2
 go_loop [3, 4] (fun m i => ∃ k : Nat, k + 1 ≤ n ∧ i = .int .i64 ((k : Int) + 1) ∧ m = .int .i64 (minTo l k)) (fun _ i => n - (intOf i).toNat)
 case atStart => exact ⟨0, by omega, rfl, rfl⟩
 case round =>
  obtain ⟨k, hk, rfl, rfl⟩ := hrel
  by_cases hlt : k + 1 < n
  ·
   obtain ⟨b', o', hA, _, hc1⟩ := ints_at hl hlt
   injection hA with hA; injection hA with hA1 hA2; subst hA1 hA2
   go_wp2
   go_round
   case rel => exact ⟨k + 1, by omega, by go_num, rfl⟩
   case measure => simp [intOf]; omega
  ·
   obtain rfl : k = n - 1 := by omega
   go_wp2
   go_ret
   exact ⟨rfl, rfl⟩
theorem max_calls (A : Option Addr) (n c : Nat) (l : List Int) (w : World) (hl : IntsAt w A n l) (h0 : 0 < n) (hn : n ≤ 65536) :
  Calls Tryz.prog 51 #[.slice A n c] w fun e w' => e = .returned (.int .i64 (maxTo l (n - 1))) ∧ w = w' := by
 obtain ⟨b, o, rfl, hb, hc0⟩ := ints_at hl h0
 rw [Nat.add_zero] at hc0
 go_enter Tryz.func51, Tryz.ntmps51
 go_wp2
 go_loop [3, 4] (fun m i => ∃ k : Nat, k + 1 ≤ n ∧ i = .int .i64 ((k : Int) + 1) ∧ m = .int .i64 (maxTo l k)) (fun _ i => n - (intOf i).toNat)
 case atStart => exact ⟨0, by omega, rfl, rfl⟩
 case round =>
  obtain ⟨k, hk, rfl, rfl⟩ := hrel
  by_cases hlt : k + 1 < n
  ·
   obtain ⟨b', o', hA, _, hc1⟩ := ints_at hl hlt
   injection hA with hA; injection hA with hA1 hA2; subst hA1 hA2
   go_wp2
   go_round
   case rel => exact ⟨k + 1, by omega, by go_num, rfl⟩
   case measure => simp [intOf]; omega
  ·
   obtain rfl : k = n - 1 := by omega
   go_wp2
   go_ret
   exact ⟨rfl, rfl⟩
def balHi (l : List Pt) : Int := maxTo (bendsL l) (l.length - 3)
def balLo (l : List Pt) : Int := minTo (bendsL l) (l.length - 3)
def balArm (l : List Pt) : Int × Int :=
 if checkPts l = 0 ∧ 3 ≤ l.length then ((balHi l - balLo l + 1) / 2, balHi l - (balHi l - balLo l + 1) / 2) else (0, 0)
theorem bendAt_bound {l : List Pt} (hlb : ∀ p ∈ l, -4194304 ≤ p.1 ∧ p.1 ≤ 4194304 ∧ -4194304 ≤ p.2 ∧ p.2 ≤ 4194304) {i : Nat} (h : i + 1 < l.length) (_ : 0 < i) : -67108864 ≤ bendAt l i ∧ bendAt l i ≤ 67108864 := by
 have a := (forall_gp.1 hlb) (i - 1) (by omega)
 have b := (forall_gp.1 hlb) i (by omega)
 have c := (forall_gp.1 hlb) (i + 1) h
 unfold bendAt; omega
theorem bendsL_gi {l : List Pt} {k : Nat} (h : k + 2 < l.length) : gi (bendsL l) k = bendAt l (k + 1) := by
 have hl : k < (bendsL l).length := by simp [bendsL, bendsTo]; omega
 rw [gi_eq hl]; simp [bendsL, bendsTo]
theorem balHi_bound {l : List Pt} (hlb : ∀ p ∈ l, -4194304 ≤ p.1 ∧ p.1 ≤ 4194304 ∧ -4194304 ≤ p.2 ∧ p.2 ≤ 4194304) : ∀ k, k + 2 < l.length →
  -67108864 ≤ minTo (bendsL l) k ∧ minTo (bendsL l) k ≤ maxTo (bendsL l) k ∧ maxTo (bendsL l) k ≤ 67108864
 | 0, h => by
  have := bendAt_bound hlb (i := 1) (by omega) (by omega)
  simp only [minTo, maxTo]
  rw [bendsL_gi h]; simp; omega
 | k + 1, h => by
  have h1 := balHi_bound hlb k (by omega)
  have := bendAt_bound hlb (i := k + 1 + 1) (by omega) (by omega)
  simp only [minTo, maxTo]
  rw [bendsL_gi h]; omega
set_option maxRecDepth 100000 in
set_option maxHeartbeats 1000000 in
theorem balance_calls (A : Option Addr) (n c : Nat) (l : List Pt) (w : World) (hl : PtsAt w A n l) (hn : n ≤ 4611686018427387904) :
  Calls Tryz.prog 23 #[.slice A n c] w fun e w' => e = .returned (.tuple #[.agg #[.int .i64 (balArm l).1, .int .i64 (balArm l).2], .int .i64 (checkPts l)]) ∧ Below w.heap.size w w' := by
 have Hl := Lib.hid hl.1
 have hx := Box.new w 66 #[.int .i64 0, .int .i64 0]
 have hb0 := below_new w (.cells #[.int .i64 0, .int .i64 0] 66)
 by_cases h0 : checkPts l = 0
 ·
  have d0 : (checkPts l != 0) = false := by simpa using h0
  by_cases h3 : n < 3
  ·
   have d1 : decide ((n : Int) < 3) = true := by simp; omega
   have e : balArm l = (0, 0) := by rw [balArm, if_neg (by rw [Hl.out]; omega)]
   have E := Lib.hid e
   have H0 := Lib.hid h0
   clear e h0 d0
   go_enter Tryz.func23, Tryz.ntmps23
   go_wp2_with fail
   generalize w.alloc (.cells #[.int .i64 0, .int .i64 0] 66) = w0 at *
   refine (checkPts_calls A n c l w0 (hl.below' hb0) hn).mono ?_
   rintro e w1 ⟨rfl, hw1⟩
   have hx1 := hx.below' hw1
   have x0 : w1.cell? ⟨w.heap.size, 0, none⟩ = some (.int .i64 0) := hx1.cell 0
   have x1 : w1.cell? ⟨w.heap.size, 1, none⟩ = some (.int .i64 0) := hx1.cell 1
   have f0 := hx1.frozen 0
   have f1 := hx1.frozen 1
   rw [H0.out]
   go_wp2
   have hx2 := (hx1.set 0 (.int .i64 0)).set 1 (.int .i64 0)
   have y0 := hx2.cell 0
   have y1 := hx2.cell 1
   simp only [List.setIfInBounds_toArray, List.set_cons_zero, List.set_cons_succ, List.getElem?_toArray, List.getElem?_cons_zero, List.getElem?_cons_succ] at y0 y1
   refine bodyPost_ret (v := .tuple #[.agg #[.int .i64 0, .int .i64 0], .int .i64 0]) (by simp [results, Tryz.results23, go_sem, y0, y1]) rfl ⟨by rw [E.out, H0.out], ?_⟩
   exact ((hb0.trans (hw1.mono hb0.size)).setCell (Nat.le_refl _) _).setCell (Nat.le_refl _) _
  ·
   have d1 : decide ((n : Int) < 3) = false := by simp; omega
   obtain ⟨m1, m2⟩ := checkPts_ok h0
   have hbd := balHi_bound m2 (n - 3) (by rw [Hl.out]; omega)
   have e : balArm l = ((balHi l - balLo l + 1) / 2, balHi l - (balHi l - balLo l + 1) / 2) := by rw [balArm, if_pos ⟨h0, by rw [Hl.out]; omega⟩]
   have e1 : balHi l = maxTo (bendsL l) (n - 3) := by rw [balHi, Hl.out]
   have e2 : balLo l = minTo (bendsL l) (n - 3) := by rw [balLo, Hl.out]
   rw [← e1, ← e2] at hbd
   have E := Lib.hid e
   have E1 := Lib.hid e1
   have E2 := Lib.hid e2
   have H0 := Lib.hid h0
   rw [Hl.out] at m1
   clear e e1 e2 h0 d0
   go_enter Tryz.func23, Tryz.ntmps23
   go_wp2_with fail
   generalize w.alloc (.cells #[.int .i64 0, .int .i64 0] 66) = w0 at *
   refine (checkPts_calls A n c l w0 (hl.below' hb0) hn).mono ?_
   rintro e w1 ⟨rfl, hw1⟩
   have hx1 := hx.below' hw1
   have hb1 := hb0.trans (hw1.mono hb0.size)
   rw [H0.out]
   go_wp2_with fail
   refine (bends_calls A n c l w1 (hl.below' hb1) m1 m2).mono ?_
   rintro e w2 ⟨v, rfl, hown, hw2⟩
   obtain ⟨A', c', rfl⟩ := own_form hown
   have hi2 : IntsAt w2 A' (n - 2) (bendsL l) := SlAt.of_own encI_len Nat.one_pos hown
   have hx2 := hx1.below' hw2
   have hb2 := hb1.trans (hw2.mono hb1.size)
   have en : n - 2 - 1 = n - 3 := by omega
   go_wp2_with fail
   refine (min_calls A' (n - 2) c' _ w2 hi2 (by omega) (by omega)).mono ?_
   rintro e w3 ⟨rfl, rfl⟩
   rw [en, ← E2.out]
   go_wp2_with fail
   refine (max_calls A' (n - 2) c' _ w2 hi2 (by omega) (by omega)).mono ?_
   rintro e w3 ⟨rfl, rfl⟩
   rw [en, ← E1.out]
   have x0 : w2.cell? ⟨w.heap.size, 0, none⟩ = some (.int .i64 0) := hx2.cell 0
   have x1 : w2.cell? ⟨w.heap.size, 1, none⟩ = some (.int .i64 0) := hx2.cell 1
   have f0 := hx2.frozen 0
   have f1 := hx2.frozen 1
   clear en
   go_wp2
   have hx3 := (hx2.set 0 (.int .i64 ((balHi l - balLo l + 1) / 2))).set 1 (.int .i64 (balHi l - (balHi l - balLo l + 1) / 2))
   have y0 := hx3.cell 0
   have y1 := hx3.cell 1
   simp only [List.setIfInBounds_toArray, List.set_cons_zero, List.set_cons_succ, List.getElem?_toArray, List.getElem?_cons_zero, List.getElem?_cons_succ] at y0 y1
   refine bodyPost_ret (v := .tuple #[.agg #[.int .i64 ((balHi l - balLo l + 1) / 2), .int .i64 (balHi l - (balHi l - balLo l + 1) / 2)], .int .i64 0]) (by simp [results, Tryz.results23, go_sem, y0, y1]) rfl ⟨by rw [E.out, H0.out], ?_⟩
   exact (hb2.setCell (Nat.le_refl _) _).setCell (Nat.le_refl _) _
 ·
  have d0 : (checkPts l != 0) = true := by simpa using h0
  have e : balArm l = (0, 0) := by rw [balArm, if_neg (by omega)]
  have E := Lib.hid e
  clear e
  go_enter Tryz.func23, Tryz.ntmps23
  go_wp2_with fail
  generalize w.alloc (.cells #[.int .i64 0, .int .i64 0] 66) = w0 at *
  refine (checkPts_calls A n c l w0 (hl.below' hb0) hn).mono ?_
  rintro e w1 ⟨rfl, hw1⟩
  have hx1 := hx.below' hw1
  have x0 : w1.cell? ⟨w.heap.size, 0, none⟩ = some (.int .i64 0) := hx1.cell 0
  have x1 : w1.cell? ⟨w.heap.size, 1, none⟩ = some (.int .i64 0) := hx1.cell 1
  have f0 := hx1.frozen 0
  have f1 := hx1.frozen 1
  go_wp2
  have hx2 := (hx1.set 0 (.int .i64 0)).set 1 (.int .i64 0)
  have y0 := hx2.cell 0
  have y1 := hx2.cell 1
  simp only [List.setIfInBounds_toArray, List.set_cons_zero, List.set_cons_succ, List.getElem?_toArray, List.getElem?_cons_zero, List.getElem?_cons_succ] at y0 y1
  refine bodyPost_ret (v := .tuple #[.agg #[.int .i64 0, .int .i64 0], .int .i64 (checkPts l)]) (by simp [results, Tryz.results23, go_sem, y0, y1]) rfl ⟨by rw [E.out], ?_⟩
  exact ((hb0.trans (hw1.mono hb0.size)).setCell (Nat.le_refl _) _).setCell (Nat.le_refl _) _
end Go.Proofs.YtepkjobndmmejaaGreatDoor

namespace Go.Proofs.YtepkjobndmmejaaGreatDoor
open Go.RowKit Go.Dw Go.Shelf
end Go.Proofs.YtepkjobndmmejaaGreatDoor

namespace Go.Proofs.YtepkjobndmmejaaGreatDoor
open Go.RowKit Go.Dw
def inK (a b : List Pt) (k : Nat) : Prop := (gp a k).2 ≤ (gp b k).2 ∧ (gp b k).1 ≤ (gp a k).1
def Inside (a b : List Pt) : Prop := a.length = b.length ∧ ∀ k, k < a.length → inK a b k
instance (a b : List Pt) : Decidable (Inside a b) := by unfold Inside inK; infer_instance
end Go.Proofs.YtepkjobndmmejaaGreatDoor

namespace Go.Proofs.YtepkjobndmmejaaGreatDoor
open Go.RowKit Go.Dw
def LeL (a b : List Int) : Prop := a.length = b.length ∧ ∀ k, k < a.length → gi a k ≤ gi b k
theorem LeL.refl (a : List Int) : LeL a a := ⟨rfl, fun _ _ => Int.le_refl _⟩
theorem LeL.trans {a b c : List Int} (h : LeL a b) (k : LeL b c) : LeL a c := ⟨h.1.trans k.1, fun i hi => Int.le_trans (h.2 i hi) (k.2 i (by rw [← h.1]; exact hi))⟩
def Bd (l : List Pt) : Prop := ∀ p ∈ l, -4194304 ≤ p.1 ∧ p.1 ≤ 4194304 ∧ -4194304 ≤ p.2 ∧ p.2 ≤ 4194304
end Go.Proofs.YtepkjobndmmejaaGreatDoor

namespace Go.Proofs.YtepkjobndmmejaaGreatDoor
open Go.RowKit Go.Dw
end Go.Proofs.YtepkjobndmmejaaGreatDoor
