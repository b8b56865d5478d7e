/-
  Several texts in one: Bends, the least and the greatest of numbers, the best arm; whether two grooves are equal. No condition but the sizes of slices. .. Contracts that read a slice, called with a row of the caller's that stays: results of numbers and of new rows of numbers. No condition.
-/
import Derived.Deep.RegionHeld3
import Derived.Deep.DeepCutAuto
import Derived.LoopNIn
import Derived.Test.YtepkjobndmmejaaGreatDoorX01
import Derived.Test.YtepkjobndmmejaaGreatDoorMD
import Derived.Test.YtepkjobndmmejaaGreatDoorMB
import Derived.Test.YtepkjobndmmejaaGreatDoorX00
namespace Go.Proofs.YtepkjobndmmejaaGreatDoor
open Go.RowKit Go.Dw Go.Shelf
def bendAt (l : List Pt) (i : Nat) : Int := (gp l (i - 1)).1 + (gp l (i - 1)).2 + (gp l (i + 1)).1 + (gp l (i + 1)).2 - 2 * ((gp l i).1 + (gp l i).2)
def bendsTo (l : List Pt) (k : Nat) : List Int := (List.range k).map fun i => bendAt l (i + 1)
def bendsL (l : List Pt) : List Int := bendsTo l (l.length - 2)
theorem bendsTo_succ (l : List Pt) (k : Nat) : bendsTo l (k + 1) = bendsTo l k ++ [bendAt l (k + 1)] := by simp [bendsTo, List.range_succ]
set_option maxRecDepth 100000 in
set_option maxHeartbeats 1000000 in
theorem bends_calls (A : Option Addr) (n c : Nat) (l : List Pt) (w : World) (hl : PtsAt w A n l) (hn : n ≤ 4096) (hlb : ∀ p ∈ l, -4194304 ≤ p.1 ∧ p.1 ≤ 4194304 ∧ -4194304 ≤ p.2 ∧ p.2 ≤ 4194304) :
  Calls Tryz.prog 49 #[.slice A n c] w fun e w' => ∃ v, e = .returned v ∧ w'.ownsRow w.heap.size 2 1 v (n - 2) ((bendsL l).flatMap encI) ∧ Below w.heap.size w w' := by
 obtain ⟨i0, hel⟩ := el_i64
 have Hl := Lib.hid hl.1
 go_enter Tryz.func49, Tryz.ntmps49
 go_wp2
 go_loopw [3, 4] (fun v i wr => ∃ k : Nat, k ≤ n - 2 ∧ i = .int .i64 ((k : Int) + 1) ∧ wr.ownsRow w.heap.size 2 1 v k ((bendsTo l k).flatMap encI) ∧ Below w.heap.size w wr) (fun _ i _ => n - (intOf i).toNat)
 case atStart => exact ⟨0, Nat.zero_le _, rfl, World.ownsRow_nil _ _ _ _, Below.refl _ _⟩
 case round =>
  obtain ⟨k, hk, rfl, hown, hbl⟩ := hrel
  by_cases hlt : k + 2 < n
  ·
   obtain ⟨b, o, rfl, hb, p0, p1⟩ := pts_at (hl.below' hbl) (show k < n by omega)
   obtain ⟨b', o', hA, _, p2, p3⟩ := pts_at (hl.below' hbl) (show k + 1 < n by omega)
   injection hA with hA; injection hA with hA1 hA2; subst hA1 hA2
   obtain ⟨b', o', hA, _, p4, p5⟩ := pts_at (hl.below' hbl) hlt
   injection hA with hA; injection hA with hA1 hA2; subst hA1 hA2
   have q0 := (forall_gp.1 hlb) k (by rw [Hl.out]; omega)
   have q1 := (forall_gp.1 hlb) (k + 1) (by rw [Hl.out]; omega)
   have q2 := (forall_gp.1 hlb) (k + 2) (by rw [Hl.out]; omega)
   have n1 : IntKind.i64.wrap ((k : Int) + 1 - 1) = (k : Int) := by rw [IntWalk.i64_in _ (by omega)]; omega
   have n2 : IntKind.i64.wrap ((k : Int) + 1 + 1) = (k : Int) + 2 := by rw [IntWalk.i64_in _ (by omega)]; omega
   have n1' : IntKind.i64.wrap (k : Int) = (k : Int) := IntWalk.i64_in _ (by omega)
   have n2' : IntKind.i64.wrap ((k : Int) + 2) = (k : Int) + 2 := IntWalk.i64_in _ (by omega)
   have n3 : ((k : Int) + 2).toNat = k + 2 := by omega
   have n4 : ((k : Int) + 1).toNat = k + 1 := by omega
   have n5 : (0 : Int) ≤ (k : Int) + 2 := by omega
   have n6 : (k : Int) + 2 < (n : Int) := by omega
   have n7 : (0 : Int) ≤ (k : Int) + 1 := by omega
   have n8 : (k : Int) + 1 < (n : Int) := by omega
   have n9 : (k : Int) < (n : Int) := by omega
   go_upto_region 5 with fail
   have sof : ∀ w', Below wr.heap.size wr w' → w'.cell? ⟨b, o + k * 2, none⟩ = some (.int .i64 (gp l k).1) ∧ w'.cell? ⟨b, o + k * 2 + 1, none⟩ = some (.int .i64 (gp l k).2) ∧ w'.cell? ⟨b, o + (k + 1) * 2, none⟩ = some (.int .i64 (gp l (k + 1)).1) ∧ w'.cell? ⟨b, o + (k + 1) * 2 + 1, none⟩ = some (.int .i64 (gp l (k + 1)).2) ∧ w'.cell? ⟨b, o + (k + 2) * 2, none⟩ = some (.int .i64 (gp l (k + 2)).1) ∧ w'.cell? ⟨b, o + (k + 2) * 2 + 1, none⟩ = some (.int .i64 (gp l (k + 2)).2) := fun w' hw =>
    ⟨(hw.cell (p := ⟨b, o + k * 2, none⟩) hb).trans p0, (hw.cell (p := ⟨b, o + k * 2 + 1, none⟩) hb).trans p1, (hw.cell (p := ⟨b, o + (k + 1) * 2, none⟩) hb).trans p2, (hw.cell (p := ⟨b, o + (k + 1) * 2 + 1, none⟩) hb).trans p3, (hw.cell (p := ⟨b, o + (k + 2) * 2, none⟩) hb).trans p4, (hw.cell (p := ⟨b, o + (k + 2) * 2 + 1, none⟩) hb).trans p5⟩
   have Sof := Lib.hid sof
   clear sof
   go_cut [5, 6, 7] (fun s5 s6 s7 wx => ∃ g5 g6 g7 : Nat, s5 = .pointer (some ⟨g5, 0, none⟩) ∧ s6 = .pointer (some ⟨g6, 0, none⟩) ∧ s7 = .pointer (some ⟨g7, 0, none⟩) ∧
    Box wx g5 81 #[.int .i64 (gp l k).1, .int .i64 (gp l k).2] ∧ Box wx g6 81 #[.int .i64 (gp l (k + 1)).1, .int .i64 (gp l (k + 1)).2] ∧ Box wx g7 81 #[.int .i64 (gp l (k + 2)).1, .int .i64 (gp l (k + 2)).2] ∧ Below wr.heap.size wr wx)
   case first =>
    go_region_held3 (fun w' => w'.cell? ⟨b, o + k * 2, none⟩ = some (.int .i64 (gp l k).1) ∧ w'.cell? ⟨b, o + k * 2 + 1, none⟩ = some (.int .i64 (gp l k).2) ∧ w'.cell? ⟨b, o + (k + 1) * 2, none⟩ = some (.int .i64 (gp l (k + 1)).1) ∧ w'.cell? ⟨b, o + (k + 1) * 2 + 1, none⟩ = some (.int .i64 (gp l (k + 1)).2) ∧ w'.cell? ⟨b, o + (k + 2) * 2, none⟩ = some (.int .i64 (gp l (k + 2)).1) ∧ w'.cell? ⟨b, o + (k + 2) * 2 + 1, none⟩ = some (.int .i64 (gp l (k + 2)).2))
     ((refine Sof.out _ ?_; repeat (first | exact Below.refl _ _ | apply Below.drew | (refine Below.alloc ?_ (by simp <;> omega) _) | (refine Below.setCell ?_ (by simp <;> omega) _)))) (fail)
    all_goals
     go_wp2_with fail
     go_meet
     refine ⟨_, _, _, rfl, rfl, rfl, ?_, ?_, ?_, ?_⟩
     all_goals first
      | exact Box.newD _ _ _ (by simp)
      | exact ((Box.newA _ _ _ (by simp)).alloc _).drew
      | exact (((Box.newA _ _ _ (by simp)).alloc _).alloc _).drew
      | (repeat (first | exact Below.refl _ _ | apply Below.drew | (refine Below.alloc ?_ (by simp <;> omega) _) | (refine Below.setCell ?_ (by simp <;> omega) _)))
   case rest =>
    obtain ⟨g5, g6, g7, rfl, rfl, rfl, x5, x6, x7, hbx⟩ := hcut
    have y0 : wc.cell? ⟨g5, 0, none⟩ = some (.int .i64 (gp l k).1) := x5.cell 0
    have y1 : wc.cell? ⟨g5, 1, none⟩ = some (.int .i64 (gp l k).2) := x5.cell 1
    have y2 : wc.cell? ⟨g6, 0, none⟩ = some (.int .i64 (gp l (k + 1)).1) := x6.cell 0
    have y3 : wc.cell? ⟨g6, 1, none⟩ = some (.int .i64 (gp l (k + 1)).2) := x6.cell 1
    have y4 : wc.cell? ⟨g7, 0, none⟩ = some (.int .i64 (gp l (k + 2)).1) := x7.cell 0
    have y5 : wc.cell? ⟨g7, 1, none⟩ = some (.int .i64 (gp l (k + 2)).2) := x7.cell 1
    have hown1 := own_below' hown hbx
    have hbl1 := hbl.trans (hbx.mono hbl.size)
    have e1 : (gp l k).1 + (gp l k).2 + (gp l (k + 2)).1 + (gp l (k + 2)).2 - 2 * ((gp l (k + 1)).1 + (gp l (k + 1)).2) = bendAt l (k + 1) := rfl
    have E1 := Lib.hid e1
    clear e1
    go_wp2_with (at_builtin; refine wpList_push hel rfl _ _ rfl rfl (hown1.alloc _) rfl (Box.new wc 2 _) rfl (by intro u hu; simp at hu; subst hu; rfl) (by omega) (by decide) (by have := hbl1.size; simp; omega) ?_; intro v' w2 hown2 hg2)
    go_roundw
    case rel =>
     refine ⟨k + 1, by omega, by go_num, ?_, ?_⟩
     ·
      rw [bendsTo_succ, List.flatMap_append, ← E1.out]; exact hown2
     ·
      exact (hbl1.alloc hbl1.size _).grown hg2 (by have := hbl1.size; simp; omega) (fun g e => by have := hown1.lt g e; omega)
    case measure => simp [intOf]; omega
  ·
   have hk2 : k = n - 2 := by omega
   subst hk2
   have n8 : ((n - 2 : Nat) : Int) + 1 + 1 = ((n - 2 : Nat) : Int) + 2 := by omega
   go_wp2
   go_ret
   exact ⟨_, rfl, by rw [bendsL, Hl.out]; exact hown, hbl⟩
end Go.Proofs.YtepkjobndmmejaaGreatDoor

namespace Go.Proofs.YtepkjobndmmejaaGreatDoor
open Go.RowKit Go.Dw Go.Shelf
def minTo (l : List Int) : Nat → Int
 | 0 => gi l 0
 | k + 1 => min (minTo l k) (gi l (k + 1))
def maxTo (l : List Int) : Nat → Int
 | 0 => gi l 0
 | k + 1 => max (maxTo l k) (gi l (k + 1))
theorem min_calls (A : Option Addr) (n c : Nat) (l : List Int) (w : World) (hl : IntsAt w A n l) (h0 : 0 < n) (hn : n ≤ 65536) :
  Calls Tryz.prog 50 #[.slice A n c] w fun e w' => e = .returned (.int .i64 (minTo l (n - 1))) ∧ w = w' := by
 obtain ⟨b, o, rfl, hb, hc0⟩ := ints_at hl h0
 rw [Nat.add_zero] at hc0
 go_enter Tryz.func50, Tryz.ntmps50
 go_wp2
 go_loop [3, 4] (fun m i => ∃ k : Nat, k + 1 ≤ n ∧ i = .int .i64 ((k : Int) + 1) ∧ m = .int .i64 (minTo l k)) (fun _ i => n - (intOf i).toNat)
 case atStart => exact ⟨0, by omega, rfl, rfl⟩
 case round =>
  obtain ⟨k, hk, rfl, rfl⟩ := hrel
  by_cases hlt : k + 1 < n
  ·
   obtain ⟨b', o', hA, _, hc1⟩ := ints_at hl hlt
   injection hA with hA; injection hA with hA1 hA2; subst hA1 hA2
   go_wp2
   go_round
   case rel => exact ⟨k + 1, by omega, by go_num, rfl⟩
   case measure => simp [intOf]; omega
  ·
   obtain rfl : k = n - 1 := by omega
   go_wp2
   go_ret
   exact ⟨rfl, rfl⟩
theorem max_calls (A : Option Addr) (n c : Nat) (l : List Int) (w : World) (hl : IntsAt w A n l) (h0 : 0 < n) (hn : n ≤ 65536) :
  Calls Tryz.prog 51 #[.slice A n c] w fun e w' => e = .returned (.int .i64 (maxTo l (n - 1))) ∧ w = w' := by
 obtain ⟨b, o, rfl, hb, hc0⟩ := ints_at hl h0
 rw [Nat.add_zero] at hc0
 go_enter Tryz.func51, Tryz.ntmps51
 go_wp2
 go_loop [3, 4] (fun m i => ∃ k : Nat, k + 1 ≤ n ∧ i = .int .i64 ((k : Int) + 1) ∧ m = .int .i64 (maxTo l k)) (fun _ i => n - (intOf i).toNat)
 case atStart => exact ⟨0, by omega, rfl, rfl⟩
 case round =>
  obtain ⟨k, hk, rfl, rfl⟩ := hrel
  by_cases hlt : k + 1 < n
  ·
   obtain ⟨b', o', hA, _, hc1⟩ := ints_at hl hlt
   injection hA with hA; injection hA with hA1 hA2; subst hA1 hA2
   go_wp2
   go_round
   case rel => exact ⟨k + 1, by omega, by go_num, rfl⟩
   case measure => simp [intOf]; omega
  ·
   obtain rfl : k = n - 1 := by omega
   go_wp2
   go_ret
   exact ⟨rfl, rfl⟩
def balHi (l : List Pt) : Int := maxTo (bendsL l) (l.length - 3)
def balLo (l : List Pt) : Int := minTo (bendsL l) (l.length - 3)
def balArm (l : List Pt) : Int × Int :=
 if checkPts l = 0 ∧ 3 ≤ l.length then ((balHi l - balLo l + 1) / 2, balHi l - (balHi l - balLo l + 1) / 2) else (0, 0)
theorem bendAt_bound {l : List Pt} (hlb : ∀ p ∈ l, -4194304 ≤ p.1 ∧ p.1 ≤ 4194304 ∧ -4194304 ≤ p.2 ∧ p.2 ≤ 4194304) {i : Nat} (h : i + 1 < l.length) (_ : 0 < i) : -67108864 ≤ bendAt l i ∧ bendAt l i ≤ 67108864 := by
 have a := (forall_gp.1 hlb) (i - 1) (by omega)
 have b := (forall_gp.1 hlb) i (by omega)
 have c := (forall_gp.1 hlb) (i + 1) h
 unfold bendAt; omega
theorem bendsL_gi {l : List Pt} {k : Nat} (h : k + 2 < l.length) : gi (bendsL l) k = bendAt l (k + 1) := by
 have hl : k < (bendsL l).length := by simp [bendsL, bendsTo]; omega
 rw [gi_eq hl]; simp [bendsL, bendsTo]
theorem balHi_bound {l : List Pt} (hlb : ∀ p ∈ l, -4194304 ≤ p.1 ∧ p.1 ≤ 4194304 ∧ -4194304 ≤ p.2 ∧ p.2 ≤ 4194304) : ∀ k, k + 2 < l.length →
  -67108864 ≤ minTo (bendsL l) k ∧ minTo (bendsL l) k ≤ maxTo (bendsL l) k ∧ maxTo (bendsL l) k ≤ 67108864
 | 0, h => by
  have := bendAt_bound hlb (i := 1) (by omega) (by omega)
  simp only [minTo, maxTo]
  rw [bendsL_gi h]; simp; omega
 | k + 1, h => by
  have h1 := balHi_bound hlb k (by omega)
  have := bendAt_bound hlb (i := k + 1 + 1) (by omega) (by omega)
  simp only [minTo, maxTo]
  rw [bendsL_gi h]; omega
set_option maxRecDepth 100000 in
set_option maxHeartbeats 1000000 in
theorem balance_calls (A : Option Addr) (n c : Nat) (l : List Pt) (w : World) (hl : PtsAt w A n l) (hn : n ≤ 4611686018427387904) :
  Calls Tryz.prog 23 #[.slice A n c] w fun e w' => e = .returned (.tuple #[.agg #[.int .i64 (balArm l).1, .int .i64 (balArm l).2], .int .i64 (checkPts l)]) ∧ Below w.heap.size w w' := by
 have Hl := Lib.hid hl.1
 have hx := Box.new w 66 #[.int .i64 0, .int .i64 0]
 have hb0 := below_new w (.cells #[.int .i64 0, .int .i64 0] 66)
 by_cases h0 : checkPts l = 0
 ·
  have d0 : (checkPts l != 0) = false := by simpa using h0
  by_cases h3 : n < 3
  ·
   have d1 : decide ((n : Int) < 3) = true := by simp; omega
   have e : balArm l = (0, 0) := by rw [balArm, if_neg (by rw [Hl.out]; omega)]
   have E := Lib.hid e
   have H0 := Lib.hid h0
   clear e h0 d0
   go_enter Tryz.func23, Tryz.ntmps23
   go_wp2_with fail
   generalize w.alloc (.cells #[.int .i64 0, .int .i64 0] 66) = w0 at *
   refine (checkPts_calls A n c l w0 (hl.below' hb0) hn).mono ?_
   rintro e w1 ⟨rfl, hw1⟩
   have hx1 := hx.below' hw1
   have x0 : w1.cell? ⟨w.heap.size, 0, none⟩ = some (.int .i64 0) := hx1.cell 0
   have x1 : w1.cell? ⟨w.heap.size, 1, none⟩ = some (.int .i64 0) := hx1.cell 1
   have f0 := hx1.frozen 0
   have f1 := hx1.frozen 1
   rw [H0.out]
   go_wp2
   have hx2 := (hx1.set 0 (.int .i64 0)).set 1 (.int .i64 0)
   have y0 := hx2.cell 0
   have y1 := hx2.cell 1
   simp only [List.setIfInBounds_toArray, List.set_cons_zero, List.set_cons_succ, List.getElem?_toArray, List.getElem?_cons_zero, List.getElem?_cons_succ] at y0 y1
   refine bodyPost_ret (v := .tuple #[.agg #[.int .i64 0, .int .i64 0], .int .i64 0]) (by simp [results, Tryz.results23, go_sem, y0, y1]) rfl ⟨by rw [E.out, H0.out], ?_⟩
   exact ((hb0.trans (hw1.mono hb0.size)).setCell (Nat.le_refl _) _).setCell (Nat.le_refl _) _
  ·
   have d1 : decide ((n : Int) < 3) = false := by simp; omega
   obtain ⟨m1, m2⟩ := checkPts_ok h0
   have hbd := balHi_bound m2 (n - 3) (by rw [Hl.out]; omega)
   have e : balArm l = ((balHi l - balLo l + 1) / 2, balHi l - (balHi l - balLo l + 1) / 2) := by rw [balArm, if_pos ⟨h0, by rw [Hl.out]; omega⟩]
   have e1 : balHi l = maxTo (bendsL l) (n - 3) := by rw [balHi, Hl.out]
   have e2 : balLo l = minTo (bendsL l) (n - 3) := by rw [balLo, Hl.out]
   rw [← e1, ← e2] at hbd
   have E := Lib.hid e
   have E1 := Lib.hid e1
   have E2 := Lib.hid e2
   have H0 := Lib.hid h0
   rw [Hl.out] at m1
   clear e e1 e2 h0 d0
   go_enter Tryz.func23, Tryz.ntmps23
   go_wp2_with fail
   generalize w.alloc (.cells #[.int .i64 0, .int .i64 0] 66) = w0 at *
   refine (checkPts_calls A n c l w0 (hl.below' hb0) hn).mono ?_
   rintro e w1 ⟨rfl, hw1⟩
   have hx1 := hx.below' hw1
   have hb1 := hb0.trans (hw1.mono hb0.size)
   rw [H0.out]
   go_wp2_with fail
   refine (bends_calls A n c l w1 (hl.below' hb1) m1 m2).mono ?_
   rintro e w2 ⟨v, rfl, hown, hw2⟩
   obtain ⟨A', c', rfl⟩ := own_form hown
   have hi2 : IntsAt w2 A' (n - 2) (bendsL l) := SlAt.of_own encI_len Nat.one_pos hown
   have hx2 := hx1.below' hw2
   have hb2 := hb1.trans (hw2.mono hb1.size)
   have en : n - 2 - 1 = n - 3 := by omega
   go_wp2_with fail
   refine (min_calls A' (n - 2) c' _ w2 hi2 (by omega) (by omega)).mono ?_
   rintro e w3 ⟨rfl, rfl⟩
   rw [en, ← E2.out]
   go_wp2_with fail
   refine (max_calls A' (n - 2) c' _ w2 hi2 (by omega) (by omega)).mono ?_
   rintro e w3 ⟨rfl, rfl⟩
   rw [en, ← E1.out]
   have x0 : w2.cell? ⟨w.heap.size, 0, none⟩ = some (.int .i64 0) := hx2.cell 0
   have x1 : w2.cell? ⟨w.heap.size, 1, none⟩ = some (.int .i64 0) := hx2.cell 1
   have f0 := hx2.frozen 0
   have f1 := hx2.frozen 1
   clear en
   go_wp2
   have hx3 := (hx2.set 0 (.int .i64 ((balHi l - balLo l + 1) / 2))).set 1 (.int .i64 (balHi l - (balHi l - balLo l + 1) / 2))
   have y0 := hx3.cell 0
   have y1 := hx3.cell 1
   simp only [List.setIfInBounds_toArray, List.set_cons_zero, List.set_cons_succ, List.getElem?_toArray, List.getElem?_cons_zero, List.getElem?_cons_succ] at y0 y1
   refine bodyPost_ret (v := .tuple #[.agg #[.int .i64 ((balHi l - balLo l + 1) / 2), .int .i64 (balHi l - (balHi l - balLo l + 1) / 2)], .int .i64 0]) (by simp [results, Tryz.results23, go_sem, y0, y1]) rfl ⟨by rw [E.out, H0.out], ?_⟩
   exact (hb2.setCell (Nat.le_refl _) _).setCell (Nat.le_refl _) _
 ·
  have d0 : (checkPts l != 0) = true := by simpa using h0
  have e : balArm l = (0, 0) := by rw [balArm, if_neg (by omega)]
  have E := Lib.hid e
  clear e
  go_enter Tryz.func23, Tryz.ntmps23
  go_wp2_with fail
  generalize w.alloc (.cells #[.int .i64 0, .int .i64 0] 66) = w0 at *
  refine (checkPts_calls A n c l w0 (hl.below' hb0) hn).mono ?_
  rintro e w1 ⟨rfl, hw1⟩
  have hx1 := hx.below' hw1
  have x0 : w1.cell? ⟨w.heap.size, 0, none⟩ = some (.int .i64 0) := hx1.cell 0
  have x1 : w1.cell? ⟨w.heap.size, 1, none⟩ = some (.int .i64 0) := hx1.cell 1
  have f0 := hx1.frozen 0
  have f1 := hx1.frozen 1
  go_wp2
  have hx2 := (hx1.set 0 (.int .i64 0)).set 1 (.int .i64 0)
  have y0 := hx2.cell 0
  have y1 := hx2.cell 1
  simp only [List.setIfInBounds_toArray, List.set_cons_zero, List.set_cons_succ, List.getElem?_toArray, List.getElem?_cons_zero, List.getElem?_cons_succ] at y0 y1
  refine bodyPost_ret (v := .tuple #[.agg #[.int .i64 0, .int .i64 0], .int .i64 (checkPts l)]) (by simp [results, Tryz.results23, go_sem, y0, y1]) rfl ⟨by rw [E.out], ?_⟩
  exact ((hb0.trans (hw1.mono hb0.size)).setCell (Nat.le_refl _) _).setCell (Nat.le_refl _) _
end Go.Proofs.YtepkjobndmmejaaGreatDoor

namespace Go.Proofs.YtepkjobndmmejaaGreatDoor
open Go.RowKit Go.Dw Go.Shelf
end Go.Proofs.YtepkjobndmmejaaGreatDoor

namespace Go.Proofs.YtepkjobndmmejaaGreatDoor
open Go.Ab Go.RowKit Go.Dw Go.Shelf
structure Cv where
 feed : List Int
 back : List Int
 share : Int
def dot (w h : List Int) : Nat → Int
 | 0 => 0
 | k + 1 => dot w h k + gi w k * gi h k
def corr (c : Cv) (hx hy : List Int) : Int := (dot c.feed hx c.feed.length + dot c.back hy c.back.length) / c.share
def stepH (c : Cv) (u : Bool) (p : List Int × List Int) (g : Int) : List Int × List Int :=
 if u then ((g - corr c p.1 p.2) :: p.1, g :: p.2) else (g :: p.1, (g + corr c p.1 p.2) :: p.2)
def hist (c : Cv) (u : Bool) (l : List Int) : Nat → List Int × List Int
 | 0 => ([], [])
 | k + 1 => stepH c u (hist c u l k) (gi l k)
def outK (c : Cv) (u : Bool) (l : List Int) (k : Nat) : Int :=
 if u then gi l k - corr c (hist c u l k).1 (hist c u l k).2 else gi l k + corr c (hist c u l k).1 (hist c u l k).2
def resL (c : Cv) (u : Bool) (l : List Int) : List Int := (List.range l.length).map (outK c u l)
def bey (n m : Int) : Bool := decide (n < -m) || decide (m < n)
theorem bey_no {n m : Int} : bey n m = false ↔ -m ≤ n ∧ n ≤ m := by
 simp [bey]
theorem resL_len (c : Cv) (u : Bool) (l : List Int) : (resL c u l).length = l.length := by simp [resL]
theorem resL_gi {c : Cv} {u : Bool} {l : List Int} {k : Nat} (h : k < l.length) : gi (resL c u l) k = outK c u l k := by simp [resL, gi, h]
theorem gi_consS (x : Int) (l : List Int) (k : Nat) : gi (x :: l) (k + 1) = gi l k := rfl
theorem gi_out {l : List Int} {k : Nat} (h : l.length ≤ k) : gi l k = 0 := by simp [gi, List.getElem?_eq_none h]
theorem hist_x (c : Cv) (u : Bool) (l : List Int) (k : Nat) : (hist c u l (k + 1)).1 = (if u then outK c u l k else gi l k) :: (hist c u l k).1 := by
 rw [hist, stepH, outK]; cases u <;> rfl
theorem hist_y (c : Cv) (u : Bool) (l : List Int) (k : Nat) : (hist c u l (k + 1)).2 = (if u then gi l k else outK c u l k) :: (hist c u l k).2 := by
 rw [hist, stepH, outK]; cases u <;> rfl
theorem hist_len (c : Cv) (u : Bool) (l : List Int) (k : Nat) : (hist c u l k).1.length = k ∧ (hist c u l k).2.length = k := by
 induction k with
 | zero => exact ⟨rfl, rfl⟩
 | succ k ih => rw [hist_x, hist_y]; simp [ih.1, ih.2]
theorem hist_at (c : Cv) (u : Bool) (l : List Int) : ∀ (k i : Nat), i < k → gi (hist c u l k).1 i = (if u then outK c u l (k - 1 - i) else gi l (k - 1 - i)) ∧ gi (hist c u l k).2 i = (if u then gi l (k - 1 - i) else outK c u l (k - 1 - i))
 | 0, i, h => by omega
 | k + 1, 0, _ => by rw [hist_x, hist_y]; exact ⟨rfl, rfl⟩
 | k + 1, i + 1, h => by
  rw [hist_x, hist_y, gi_consS, gi_consS, show k + 1 - 1 - (i + 1) = k - 1 - i by omega]
  exact hist_at c u l k i (by omega)
def AllLe (m : Int) (l : List Int) : Prop := ∀ x ∈ l, -m ≤ x ∧ x ≤ m
theorem AllLe.gi {m : Int} {l : List Int} (h : AllLe m l) (hm : 0 ≤ m) (k : Nat) : -m ≤ gi l k ∧ gi l k ≤ m := by
 by_cases hk : k < l.length
 ·
  rw [gi_eq hk]; exact h _ (List.getElem_mem _)
 ·
  rw [gi_out (by omega)]; omega
theorem AllLe.of_gi {m : Int} {l : List Int} (h : ∀ k, k < l.length → -m ≤ Go.Dw.gi l k ∧ Go.Dw.gi l k ≤ m) : AllLe m l := by
 intro x hx
 obtain ⟨k, hk, rfl⟩ := List.getElem_of_mem hx
 rw [← gi_eq hk]; exact h k hk
theorem mul_bd {a b m n : Int} (ha : -m ≤ a ∧ a ≤ m) (hb : -n ≤ b ∧ b ≤ n) : -(m * n) ≤ a * b ∧ a * b ≤ m * n := by
 have h1 : 0 ≤ (m - a) * (n + b) := Int.mul_nonneg (by omega) (by omega)
 have h2 : 0 ≤ (m + a) * (n - b) := Int.mul_nonneg (by omega) (by omega)
 have h3 : 0 ≤ (m - a) * (n - b) := Int.mul_nonneg (by omega) (by omega)
 have h4 : 0 ≤ (m + a) * (n + b) := Int.mul_nonneg (by omega) (by omega)
 simp only [Int.sub_mul, Int.add_mul, Int.mul_add, Int.mul_sub] at h1 h2 h3 h4
 omega
theorem dot_bd {w h : List Int} {m n : Int} (hm : 0 ≤ m) (hn : 0 ≤ n) (hw : AllLe m w) (hh : AllLe n h) : ∀ k : Nat, -(k * (m * n)) ≤ dot w h k ∧ dot w h k ≤ k * (m * n)
 | 0 => by simp [dot]
 | k + 1 => by
  have ih := dot_bd hm hn hw hh k
  have hb := mul_bd (hw.gi hm k) (hh.gi hn k)
  have e : ((k + 1 : Nat) : Int) * (m * n) = k * (m * n) + m * n := by rw [Int.natCast_succ, Int.add_mul, Int.one_mul]
  rw [dot, e]
  omega
def cvE (c : Cv) : Int :=
 if 8 < max c.feed.length c.back.length then 6 else
 if (c.feed.any fun n => bey n 4096) || (c.back.any fun n => bey n 4096) || decide (c.share < 1) || decide (4096 < c.share) then 2 else 0
def cvOk (c : Cv) : Prop := c.feed.length ≤ 8 ∧ c.back.length ≤ 8 ∧ AllLe 4096 c.feed ∧ AllLe 4096 c.back ∧ 1 ≤ c.share ∧ c.share ≤ 4096
theorem any_bey {l : List Int} {m : Int} : (l.any fun n => bey n m) = false ↔ AllLe m l := by
 rw [List.any_eq_false]
 refine ⟨fun h x hx => bey_no.1 (by simpa using h x hx), fun h x hx => by simpa using bey_no.2 (h x hx)⟩
theorem cvE_ok {c : Cv} : cvE c = 0 ↔ cvOk c := by
 unfold cvE cvOk
 rw [← any_bey, ← any_bey]
 by_cases h : 8 < max c.feed.length c.back.length
 ·
  rw [if_pos h]; constructor
  ·
   intro h; cases h
  ·
   intro ⟨h1, h2, _⟩; omega
 ·
  rw [if_neg h]
  cases h1 : (c.feed.any fun n => bey n 4096) <;> cases h2 : (c.back.any fun n => bey n 4096) <;> simp
  omega
theorem corr_bd {c : Cv} (hc : cvOk c) {hx hy : List Int} {m : Int} (hm : 0 ≤ m) (h1 : AllLe m hx) (h2 : AllLe m hy) :
  (-(32768 * m) ≤ dot c.feed hx c.feed.length ∧ dot c.feed hx c.feed.length ≤ 32768 * m) ∧ (-(32768 * m) ≤ dot c.back hy c.back.length ∧ dot c.back hy c.back.length ≤ 32768 * m) ∧ -(65536 * m) ≤ corr c hx hy ∧ corr c hx hy ≤ 65536 * m := by
 obtain ⟨l1, l2, a1, a2, s1, s2⟩ := hc
 have d1 := dot_bd (by decide) hm a1 h1 c.feed.length
 have d2 := dot_bd (by decide) hm a2 h2 c.back.length
 have e1 : (c.feed.length : Int) * (4096 * m) ≤ 8 * (4096 * m) := Int.mul_le_mul_of_nonneg_right (by omega) (by omega)
 have e2 : (c.back.length : Int) * (4096 * m) ≤ 8 * (4096 * m) := Int.mul_le_mul_of_nonneg_right (by omega) (by omega)
 refine ⟨by omega, by omega, ?_⟩
 unfold corr
 constructor
 ·
  refine Int.le_ediv_of_mul_le (by omega) ?_
  have : -(65536 * m) * c.share ≤ -(65536 * m) * 1 := Int.mul_le_mul_of_nonpos_left (by omega) (by omega)
  omega
 ·
  have h3 : (dot c.feed hx c.feed.length + dot c.back hy c.back.length) / c.share ≤ 65536 * m := by
   refine Int.ediv_le_of_le_mul (by omega) ?_
   have : 65536 * m * 1 ≤ 65536 * m * c.share := Int.mul_le_mul_of_nonneg_left (by omega) (by omega)
   omega
  exact h3
def fine (c : Cv) (u : Bool) (l : List Int) (m : Int) (k : Nat) : Prop := ∀ j, j < k → bey (outK c u l j) m = false
theorem hist_bd {c : Cv} {u : Bool} {l : List Int} {m : Int} (hm : 0 ≤ m) (hl : AllLe m l) {k : Nat} (hf : fine c u l m k) : AllLe m (hist c u l k).1 ∧ AllLe m (hist c u l k).2 := by
 constructor
 ·
  refine .of_gi fun i hi => ?_
  rw [(hist_len c u l k).1] at hi
  rw [(hist_at c u l k i hi).1]
  split
  ·
   exact bey_no.1 (hf _ (by omega))
  ·
   exact hl.gi hm _
 ·
  refine .of_gi fun i hi => ?_
  rw [(hist_len c u l k).2] at hi
  rw [(hist_at c u l k i hi).2]
  split
  ·
   exact hl.gi hm _
  ·
   exact bey_no.1 (hf _ (by omega))
def runI (c : Cv) (u : Bool) (m : Int) (l : List Int) : Option (List Int) := if (resL c u l).any fun n => bey n m then none else some (resL c u l)
theorem any_resL {c : Cv} {u : Bool} {l : List Int} {m : Int} : ((resL c u l).any fun n => bey n m) = false ↔ fine c u l m l.length := by
 rw [List.any_eq_false]
 constructor
 ·
  intro h j hj
  have := h (outK c u l j) (by simp only [resL, List.mem_map, List.mem_range]; exact ⟨j, hj, rfl⟩)
  simpa using this
 ·
  intro h x hx
  simp only [resL, List.mem_map, List.mem_range] at hx
  obtain ⟨j, hj, rfl⟩ := hx
  simpa using h j hj
theorem runI_some {c : Cv} {u : Bool} {m : Int} {l : List Int} (h : fine c u l m l.length) : runI c u m l = some (resL c u l) := by
 rw [runI, any_resL.2 h]; rfl
theorem runI_none {c : Cv} {u : Bool} {m : Int} {l : List Int} {j : Nat} (hj : j < l.length) (h : bey (outK c u l j) m = true) : runI c u m l = none := by
 rw [runI, if_pos]
 rw [List.any_eq_true]
 exact ⟨_, by simp only [resL, List.mem_map, List.mem_range]; exact ⟨j, hj, rfl⟩, h⟩
end Go.Proofs.YtepkjobndmmejaaGreatDoor

namespace Go.Proofs.YtepkjobndmmejaaGreatDoor
open Go.Ab Go.RowKit Go.Dw Go.Shelf
def chainI (cs : List Cv) (u : Bool) (m : Int) (x : List Int) : Option (List Int) := (if u then cs.reverse else cs).foldl (fun o c => o.bind (runI c u m)) (some x)
theorem fold_none (u : Bool) (m : Int) : ∀ cs : List Cv, cs.foldl (fun o c => o.bind (runI c u m)) none = none
 | [] => rfl
 | _ :: cs => fold_none u m cs
def foldI (u : Bool) (m : Int) (cs : List Cv) (o : Option (List Int)) : Option (List Int) := cs.foldl (fun o c => o.bind (runI c u m)) o
theorem foldI_append (u : Bool) (m : Int) (a b : List Cv) (o : Option (List Int)) : foldI u m (a ++ b) o = foldI u m b (foldI u m a o) := by simp [foldI]
theorem foldI_none (u : Bool) (m : Int) (cs : List Cv) : foldI u m cs none = none := fold_none u m cs
end Go.Proofs.YtepkjobndmmejaaGreatDoor

namespace Go.Ab
open Go.RowKit Go.Dw
def AWR {P : Program} {N : Nat} (C : Cx P N) (c : Code) (Q : Exit → S → Prop) : Nat → S → Prop
 | 0, _ => False
 | m + 1, s => AW C c (XThen (AWR C c Q m) Q) s
section
variable {P : Program} {N : Nat} {C : Cx P N} {Q : Exit → S → Prop} {s : S} {c : Code}
theorem awr_succ {m : Nat} (h : ∀ K : S → Prop, (∀ s', AWR C c Q m s' → K s') → AW C c (XThen K Q) s) : AWR C c Q (m + 1) s := h _ fun _ h => h
theorem aw_rounds (m : Nat) (h : AWR C c Q m s) : AW C (.loop c) Q s := by
 intro a w g
 refine wpIn_loop_rounds m ?_
 have key : ∀ m s a w0 w, Tch C.W w0 w → AWR C c Q m s → Gm C s a w → Code.roundsIn C.F 0 P c (fun e a' w' => ∃ s', Q e s' ∧ Gm C s' a' w' ∧ Tch C.W w0 w') m a w := by
  intro m
  induction m with
  | zero => intro s a w0 w _ h; exact h.elim
  | succ m ih =>
   intro s a w0 w t0 h g
   refine wpIn_mono (h a w g) ?_
   rintro e a' w' ⟨s', q, g', t⟩
   cases e with
   | normal => exact ih s' a' w0 w' (t0.trans t) q g'
   | _ => exact ⟨s', q, g', t0.trans t⟩
 exact key m s a w w (Tch.refl _ _) h g
end
end Go.Ab

namespace Go.Ab
open Go.RowKit Go.Dw
section
variable {P : Program} {N : Nat} {C : Cx P N} {ops : Array Oper} {nx : Nat} {o : Oper} {os : List Oper} {tm : Nat → V} {σ : Nat → Option Ob} {ks : List (List Nat × List Nat)} {K : (Nat → V) → (Nat → Option Ob) → List (List Nat × List Nat) → Prop}
theorem aops_gfb {t : Nat} (hg : guardV (ops.toList.map (·.dst)) tm o = some (some false)) (ht : o.dst = some t) (hk : AOps C ops nx os (upd tm t (.gd false (.b false))) σ (ks ++ [([], [])]) K) : AOps C ops nx (o :: os) tm σ ks K := by
 have hw := guardV_spec hg
 have e : updO tm o.dst (.gd false (.b false)) = upd tm t (.gd false (.b false)) := by rw [ht]; rfl
 refine ⟨⟨false, .gd false (.b false), [], [], []⟩, ⟨hw, by simp, fun _ => ⟨fun _ _ _ => .gd _ _ _ _ (fun e => by cases e) fun _ => rfl, rfl, rfl⟩⟩, ?_⟩
 rw [e]; exact hk
end
end Go.Ab

namespace Go.Ab
open Go.RowKit Go.Dw
def V.flatPT (pn : List Nat) : V → Bool
 | .tup cs => V.flatPL pn cs
 | v => v.flatP pn
theorem R.flatPT {pn : List Nat} {w w' : World} {L L' : Nat → Prop} {ρ ρ' : Nat → Option Value} {u : V} {x : Value} (h : R w L ρ u x) (hf : u.flatPT pn = true) (hρ : ∀ id ∈ pn, ∀ v, ρ id = some v → ρ' id = some v) : R w' L' ρ' u x := by
 cases u with
 | tup cs =>
  obtain ⟨xs, rfl, hx⟩ := h.tup_inv
  exact .tup' ⟨hx.1, fun i v y hv hy => (hx.2 i v y hv hy).flatP (V.flatPL_get hf hv) hρ⟩
 | _ => exact h.flatP hf hρ
def Ob.isC : Ob → Prop
 | .row _ _ n r => ∀ i, i < n → ∀ u ∈ r i, u.isC = true
 | _ => False
theorem AC.rowK {P : Program} {f : FuncId} {args args' : List V} {v : V} {obs : List Ob} (h : AC P f args' v obs) (e : TypeId) {sz n : Nat} {row : Nat → List V} (ha : V.fzL 500 (.sl sz n row) args = args') (hi : V.idfL args' = true) (ho : obs.length ≤ 90) (hi2 : ∀ i, V.idfL (row i) = true)
  (hv : v.flatPT (List.range obs.length) = true) (hC : ∀ o ∈ obs, o.isC) : AM P f args [.row e sz n row] v [some (.row e sz n row)] obs := by
 refine ⟨h.1, fun W LB L w ρ vs hwl hWL hG hρ hvs => ?_⟩
 have hσ : insF [.row e sz n row] 500 = some (.row e sz n row) := rfl
 have hre : Real W w L ρ 500 (.row e sz n row) := hG.ob 500 _ hσ
 obtain ⟨v0, hv0, hlt, hs⟩ := hre.slice fun i _ => hi2 i
 have ex : Ext w L ρ w (fun b => L b ∨ blk v0 = some b) ρ := ⟨fun b hb => ⟨.inl hb, rfl⟩, fun _ _ h => h⟩
 have hrv : RV w (fun b => L b ∨ blk v0 = some b) ρ0 args' vs.toList := by
  refine RV.free (ρ := ρ) ?_ hi
  rw [← ha]
  refine ⟨by rw [V.fzL_len]; exact hvs.1, fun i u x hu hx => ?_⟩
  rw [V.fzL_get] at hu
  cases hc : args[i]? with
  | none => rw [hc] at hu; cases hu
  | some a =>
   rw [hc] at hu
   simp only [Option.map_some, Option.some.injEq] at hu
   subst hu
   refine R_fz (fun y hy => ?_) _ _ ((hvs.2 i a x hc hx).ext ex)
   rw [hv0] at hy; injection hy with hy; subst hy; exact hs
 refine (h.2 (fun b => L b ∨ blk v0 = some b) w vs (fun b hb => ?_) (hG.glE ex) hrv).mono ?_
 ·
  rcases hb with hb | hb
  ·
   exact (hG.ll b hb).1
  ·
   exact (hlt b hb).1
 rintro ee w' ⟨x, rfl, hbel, L', ρ', hG', hL', hx, hnn⟩
 obtain ⟨hG2, ex2⟩ := hG.quiet hbel (L' := L) (fun _ h => h) (fun _ h => .inl h)
 obtain ⟨ρ2, hρ2⟩ : ∃ ρ2 : Nat → Option Value, ∀ id, ρ2 id = if id < obs.length then ρ' id else ρ id := ⟨_, fun _ => rfl⟩
 have h1 : ∀ id, id < obs.length → ρ2 id = ρ' id := fun id h => by rw [hρ2, if_pos h]
 have h2 : ∀ id, ¬ id < obs.length → ρ2 id = ρ id := fun id h => by rw [hρ2, if_neg h]
 have hout : ∀ id o, outF [some (.row e sz n row)] obs id = some o → (id < obs.length ∧ obsF obs id = some o) ∨ (id = 500 ∧ o = .row e sz n row) := fun id o hio => by
  unfold outF at hio
  split at hio
  ·
   rename_i h5
   refine .inr ?_
   cases hk : id - 500 with
   | zero => rw [hk] at hio; simp at hio; exact ⟨by omega, hio.symm⟩
   | succ m => rw [hk] at hio; simp at hio
  ·
   refine .inl ⟨?_, hio⟩
   exact (List.getElem?_eq_some_iff.1 hio).1
 have hob : ∀ id o, obsF obs id = some o → id < obs.length → Real W w' L ρ2 id o ∧ ∀ y k, ρ2 id = some y → blk y = some k → w.heap.size ≤ k := fun id o hio hid => by
  have hr := hG'.ob id o hio
  have hc := hC o (List.mem_of_getElem? hio)
  cases o with
  | row t z m r =>
   obtain ⟨y, xs, q1, q2, q3, q4, q5⟩ := hr
   refine ⟨⟨y, xs, by rw [h1 id hid]; exact q1, q2, q3, q4.ofC fun u hu => ?_, fun k hk => ⟨(hG.new k (q5 k hk).1).1, fun hL => by have := (hG.ll k hL).1; have := (q5 k hk).1; omega⟩⟩, fun y' k hy hk => ?_⟩
   ·
    obtain ⟨l, hl, hul⟩ := List.mem_flatten.1 hu
    obtain ⟨i, hi, rfl⟩ := List.mem_iff_getElem.1 hl
    have hi' : i < m := by simpa [slRows_len] using hi
    have := slRows_get (row := r) hi'
    rw [List.getElem?_eq_getElem hi] at this
    injection this with this
    rw [this] at hul
    exact hc i hi' u hul
   ·
    rw [h1 id hid, q1] at hy; injection hy with hy; subst hy
    exact (q5 k hk).1
  | _ => exact hc.elim
 refine ⟨x, rfl, Tch.of_below hbel fun k _ hk => (hG.new k hk).1, L, ρ2, ⟨fun b hb => hG2.ll b hb, fun b hb => hG2.new b hb, fun id o hio => ?_, fun i j y z k hij hi hj hy hz hk => ?_, hG2.gl⟩, ⟨fun b hb => ex2.1 b hb, fun id y hy => ?_⟩, hx.flatPT hv fun id hid y hy => by rw [h1 id (List.mem_range.1 hid)]; exact hy, fun j hj hj5 => ?_⟩
 ·
  rcases hout id o hio with ⟨hid, hio⟩ | ⟨rfl, rfl⟩
  ·
   exact (hob id o hio hid).1
  ·
   obtain ⟨y, xs, q1, q2, q3, q4, q5⟩ := hG2.ob 500 _ hσ
   have hn5 : ¬ 500 < obs.length := by omega
   exact ⟨y, xs, by rw [h2 500 hn5]; exact q1, q2, q3, by
    refine ⟨q4.1, fun i u x hu hx => ⟨?_, (q4.2 i u x hu hx).2⟩⟩
    have hr := (q4.2 i u x hu hx).1
    refine (hr.free ?_ ρ2)
    obtain ⟨l, hl, hul⟩ := List.mem_flatten.1 (List.mem_of_getElem? hu)
    obtain ⟨i', hi', rfl⟩ := List.mem_iff_getElem.1 hl
    have hi'' : i' < n := by simpa [slRows_len] using hi'
    have := slRows_get (row := row) hi''
    rw [List.getElem?_eq_getElem hi'] at this
    injection this with this
    rw [this] at hul
    obtain ⟨p, hp, rfl⟩ := List.mem_iff_getElem.1 hul
    exact V.idfL_get (hi2 i') (List.getElem?_eq_getElem hp), q5⟩
 ·
  cases hio : outF [some (.row e sz n row)] obs i with
  | none => exact absurd hio hi
  | some o =>
   cases hjo : outF [some (.row e sz n row)] obs j with
   | none => exact absurd hjo hj
   | some o' =>
    rcases hout i o hio with ⟨hid, hio'⟩ | ⟨rfl, rfl⟩
    ·
     rcases hout j o' hjo with ⟨hjd, hjo'⟩ | ⟨rfl, rfl⟩
     ·
      rw [h1 i hid] at hy; rw [h1 j hjd] at hz
      exact hG'.sep i j y z k hij (by rw [hio']; simp) (by rw [hjo']; simp) hy hz hk
     ·
      intro hk'
      have a1 := (hob i o hio' hid).2 y k hy hk
      rw [h2 500 (by omega), hv0] at hz; injection hz with hz; subst hz
      have := (hlt k hk').1
      omega
    ·
     rcases hout j o' hjo with ⟨hjd, hjo'⟩ | ⟨rfl, rfl⟩
     ·
      intro hk'
      have a1 := (hob j o' hjo' hjd).2 z k hz hk'
      rw [h2 500 (by omega), hv0] at hy; injection hy with hy; subst hy
      have := (hlt k hk).1
      omega
     ·
      exact absurd rfl hij
 ·
  have : ¬ id < obs.length := fun hlt' => by
   rw [hρ id (.inl (by omega))] at hy; cases hy
  rw [h2 id this]; exact hy
 ·
  rw [h2 j (by omega)]
  exact hρ j hj5
section
variable {P : Program} {N : Nat} {C : Cx P N} {ops : Array Oper} {nx : Nat} {os : List Oper} {tm : Nat → V} {σ : Nat → Option Ob} {ks : List (List Nat × List Nat)} {K : (Nat → V) → (Nat → Option Ob) → List (List Nat × List Nat) → Prop} {ty : TypeId} {pos : String} {af : Array Edge}
end
end Go.Ab
