/-
  Several texts in one: Bends, the least and the greatest of numbers, the best arm; whether two grooves are equal. No condition but the sizes of slices. .. Contracts that read a slice, called with a row of the caller's that stays: results of numbers and of new rows of numbers. No condition.
-/
import Derived.Deep.RegionHeld3
import Derived.Deep.DeepCutAuto
import Derived.Test.YtpmchnojeloohaaGreatDoorX03
import Derived.Test.YtpmchnojeloohaaGreatDoorMD
import Derived.Test.YtpmchnojeloohaaGreatDoorX01
namespace Go.Proofs.YtpmchnojeloohaaGreatDoor
open Go.RowKit Go.Dw Go.Shelf
def bendAt (l : List Pt) (i : Nat) : Int := (gp l (i - 1)).1 + (gp l (i - 1)).2 + (gp l (i + 1)).1 + (gp l (i + 1)).2 - 2 * ((gp l i).1 + (gp l i).2)
def bendsTo (l : List Pt) (k : Nat) : List Int := (List.range k).map fun i => bendAt l (i + 1)
def bendsL (l : List Pt) : List Int := bendsTo l (l.length - 2)
theorem bendsTo_succ (l : List Pt) (k : Nat) : bendsTo l (k + 1) = bendsTo l k ++ [bendAt l (k + 1)] := by simp [bendsTo, List.range_succ]
set_option maxRecDepth 100000 in
set_option maxHeartbeats 1000000 in
theorem bends_calls (A : Option Addr) (n c : Nat) (l : List Pt) (w : World) (hl : PtsAt w A n l) (hn : n ≤ 4096) (hlb : ∀ p ∈ l, -4194304 ≤ p.1 ∧ p.1 ≤ 4194304 ∧ -4194304 ≤ p.2 ∧ p.2 ≤ 4194304) :
  Calls Tryz.prog 71 #[.slice A n c] w fun e w' => ∃ v, e = .returned v ∧ w'.ownsRow w.heap.size 2 1 v (n - 2) ((bendsL l).flatMap encI) ∧ Below w.heap.size w w' := by
 obtain ⟨i0, hel⟩ := el_i64
 have Hl := Lib.hid hl.1
 go_enter Tryz.func71, Tryz.ntmps71
 go_wp2
 go_loopw [3, 4] (fun v i wr => ∃ k : Nat, k ≤ n - 2 ∧ i = .int .i64 ((k : Int) + 1) ∧ wr.ownsRow w.heap.size 2 1 v k ((bendsTo l k).flatMap encI) ∧ Below w.heap.size w wr) (fun _ i _ => n - (intOf i).toNat)
 case atStart => exact ⟨0, Nat.zero_le _, rfl, World.ownsRow_nil _ _ _ _, Below.refl _ _⟩
 case round =>
  obtain ⟨k, hk, rfl, hown, hbl⟩ := hrel
  by_cases hlt : k + 2 < n
  ·
   obtain ⟨b, o, rfl, hb, p0, p1⟩ := pts_at (hl.below' hbl) (show k < n by omega)
   obtain ⟨b', o', hA, _, p2, p3⟩ := pts_at (hl.below' hbl) (show k + 1 < n by omega)
   injection hA with hA; injection hA with hA1 hA2; subst hA1 hA2
   obtain ⟨b', o', hA, _, p4, p5⟩ := pts_at (hl.below' hbl) hlt
   injection hA with hA; injection hA with hA1 hA2; subst hA1 hA2
   have q0 := (forall_gp.1 hlb) k (by rw [Hl.out]; omega)
   have q1 := (forall_gp.1 hlb) (k + 1) (by rw [Hl.out]; omega)
   have q2 := (forall_gp.1 hlb) (k + 2) (by rw [Hl.out]; omega)
   have n1 : IntKind.i64.wrap ((k : Int) + 1 - 1) = (k : Int) := by rw [IntWalk.i64_in _ oM]; omega
   have n2 : IntKind.i64.wrap ((k : Int) + 1 + 1) = (k : Int) + 2 := by rw [IntWalk.i64_in _ oM]; omega
   have n1' : IntKind.i64.wrap (k : Int) = (k : Int) := IntWalk.i64_in _ oM
   have n2' : IntKind.i64.wrap ((k : Int) + 2) = (k : Int) + 2 := IntWalk.i64_in _ oM
   have n3 : ((k : Int) + 2).toNat = k + 2 := by omega
   have n4 : ((k : Int) + 1).toNat = k + 1 := by omega
   have n5 : (0 : Int) ≤ (k : Int) + 2 := by omega
   have n6 : (k : Int) + 2 < (n : Int) := by omega
   have n7 : (0 : Int) ≤ (k : Int) + 1 := by omega
   have n8 : (k : Int) + 1 < (n : Int) := by omega
   have n9 : (k : Int) < (n : Int) := by omega
   go_upto_region 5 with fail
   have sof : ∀ w', Below wr.heap.size wr w' → w'.cell? ⟨b, o + k * 2, none⟩ = some (.int .i64 (gp l k).1) ∧ w'.cell? ⟨b, o + k * 2 + 1, none⟩ = some (.int .i64 (gp l k).2) ∧ w'.cell? ⟨b, o + (k + 1) * 2, none⟩ = some (.int .i64 (gp l (k + 1)).1) ∧ w'.cell? ⟨b, o + (k + 1) * 2 + 1, none⟩ = some (.int .i64 (gp l (k + 1)).2) ∧ w'.cell? ⟨b, o + (k + 2) * 2, none⟩ = some (.int .i64 (gp l (k + 2)).1) ∧ w'.cell? ⟨b, o + (k + 2) * 2 + 1, none⟩ = some (.int .i64 (gp l (k + 2)).2) := fun w' hw =>
    ⟨(hw.cell (p := ⟨b, o + k * 2, none⟩) hb).trans p0, (hw.cell (p := ⟨b, o + k * 2 + 1, none⟩) hb).trans p1, (hw.cell (p := ⟨b, o + (k + 1) * 2, none⟩) hb).trans p2, (hw.cell (p := ⟨b, o + (k + 1) * 2 + 1, none⟩) hb).trans p3, (hw.cell (p := ⟨b, o + (k + 2) * 2, none⟩) hb).trans p4, (hw.cell (p := ⟨b, o + (k + 2) * 2 + 1, none⟩) hb).trans p5⟩
   have Sof := Lib.hid sof
   clear sof
   go_cut [5, 6, 7] (fun s5 s6 s7 wx => ∃ g5 g6 g7 : Nat, s5 = .pointer (some ⟨g5, 0, none⟩) ∧ s6 = .pointer (some ⟨g6, 0, none⟩) ∧ s7 = .pointer (some ⟨g7, 0, none⟩) ∧
    Box wx g5 61 #[.int .i64 (gp l k).1, .int .i64 (gp l k).2] ∧ Box wx g6 61 #[.int .i64 (gp l (k + 1)).1, .int .i64 (gp l (k + 1)).2] ∧ Box wx g7 61 #[.int .i64 (gp l (k + 2)).1, .int .i64 (gp l (k + 2)).2] ∧ Below wr.heap.size wr wx)
   case first =>
    go_region_held3 (fun w' => w'.cell? ⟨b, o + k * 2, none⟩ = some (.int .i64 (gp l k).1) ∧ w'.cell? ⟨b, o + k * 2 + 1, none⟩ = some (.int .i64 (gp l k).2) ∧ w'.cell? ⟨b, o + (k + 1) * 2, none⟩ = some (.int .i64 (gp l (k + 1)).1) ∧ w'.cell? ⟨b, o + (k + 1) * 2 + 1, none⟩ = some (.int .i64 (gp l (k + 1)).2) ∧ w'.cell? ⟨b, o + (k + 2) * 2, none⟩ = some (.int .i64 (gp l (k + 2)).1) ∧ w'.cell? ⟨b, o + (k + 2) * 2 + 1, none⟩ = some (.int .i64 (gp l (k + 2)).2))
     ((refine Sof.out _ ?_; repeat (first | exact Below.refl _ _ | apply Below.drew | (refine Below.alloc ?_ (by simp <;> omega) _) | (refine Below.setCell ?_ (by simp <;> omega) _)))) (fail)
    all_goals
     go_wp2_with fail
     go_meet
     refine ⟨_, _, _, rfl, rfl, rfl, ?_, ?_, ?_, ?_⟩
     all_goals first
      | exact Box.newD _ _ _ (by simp)
      | exact ((Box.newA _ _ _ (by simp)).alloc _).drew
      | exact (((Box.newA _ _ _ (by simp)).alloc _).alloc _).drew
      | (repeat (first | exact Below.refl _ _ | apply Below.drew | (refine Below.alloc ?_ (by simp <;> omega) _) | (refine Below.setCell ?_ (by simp <;> omega) _)))
   case rest =>
    obtain ⟨g5, g6, g7, rfl, rfl, rfl, x5, x6, x7, hbx⟩ := hcut
    have y0 : wc.cell? ⟨g5, 0, none⟩ = some (.int .i64 (gp l k).1) := x5.cell 0
    have y1 : wc.cell? ⟨g5, 1, none⟩ = some (.int .i64 (gp l k).2) := x5.cell 1
    have y2 : wc.cell? ⟨g6, 0, none⟩ = some (.int .i64 (gp l (k + 1)).1) := x6.cell 0
    have y3 : wc.cell? ⟨g6, 1, none⟩ = some (.int .i64 (gp l (k + 1)).2) := x6.cell 1
    have y4 : wc.cell? ⟨g7, 0, none⟩ = some (.int .i64 (gp l (k + 2)).1) := x7.cell 0
    have y5 : wc.cell? ⟨g7, 1, none⟩ = some (.int .i64 (gp l (k + 2)).2) := x7.cell 1
    have hown1 := own_below' hown hbx
    have hbl1 := hbl.trans (hbx.mono hbl.size)
    have e1 : (gp l k).1 + (gp l k).2 + (gp l (k + 2)).1 + (gp l (k + 2)).2 - 2 * ((gp l (k + 1)).1 + (gp l (k + 1)).2) = bendAt l (k + 1) := rfl
    have E1 := Lib.hid e1
    clear e1
    go_wp2_with (at_builtin; refine wpList_push hel rfl _ _ rfl rfl (hown1.alloc _) rfl (Box.new wc 2 _) rfl (by intro u hu; simp at hu; subst hu; rfl) oM (by decide) (by have := hbl1.size; simp; omega) ?_; intro v' w2 hown2 hg2)
    go_roundw
    case rel =>
     refine ⟨k + 1, by omega, by go_num, ?_, ?_⟩
     ·
      rw [bendsTo_succ, List.flatMap_append, ← E1.out]; exact hown2
     ·
      exact (hbl1.alloc hbl1.size _).grown hg2 (by have := hbl1.size; simp; omega) (fun g e => by have := hown1.lt g e; omega)
    case measure => simp [intOf]; omega
  ·
   have hk2 : k = n - 2 := by omega
   subst hk2
   have n8 : ((n - 2 : Nat) : Int) + 1 + 1 = ((n - 2 : Nat) : Int) + 2 := by omega
   go_wp2
   go_ret
   exact ⟨_, rfl, by rw [bendsL, Hl.out]; exact hown, hbl⟩
end Go.Proofs.YtpmchnojeloohaaGreatDoor

namespace Go.Proofs.YtpmchnojeloohaaGreatDoor
open Go.RowKit Go.Dw Go.Shelf
def minTo (l : List Int) : Nat → Int
 | 0 => gi l 0
 | k + 1 => min (minTo l k) (gi l (k + 1))
def maxTo (l : List Int) : Nat → Int
 | 0 => gi l 0
 | k + 1 => max (maxTo l k) (gi l (k + 1))
theorem min_calls (A : Option Addr) (n c : Nat) (l : List Int) (w : World) (hl : IntsAt w A n l) (h0 : 0 < n) (hn : n ≤ 65536) :
  Calls Tryz.prog 72 #[.slice A n c] w fun e w' => e = .returned (.int .i64 (minTo l (n - 1))) ∧ w = w' := by
 obtain ⟨b, o, rfl, hb, hc0⟩ := ints_at hl h0
 rw [Nat.add_zero] at hc0
 go_enter Tryz.func72, Tryz.ntmps72
 go_wp2
 go_loop [3, 4] (fun m i => ∃ k : Nat, k + 1 ≤ n ∧ i = .int .i64 ((k : Int) + 1) ∧ m = .int .i64 (minTo l k)) (fun _ i => n - (intOf i).toNat)
 case atStart => exact ⟨0, by omega, rfl, rfl⟩
 case round =>
  obtain ⟨k, hk, rfl, rfl⟩ := hrel
  by_cases hlt : k + 1 < n
  ·
   obtain ⟨b', o', hA, _, hc1⟩ := ints_at hl hlt
   injection hA with hA; injection hA with hA1 hA2; subst hA1 hA2
   go_wp2
   go_round
   case rel => exact ⟨k + 1, by omega, by go_num, rfl⟩
   case measure => simp [intOf]; omega
  ·
   obtain rfl : k = n - 1 := by omega
   go_wp2
   go_ret
   exact ⟨rfl, rfl⟩
theorem max_calls (A : Option Addr) (n c : Nat) (l : List Int) (w : World) (hl : IntsAt w A n l) (h0 : 0 < n) (hn : n ≤ 65536) :
  Calls Tryz.prog 73 #[.slice A n c] w fun e w' => e = .returned (.int .i64 (maxTo l (n - 1))) ∧ w = w' := by
 obtain ⟨b, o, rfl, hb, hc0⟩ := ints_at hl h0
 rw [Nat.add_zero] at hc0
 go_enter Tryz.func73, Tryz.ntmps73
 go_wp2
 go_loop [3, 4] (fun m i => ∃ k : Nat, k + 1 ≤ n ∧ i = .int .i64 ((k : Int) + 1) ∧ m = .int .i64 (maxTo l k)) (fun _ i => n - (intOf i).toNat)
 case atStart => exact ⟨0, by omega, rfl, rfl⟩
 case round =>
  obtain ⟨k, hk, rfl, rfl⟩ := hrel
  by_cases hlt : k + 1 < n
  ·
   obtain ⟨b', o', hA, _, hc1⟩ := ints_at hl hlt
   injection hA with hA; injection hA with hA1 hA2; subst hA1 hA2
   go_wp2
   go_round
   case rel => exact ⟨k + 1, by omega, by go_num, rfl⟩
   case measure => simp [intOf]; omega
  ·
   obtain rfl : k = n - 1 := by omega
   go_wp2
   go_ret
   exact ⟨rfl, rfl⟩
def balHi (l : List Pt) : Int := maxTo (bendsL l) (l.length - 3)
def balLo (l : List Pt) : Int := minTo (bendsL l) (l.length - 3)
def balArm (l : List Pt) : Int × Int :=
 if checkPts l = 0 ∧ 3 ≤ l.length then ((balHi l - balLo l + 1) / 2, balHi l - (balHi l - balLo l + 1) / 2) else (0, 0)
theorem bendAt_bound {l : List Pt} (hlb : ∀ p ∈ l, -4194304 ≤ p.1 ∧ p.1 ≤ 4194304 ∧ -4194304 ≤ p.2 ∧ p.2 ≤ 4194304) {i : Nat} (h : i + 1 < l.length) (_ : 0 < i) : -67108864 ≤ bendAt l i ∧ bendAt l i ≤ 67108864 := by
 have a := (forall_gp.1 hlb) (i - 1) oM
 have b := (forall_gp.1 hlb) i oM
 have c := (forall_gp.1 hlb) (i + 1) h
 unfold bendAt; omega
theorem bendsL_gi {l : List Pt} {k : Nat} (h : k + 2 < l.length) : gi (bendsL l) k = bendAt l (k + 1) := by
 have hl : k < (bendsL l).length := by simp [bendsL, bendsTo]; omega
 rw [gi_eq hl]; simp [bendsL, bendsTo]
theorem balHi_bound {l : List Pt} (hlb : ∀ p ∈ l, -4194304 ≤ p.1 ∧ p.1 ≤ 4194304 ∧ -4194304 ≤ p.2 ∧ p.2 ≤ 4194304) : ∀ k, k + 2 < l.length →
  -67108864 ≤ minTo (bendsL l) k ∧ minTo (bendsL l) k ≤ maxTo (bendsL l) k ∧ maxTo (bendsL l) k ≤ 67108864
 | 0, h => by
  have := bendAt_bound hlb (i := 1) oM oM
  simp only [minTo, maxTo]
  rw [bendsL_gi h]; simp; omega
 | k + 1, h => by
  have h1 := balHi_bound hlb k oM
  have := bendAt_bound hlb (i := k + 1 + 1) oM oM
  simp only [minTo, maxTo]
  rw [bendsL_gi h]; omega
set_option maxRecDepth 100000 in
set_option maxHeartbeats 1000000 in
theorem balance_calls (A : Option Addr) (n c : Nat) (l : List Pt) (w : World) (hl : PtsAt w A n l) (hn : n ≤ 4611686018427387904) :
  Calls Tryz.prog 36 #[.slice A n c] w fun e w' => e = .returned (.tuple #[.agg #[.int .i64 (balArm l).1, .int .i64 (balArm l).2], .int .i64 (checkPts l)]) ∧ Below w.heap.size w w' := by
 have Hl := Lib.hid hl.1
 have hx := Box.new w 96 #[.int .i64 0, .int .i64 0]
 have hb0 := below_new w (.cells #[.int .i64 0, .int .i64 0] 96)
 by_cases h0 : checkPts l = 0
 ·
  have d0 : (checkPts l != 0) = false := by simpa using h0
  by_cases h3 : n < 3
  ·
   have d1 : decide ((n : Int) < 3) = true := by simp; omega
   have e : balArm l = (0, 0) := by rw [balArm, if_neg (by rw [Hl.out]; omega)]
   have E := Lib.hid e
   have H0 := Lib.hid h0
   clear e h0 d0
   go_enter Tryz.func36, Tryz.ntmps36
   go_wp2_with fail
   generalize w.alloc (.cells #[.int .i64 0, .int .i64 0] 96) = w0 at *
   refine (checkPts_calls A n c l w0 (hl.below' hb0) hn).mono ?_
   rintro e w1 ⟨rfl, hw1⟩
   have hx1 := hx.below' hw1
   have x0 : w1.cell? ⟨w.heap.size, 0, none⟩ = some (.int .i64 0) := hx1.cell 0
   have x1 : w1.cell? ⟨w.heap.size, 1, none⟩ = some (.int .i64 0) := hx1.cell 1
   have f0 := hx1.frozen 0
   have f1 := hx1.frozen 1
   rw [H0.out]
   go_wp2
   have hx2 := (hx1.set 0 (.int .i64 0)).set 1 (.int .i64 0)
   have y0 := hx2.cell 0
   have y1 := hx2.cell 1
   simp only [List.setIfInBounds_toArray, List.set_cons_zero, List.set_cons_succ, List.getElem?_toArray, List.getElem?_cons_zero, List.getElem?_cons_succ] at y0 y1
   refine bodyPost_ret (v := .tuple #[.agg #[.int .i64 0, .int .i64 0], .int .i64 0]) (by simp [results, Tryz.results36, go_sem, y0, y1]) rfl ⟨by rw [E.out, H0.out], ?_⟩
   exact ((hb0.trans (hw1.mono hb0.size)).setCell (Nat.le_refl _) _).setCell (Nat.le_refl _) _
  ·
   have d1 : decide ((n : Int) < 3) = false := by simp; omega
   obtain ⟨m1, m2⟩ := checkPts_ok h0
   have hbd := balHi_bound m2 (n - 3) (by rw [Hl.out]; omega)
   have e : balArm l = ((balHi l - balLo l + 1) / 2, balHi l - (balHi l - balLo l + 1) / 2) := by rw [balArm, if_pos ⟨h0, by rw [Hl.out]; omega⟩]
   have e1 : balHi l = maxTo (bendsL l) (n - 3) := by rw [balHi, Hl.out]
   have e2 : balLo l = minTo (bendsL l) (n - 3) := by rw [balLo, Hl.out]
   rw [← e1, ← e2] at hbd
   have E := Lib.hid e
   have E1 := Lib.hid e1
   have E2 := Lib.hid e2
   have H0 := Lib.hid h0
   rw [Hl.out] at m1
   clear e e1 e2 h0 d0
   go_enter Tryz.func36, Tryz.ntmps36
   go_wp2_with fail
   generalize w.alloc (.cells #[.int .i64 0, .int .i64 0] 96) = w0 at *
   refine (checkPts_calls A n c l w0 (hl.below' hb0) hn).mono ?_
   rintro e w1 ⟨rfl, hw1⟩
   have hx1 := hx.below' hw1
   have hb1 := hb0.trans (hw1.mono hb0.size)
   rw [H0.out]
   go_wp2_with fail
   refine (bends_calls A n c l w1 (hl.below' hb1) m1 m2).mono ?_
   rintro e w2 ⟨v, rfl, hown, hw2⟩
   obtain ⟨A', c', rfl⟩ := own_form hown
   have hi2 : IntsAt w2 A' (n - 2) (bendsL l) := SlAt.of_own encI_len Nat.one_pos hown
   have hx2 := hx1.below' hw2
   have hb2 := hb1.trans (hw2.mono hb1.size)
   have en : n - 2 - 1 = n - 3 := by omega
   go_wp2_with fail
   refine (min_calls A' (n - 2) c' _ w2 hi2 oM oM).mono ?_
   rintro e w3 ⟨rfl, rfl⟩
   rw [en, ← E2.out]
   go_wp2_with fail
   refine (max_calls A' (n - 2) c' _ w2 hi2 oM oM).mono ?_
   rintro e w3 ⟨rfl, rfl⟩
   rw [en, ← E1.out]
   have x0 : w2.cell? ⟨w.heap.size, 0, none⟩ = some (.int .i64 0) := hx2.cell 0
   have x1 : w2.cell? ⟨w.heap.size, 1, none⟩ = some (.int .i64 0) := hx2.cell 1
   have f0 := hx2.frozen 0
   have f1 := hx2.frozen 1
   clear en
   go_wp2
   have hx3 := (hx2.set 0 (.int .i64 ((balHi l - balLo l + 1) / 2))).set 1 (.int .i64 (balHi l - (balHi l - balLo l + 1) / 2))
   have y0 := hx3.cell 0
   have y1 := hx3.cell 1
   simp only [List.setIfInBounds_toArray, List.set_cons_zero, List.set_cons_succ, List.getElem?_toArray, List.getElem?_cons_zero, List.getElem?_cons_succ] at y0 y1
   refine bodyPost_ret (v := .tuple #[.agg #[.int .i64 ((balHi l - balLo l + 1) / 2), .int .i64 (balHi l - (balHi l - balLo l + 1) / 2)], .int .i64 0]) (by simp [results, Tryz.results36, go_sem, y0, y1]) rfl ⟨by rw [E.out, H0.out], ?_⟩
   exact (hb2.setCell (Nat.le_refl _) _).setCell (Nat.le_refl _) _
 ·
  have d0 : (checkPts l != 0) = true := by simpa using h0
  have e : balArm l = (0, 0) := by rw [balArm, if_neg oM]
  have E := Lib.hid e
  clear e
  go_enter Tryz.func36, Tryz.ntmps36
  go_wp2_with fail
  generalize w.alloc (.cells #[.int .i64 0, .int .i64 0] 96) = w0 at *
  refine (checkPts_calls A n c l w0 (hl.below' hb0) hn).mono ?_
  rintro e w1 ⟨rfl, hw1⟩
  have hx1 := hx.below' hw1
  have x0 : w1.cell? ⟨w.heap.size, 0, none⟩ = some (.int .i64 0) := hx1.cell 0
  have x1 : w1.cell? ⟨w.heap.size, 1, none⟩ = some (.int .i64 0) := hx1.cell 1
  have f0 := hx1.frozen 0
  have f1 := hx1.frozen 1
  go_wp2
  have hx2 := (hx1.set 0 (.int .i64 0)).set 1 (.int .i64 0)
  have y0 := hx2.cell 0
  have y1 := hx2.cell 1
  simp only [List.setIfInBounds_toArray, List.set_cons_zero, List.set_cons_succ, List.getElem?_toArray, List.getElem?_cons_zero, List.getElem?_cons_succ] at y0 y1
  refine bodyPost_ret (v := .tuple #[.agg #[.int .i64 0, .int .i64 0], .int .i64 (checkPts l)]) (by simp [results, Tryz.results36, go_sem, y0, y1]) rfl ⟨by rw [E.out], ?_⟩
  exact ((hb0.trans (hw1.mono hb0.size)).setCell (Nat.le_refl _) _).setCell (Nat.le_refl _) _
end Go.Proofs.YtpmchnojeloohaaGreatDoor

namespace Go.Proofs.YtpmchnojeloohaaGreatDoor
open Go.RowKit Go.Dw Go.Shelf
end Go.Proofs.YtpmchnojeloohaaGreatDoor

namespace Go.Proofs.YtpmchnojeloohaaGreatDoor
open Go.Ab Go.RowKit Go.Dw Go.Shelf
structure BE where
  f : Nat
  t : Nat
  w : Int
  rule : Int
  at' : Int
structure BS where
  r : Nat → Int
  la : Nat → Option BE
  ch : Option Nat
  lc : Nat → Int
  ti : Nat → Nat
  clk : Nat
def BS.step (k : Int) (s : BS) (e : BE) : BS :=
  if s.r e.f + e.w < s.r e.t then ⟨upd s.r e.t (s.r e.f + e.w), upd s.la e.t (some e), some e.t, upd s.lc e.t k, upd s.ti e.t (s.clk + 1), s.clk + 1⟩ else s
def BS.to (k : Int) (s : BS) (E : List BE) : Nat → BS
  | 0 => s
  | j + 1 => match E[j]? with
    | some e => (BS.to k s E j).step k e
    | none => BS.to k s E j
def BS.begin (s : BS) : BS := { s with ch := none }
def BS.pass (k : Int) (E : List BE) (s : BS) : BS := s.begin.to k E E.length
def BS.init (i : Nat → Int) : BS := ⟨i, fun _ => none, none, fun _ => -1, fun _ => 0, 0⟩
def BS.rounds (E : List BE) (i : Nat → Int) : Nat → BS
  | 0 => .init i
  | k + 1 => (BS.rounds E i k).pass k E
def Sol (n : Nat) (E : List BE) (i g : Nat → Int) : Prop := (∀ v, v < n → g v ≤ i v) ∧ ∀ e ∈ E, g e.t ≤ g e.f + e.w
def EOk (n : Nat) (E : List BE) : Prop := ∀ e ∈ E, e.f < n ∧ e.t < n
section
variable {n : Nat} {E : List BE} {i g : Nat → Int} {s : BS} {k : Int}
theorem step_sol (h : ∀ e ∈ E, g e.t ≤ g e.f + e.w) (hs : ∀ v, v < n → g v ≤ s.r v) (hE : EOk n E) {e : BE} (he : e ∈ E) : ∀ v, v < n → g v ≤ (s.step k e).r v := by
  intro v hv
  unfold BS.step
  split
  · by_cases h1 : v = e.t
    · subst h1
      simp only [upd_same]
      have := h e he
      have := hs e.f (hE e he).1
      omega
    · simp only [upd_ne _ _ h1]; exact hs v hv
  · exact hs v hv
theorem to_succ {j : Nat} {e : BE} (h : E[j]? = some e) : s.to k E (j + 1) = (s.to k E j).step k e := by rw [BS.to, h]
theorem to_ind (p : Nat → BS → Prop) (h0 : p 0 s) (hs : ∀ j e s', E[j]? = some e → p j s' → p (j + 1) (s'.step k e)) : ∀ j, j ≤ E.length → p j (s.to k E j)
  | 0, _ => h0
  | j + 1, h => by
    have e : E[j]? = some E[j] := List.getElem?_eq_getElem oM
    rw [to_succ e]
    exact hs j _ _ e (to_ind p h0 hs j oM)
structure BInv (n : Nat) (E : List BE) (i : Nat → Int) (k : Int) (j : Nat) (s : BS) : Prop where
  k0 : 0 ≤ k
  le : ∀ v, v < n → s.r v ≤ i v
  sol : ∀ g, Sol n E i g → ∀ v, v < n → g v ≤ s.r v
  non : ∀ v, v < n → s.la v = none → s.lc v = -1 ∧ s.r v = i v
  lcl : ∀ v, -1 ≤ s.lc v ∧ s.lc v ≤ k
  par : ∀ v e, v < n → s.la v = some e → e ∈ E ∧ e.t = v ∧ 0 ≤ s.lc v ∧ s.lc v - 1 ≤ s.lc e.f
  sat1 : ∀ m e, m < j → E[m]? = some e → s.lc e.f < k → s.r e.t ≤ s.r e.f + e.w
  sat2 : ∀ m e, j ≤ m → E[m]? = some e → s.lc e.f < k - 1 → s.r e.t ≤ s.r e.f + e.w
  tim : ∀ v e, v < n → s.la v = some e → (s.r v = s.r e.f + e.w ∧ s.ti e.f < s.ti v) ∨ s.r e.f + e.w < s.r v
  clk : ∀ v, s.ti v ≤ s.clk
  chg : ∀ v, s.ch = some v → v < n ∧ s.lc v = k
theorem BInv.step {j : Nat} {e : BE} (hE : EOk n E) (hns : ∀ e ∈ E, e.f ≠ e.t) (he : E[j]? = some e) (h : BInv n E i k j s) : BInv n E i k (j + 1) (s.step k e) := by
  have hm := List.mem_of_getElem? he
  obtain ⟨hf, ht⟩ := hE e hm
  have hne := hns e hm
  unfold BS.step
  split
  · rename_i hlt
    have hlc : k - 1 ≤ s.lc e.f := by
      refine Int.not_lt.1 fun hc => ?_
      have := h.sat2 j e (Nat.le_refl _) he hc
      omega
    have rle : ∀ v, upd s.r e.t (s.r e.f + e.w) v ≤ s.r v := fun v => by
      by_cases hv : v = e.t
      · subst hv; rw [upd_same]; omega
      · rw [upd_ne _ _ hv]; omega
    have hk0 := h.k0
    refine ⟨hk0, fun v hv => Int.le_trans (rle v) (h.le v hv), fun g hg v hv => ?_, fun v hv hn => ?_, fun v => ?_, fun v e' hv hl => ?_, fun m e' hm' he' hc => ?_, fun m e' hm' he' hc => ?_, fun v e' hv hl => ?_, fun v => ?_, fun v hv => ?_⟩
    · (try dsimp only at *)
      have := step_sol (k := k) hg.2 (h.sol g hg) hE hm v hv
      unfold BS.step at this
      rwa [if_pos hlt] at this
    · (try dsimp only at *)
      by_cases h1 : v = e.t
      · subst h1; simp only [upd_same] at hn; cases hn
      · simp only [upd_ne _ _ h1] at hn ⊢; exact h.non v hv hn
    · (try dsimp only at *)
      by_cases h1 : v = e.t
      · subst h1
        simp only [upd_same]
        have := (h.lcl e.f).2
        have := (h.lcl e.t)
        omega
      · simp only [upd_ne _ _ h1]; exact h.lcl v
    · (try dsimp only at *)
      by_cases h1 : v = e.t
      · subst h1
        simp only [upd_same, Option.some.injEq] at hl ⊢
        subst hl
        rw [upd_ne _ _ hne]
        have := (h.lcl e.t)
        exact ⟨hm, rfl, by omega, hlc⟩
      · simp only [upd_ne _ _ h1] at hl ⊢
        obtain ⟨a, b, c, d⟩ := h.par v e' hv hl
        refine ⟨a, b, c, ?_⟩
        by_cases h2 : e'.f = e.t
        · rw [h2, upd_same]; have := (h.lcl v).2; omega
        · rw [upd_ne _ _ h2]; exact d
    · (try dsimp only at *)
      by_cases h2 : e'.f = e.t
      · rw [h2, upd_same] at hc; omega
      · rw [upd_ne _ _ h2] at hc
        rw [upd_ne _ _ h2]
        by_cases h3 : m = j
        · subst h3
          rw [he] at he'; injection he' with he'; subst he'
          rw [upd_same]; omega
        · have := h.sat1 m e' oM he' hc
          have := rle e'.t
          omega
    · (try dsimp only at *)
      by_cases h2 : e'.f = e.t
      · rw [h2, upd_same] at hc; omega
      · rw [upd_ne _ _ h2] at hc
        rw [upd_ne _ _ h2]
        have := h.sat2 m e' oM he' hc
        have := rle e'.t
        omega
    · (try dsimp only at *)
      by_cases h1 : v = e.t
      · subst h1
        simp only [upd_same, Option.some.injEq] at hl ⊢
        subst hl
        rw [upd_ne _ _ hne, upd_ne _ _ hne]
        left
        have := h.clk e.f
        exact ⟨rfl, by omega⟩
      · simp only [upd_ne _ _ h1] at hl ⊢
        have := h.tim v e' hv hl
        by_cases h2 : e'.f = e.t
        · right
          rw [h2, upd_same]
          rw [h2] at this
          omega
        · rw [upd_ne _ _ h2, upd_ne _ _ h2]; exact this
    · (try dsimp only at *)
      have := h.clk v
      by_cases h1 : v = e.t
      · subst h1; simp only [upd_same]; omega
      · simp only [upd_ne _ _ h1]; omega
    · (try dsimp only at *)
      simp only [Option.some.injEq] at hv
      subst hv
      simp only [upd_same]
      exact ⟨ht, trivial⟩
  · rename_i hlt
    refine ⟨h.k0, h.le, h.sol, h.non, h.lcl, h.par, fun m e' hm' he' hc => ?_, fun m e' hm' he' hc => h.sat2 m e' oM he' hc, h.tim, h.clk, h.chg⟩
    by_cases h3 : m = j
    · subst h3
      rw [he] at he'; injection he' with he'; subst he'
      omega
    · exact h.sat1 m e' oM he' hc
theorem BInv.begin (h : BInv n E i k E.length s) : BInv n E i (k + 1) 0 s.begin :=
  ⟨by have := h.k0; omega, h.le, h.sol, h.non, fun v => by have := h.lcl v; exact ⟨this.1, by simp only [BS.begin]; omega⟩, h.par, fun m e' hm' => by omega,
   fun m e' _ he' hc => h.sat1 m e' (List.getElem?_eq_some_iff.1 he').1 he' (by simp only [BS.begin] at hc; omega), h.tim, h.clk, fun v hv => by simp [BS.begin] at hv⟩
theorem BInv.init : BInv n E i 0 0 (BS.init i).begin :=
  ⟨Int.le_refl _, fun v _ => Int.le_refl _, fun g hg v hv => hg.1 v hv, fun v _ _ => ⟨rfl, rfl⟩, fun v => ⟨Int.le_refl _, by simp [BS.init, BS.begin]⟩, fun v e _ h => by simp [BS.init, BS.begin] at h, fun m e hm => by omega,
   fun m e _ _ hc => by simp [BS.init, BS.begin] at hc, fun v e _ h => by simp [BS.init, BS.begin] at h, fun v => Nat.le_refl _, fun v hv => by simp [BS.begin] at hv⟩
theorem binv_to (hE : EOk n E) (hns : ∀ e ∈ E, e.f ≠ e.t) {j : Nat} (hj : j ≤ E.length) (h : BInv n E i k 0 s) : BInv n E i k j (s.to k E j) :=
  to_ind (fun j s => BInv n E i k j s) h (fun _ _ _ he h => h.step hE hns he) j hj
theorem binv_rounds (hE : EOk n E) (hns : ∀ e ∈ E, e.f ≠ e.t) : ∀ k : Nat, BInv n E i k 0 (BS.rounds E i k).begin
  | 0 => .init
  | k + 1 => by
    have h := binv_to hE hns (Nat.le_refl _) (binv_rounds hE hns k)
    exact h.begin
theorem binv_at (hE : EOk n E) (hns : ∀ e ∈ E, e.f ≠ e.t) (k : Nat) {j : Nat} (hj : j ≤ E.length) : BInv n E i k j ((BS.rounds E i k).begin.to k E j) := binv_to hE hns hj (binv_rounds hE hns k)
def BS.up (s : BS) (v : Nat) : Nat := match s.la v with
  | some e => e.f
  | none => v
theorem low_to {M : Int} (hM : 0 ≤ M) (hE : EOk n E) (hw : ∀ e ∈ E, -M ≤ e.w) {c : Nat} (h : ∀ v, v < n → -(M * (c : Int)) ≤ s.r v) : ∀ j, j ≤ E.length → ∀ v, v < n → -(M * ((c + j : Nat) : Int)) ≤ (s.to k E j).r v := by
  intro j hj
  refine to_ind (fun j s' => ∀ v, v < n → -(M * ((c + j : Nat) : Int)) ≤ s'.r v) h (fun j e s' he h v hv => ?_) j hj
  have hm := List.mem_of_getElem? he
  have e1 : M * ((c + (j + 1) : Nat) : Int) = M * ((c + j : Nat) : Int) + M := by
    rw [show ((c + (j + 1) : Nat) : Int) = ((c + j : Nat) : Int) + 1 by omega, Int.mul_add, Int.mul_one]
  rw [e1]
  unfold BS.step
  split
  · by_cases h1 : v = e.t
    · subst h1
      simp only [upd_same]
      have := h e.f (hE e hm).1
      have := hw e hm
      omega
    · simp only [upd_ne _ _ h1]
      have := h v hv
      omega
  · have := h v hv
    omega
theorem low_rounds {M : Int} (hM : 0 ≤ M) (hE : EOk n E) (hw : ∀ e ∈ E, -M ≤ e.w) (hi : ∀ v, v < n → -M ≤ i v) : ∀ k : Nat, ∀ v, v < n → -(M * ((1 + k * E.length : Nat) : Int)) ≤ (BS.rounds E i k).r v
  | 0, v, hv => by
    have := hi v hv
    simp only [BS.rounds, BS.init, Nat.zero_mul, Nat.add_zero]
    simpa using this
  | k + 1, v, hv => by
    have := low_to (k := (k : Int)) (s := (BS.rounds E i k).begin) hM hE hw (c := 1 + k * E.length) (low_rounds hM hE hw hi k) E.length (Nat.le_refl _) v hv
    rw [show 1 + (k + 1) * E.length = 1 + k * E.length + E.length by rw [Nat.succ_mul]; omega]
    exact this
theorem low_at {M : Int} (hM : 0 ≤ M) (hE : EOk n E) (hw : ∀ e ∈ E, -M ≤ e.w) (hi : ∀ v, v < n → -M ≤ i v) (k j : Nat) (hj : j ≤ E.length) {v : Nat} (hv : v < n) : -(M * ((1 + (k + 1) * E.length : Nat) : Int)) ≤ ((BS.rounds E i k).begin.to k E j).r v := by
  have := low_to (k := (k : Int)) (s := (BS.rounds E i k).begin) hM hE hw (c := 1 + k * E.length) (low_rounds hM hE hw hi k) j hj v hv
  have h2 : (1 + k * E.length + j : Nat) ≤ 1 + (k + 1) * E.length := by rw [Nat.succ_mul]; omega
  have h3 := Int.mul_le_mul_of_nonneg_left (show ((1 + k * E.length + j : Nat) : Int) ≤ ((1 + (k + 1) * E.length : Nat) : Int) by omega) hM
  omega
end
end Go.Proofs.YtpmchnojeloohaaGreatDoor

namespace Go.Proofs.YtpmchnojeloohaaGreatDoor
open Go.Ab Go.RowKit Go.Dw Go.Shelf
structure Bl where
 per : Int
 rim : Int
 core : Int
 land : Int
 slow : Int
 fast : Int
def Bl.ok (b : Bl) : Prop := (1 ≤ b.per ∧ b.per ≤ 65536) ∧ (0 ≤ b.rim ∧ b.rim ≤ 4194304) ∧ (0 ≤ b.core ∧ b.core ≤ b.rim) ∧ (0 ≤ b.land ∧ b.land ≤ 65536) ∧ (0 ≤ b.fast ∧ b.fast ≤ 65536) ∧ 0 ≤ b.slow ∧ b.slow ≤ b.fast
def slowE (b : Bl) (i : Nat) : BE := ⟨i - 1, i, -b.slow, 3, i⟩
def landE (b : Bl) (l : List Pt) (i : Nat) : BE := ⟨i - b.per.toNat, i, (gp l (i - b.per.toNat)).1 - (gp l i).2 - b.land, 5, i⟩
def fastE (b : Bl) (i : Nat) : BE := ⟨i, i - 1, b.fast, 4, i⟩
def inE (b : Bl) (l : List Pt) (i : Nat) : List BE := (if 0 < i then [slowE b i] else []) ++ if b.per.toNat ≤ i then [landE b l i] else []
def inEs (b : Bl) (l : List Pt) (n : Nat) : List BE := (List.range n).flatMap (inE b l)
def outEs (b : Bl) (n m : Nat) : List BE := (List.range m).map fun k => fastE b (n - 1 - k)
def edgesL (b : Bl) (l : List Pt) : List BE := inEs b l l.length ++ outEs b l.length (l.length - 1)
def rimI (b : Bl) (l : List Pt) (i : Nat) : Int := b.rim - (gp l i).2
def LSol (b : Bl) (l : List Pt) (g : Nat → Int) : Prop := ∀ v, v < l.length → g v + (gp l v).2 ≤ b.rim ∧ (0 < v → b.slow ≤ g (v - 1) - g v ∧ g (v - 1) - g v ≤ b.fast) ∧ (b.per.toNat ≤ v → b.land ≤ g (v - b.per.toNat) + (gp l (v - b.per.toNat)).1 - (g v + (gp l v).2))
def LCut (b : Bl) (l : List Pt) (g : Nat → Int) : Prop := LSol b l g ∧ ∀ v, v < l.length → b.core ≤ g v + (gp l v).1
theorem inE_mem {b : Bl} {l : List Pt} {i : Nat} {e : BE} : e ∈ inE b l i ↔ (0 < i ∧ e = slowE b i) ∨ (b.per.toNat ≤ i ∧ e = landE b l i) := by
 unfold inE
 rw [List.mem_append]
 constructor
 ·
  rintro (h | h)
  ·
   split at h
   ·
    exact .inl ⟨by assumption, by simpa using h⟩
   ·
    cases h
  ·
   split at h
   ·
    exact .inr ⟨by assumption, by simpa using h⟩
   ·
    cases h
 ·
  rintro (⟨h1, rfl⟩ | ⟨h1, rfl⟩)
  ·
   left; rw [if_pos h1]; simp
  ·
   right; rw [if_pos h1]; simp
theorem edgesL_mem {b : Bl} {l : List Pt} {e : BE} : e ∈ edgesL b l ↔ (∃ i, i < l.length ∧ ((0 < i ∧ e = slowE b i) ∨ (b.per.toNat ≤ i ∧ e = landE b l i))) ∨ ∃ i, 0 < i ∧ i < l.length ∧ e = fastE b i := by
 unfold edgesL inEs outEs
 rw [List.mem_append, List.mem_flatMap, List.mem_map]
 constructor
 ·
  rintro (⟨i, hi, h⟩ | ⟨k, hk, rfl⟩)
  ·
   exact .inl ⟨i, List.mem_range.1 hi, inE_mem.1 h⟩
  ·
   have := List.mem_range.1 hk
   exact .inr ⟨l.length - 1 - k, by omega, by omega, rfl⟩
 ·
  rintro (⟨i, hi, h⟩ | ⟨i, h1, h2, rfl⟩)
  ·
   exact .inl ⟨i, List.mem_range.2 hi, inE_mem.2 h⟩
  ·
   exact .inr ⟨l.length - 1 - i, List.mem_range.2 oM, by rw [show l.length - 1 - (l.length - 1 - i) = i by omega]⟩
section
variable {b : Bl} {l : List Pt}
theorem edges_ok (hb : 1 ≤ b.per) : EOk l.length (edgesL b l) ∧ ∀ e ∈ edgesL b l, e.f ≠ e.t := by
 constructor <;> intro e he <;> rcases edgesL_mem.1 he with ⟨i, hi, ⟨h1, rfl⟩ | ⟨h1, rfl⟩⟩ | ⟨i, h1, h2, rfl⟩ <;> simp only [slowE, landE, fastE] <;> omega
theorem edgesL_len : (edgesL b l).length ≤ 3 * l.length := by
 unfold edgesL inEs outEs
 have h : ∀ n, ((List.range n).flatMap (inE b l)).length ≤ 2 * n := by
  intro n
  induction n with
  | zero => simp
  | succ n ih =>
   rw [List.range_succ, List.flatMap_append, List.length_append]
   have : ([n].flatMap (inE b l)).length ≤ 2 := by
    simp only [List.flatMap_cons, List.flatMap_nil, List.append_nil, inE, List.length_append]
    split <;> split <;> simp
   omega
 have := h l.length
 rw [List.length_append, List.length_map, List.length_range]
 omega
theorem LSol.anti {l' : List Pt} {g : Nat → Int} (h : LSol b l g) (hl : l'.length = l.length) (hi : ∀ v, v < l.length → (gp l v).1 ≤ (gp l' v).1) (ho : ∀ v, v < l.length → (gp l' v).2 ≤ (gp l v).2) : LSol b l' g := by
 intro v hv
 rw [hl] at hv
 obtain ⟨h1, h2, h3⟩ := h v hv
 have a := ho v hv
 refine ⟨by omega, h2, fun hp => ?_⟩
 have := h3 hp
 have c := hi (v - b.per.toNat) oM
 omega
end
end Go.Proofs.YtpmchnojeloohaaGreatDoor

namespace Go.Ab
open Go.RowKit Go.Dw
def Ob.isC : Ob → Prop
 | .row _ _ n r => ∀ i, i < n → ∀ u ∈ r i, u.isC = true
 | _ => False
section
variable {P : Program} {N : Nat} {C : Cx P N} {ops : Array Oper} {nx : Nat} {os : List Oper} {tm : Nat → V} {σ : Nat → Option Ob} {ks : List (List Nat × List Nat)} {K : (Nat → V) → (Nat → Option Ob) → List (List Nat × List Nat) → Prop} {ty : TypeId} {pos : String} {af : Array Edge}
end
end Go.Ab
