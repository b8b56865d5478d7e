/-
  Bends, the least and the greatest of numbers, the best arm; whether two grooves are equal. No condition but the sizes of slices.
-/
import Derived.Test.YtlfaaddoemcokaaPlayG
import Derived.Deep.RegionHeld3
import Derived.Deep.DeepCutAuto
namespace Go.Proofs.Ytlfaaddoemcokaa
open Go.RowKit Go.Dw Go.Shelf

def bendAt (l : List Pt) (i : Nat) : Int := (gp l (i - 1)).1 + (gp l (i - 1)).2 + (gp l (i + 1)).1 + (gp l (i + 1)).2 - 2 * ((gp l i).1 + (gp l i).2)
def bendsTo (l : List Pt) (k : Nat) : List Int := (List.range k).map fun i => bendAt l (i + 1)
def bendsL (l : List Pt) : List Int := bendsTo l (l.length - 2)
theorem bendsTo_succ (l : List Pt) (k : Nat) : bendsTo l (k + 1) = bendsTo l k ++ [bendAt l (k + 1)] := by simp [bendsTo, List.range_succ]

set_option maxRecDepth 100000 in
set_option maxHeartbeats 1000000 in
theorem bends_calls (A : Option Addr) (n c : Nat) (l : List Pt) (w : World) (hl : PtsAt w A n l) (hn : n ≤ 4096) (hlb : ∀ p ∈ l, -4194304 ≤ p.1 ∧ p.1 ≤ 4194304 ∧ -4194304 ≤ p.2 ∧ p.2 ≤ 4194304) :
    Calls Try.prog 61 #[.slice A n c] w fun e w' => ∃ v, e = .returned v ∧ w'.ownsRow w.heap.size 2 1 v (n - 2) ((bendsL l).flatMap encI) ∧ Below w.heap.size w w' := by
  obtain ⟨i0, hel⟩ := el_i64
  have Hl := Lib.hid hl.1
  go_enter Try.func61, Try.ntmps61
  go_wp2
  go_loopw [3, 4] (fun v i wr => ∃ k : Nat, k ≤ n - 2 ∧ i = .int .i64 ((k : Int) + 1) ∧ wr.ownsRow w.heap.size 2 1 v k ((bendsTo l k).flatMap encI) ∧ Below w.heap.size w wr) (fun _ i _ => n - (intOf i).toNat)
  case atStart => exact ⟨0, Nat.zero_le _, rfl, World.ownsRow_nil _ _ _ _, Below.refl _ _⟩
  case round =>
    obtain ⟨k, hk, rfl, hown, hbl⟩ := hrel
    by_cases hlt : k + 2 < n
    · obtain ⟨b, o, rfl, hb, p0, p1⟩ := pts_at (hl.below' hbl) (show k < n by omega)
      obtain ⟨b', o', hA, _, p2, p3⟩ := pts_at (hl.below' hbl) (show k + 1 < n by omega)
      injection hA with hA; injection hA with hA1 hA2; subst hA1 hA2
      obtain ⟨b', o', hA, _, p4, p5⟩ := pts_at (hl.below' hbl) hlt
      injection hA with hA; injection hA with hA1 hA2; subst hA1 hA2
      have q0 := (forall_gp.1 hlb) k (by rw [Hl.out]; omega)
      have q1 := (forall_gp.1 hlb) (k + 1) (by rw [Hl.out]; omega)
      have q2 := (forall_gp.1 hlb) (k + 2) (by rw [Hl.out]; omega)
      have n1 : IntKind.i64.wrap ((k : Int) + 1 - 1) = (k : Int) := by rw [IntWalk.i64_in _ (by omega)]; omega
      have n2 : IntKind.i64.wrap ((k : Int) + 1 + 1) = (k : Int) + 2 := by rw [IntWalk.i64_in _ (by omega)]; omega
      have n1' : IntKind.i64.wrap (k : Int) = (k : Int) := IntWalk.i64_in _ (by omega)
      have n2' : IntKind.i64.wrap ((k : Int) + 2) = (k : Int) + 2 := IntWalk.i64_in _ (by omega)
      have n3 : ((k : Int) + 2).toNat = k + 2 := by omega
      have n4 : ((k : Int) + 1).toNat = k + 1 := by omega
      have n5 : (0 : Int) ≤ (k : Int) + 2 := by omega
      have n6 : (k : Int) + 2 < (n : Int) := by omega
      have n7 : (0 : Int) ≤ (k : Int) + 1 := by omega
      have n8 : (k : Int) + 1 < (n : Int) := by omega
      have n9 : (k : Int) < (n : Int) := by omega
      go_upto_region 5 with fail
      have sof : ∀ w', Below wr.heap.size wr w' → w'.cell? ⟨b, o + k * 2, none⟩ = some (.int .i64 (gp l k).1) ∧ w'.cell? ⟨b, o + k * 2 + 1, none⟩ = some (.int .i64 (gp l k).2) ∧ w'.cell? ⟨b, o + (k + 1) * 2, none⟩ = some (.int .i64 (gp l (k + 1)).1) ∧ w'.cell? ⟨b, o + (k + 1) * 2 + 1, none⟩ = some (.int .i64 (gp l (k + 1)).2) ∧ w'.cell? ⟨b, o + (k + 2) * 2, none⟩ = some (.int .i64 (gp l (k + 2)).1) ∧ w'.cell? ⟨b, o + (k + 2) * 2 + 1, none⟩ = some (.int .i64 (gp l (k + 2)).2) := fun w' hw =>
        ⟨(hw.cell (p := ⟨b, o + k * 2, none⟩) hb).trans p0, (hw.cell (p := ⟨b, o + k * 2 + 1, none⟩) hb).trans p1, (hw.cell (p := ⟨b, o + (k + 1) * 2, none⟩) hb).trans p2, (hw.cell (p := ⟨b, o + (k + 1) * 2 + 1, none⟩) hb).trans p3, (hw.cell (p := ⟨b, o + (k + 2) * 2, none⟩) hb).trans p4, (hw.cell (p := ⟨b, o + (k + 2) * 2 + 1, none⟩) hb).trans p5⟩
      have Sof := Lib.hid sof
      clear sof
      go_cut [5, 6, 7] (fun s5 s6 s7 wx => ∃ g5 g6 g7 : Nat, s5 = .pointer (some ⟨g5, 0, none⟩) ∧ s6 = .pointer (some ⟨g6, 0, none⟩) ∧ s7 = .pointer (some ⟨g7, 0, none⟩) ∧
        Box wx g5 29 #[.int .i64 (gp l k).1, .int .i64 (gp l k).2] ∧ Box wx g6 29 #[.int .i64 (gp l (k + 1)).1, .int .i64 (gp l (k + 1)).2] ∧ Box wx g7 29 #[.int .i64 (gp l (k + 2)).1, .int .i64 (gp l (k + 2)).2] ∧ Below wr.heap.size wr wx)
      case first =>
        go_region_held3 (fun w' => w'.cell? ⟨b, o + k * 2, none⟩ = some (.int .i64 (gp l k).1) ∧ w'.cell? ⟨b, o + k * 2 + 1, none⟩ = some (.int .i64 (gp l k).2) ∧ w'.cell? ⟨b, o + (k + 1) * 2, none⟩ = some (.int .i64 (gp l (k + 1)).1) ∧ w'.cell? ⟨b, o + (k + 1) * 2 + 1, none⟩ = some (.int .i64 (gp l (k + 1)).2) ∧ w'.cell? ⟨b, o + (k + 2) * 2, none⟩ = some (.int .i64 (gp l (k + 2)).1) ∧ w'.cell? ⟨b, o + (k + 2) * 2 + 1, none⟩ = some (.int .i64 (gp l (k + 2)).2))
          ((refine Sof.out _ ?_; repeat (first | exact Below.refl _ _ | apply Below.drew | (refine Below.alloc ?_ (by simp <;> omega) _) | (refine Below.setCell ?_ (by simp <;> omega) _)))) (fail)
        all_goals
          go_wp2_with fail
          go_meet
          refine ⟨_, _, _, rfl, rfl, rfl, ?_, ?_, ?_, ?_⟩
          all_goals first
            | exact Box.newD _ _ _ (by simp)
            | exact ((Box.newA _ _ _ (by simp)).alloc _).drew
            | exact (((Box.newA _ _ _ (by simp)).alloc _).alloc _).drew
            | (repeat (first | exact Below.refl _ _ | apply Below.drew | (refine Below.alloc ?_ (by simp <;> omega) _) | (refine Below.setCell ?_ (by simp <;> omega) _)))
      case rest =>
        obtain ⟨g5, g6, g7, rfl, rfl, rfl, x5, x6, x7, hbx⟩ := hcut
        have y0 : wc.cell? ⟨g5, 0, none⟩ = some (.int .i64 (gp l k).1) := x5.cell 0
        have y1 : wc.cell? ⟨g5, 1, none⟩ = some (.int .i64 (gp l k).2) := x5.cell 1
        have y2 : wc.cell? ⟨g6, 0, none⟩ = some (.int .i64 (gp l (k + 1)).1) := x6.cell 0
        have y3 : wc.cell? ⟨g6, 1, none⟩ = some (.int .i64 (gp l (k + 1)).2) := x6.cell 1
        have y4 : wc.cell? ⟨g7, 0, none⟩ = some (.int .i64 (gp l (k + 2)).1) := x7.cell 0
        have y5 : wc.cell? ⟨g7, 1, none⟩ = some (.int .i64 (gp l (k + 2)).2) := x7.cell 1
        have hown1 := own_below' hown hbx
        have hbl1 := hbl.trans (hbx.mono hbl.size)
        have e1 : (gp l k).1 + (gp l k).2 + (gp l (k + 2)).1 + (gp l (k + 2)).2 - 2 * ((gp l (k + 1)).1 + (gp l (k + 1)).2) = bendAt l (k + 1) := rfl
        have E1 := Lib.hid e1
        clear e1
        go_wp2_with (at_builtin; refine wpList_push hel rfl _ _ rfl rfl (hown1.alloc _) rfl (Box.new wc 2 _) rfl (by intro u hu; simp at hu; subst hu; rfl) (by omega) (by decide) (by have := hbl1.size; simp; omega) ?_; intro v' w2 hown2 hg2)
        go_roundw
        case rel =>
          refine ⟨k + 1, by omega, by go_num, ?_, ?_⟩
          · rw [bendsTo_succ, List.flatMap_append, ← E1.out]; exact hown2
          · exact (hbl1.alloc hbl1.size _).grown hg2 (by have := hbl1.size; simp; omega) (fun g e => by have := hown1.lt g e; omega)
        case measure => simp [intOf]; omega
    · have hk2 : k = n - 2 := by omega
      subst hk2
      have n8 : ((n - 2 : Nat) : Int) + 1 + 1 = ((n - 2 : Nat) : Int) + 2 := by omega
      go_wp2
      go_ret
      exact ⟨_, rfl, by rw [bendsL, Hl.out]; exact hown, hbl⟩
end Go.Proofs.Ytlfaaddoemcokaa
