/-
  Which tips and grooves are valid; what a tip reads and sweeps, by the program. No condition but the sizes of slices.
-/
import Derived.Test.YtlfaaddoemcokaaPlayD
namespace Go.Proofs.Ytlfaaddoemcokaa
open Go.RowKit Go.Dw Go.Shelf

/-! ### Grooves -/
def withinB (x lo hi : Int) : Bool := decide (lo ≤ x) && decide (x ≤ hi)
def edgeB (p : Pt) : Bool := withinB p.1 (-4194304) 4194304 && withinB p.2 (-4194304) 4194304
theorem edgeB_iff (p : Pt) : edgeB p = true ↔ -4194304 ≤ p.1 ∧ p.1 ≤ 4194304 ∧ -4194304 ≤ p.2 ∧ p.2 ≤ 4194304 := by
  simp [edgeB, withinB]; omega
def checkPts (l : List Pt) : Int := if 4096 < l.length then 6 else if l.all edgeB then 0 else 2
theorem checkPts_ok {l : List Pt} (h : checkPts l = 0) : l.length ≤ 4096 ∧ ∀ p ∈ l, -4194304 ≤ p.1 ∧ p.1 ≤ 4194304 ∧ -4194304 ≤ p.2 ∧ p.2 ≤ 4194304 := by
  unfold checkPts at h
  split at h
  · omega
  · split at h
    · rename_i h2
      exact ⟨by omega, fun p hp => (edgeB_iff p).1 (List.all_eq_true.1 h2 p hp)⟩
    · omega

theorem within_calls (x lo hi : Int) (w : World) : Calls Try.prog 82 #[.int .i64 x, .int .i64 lo, .int .i64 hi] w fun e w' => e = .returned (.bool (withinB x lo hi)) ∧ w = w' := by
  go_enter Try.func82, Try.ntmps82
  go_wp2
  all_goals
    go_ret
    refine ⟨?_, rfl⟩
    simp [withinB, *]
  omega
theorem between_calls (x lo hi : Int) (w : World) : Calls Try.prog 101 #[.int .i64 x, .int .i64 lo, .int .i64 hi] w fun e w' => e = .returned (.bool (withinB x lo hi)) ∧ w = w' := by
  go_enter Try.func101, Try.ntmps101
  go_wp2
  all_goals
    go_ret
    refine ⟨?_, rfl⟩
    simp [withinB, *]
  omega
theorem edge_calls (a b : Int) (w : World) : Calls Try.prog 67 #[.agg #[.int .i64 a, .int .i64 b]] w fun e w' => e = .returned (.bool (edgeB (a, b))) ∧ Below w.heap.size w w' := by
  have hb := below_new w (.cells #[.int .i64 a, .int .i64 b] 29)
  cases h : withinB a (-4194304) 4194304
  all_goals
    go_enter Try.func67, Try.ntmps67
    go_wp2_with ((with_reducible refine (within_calls _ _ _ _).mono ?_); rintro e w' ⟨rfl, rfl⟩)
    go_ret
    exact ⟨by simp [edgeB, h], hb⟩
theorem edged_calls (a b : Int) (w : World) : Calls Try.prog 84 #[.agg #[.int .i64 a, .int .i64 b]] w fun e w' => e = .returned (.bool (edgeB (a, b))) ∧ Below w.heap.size w w' := by
  have hb := below_new w (.cells #[.int .i64 a, .int .i64 b] 29)
  cases h : withinB a (-4194304) 4194304
  all_goals
    go_enter Try.func84, Try.ntmps84
    go_wp2_with ((with_reducible refine (between_calls _ _ _ _).mono ?_); rintro e w' ⟨rfl, rfl⟩)
    go_ret
    exact ⟨by simp [edgeB, h], hb⟩

theorem all_take_succ {l : List Pt} {k : Nat} (h : k < l.length) : (l.take (k + 1)).all edgeB = ((l.take k).all edgeB && edgeB (gp l k)) := by
  rw [take_succ_gp h, List.all_append]; simp
theorem checkPts_bad {l : List Pt} {k : Nat} (h4 : ¬ 4096 < l.length) (hk : k < l.length) (h : edgeB (gp l k) = false) : checkPts l = 2 := by
  unfold checkPts
  rw [if_neg h4, if_neg]
  intro ha
  have := List.all_eq_true.1 ha (gp l k) (gp_mem hk)
  rw [h] at this; cases this
theorem checkPts_good {l : List Pt} (h4 : ¬ 4096 < l.length) (h : l.all edgeB = true) : checkPts l = 0 := by
  unfold checkPts; rw [if_neg h4, if_pos h]

set_option maxHeartbeats 400000 in
theorem refCheckPts_calls (A : Option Addr) (n c : Nat) (l : List Pt) (w : World) (hl : PtsAt w A n l) (hn : n ≤ 4611686018427387904) :
    Calls Try.prog 28 #[.slice A n c] w fun e w' => e = .returned (.int .i64 (checkPts l)) ∧ Below w.heap.size w w' := by
  have hl1 := hl.1
  by_cases h4 : 4096 < n
  · go_enter Try.func28, Try.ntmps28
    go_wp2
    go_ret
    exact ⟨ret_int (by rw [checkPts, if_pos (by omega)]), Below.refl _ _⟩
  · have Hl := Lib.hid hl1
    clear hl1
    go_enter Try.func28, Try.ntmps28
    go_wp2
    go_loopw [3] (fun i wr => ∃ k : Nat, k ≤ n ∧ i = .int .i64 k ∧ (l.take k).all edgeB = true ∧ Below w.heap.size w wr) (fun i _ => n - (intOf i).toNat)
    case atStart => exact ⟨0, Nat.zero_le _, rfl, rfl, Below.refl _ _⟩
    case round =>
      obtain ⟨k, hk, rfl, hall, hbl⟩ := hrel
      have Hall := Lib.hid hall
      clear hall
      by_cases hlt : k < n
      · obtain ⟨b, o, rfl, hb, hc1, hc2⟩ := pts_at (hl.below' hbl) hlt
        cases he : edgeB ((gp l k).1, (gp l k).2)
        all_goals
          have He := Lib.hid he
          clear he
          go_wp2_with ((with_reducible refine (edge_calls _ _ _).mono ?_); rintro e w' ⟨rfl, hw'⟩; rw [He.out])
        · go_ret
          exact ⟨ret_int (by rw [checkPts_bad (by rw [Hl.out]; exact h4) (by rw [Hl.out]; exact hlt) He.out]), hbl.trans (hw'.mono hbl.size)⟩
        · go_roundw
          case rel => exact ⟨k + 1, by omega, by go_num, by rw [all_take_succ (by rw [Hl.out]; exact hlt), Hall.out]; exact He.out, hbl.trans (hw'.mono hbl.size)⟩
          case measure => simp [intOf]; omega
      · obtain rfl : k = n := by omega
        go_wp2
        go_ret
        have h := Hall.out
        rw [List.take_of_length_le (by rw [Hl.out]; exact Nat.le_refl _)] at h
        exact ⟨ret_int (by rw [checkPts_good (by rw [Hl.out]; exact h4) h]), hbl⟩

set_option maxHeartbeats 400000 in
theorem checkPts_calls (A : Option Addr) (n c : Nat) (l : List Pt) (w : World) (hl : PtsAt w A n l) (hn : n ≤ 4611686018427387904) :
    Calls Try.prog 60 #[.slice A n c] w fun e w' => e = .returned (.int .i64 (checkPts l)) ∧ Below w.heap.size w w' := by
  have hl1 := hl.1
  by_cases h4 : 4096 < n
  · go_enter Try.func60, Try.ntmps60
    go_wp2
    go_ret
    exact ⟨ret_int (by rw [checkPts, if_pos (by omega)]), Below.refl _ _⟩
  · have Hl := Lib.hid hl1
    clear hl1
    go_enter Try.func60, Try.ntmps60
    go_wp2
    go_loopw [10] (fun i wr => ∃ k : Nat, k ≤ n ∧ i = .int .i64 k ∧ (l.take k).all edgeB = true ∧ Below w.heap.size w wr) (fun i _ => n - (intOf i).toNat)
    case atStart => exact ⟨0, Nat.zero_le _, rfl, rfl, Below.refl _ _⟩
    case round =>
      obtain ⟨k, hk, rfl, hall, hbl⟩ := hrel
      have Hall := Lib.hid hall
      clear hall
      by_cases hlt : k < n
      · obtain ⟨b, o, rfl, hb, hc1, hc2⟩ := pts_at (hl.below' hbl) hlt
        have hx := hbl.trans ((below_new wr (.cells #[.int .i64 (gp l k).1, .int .i64 (gp l k).2] 29)).mono hbl.size)
        cases he : edgeB ((gp l k).1, (gp l k).2)
        all_goals
          have He := Lib.hid he
          clear he
          go_wp2_with ((with_reducible refine (edged_calls _ _ _).mono ?_); rintro e w' ⟨rfl, hw'⟩; rw [He.out])
        · go_ret
          exact ⟨ret_int (by rw [checkPts_bad (by rw [Hl.out]; exact h4) (by rw [Hl.out]; exact hlt) He.out]), hx.trans (hw'.mono hx.size)⟩
        · go_roundw
          case rel => exact ⟨k + 1, by omega, by go_num, by rw [all_take_succ (by rw [Hl.out]; exact hlt), Hall.out]; exact He.out, hx.trans (hw'.mono hx.size)⟩
          case measure => simp [intOf]; omega
      · obtain rfl : k = n := by omega
        go_wp2
        go_ret
        have h := Hall.out
        rw [List.take_of_length_le (by rw [Hl.out]; exact Nat.le_refl _)] at h
        exact ⟨ret_int (by rw [checkPts_good (by rw [Hl.out]; exact h4) h]), hbl⟩
end Go.Proofs.Ytlfaaddoemcokaa
