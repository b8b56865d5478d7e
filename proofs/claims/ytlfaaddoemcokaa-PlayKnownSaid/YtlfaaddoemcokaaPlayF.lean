/-
  Which tips are valid; what a tip reads and sweeps, by the program. No condition but the sizes of slices.
-/
import Derived.Test.YtlfaaddoemcokaaPlayE
namespace Go.Proofs.Ytlfaaddoemcokaa
open Go.RowKit Go.Dw Go.Shelf

/-! ### Tips -/
def tipBad (t : List Int) (k : Nat) : Bool := if k = 0 then gi t 0 != 0 else decide (gi t k < gi t (k - 1)) || decide (4194304 < gi t k)
def checkTip (t : List Int) : Int := if t.length = 0 ∨ 64 < t.length then 6 else if (List.range t.length).any (tipBad t) then 2 else 0
theorem checkTip_many {t : List Int} (h : t.length = 0 ∨ 64 < t.length) : checkTip t = 6 := by rw [checkTip, if_pos h]
theorem checkTip_bad {t : List Int} {k : Nat} (h : ¬ (t.length = 0 ∨ 64 < t.length)) (hk : k < t.length) (hb : tipBad t k = true) : checkTip t = 2 := by
  rw [checkTip, if_neg h, if_pos]
  rw [List.any_eq_true]; exact ⟨k, List.mem_range.2 hk, hb⟩
theorem checkTip_good {t : List Int} (h : ¬ (t.length = 0 ∨ 64 < t.length)) (hb : ∀ k, k < t.length → tipBad t k = false) : checkTip t = 0 := by
  rw [checkTip, if_neg h, if_neg]
  rw [List.any_eq_true]; rintro ⟨k, hk, e⟩
  rw [hb k (List.mem_range.1 hk)] at e; cases e
theorem checkTip_ok {t : List Int} (h : checkTip t = 0) : 0 < t.length ∧ t.length ≤ 64 ∧ gi t 0 = 0 ∧ (∀ k, k + 1 < t.length → gi t k ≤ gi t (k + 1)) ∧ ∀ x ∈ t, 0 ≤ x ∧ x ≤ 4194304 := by
  unfold checkTip at h
  split at h
  · omega
  · split at h
    · omega
    · rename_i h1 h2
      have hb : ∀ k, k < t.length → tipBad t k = false := fun k hk => by
        cases e : tipBad t k with
        | false => rfl
        | true => exact absurd (List.any_eq_true.2 ⟨k, List.mem_range.2 hk, e⟩) h2
      have h0 : gi t 0 = 0 := by have := hb 0 (by omega); simpa [tipBad] using this
      have hs : ∀ k, k + 1 < t.length → gi t k ≤ gi t (k + 1) ∧ gi t (k + 1) ≤ 4194304 := fun k hk => by
        have := hb (k + 1) hk
        simp [tipBad] at this
        omega
      refine ⟨by omega, by omega, h0, fun k hk => (hs k hk).1, ?_⟩
      rw [forall_gi (p := fun x => 0 ≤ x ∧ x ≤ 4194304)]
      intro k
      induction k with
      | zero => intro _; rw [h0]; omega
      | succ k ih => intro hk; have := ih (by omega); have := hs k hk; omega

set_option maxRecDepth 100000 in
set_option maxHeartbeats 1000000 in
theorem checkTip_calls (A : Option Addr) (n c : Nat) (t : List Int) (w : World) (hl : IntsAt w A n t) (hn : n ≤ 4611686018427387904) :
    Calls Try.prog 40 #[.agg #[.slice A n c]] w fun e w' => e = .returned (.int .i64 (checkTip t)) ∧ Below w.heap.size w w' := by
  have hb0 := below_new w (.cells #[.slice A n c] 24)
  have hbx := Box.new w 24 #[.slice A n c]
  have Hl := Lib.hid hl.1
  by_cases h0 : n = 0
  · subst h0
    have d0 : ((0 : Int) == 0) = true := rfl
    go_enter Try.func40, Try.ntmps40
    go_wp2
    all_goals go_ret
    all_goals exact ⟨ret_int (by rw [checkTip_many (by rw [Hl.out]; omega)]), hb0⟩
  · have d0 : ((n : Int) == 0) = false := beq_eq_false_iff_ne.2 (by omega)
    by_cases h64 : 64 < n
    · have d1 : decide ((64 : Int) < (n : Int)) = true := by simp; omega
      go_enter Try.func40, Try.ntmps40
      go_wp2
      all_goals go_ret
      all_goals exact ⟨ret_int (by rw [checkTip_many (by rw [Hl.out]; omega)]), hb0⟩
    · have d1 : decide ((64 : Int) < (n : Int)) = false := by simp; omega
      go_enter Try.func40, Try.ntmps40
      go_wp2
      generalize w.alloc (.cells #[.slice A n c] 24) = w0 at *
      have hl0 := hl.below' hb0
      go_loop [3, 19] (fun last i => ∃ k : Nat, k ≤ n ∧ i = .int .i64 k ∧ last = .int .i64 (if k = 0 then 0 else gi t (k - 1)) ∧ ∀ j, j < k → tipBad t j = false) (fun _ i => n - (intOf i).toNat)
      case atStart => exact ⟨0, Nat.zero_le _, rfl, rfl, fun j hj => absurd hj (by omega)⟩
      case round =>
        obtain ⟨k, hk, rfl, rfl, hall⟩ := hrel
        have Hall := Lib.hid hall
        clear hall
        by_cases hlt : k < n
        · obtain ⟨b, o, rfl, hb, hc1⟩ := ints_at hl0 hlt
          have key : (tipBad t k = true → checkTip t = 2) := fun h => checkTip_bad (by rw [Hl.out]; omega) (by rw [Hl.out]; exact hlt) h
          have Key := Lib.hid key
          clear key
          have next : tipBad t k = false → ∀ j, j < k + 1 → tipBad t j = false := fun h j hj => by
            by_cases e : j = k
            · subst e; exact h
            · exact Hall.out j (by omega)
          have Next := Lib.hid next
          clear next
          by_cases hk0 : k = 0
          · subst hk0
            rw [Nat.add_zero] at hc1
            simp only [if_true]
            go_wp2
            all_goals first
              | (go_ret; exact ⟨ret_int (by rw [Key.out (by simp [tipBad]; simp at *; omega)]), hb0⟩)
              | (go_round
                 case rel => exact ⟨1, by omega, by go_num, by simp, Next.out (by simp [tipBad]; simp at *; omega)⟩
                 case measure => simp [intOf]; omega)
          · have dk : ((k : Int) == 0) = false := beq_eq_false_iff_ne.2 (by omega)
            simp only [hk0, if_false]
            go_wp2
            all_goals first
              | (go_ret; exact ⟨ret_int (by rw [Key.out (by simp [tipBad, hk0]; simp at *; omega)]), hb0⟩)
              | (go_round
                 case rel => exact ⟨k + 1, by omega, by go_num, by simp, Next.out (by simp [tipBad, hk0]; simp at *; omega)⟩
                 case measure => simp [intOf]; omega)
        · obtain rfl : k = n := by omega
          go_wp2
          go_ret
          exact ⟨ret_int (by rw [checkTip_good (by rw [Hl.out]; omega) (by rw [Hl.out]; exact Hall.out)]), hb0⟩

set_option maxRecDepth 100000 in
set_option maxHeartbeats 1000000 in
theorem refCheckTip_calls (A : Option Addr) (n c : Nat) (t : List Int) (w : World) (hl : IntsAt w A n t) (hn : n ≤ 4611686018427387904) :
    Calls Try.prog 41 #[.agg #[.slice A n c]] w fun e w' => e = .returned (.int .i64 (checkTip t)) ∧ Below w.heap.size w w' := by
  have hb0 := below_new w (.cells #[.slice A n c] 24)
  have hbx := Box.new w 24 #[.slice A n c]
  have Hl := Lib.hid hl.1
  by_cases h0 : n = 0
  · subst h0
    have d0 : ((0 : Int) == 0) = true := rfl
    go_enter Try.func41, Try.ntmps41
    go_wp2
    all_goals go_ret
    all_goals exact ⟨ret_int (by rw [checkTip_many (by rw [Hl.out]; omega)]), hb0⟩
  · have d0 : ((n : Int) == 0) = false := beq_eq_false_iff_ne.2 (by omega)
    by_cases h64 : 64 < n
    · have d1 : decide ((64 : Int) < (n : Int)) = true := by simp; omega
      go_enter Try.func41, Try.ntmps41
      go_wp2
      all_goals go_ret
      all_goals exact ⟨ret_int (by rw [checkTip_many (by rw [Hl.out]; omega)]), hb0⟩
    · have d1 : decide ((64 : Int) < (n : Int)) = false := by simp; omega
      go_enter Try.func41, Try.ntmps41
      go_wp2
      generalize w.alloc (.cells #[.slice A n c] 24) = w0 at *
      have hl0 := hl.below' hb0
      go_loopw [4] (fun i wr => ∃ k : Nat, k ≤ n ∧ i = .int .i64 k ∧ (∀ j, j < k → tipBad t j = false) ∧ Below w0.heap.size w0 wr) (fun i _ => n - (intOf i).toNat)
      case atStart => exact ⟨0, Nat.zero_le _, rfl, fun j hj => absurd hj (by omega), Below.refl _ _⟩
      case round =>
        obtain ⟨k, hk, rfl, hall, hbw⟩ := hrel
        have Hall := Lib.hid hall
        clear hall
        have hbr : Below w.heap.size w wr := hb0.trans (hbw.mono hb0.size)
        by_cases hlt : k < n
        · have hcx : wr.cell? ⟨w.heap.size, 0, none⟩ = some (.slice A n c) := (hbx.below' hbw).cell 0
          have hc1 := ints_at (hl0.below' hbw) hlt
          have key : (tipBad t k = true → checkTip t = 2) := fun h => checkTip_bad (by rw [Hl.out]; omega) (by rw [Hl.out]; exact hlt) h
          have Key := Lib.hid key
          clear key
          have next : tipBad t k = false → ∀ j, j < k + 1 → tipBad t j = false := fun h j hj => by
            by_cases e : j = k
            · subst e; exact h
            · exact Hall.out j (by omega)
          have Next := Lib.hid next
          clear next
          cases k with
          | zero =>
            obtain ⟨b, o, rfl, hb, hc1⟩ := hc1
            rw [Nat.add_zero] at hc1
            have n0 : (0 : Int) < (n : Int) := by omega
            by_cases hz : gi t 0 = 0
            · rw [hz] at hc1
              go_wp2
              go_quiet (fail)
              go_wp2
              go_roundw
              case rel => exact ⟨1, by omega, by go_num, Next.out (by simp [tipBad, hz]), below_drewN hbw _⟩
              case measure => simp [intOf]; omega
            · have dz : (gi t 0 != 0) = true := by simpa using hz
              go_wp2
              go_quiet (fail)
              go_wp2
              go_ret
              exact ⟨ret_int (by rw [Key.out (by simp [tipBad, hz])]), below_drewN hbr _⟩
          | succ j =>
            obtain ⟨b, o, rfl, hb, hc1⟩ := hc1
            obtain ⟨b', o', hA, hb', hc2⟩ := ints_at (hl0.below' hbw) (show j < n by omega)
            injection hA with hA; injection hA with hA1 hA2; subst hA1 hA2
            have n0 : ((j : Int) + 1 : Int) < (n : Int) := by omega
            have n1 : (0 : Int) ≤ (j : Int) + 1 := by omega
            have n2 : ((j : Int) + 1).toNat = j + 1 := by omega
            have n3 : IntKind.i64.wrap ((j : Int) + 1 - 1) = (j : Int) := by rw [IntWalk.i64_in _ (by omega)]; omega
            have n4 : (j : Int) < (n : Int) := by omega
            have d2 : ((j : Int) + 1 == 0) = false := beq_eq_false_iff_ne.2 (by omega)
            have d3 : decide ((0 : Int) < (j : Int) + 1) = true := decide_eq_true (by omega)
            have hTB : tipBad t (j + 1) = (decide (gi t (j + 1) < gi t j) || decide (4194304 < gi t (j + 1))) := by simp [tipBad]
            have HTB := Lib.hid hTB
            clear hTB
            by_cases h1 : gi t (j + 1) < gi t j
            · have d4 : decide (gi t (j + 1) < gi t j) = true := by simpa using h1
              have hq := Key.out (by rw [HTB.out]; simp [h1])
              have HQ := Lib.hid hq
              clear hq
              go_wp2
              go_quiet (fail)
              go_wp2
              go_ret
              exact ⟨ret_int (by rw [HQ.out]), below_drewN hbr _⟩
            · have d4 : decide (gi t (j + 1) < gi t j) = false := by simpa using h1
              by_cases h2 : 4194304 < gi t (j + 1)
              · have d5 : decide (4194304 < gi t (j + 1)) = true := by simpa using h2
                have hq := Key.out (by rw [HTB.out]; simp [h2])
                have HQ := Lib.hid hq
                clear hq
                go_wp2
                go_quiet (fail)
                go_wp2
                go_ret
                exact ⟨ret_int (by rw [HQ.out]), below_drewN hbr _⟩
              · have d5 : decide (4194304 < gi t (j + 1)) = false := by simpa using h2
                have hq := Next.out (by rw [HTB.out]; simp; try omega)
                have HQ := Lib.hid hq
                clear hq
                go_wp2
                go_quiet (fail)
                go_wp2
                go_roundw
                case rel => exact ⟨j + 2, by omega, by go_num, HQ.out, below_drewN hbw _⟩
                case measure => simp [intOf]; omega
        · obtain rfl : k = n := by omega
          go_wp2
          go_ret
          exact ⟨ret_int (by rw [checkTip_good (by rw [Hl.out]; omega) (by rw [Hl.out]; exact Hall.out)]), hbr⟩
end Go.Proofs.Ytlfaaddoemcokaa
