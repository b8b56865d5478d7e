/-
  The least and the greatest of numbers, the best arm, equal grooves; the examples of the chapter (Works). No condition but the sizes of slices.
-/
import Derived.Test.YtlfaaddoemcokaaPlayH
namespace Go.Proofs.Ytlfaaddoemcokaa
open Go.RowKit Go.Dw Go.Shelf

def minTo (l : List Int) : Nat → Int
  | 0 => gi l 0
  | k + 1 => min (minTo l k) (gi l (k + 1))
def maxTo (l : List Int) : Nat → Int
  | 0 => gi l 0
  | k + 1 => max (maxTo l k) (gi l (k + 1))

theorem min_calls (A : Option Addr) (n c : Nat) (l : List Int) (w : World) (hl : IntsAt w A n l) (h0 : 0 < n) (hn : n ≤ 65536) :
    Calls Try.prog 62 #[.slice A n c] w fun e w' => e = .returned (.int .i64 (minTo l (n - 1))) ∧ w = w' := by
  obtain ⟨b, o, rfl, hb, hc0⟩ := ints_at hl h0
  rw [Nat.add_zero] at hc0
  go_enter Try.func62, Try.ntmps62
  go_wp2
  go_loop [3, 4] (fun m i => ∃ k : Nat, k + 1 ≤ n ∧ i = .int .i64 ((k : Int) + 1) ∧ m = .int .i64 (minTo l k)) (fun _ i => n - (intOf i).toNat)
  case atStart => exact ⟨0, by omega, rfl, rfl⟩
  case round =>
    obtain ⟨k, hk, rfl, rfl⟩ := hrel
    by_cases hlt : k + 1 < n
    · obtain ⟨b', o', hA, _, hc1⟩ := ints_at hl hlt
      injection hA with hA; injection hA with hA1 hA2; subst hA1 hA2
      go_wp2
      go_round
      case rel => exact ⟨k + 1, by omega, by go_num, rfl⟩
      case measure => simp [intOf]; omega
    · obtain rfl : k = n - 1 := by omega
      go_wp2
      go_ret
      exact ⟨rfl, rfl⟩
theorem max_calls (A : Option Addr) (n c : Nat) (l : List Int) (w : World) (hl : IntsAt w A n l) (h0 : 0 < n) (hn : n ≤ 65536) :
    Calls Try.prog 63 #[.slice A n c] w fun e w' => e = .returned (.int .i64 (maxTo l (n - 1))) ∧ w = w' := by
  obtain ⟨b, o, rfl, hb, hc0⟩ := ints_at hl h0
  rw [Nat.add_zero] at hc0
  go_enter Try.func63, Try.ntmps63
  go_wp2
  go_loop [3, 4] (fun m i => ∃ k : Nat, k + 1 ≤ n ∧ i = .int .i64 ((k : Int) + 1) ∧ m = .int .i64 (maxTo l k)) (fun _ i => n - (intOf i).toNat)
  case atStart => exact ⟨0, by omega, rfl, rfl⟩
  case round =>
    obtain ⟨k, hk, rfl, rfl⟩ := hrel
    by_cases hlt : k + 1 < n
    · obtain ⟨b', o', hA, _, hc1⟩ := ints_at hl hlt
      injection hA with hA; injection hA with hA1 hA2; subst hA1 hA2
      go_wp2
      go_round
      case rel => exact ⟨k + 1, by omega, by go_num, rfl⟩
      case measure => simp [intOf]; omega
    · obtain rfl : k = n - 1 := by omega
      go_wp2
      go_ret
      exact ⟨rfl, rfl⟩

def balHi (l : List Pt) : Int := maxTo (bendsL l) (l.length - 3)
def balLo (l : List Pt) : Int := minTo (bendsL l) (l.length - 3)
/-- The best arm: Hold, Skate. -/
def balArm (l : List Pt) : Int × Int :=
  if checkPts l = 0 ∧ 3 ≤ l.length then ((balHi l - balLo l + 1) / 2, balHi l - (balHi l - balLo l + 1) / 2) else (0, 0)

theorem bendAt_bound {l : List Pt} (hlb : ∀ p ∈ l, -4194304 ≤ p.1 ∧ p.1 ≤ 4194304 ∧ -4194304 ≤ p.2 ∧ p.2 ≤ 4194304) {i : Nat} (h : i + 1 < l.length) (_ : 0 < i) : -67108864 ≤ bendAt l i ∧ bendAt l i ≤ 67108864 := by
  have a := (forall_gp.1 hlb) (i - 1) (by omega)
  have b := (forall_gp.1 hlb) i (by omega)
  have c := (forall_gp.1 hlb) (i + 1) h
  unfold bendAt; omega
theorem bendsL_gi {l : List Pt} {k : Nat} (h : k + 2 < l.length) : gi (bendsL l) k = bendAt l (k + 1) := by
  have hl : k < (bendsL l).length := by simp [bendsL, bendsTo]; omega
  rw [gi_eq hl]; simp [bendsL, bendsTo]
theorem balHi_bound {l : List Pt} (hlb : ∀ p ∈ l, -4194304 ≤ p.1 ∧ p.1 ≤ 4194304 ∧ -4194304 ≤ p.2 ∧ p.2 ≤ 4194304) : ∀ k, k + 2 < l.length →
    -67108864 ≤ minTo (bendsL l) k ∧ minTo (bendsL l) k ≤ maxTo (bendsL l) k ∧ maxTo (bendsL l) k ≤ 67108864
  | 0, h => by
    have := bendAt_bound hlb (i := 1) (by omega) (by omega)
    simp only [minTo, maxTo]
    rw [bendsL_gi h]; simp; omega
  | k + 1, h => by
    have h1 := balHi_bound hlb k (by omega)
    have := bendAt_bound hlb (i := k + 1 + 1) (by omega) (by omega)
    simp only [minTo, maxTo]
    rw [bendsL_gi h]; omega

set_option maxRecDepth 100000 in
set_option maxHeartbeats 1000000 in
theorem balance_calls (A : Option Addr) (n c : Nat) (l : List Pt) (w : World) (hl : PtsAt w A n l) (hn : n ≤ 4611686018427387904) :
    Calls Try.prog 22 #[.slice A n c] w fun e w' => e = .returned (.tuple #[.agg #[.int .i64 (balArm l).1, .int .i64 (balArm l).2], .int .i64 (checkPts l)]) ∧ Below w.heap.size w w' := by
  have Hl := Lib.hid hl.1
  have hx := Box.new w 34 #[.int .i64 0, .int .i64 0]
  have hb0 := below_new w (.cells #[.int .i64 0, .int .i64 0] 34)
  by_cases h0 : checkPts l = 0
  · have d0 : (checkPts l != 0) = false := by simpa using h0
    by_cases h3 : n < 3
    · have d1 : decide ((n : Int) < 3) = true := by simp; omega
      have e : balArm l = (0, 0) := by rw [balArm, if_neg (by rw [Hl.out]; omega)]
      have E := Lib.hid e
      have H0 := Lib.hid h0
      clear e h0 d0
      go_enter Try.func22, Try.ntmps22
      go_wp2_with fail
      generalize w.alloc (.cells #[.int .i64 0, .int .i64 0] 34) = w0 at *
      refine (checkPts_calls A n c l w0 (hl.below' hb0) hn).mono ?_
      rintro e w1 ⟨rfl, hw1⟩
      have hx1 := hx.below' hw1
      have x0 : w1.cell? ⟨w.heap.size, 0, none⟩ = some (.int .i64 0) := hx1.cell 0
      have x1 : w1.cell? ⟨w.heap.size, 1, none⟩ = some (.int .i64 0) := hx1.cell 1
      have f0 := hx1.frozen 0
      have f1 := hx1.frozen 1
      rw [H0.out]
      go_wp2
      have hx2 := (hx1.set 0 (.int .i64 0)).set 1 (.int .i64 0)
      have y0 := hx2.cell 0
      have y1 := hx2.cell 1
      simp only [List.setIfInBounds_toArray, List.set_cons_zero, List.set_cons_succ, List.getElem?_toArray, List.getElem?_cons_zero, List.getElem?_cons_succ] at y0 y1
      refine bodyPost_ret (v := .tuple #[.agg #[.int .i64 0, .int .i64 0], .int .i64 0]) (by simp [results, Try.results22, go_sem, y0, y1]) rfl ⟨by rw [E.out, H0.out], ?_⟩
      exact ((hb0.trans (hw1.mono hb0.size)).setCell (Nat.le_refl _) _).setCell (Nat.le_refl _) _
    · have d1 : decide ((n : Int) < 3) = false := by simp; omega
      obtain ⟨m1, m2⟩ := checkPts_ok h0
      have hbd := balHi_bound m2 (n - 3) (by rw [Hl.out]; omega)
      have e : balArm l = ((balHi l - balLo l + 1) / 2, balHi l - (balHi l - balLo l + 1) / 2) := by rw [balArm, if_pos ⟨h0, by rw [Hl.out]; omega⟩]
      have e1 : balHi l = maxTo (bendsL l) (n - 3) := by rw [balHi, Hl.out]
      have e2 : balLo l = minTo (bendsL l) (n - 3) := by rw [balLo, Hl.out]
      rw [← e1, ← e2] at hbd
      have E := Lib.hid e
      have E1 := Lib.hid e1
      have E2 := Lib.hid e2
      have H0 := Lib.hid h0
      rw [Hl.out] at m1
      clear e e1 e2 h0 d0
      go_enter Try.func22, Try.ntmps22
      go_wp2_with fail
      generalize w.alloc (.cells #[.int .i64 0, .int .i64 0] 34) = w0 at *
      refine (checkPts_calls A n c l w0 (hl.below' hb0) hn).mono ?_
      rintro e w1 ⟨rfl, hw1⟩
      have hx1 := hx.below' hw1
      have hb1 := hb0.trans (hw1.mono hb0.size)
      rw [H0.out]
      go_wp2_with fail
      refine (bends_calls A n c l w1 (hl.below' hb1) m1 m2).mono ?_
      rintro e w2 ⟨v, rfl, hown, hw2⟩
      obtain ⟨A', c', rfl⟩ := own_form hown
      have hi2 : IntsAt w2 A' (n - 2) (bendsL l) := SlAt.of_own encI_len Nat.one_pos hown
      have hx2 := hx1.below' hw2
      have hb2 := hb1.trans (hw2.mono hb1.size)
      have en : n - 2 - 1 = n - 3 := by omega
      go_wp2_with fail
      refine (min_calls A' (n - 2) c' _ w2 hi2 (by omega) (by omega)).mono ?_
      rintro e w3 ⟨rfl, rfl⟩
      rw [en, ← E2.out]
      go_wp2_with fail
      refine (max_calls A' (n - 2) c' _ w2 hi2 (by omega) (by omega)).mono ?_
      rintro e w3 ⟨rfl, rfl⟩
      rw [en, ← E1.out]
      have x0 : w2.cell? ⟨w.heap.size, 0, none⟩ = some (.int .i64 0) := hx2.cell 0
      have x1 : w2.cell? ⟨w.heap.size, 1, none⟩ = some (.int .i64 0) := hx2.cell 1
      have f0 := hx2.frozen 0
      have f1 := hx2.frozen 1
      clear en
      go_wp2
      have hx3 := (hx2.set 0 (.int .i64 ((balHi l - balLo l + 1) / 2))).set 1 (.int .i64 (balHi l - (balHi l - balLo l + 1) / 2))
      have y0 := hx3.cell 0
      have y1 := hx3.cell 1
      simp only [List.setIfInBounds_toArray, List.set_cons_zero, List.set_cons_succ, List.getElem?_toArray, List.getElem?_cons_zero, List.getElem?_cons_succ] at y0 y1
      refine bodyPost_ret (v := .tuple #[.agg #[.int .i64 ((balHi l - balLo l + 1) / 2), .int .i64 (balHi l - (balHi l - balLo l + 1) / 2)], .int .i64 0]) (by simp [results, Try.results22, go_sem, y0, y1]) rfl ⟨by rw [E.out, H0.out], ?_⟩
      exact (hb2.setCell (Nat.le_refl _) _).setCell (Nat.le_refl _) _
  · have d0 : (checkPts l != 0) = true := by simpa using h0
    have e : balArm l = (0, 0) := by rw [balArm, if_neg (by omega)]
    have E := Lib.hid e
    clear e
    go_enter Try.func22, Try.ntmps22
    go_wp2_with fail
    generalize w.alloc (.cells #[.int .i64 0, .int .i64 0] 34) = w0 at *
    refine (checkPts_calls A n c l w0 (hl.below' hb0) hn).mono ?_
    rintro e w1 ⟨rfl, hw1⟩
    have hx1 := hx.below' hw1
    have x0 : w1.cell? ⟨w.heap.size, 0, none⟩ = some (.int .i64 0) := hx1.cell 0
    have x1 : w1.cell? ⟨w.heap.size, 1, none⟩ = some (.int .i64 0) := hx1.cell 1
    have f0 := hx1.frozen 0
    have f1 := hx1.frozen 1
    go_wp2
    have hx2 := (hx1.set 0 (.int .i64 0)).set 1 (.int .i64 0)
    have y0 := hx2.cell 0
    have y1 := hx2.cell 1
    simp only [List.setIfInBounds_toArray, List.set_cons_zero, List.set_cons_succ, List.getElem?_toArray, List.getElem?_cons_zero, List.getElem?_cons_succ] at y0 y1
    refine bodyPost_ret (v := .tuple #[.agg #[.int .i64 0, .int .i64 0], .int .i64 (checkPts l)]) (by simp [results, Try.results22, go_sem, y0, y1]) rfl ⟨by rw [E.out], ?_⟩
    exact ((hb0.trans (hw1.mono hb0.size)).setCell (Nat.le_refl _) _).setCell (Nat.le_refl _) _

/-! ### Equal grooves -/
theorem eq_take_succ {a b : List Pt} {k : Nat} (ha : k < a.length) (hb : k < b.length) (h : a.take k = b.take k) (hk : gp a k = gp b k) : a.take (k + 1) = b.take (k + 1) := by
  rw [take_succ_gp ha, take_succ_gp hb, h, hk]
set_option maxRecDepth 100000 in
set_option maxHeartbeats 1000000 in
theorem same_calls (A B : Option Addr) (n c m d : Nat) (a b : List Pt) (w : World) (ha : PtsAt w A n a) (hb : PtsAt w B m b) (hn : n ≤ 4611686018427387904) (hm : m ≤ 4611686018427387904) :
    Calls Try.prog 27 #[.slice A n c, .slice B m d] w fun e w' => e = .returned (.bool (decide (a = b))) ∧ Below w.heap.size w w' := by
  have Ha := Lib.hid ha.1
  have Hb := Lib.hid hb.1
  by_cases hnm : n = m
  · subst hnm
    have d0 : ((n : Int) != (n : Int)) = false := by simp
    go_enter Try.func27, Try.ntmps27
    go_wp2
    go_loopw [5] (fun i wr => ∃ k : Nat, k ≤ n ∧ i = .int .i64 k ∧ a.take k = b.take k ∧ Below w.heap.size w wr) (fun i _ => n - (intOf i).toNat)
    case atStart => exact ⟨0, Nat.zero_le _, rfl, rfl, Below.refl _ _⟩
    case round =>
      obtain ⟨k, hk, rfl, htk, hbl⟩ := hrel
      have Htk := Lib.hid htk
      clear htk
      by_cases hlt : k < n
      · obtain ⟨b1, o1, rfl, _, p0, p1⟩ := pts_at (ha.below' hbl) hlt
        obtain ⟨b2, o2, rfl, _, q0, q1⟩ := pts_at (hb.below' hbl) hlt
        have n1 : (k : Int) < (n : Int) := by omega
        by_cases he : gp a k = gp b k
        · rw [← he] at q0 q1
          have He := Lib.hid he
          clear he
          go_wp2
          go_quiet (fail)
          go_wp2
          go_roundw
          case rel => exact ⟨k + 1, by omega, by go_num, eq_take_succ (by rw [Ha.out]; exact hlt) (by rw [Hb.out]; exact hlt) Htk.out He.out, below_drewN hbl _⟩
          case measure => simp [intOf]; omega
        · have hab : a ≠ b := by rintro rfl; exact he rfl
          have Hab := Lib.hid hab
          clear hab
          by_cases h1 : (gp a k).1 = (gp b k).1
          · have h2 : ((gp a k).2 == (gp b k).2) = false := by
              rw [beq_eq_false_iff_ne]; intro h2; exact he (Prod.ext h1 h2)
            rw [← h1] at q0
            clear he h1
            go_wp2
            go_quiet (fail)
            go_wp2
            go_ret
            exact ⟨ret_bool (by simp [Hab.out]), below_drewN hbl _⟩
          · have h2 : ((gp a k).1 == (gp b k).1) = false := by rw [beq_eq_false_iff_ne]; exact h1
            clear he h1
            go_wp2
            go_quiet (fail)
            go_wp2
            go_ret
            exact ⟨ret_bool (by simp [Hab.out]), below_drewN hbl _⟩
      · obtain rfl : k = n := by omega
        have h := Htk.out
        rw [List.take_of_length_le (by rw [Ha.out]; exact Nat.le_refl _), List.take_of_length_le (by rw [Hb.out]; exact Nat.le_refl _)] at h
        have H := Lib.hid h
        clear h
        go_wp2
        go_ret
        exact ⟨ret_bool (by simp [H.out]), hbl⟩
  · have d0 : ((n : Int) != (m : Int)) = true := by simp; omega
    have hab : a ≠ b := by rintro rfl; exact hnm (Ha.out.symm.trans Hb.out)
    have Hab := Lib.hid hab
    clear hab
    go_enter Try.func27, Try.ntmps27
    go_wp2
    go_ret
    exact ⟨ret_bool (by simp [Hab.out]), Below.refl _ _⟩
end Go.Proofs.Ytlfaaddoemcokaa
