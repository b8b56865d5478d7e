/-
  Arms: 'CheckArm', 'Jump', the document's 'Bend'. No condition but the sizes of slices.
-/
import Derived.Test.YtlhkpdnnopknnaaPlayM
import Derived.OwnWalk
namespace Go.Proofs.Ytlhkpdnnopknnaa
open Go.RowKit Go.Dw

def armOK (h s : Int) : Bool := decide (0 ≤ h) && decide (h ≤ 67108864) && decide (-67108864 ≤ s) && decide (s ≤ 67108864)
theorem armOK_iff {h s : Int} : armOK h s = true ↔ 0 ≤ h ∧ h ≤ 67108864 ∧ -67108864 ≤ s ∧ s ≤ 67108864 := by simp [armOK]; omega

set_option maxRecDepth 100000 in
set_option maxHeartbeats 1000000 in
theorem checkArm_calls (h s : Int) (w : World) : Calls Try.prog 29 #[.agg #[.int .i64 h, .int .i64 s]] w fun e w' => e = .returned (.bool (armOK h s)) ∧ Below w.heap.size w w' := by
  have hb0 := below_new w (.cells #[.int .i64 h, .int .i64 s] 34)
  by_cases h1 : 0 ≤ h
  · by_cases h2 : h ≤ 67108864
    · by_cases h3 : -67108864 ≤ s
      · have d1 : decide (0 ≤ h) = true := by simpa using h1
        have d2 : decide (h ≤ 67108864) = true := by simpa using h2
        have d3 : decide (-67108864 ≤ s) = true := by simpa using h3
        have E := Lib.hid (show armOK h s = decide (s ≤ 67108864) by simp [armOK, d1, d2, d3])
        go_enter Try.func29, Try.ntmps29
        go_wp2
        go_ret
        exact ⟨ret_bool (by rw [E.out]), hb0⟩
      · have d1 : decide (0 ≤ h) = true := by simpa using h1
        have d2 : decide (h ≤ 67108864) = true := by simpa using h2
        have d3 : decide (-67108864 ≤ s) = false := by simpa using h3
        have E := Lib.hid (show armOK h s = false by simp only [armOK, d1, d2, d3]; rfl)
        go_enter Try.func29, Try.ntmps29
        go_wp2
        go_ret
        exact ⟨ret_bool (by rw [E.out]), hb0⟩
    · have d1 : decide (0 ≤ h) = true := by simpa using h1
      have d2 : decide (h ≤ 67108864) = false := by simpa using h2
      have E := Lib.hid (show armOK h s = false by simp only [armOK, d1, d2]; rfl)
      go_enter Try.func29, Try.ntmps29
      go_wp2
      go_ret
      exact ⟨ret_bool (by rw [E.out]), hb0⟩
  · have d1 : decide (0 ≤ h) = false := by simpa using h1
    have E := Lib.hid (show armOK h s = false by simp only [armOK, d1]; rfl)
    go_enter Try.func29, Try.ntmps29
    go_wp2
    go_ret
    exact ⟨ret_bool (by rw [E.out]), hb0⟩

/-! ### Jump -/
/-- Where the tip leaves: the sample, the side, the code. -/
def jumpF (h s : Int) : List Int → Nat → Int × Int × Int
  | [], _ => (0, 0, 5)
  | b :: r, i => if h < b - s then ((i : Int) + 1, 1, 0) else if b - s < -h then ((i : Int) + 1, -1, 0) else jumpF h s r (i + 1)
def jumpL (h s : Int) (l : List Pt) : Int × Int × Int := if armOK h s then (if checkPts l = 0 then jumpF h s (bendsL l) 0 else (0, 0, checkPts l)) else (0, 0, 2)
theorem jumpF_step {h s : Int} {bs : List Int} {k : Nat} (hk : k < bs.length) : jumpF h s (bs.drop k) k = if h < gi bs k - s then ((k : Int) + 1, 1, 0) else if gi bs k - s < -h then ((k : Int) + 1, -1, 0) else jumpF h s (bs.drop (k + 1)) (k + 1) := by
  rw [List.drop_eq_getElem_cons hk, gi_eq hk]; rfl

/-- A bend of a valid groove. -/
theorem bendsL_length (l : List Pt) : (bendsL l).length = l.length - 2 := by simp [bendsL, bendsTo]
theorem gi_bendsL {l : List Pt} {k : Nat} (hk : k < l.length - 2) : gi (bendsL l) k = bendAt l (k + 1) := by
  rw [gi_eq (by rw [bendsL_length]; exact hk)]; simp [bendsL, bendsTo]
theorem bendAt_bd {l : List Pt} (hl : Bd l) {i : Nat} (h0 : 0 < i) (h1 : i + 1 < l.length) : -33554432 ≤ bendAt l i ∧ bendAt l i ≤ 33554432 := by
  have q0 := hl _ (gp_mem (l := l) (k := i - 1) (by omega))
  have q1 := hl _ (gp_mem (l := l) (k := i) (by omega))
  have q2 := hl _ (gp_mem (l := l) (k := i + 1) h1)
  unfold bendAt; omega
theorem gi_bends_bound {l : List Pt} (hl : Bd l) {k : Nat} (hk : k < l.length - 2) : -33554432 ≤ gi (bendsL l) k ∧ gi (bendsL l) k ≤ 33554432 := by
  rw [gi_bendsL hk]; exact bendAt_bd hl (i := k + 1) (by omega) (by omega)

theorem arm_bad {h s : Int} (hr : -9223372036854775808 ≤ s ∧ s ≤ 9223372036854775807) : (decide (h < 0) || decide (67108864 < h) || decide (67108864 < max s (IntKind.i64.wrap (-s))) || decide (s < -67108864)) = !armOK h s := by
  by_cases e : s = -9223372036854775808
  · subst e
    have : armOK h (-9223372036854775808) = false := by simp [armOK]
    rw [this]; simp
  · rw [IntWalk.i64_in _ (by omega)]
    cases hA : armOK h s with
    | true => rw [armOK_iff] at hA; simp; omega
    | false =>
      have : ¬ (0 ≤ h ∧ h ≤ 67108864 ∧ -67108864 ≤ s ∧ s ≤ 67108864) := fun hc => by rw [armOK_iff.2 hc] at hA; cases hA
      simp only [Bool.not_false, Bool.or_eq_true, decide_eq_true_eq]
      omega

set_option maxRecDepth 100000 in
set_option maxHeartbeats 2000000 in
theorem jump_calls (h s : Int) (A : Option Addr) (n c : Nat) (l : List Pt) (w : World) (hl : PtsAt w A n l) (hn : n ≤ 4611686018427387904) (hr : -9223372036854775808 ≤ s ∧ s ≤ 9223372036854775807) :
    Calls Try.prog 30 #[.agg #[.int .i64 h, .int .i64 s], .slice A n c] w fun e w' => e = .returned (.tuple #[.int .i64 (jumpL h s l).1, .int .i64 (jumpL h s l).2.1, .int .i64 (jumpL h s l).2.2]) ∧ Below w.heap.size w w' := by
  have hb0 := below_new w (.cells #[.int .i64 h, .int .i64 s] 34)
  have bx := Box.new w 34 #[.int .i64 h, .int .i64 s]
  have ab := arm_bad (h := h) hr
  have wn : ∃ q : Int, IntKind.i64.wrap (-s) = q := ⟨_, rfl⟩
  obtain ⟨q, wn⟩ := wn
  rw [wn] at ab
  by_cases h1 : h < 0
  · have d1 : decide (h < 0) = true := by simpa using h1
    have e1 : jumpL h s l = (0, 0, 2) := by rw [d1] at ab; rw [jumpL, if_neg (by simpa using ab)]
    have E1 := Lib.hid e1
    clear e1 ab
    go_enter Try.func30, Try.ntmps30
    go_wp2
    go_ret3
    exact ⟨by rw [E1.out]; rfl, hb0⟩
  · have d1 : decide (h < 0) = false := by simpa using h1
    by_cases h2 : 67108864 < h
    · have d2 : decide (67108864 < h) = true := by simpa using h2
      have e1 : jumpL h s l = (0, 0, 2) := by rw [d1, d2] at ab; rw [jumpL, if_neg (by simpa using ab)]
      have E1 := Lib.hid e1
      clear e1 ab
      go_enter Try.func30, Try.ntmps30
      go_wp2
      go_ret3
      exact ⟨by rw [E1.out]; rfl, hb0⟩
    · have d2 : decide (67108864 < h) = false := by simpa using h2
      by_cases h3 : 67108864 < max s q
      · have d3 : decide (67108864 < max s q) = true := by simpa using h3
        have e1 : jumpL h s l = (0, 0, 2) := by rw [d1, d2, d3] at ab; rw [jumpL, if_neg (by simpa using ab)]
        have E1 := Lib.hid e1
        clear e1 ab
        go_enter Try.func30, Try.ntmps30
        go_wp2
        go_ret3
        exact ⟨by rw [E1.out]; rfl, hb0⟩
      · have d3 : decide (67108864 < max s q) = false := by simpa using h3
        by_cases h4 : s < -67108864
        · have d4 : decide (s < -67108864) = true := by simpa using h4
          have e1 : jumpL h s l = (0, 0, 2) := by rw [d1, d2, d3, d4] at ab; rw [jumpL, if_neg (by simpa using ab)]
          have E1 := Lib.hid e1
          clear e1 ab
          go_enter Try.func30, Try.ntmps30
          go_wp2
          go_ret3
          exact ⟨by rw [E1.out]; rfl, hb0⟩
        · have d4 : decide (s < -67108864) = false := by simpa using h4
          have hok : armOK h s = true := by rw [d1, d2, d3, d4] at ab; simpa using ab
          obtain ⟨a1, a2, a3, a4⟩ := armOK_iff.1 hok
          have OK := Lib.hid hok
          clear ab hok h1 h2 h3 h4
          by_cases hc : checkPts l = 0
          · have qq := checkPts_ok hc
            have e1 : jumpL h s l = jumpF h s (bendsL l) 0 := by rw [jumpL, if_pos OK.out, if_pos hc]
            have dc : (checkPts l != 0) = false := by simpa using hc
            have lb := bendsL_length l
            have gb : ∀ k, k < (bendsL l).length → -33554432 ≤ gi (bendsL l) k ∧ gi (bendsL l) k ≤ 33554432 := fun k hk => gi_bends_bound qq.2 (by rw [lb] at hk; exact hk)
            have hl1 := hl.1
            have hn4 : n ≤ 4096 := by omega
            rw [hl1] at lb
            have GB := Lib.hid gb
            have LB := Lib.hid lb
            have E1 := Lib.hid e1
            have HC := Lib.hid hc
            have Q := Lib.hid qq.2
            have negh : IntKind.i64.wrap (-h) = -h := IntWalk.i64_in _ (by omega)
            clear gb lb e1 hc qq hl1 dc
            go_enter Try.func30, Try.ntmps30
            go_wp2_with fail
            generalize w.alloc (.cells #[.int .i64 h, .int .i64 s] 34) = w0 at *
            refine (checkPts_calls A n c l w0 (hl.below' hb0) hn).mono ?_
            rintro e w1 ⟨rfl, hw1⟩
            have hb1 := hb0.trans (hw1.mono hb0.size)
            rw [HC.out]
            go_wp2_with fail
            refine (bends_calls A n c l w1 (hl.below' hb1) hn4 Q.out).mono ?_
            rintro e w2 ⟨v, rfl, hown, hw2⟩
            have hb2 := hb1.trans (hw2.mono hb1.size)
            obtain ⟨Av, cv, rfl⟩ := own_form hown
            have iv := SlAt.of_own encI_len (by decide) hown
            have b2 := (bx.below' hw1).below' hw2
            have y0 : w2.cell? ⟨w.heap.size, 0, none⟩ = some (.int .i64 h) := b2.cell 0
            have y1 : w2.cell? ⟨w.heap.size, 1, none⟩ = some (.int .i64 s) := b2.cell 1
            go_wp2
            go_loopw [41] (fun i wr => ∃ k : Nat, k ≤ n - 2 ∧ i = .int .i64 k ∧ jumpF h s (bendsL l) 0 = jumpF h s ((bendsL l).drop k) k ∧ Below w2.heap.size w2 wr) (fun i _ => n - 2 - (intOf i).toNat)
            case atStart => exact ⟨0, Nat.zero_le _, rfl, by simp, Below.refl _ _⟩
            case round =>
              obtain ⟨k, hk, rfl, hj, hbl⟩ := hrel
              have y2 : wr.cell? ⟨w.heap.size, 0, none⟩ = some (.int .i64 h) := (b2.below' hbl).cell 0
              have y3 : wr.cell? ⟨w.heap.size, 1, none⟩ = some (.int .i64 s) := (b2.below' hbl).cell 1
              have hb3 := hb2.trans (hbl.mono hb2.size)
              by_cases hlt : k < n - 2
              · obtain ⟨b, o, rfl, _, p0⟩ := Go.Dw.ints_at (iv.below' hbl) hlt
                have hst := jumpF_step (h := h) (s := s) (bs := bendsL l) (k := k) (by rw [LB.out]; exact hlt)
                have gk := GB.out k (by rw [LB.out]; exact hlt)
                have n1 : (k : Int) < ((n - 2 : Nat) : Int) := by omega
                have w4 : IntKind.i64.wrap (gi (bendsL l) k - s) = gi (bendsL l) k - s := IntWalk.i64_in _ (by omega)
                by_cases c1 : h < gi (bendsL l) k - s
                · have d1 : decide (h < gi (bendsL l) k - s) = true := by simpa using c1
                  rw [if_pos c1] at hst
                  have J := Lib.hid ((E1.out.trans hj).trans hst)
                  clear hj hst c1
                  go_wp2
                  go_ret3
                  exact ⟨by rw [J.out]; rfl, hb3⟩
                · have d1 : decide (h < gi (bendsL l) k - s) = false := by simpa using c1
                  rw [if_neg c1] at hst
                  by_cases c2 : gi (bendsL l) k - s < -h
                  · have d2 : decide (gi (bendsL l) k - s < -h) = true := by simpa using c2
                    rw [if_pos c2] at hst
                    have J := Lib.hid ((E1.out.trans hj).trans hst)
                    clear hj hst c1 c2
                    go_wp2
                    go_ret3
                    exact ⟨by rw [J.out]; rfl, hb3⟩
                  · have d2 : decide (gi (bendsL l) k - s < -h) = false := by simpa using c2
                    rw [if_neg c2] at hst
                    have J := Lib.hid (hj.trans hst)
                    clear hj hst c1 c2
                    go_wp2
                    go_roundw
                    case rel => exact ⟨k + 1, by omega, by go_num, J.out, hbl⟩
                    case measure => simp [intOf]; omega
              · obtain rfl : k = n - 2 := by omega
                have e2 : (bendsL l).drop (n - 2) = [] := List.drop_eq_nil_of_le (by rw [LB.out]; exact Nat.le_refl _)
                rw [e2] at hj
                have J := Lib.hid (E1.out.trans hj)
                clear hj e2
                go_wp2
                go_ret3
                exact ⟨by rw [J.out]; rfl, hb3⟩
          · have e1 : jumpL h s l = (0, 0, checkPts l) := by rw [jumpL, if_pos OK.out, if_neg hc]
            have dc : (checkPts l != 0) = true := by simpa using hc
            have E1 := Lib.hid e1
            clear e1 hc
            go_enter Try.func30, Try.ntmps30
            go_wp2_with fail
            generalize w.alloc (.cells #[.int .i64 h, .int .i64 s] 34) = w0 at *
            refine (checkPts_calls A n c l w0 (hl.below' hb0) hn).mono ?_
            rintro e w1 ⟨rfl, hw1⟩
            have hb1 := hb0.trans (hw1.mono hb0.size)
            go_wp2
            go_ret3
            exact ⟨by rw [E1.out]; rfl, hb1⟩

theorem bendRef_calls (A : Option Addr) (n c : Nat) (l : List Pt) (i : Nat) (w : World) (hl : PtsAt w A n l) (hn : n ≤ 4096) (hlb : Bd l) (h0 : 0 < i) (h1 : i + 1 < n) :
    Calls Try.prog 31 #[.slice A n c, .int .i64 i] w fun e w' => e = .returned (.int .i64 (bendAt l i)) ∧ Below w.heap.size w w' := by
  have Hl := Lib.hid hl.1
  obtain ⟨k, rfl⟩ : ∃ k, i = k + 1 := ⟨i - 1, by omega⟩
  obtain ⟨b, o, rfl, hb, p0, p1⟩ := pts_at hl (show k < n by omega)
  obtain ⟨b', o', hA, _, p2, p3⟩ := pts_at hl (show k + 1 < n by omega)
  injection hA with hA; injection hA with hA1 hA2; subst hA1 hA2
  obtain ⟨b', o', hA, _, p4, p5⟩ := pts_at hl (show k + 2 < n by omega)
  injection hA with hA; injection hA with hA1 hA2; subst hA1 hA2
  have q0 := (forall_gp.1 hlb) k (by rw [Hl.out]; omega)
  have q1 := (forall_gp.1 hlb) (k + 1) (by rw [Hl.out]; omega)
  have q2 := (forall_gp.1 hlb) (k + 2) (by rw [Hl.out]; omega)
  have n1 : IntKind.i64.wrap ((k : Int) + 1 - 1) = (k : Int) := by rw [IntWalk.i64_in _ (by omega)]; omega
  have n2 : IntKind.i64.wrap ((k : Int) + 1 + 1) = (k : Int) + 2 := by rw [IntWalk.i64_in _ (by omega)]; omega
  have n1' : IntKind.i64.wrap (k : Int) = (k : Int) := IntWalk.i64_in _ (by omega)
  have n2' : IntKind.i64.wrap ((k : Int) + 2) = (k : Int) + 2 := IntWalk.i64_in _ (by omega)
  have n3 : ((k : Int) + 2).toNat = k + 2 := by omega
  have n4 : ((k : Int) + 1).toNat = k + 1 := by omega
  have n5 : (0 : Int) ≤ (k : Int) + 2 := by omega
  have n6 : (k : Int) + 2 < (n : Int) := by omega
  have n7 : (0 : Int) ≤ (k : Int) + 1 := by omega
  have n8 : (k : Int) + 1 < (n : Int) := by omega
  have n9 : (k : Int) < (n : Int) := by omega
  have e1 : (gp l k).1 + (gp l k).2 + (gp l (k + 2)).1 + (gp l (k + 2)).2 - 2 * ((gp l (k + 1)).1 + (gp l (k + 1)).2) = bendAt l (k + 1) := rfl
  have E1 := Lib.hid e1
  clear e1
  have ec : ((k + 1 : Nat) : Int) = (k : Int) + 1 := by omega
  rw [ec]
  go_enter Try.func31, Try.ntmps31
  go_wp2
  go_quiet (fail)
  go_wp2
  go_ret
  exact ⟨ret_int (by rw [← E1.out]), below_drewN (Below.refl _ _) _⟩
end Go.Proofs.Ytlhkpdnnopknnaa
