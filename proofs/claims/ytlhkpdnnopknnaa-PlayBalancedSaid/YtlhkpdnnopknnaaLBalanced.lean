/-
  PlayBalanced: the best arm, and one with a greater Hold, leave the groove nowhere; any arm of a lesser Hold does. No condition.
-/
import Derived.Test.YtlhkpdnnopknnaaPlayP
import Derived.Test.YtlhkpdnnopknnaaLift2
namespace Go.Proofs.Ytlhkpdnnopknnaa
open Go.RowKit Go.Dw Go.ChangeShapes Go.WideShapes Go.ChangeAt Go.Deep

set_option maxRecDepth 100000 in
set_option maxHeartbeats 2000000 in
theorem balanced_calls (A : Option Addr) (n c : Nat) (l : List Pt) (h s : Int) (more : Int) (w : World)
    (hl : PtsAt w A n l) (hn : n ≤ 4611686018427387904) (_ : n ≤ c) (_ : -9223372036854775808 ≤ h ∧ h ≤ 9223372036854775807) (hs : -9223372036854775808 ≤ s ∧ s ≤ 9223372036854775807) (hm : 0 ≤ more ∧ more ≤ 65535) :
    Calls Try.prog 6 #[.slice A n c, .agg #[.int .i64 h, .int .i64 s], .int .u16 more] w fun e w' => e = .returned (.bool true) ∧ Below w.heap.size w w' := by
  have hb0 := below_new w (.cells #[.int .i64 h, .int .i64 s] 34)
  have hbx := Box.new w 34 #[.int .i64 h, .int .i64 s]
  have hl1 := hl.1
  have Hl := Lib.hid hl1
  clear hl1
  by_cases h100 : n ≤ 100
  · have d0 : decide (100 < (n : Int)) = false := by simp; omega
    go_enter Try.func6, Try.ntmps6
    go_wp2_with fail
    generalize w.alloc (.cells #[.int .i64 h, .int .i64 s] 34) = w0 at *
    refine (refCheckPts_calls A n c l w0 (hl.below' hb0) hn).mono ?_
    rintro e w1 ⟨rfl, hw1⟩
    have hb1 := hb0.trans (hw1.mono hb0.size)
    have bx1 := hbx.below' hw1
    have y0 : w1.cell? ⟨w.heap.size, 0, none⟩ = some (.int .i64 h) := bx1.cell 0
    have y1 : w1.cell? ⟨w.heap.size, 1, none⟩ = some (.int .i64 s) := bx1.cell 1
    by_cases hc : checkPts l = 0
    · obtain ⟨ba1, ba2, ba3, _⟩ := bal_ok hc
      have jb := jump_best hc
      have jg := jump_greater hc hm.1
      have JA := Lib.hid (fun ha => jump_any hc (h := h) (s := s) ha)
      have BD := Lib.hid (bd_of_check hc)
      have ab := armOK_iff.1 ba1
      have BA1 := Lib.hid ba1
      have JB := Lib.hid jb
      have JG := Lib.hid jg
      have HC := Lib.hid hc
      clear jb jg hc ba1
      rw [HC.out]
      go_wp2_with fail
      refine (checkArm_calls h s w1).mono ?_
      rintro e w2 ⟨rfl, hw2⟩
      have hb2 := hb1.trans (hw2.mono hb1.size)
      have bx2 := bx1.below' hw2
      cases ha : armOK h s with
      | false =>
        go_wp2_with fail
        refine (works_calls w2).mono ?_
        rintro e w3 ⟨rfl, hw3⟩
        go_wp2
        go_ret
        exact ⟨rfl, hb2.trans (hw3.mono hb2.size)⟩
      | true =>
        have HA := Lib.hid ha
        clear ha
        go_wp2_with fail
        refine (balance_calls A n c l w2 (hl.below' hb2) hn).mono ?_
        rintro e w3 ⟨rfl, hw3⟩
        have hb3 := hb2.trans (hw3.mono hb2.size)
        have bx3 := bx2.below' hw3
        rw [HC.out]
        generalize hbh : (balArm l).1 = bh at *
        generalize hbs : (balArm l).2 = bs at *
        have n7 := Box.new w3 34 #[.int .i64 bh, .int .i64 bs]
        have hb4 := hb3.alloc hb3.size (.cells #[.int .i64 bh, .int .i64 bs] 34)
        have bx4 := bx3.alloc (.cells #[.int .i64 bh, .int .i64 bs] 34)
        go_wp2_with fail
        change Calls _ _ _ (w3.alloc (.cells #[.int .i64 bh, .int .i64 bs] 34)) _
        generalize w3.alloc (.cells #[.int .i64 bh, .int .i64 bs] 34) = w4 at *
        refine (checkArm_calls bh bs w4).mono ?_
        rintro e w5 ⟨rfl, hw5⟩
        have hb5 := hb4.trans (hw5.mono hb4.size)
        have bx5 := bx4.below' hw5
        have n75 := n7.below' hw5
        have z0 : w5.cell? ⟨w3.heap.size, 0, none⟩ = some (.int .i64 bh) := n75.cell 0
        have z1 : w5.cell? ⟨w3.heap.size, 1, none⟩ = some (.int .i64 bs) := n75.cell 1
        rw [BA1.out]
        go_wp2_with fail
        refine (jump_calls bh bs A n c l w5 (hl.below' hb5) hn (by omega)).mono ?_
        rintro e w6 ⟨rfl, hw6⟩
        have hb6 := hb5.trans (hw6.mono hb5.size)
        have bx6 := bx5.below' hw6
        have n76 := n75.below' hw6
        have x0 : w6.cell? ⟨w3.heap.size, 0, none⟩ = some (.int .i64 bh) := n76.cell 0
        have x1 : w6.cell? ⟨w3.heap.size, 1, none⟩ = some (.int .i64 bs) := n76.cell 1
        rw [JB.out]
        have m1 : IntKind.i64.wrap more = more := IntWalk.i64_in _ (by omega)
        have m2 : IntKind.i64.wrap (bh + more) = bh + more := IntWalk.i64_in _ (by omega)
        have lt6 := n76.lt
        have lt6' := bx6.lt
        have k9 := Box.new w6 34 #[.int .i64 (min 67108864 (bh + more)), .int .i64 bs]
        have hb7 := hb6.alloc hb6.size (.cells #[.int .i64 (min 67108864 (bh + more)), .int .i64 bs] 34)
        have n77 := n76.alloc (.cells #[.int .i64 (min 67108864 (bh + more)), .int .i64 bs] 34)
        have bx7 := bx6.alloc (.cells #[.int .i64 (min 67108864 (bh + more)), .int .i64 bs] 34)
        go_wp2_with fail
        change Calls _ _ _ (w6.alloc (.cells #[.int .i64 (min 67108864 (bh + more)), .int .i64 bs] 34)) _
        generalize w6.alloc (.cells #[.int .i64 (min 67108864 (bh + more)), .int .i64 bs] 34) = w7 at *
        refine (jump_calls _ bs A n c l w7 (hl.below' hb7) hn (by omega)).mono ?_
        rintro e w8 ⟨rfl, hw8⟩
        have hb8 := hb7.trans (hw8.mono hb7.size)
        have bx8 := bx7.below' hw8
        have n78 := n77.below' hw8
        have u0 : w8.cell? ⟨w3.heap.size, 0, none⟩ = some (.int .i64 bh) := n78.cell 0
        have u1 : w8.cell? ⟨w3.heap.size, 1, none⟩ = some (.int .i64 bs) := n78.cell 1
        have u2 : w8.cell? ⟨w.heap.size, 0, none⟩ = some (.int .i64 h) := bx8.cell 0
        have u3 : w8.cell? ⟨w.heap.size, 1, none⟩ = some (.int .i64 s) := bx8.cell 1
        rw [JG.out]
        go_wp2_with fail
        refine (jump_calls h s A n c l w8 (hl.below' hb8) hn hs).mono ?_
        rintro e w9 ⟨rfl, hw9⟩
        have hb9 := hb8.trans (hw9.mono hb8.size)
        have bx9 := bx8.below' hw9
        have n79 := n78.below' hw9
        have t0 : w9.cell? ⟨w3.heap.size, 0, none⟩ = some (.int .i64 bh) := n79.cell 0
        have t1 : w9.cell? ⟨w3.heap.size, 1, none⟩ = some (.int .i64 bs) := n79.cell 1
        have t2 : w9.cell? ⟨w.heap.size, 0, none⟩ = some (.int .i64 h) := bx9.cell 0
        have t3 : w9.cell? ⟨w.heap.size, 1, none⟩ = some (.int .i64 s) := bx9.cell 1
        rcases JA.out HA.out with ⟨j1, j2, j3⟩ | ⟨k, hk, sd, j1, j2⟩
        · have J := Lib.hid j1
          clear j1
          have hge : decide (bh ≤ h) = true := by simpa using j2
          rw [J.out]
          rw [Hl.out] at j3
          by_cases q1 : bh < h
          · have d1 : decide (bh < h) = true := by simpa using q1
            clear j3 q1
            go_wp2_with fail
            refine (works_calls w9).mono ?_
            rintro e w10 ⟨rfl, hw10⟩
            go_wp2
            go_ret
            exact ⟨rfl, hb9.trans (hw10.mono hb9.size)⟩
          · have d1 : decide (bh < h) = false := by simpa using q1
            by_cases q2 : bs ≤ s
            · have d2 : decide (bs ≤ s) = true := by simpa using q2
              clear j3 q1 q2
              go_wp2_with fail
              refine (works_calls w9).mono ?_
              rintro e w10 ⟨rfl, hw10⟩
              go_wp2
              go_ret
              exact ⟨rfl, hb9.trans (hw10.mono hb9.size)⟩
            · have d2 : decide (bs ≤ s) = false := by simpa using q2
              have d3 : decide ((n : Int) < 3) = true := by simp; omega
              clear j3 q1 q2
              go_wp2_with fail
              refine (works_calls w9).mono ?_
              rintro e w10 ⟨rfl, hw10⟩
              go_wp2
              go_ret
              exact ⟨rfl, hb9.trans (hw10.mono hb9.size)⟩
        · have J := Lib.hid j1
          rw [Hl.out] at hk
          have bb := bendAt_bd BD.out (i := k + 1) (by omega) (by rw [Hl.out]; omega)
          have ah := armOK_iff.1 HA.out
          have w1' : IntKind.i64.wrap ((k : Int) + 1) = (k : Int) + 1 := IntWalk.i64_in _ (by omega)
          have w2' : IntKind.i64.wrap ((k : Int) + 1 + 1) = (k : Int) + 2 := by rw [IntWalk.i64_in _ (by omega)]; omega
          have d1 : decide ((k : Int) + 1 < 1) = false := by simp; omega
          have d2 : decide ((n : Int) ≤ (k : Int) + 2) = false := by simp; omega
          have w3' : IntKind.i64.wrap (bendAt l (k + 1) - s) = bendAt l (k + 1) - s := IntWalk.i64_in _ (by omega)
          have w4' : IntKind.i64.wrap (-(bendAt l (k + 1) - s)) = -(bendAt l (k + 1) - s) := IntWalk.i64_in _ (by omega)
          have cB := bendRef_calls A n c l (k + 1) w9.drew (hl.below' hb9.drew) (by omega) BD.out (by omega) (by omega)
          have ec : ((k + 1 : Nat) : Int) = (k : Int) + 1 := by omega
          rw [ec] at cB
          have CB := Lib.hid cB
          clear j1 cB
          rw [J.out]
          go_upto_region 17 with fail
          go_region_with ((go_at_call 31; (with_reducible refine CB.out.mono ?_); rintro e w10 ⟨rfl, hw10⟩; have r0 : w10.cell? ⟨w.heap.size, 0, none⟩ = some (.int .i64 h) := (bx9.below (w := w9.drew) hw10 bx9.lt).cell 0; have r1 : w10.cell? ⟨w.heap.size, 1, none⟩ = some (.int .i64 s) := (bx9.below (w := w9.drew) hw10 bx9.lt).cell 1))
          all_goals
            have hb10 := hb9.trans ((below_undrew hw10).mono hb9.size)
            rcases j2 with ⟨rfl, j3⟩ | ⟨rfl, j3⟩
            · have d5 : decide (h < bendAt l (k + 1) - s) = true := by simpa using j3
              clear j3
              go_wp2_with fail
              refine (works_calls w10).mono ?_
              rintro e w11 ⟨rfl, hw11⟩
              go_wp2
              go_ret
              exact ⟨rfl, hb10.trans (hw11.mono hb10.size)⟩
            · have d5 : decide (h < -(bendAt l (k + 1) - s)) = true := by simp; omega
              clear j3
              go_wp2_with fail
              refine (works_calls w10).mono ?_
              rintro e w11 ⟨rfl, hw11⟩
              go_wp2
              go_ret
              exact ⟨rfl, hb10.trans (hw11.mono hb10.size)⟩
    · have d1 : (checkPts l != 0) = true := by simpa using hc
      clear hc
      go_wp2_with fail
      refine (works_calls w1).mono ?_
      rintro e w3 ⟨rfl, hw3⟩
      go_wp2
      go_ret
      exact ⟨rfl, hb1.trans (hw3.mono hb1.size)⟩
  · have d0 : decide (100 < (n : Int)) = true := by simp; omega
    go_enter Try.func6, Try.ntmps6
    go_wp2_with fail
    generalize w.alloc (.cells #[.int .i64 h, .int .i64 s] 34) = w0 at *
    refine (works_calls w0).mono ?_
    rintro e w3 ⟨rfl, hw3⟩
    go_wp2
    go_ret
    exact ⟨rfl, hb0.trans (hw3.mono hb0.size)⟩

set_option maxRecDepth 100000 in
theorem balanced_lifted (os : Os) (started : os.Started) (H : Type) (enc : TypeId × Value → H) :
    ReturnsInHanded {} Try.checked os 6 .any (Rows.playBalancedSpec.pre6 enc Try.prog Try.f6 Rows.playBalancedRow.domain false) (Rows.playBalancedSpec.post enc Try.prog Try.f6 false true false false) := by
  refine returnsInHanded_of_change_sized (C := Try.checked) Try.own started (by kernel_rfl) Try.func6
    (ChangeSpec.witness6 (enc := enc) (C := Try.checked) false ⟨#[], #[.slice none 0 0, .agg #[.int .i64 0, .int .i64 0], .int .u16 0], []⟩ 8 (by kernel_rfl) (by kernel_rfl) (by kernel_rfl) (by kernel_rfl)) ?_
  intro W base args ds gs before hval0 hW _ hsz0 _
  have hval : ∀ (j : Nat) t v, Try.f6.params[j]? = some t → args[j]? = some v → Value.okWide Try.prog W .any base t v := hval0
  have hsz : (DataW.weightsEach Try.prog (Try.f6.params.toList ++ Rows.playBalancedSpec.plain.varTypes Try.prog) (ds ++ gs)).all (· ≤ reachBytes) = true := hsz0
  have hW' := hW
  obtain ⟨p, q, hA0, hV, rfl, hfz, hnd⟩ := hW
  have hA : DataW.TrodAll enc Try.prog W 0 (fun _ => true) true Try.f6.params.toList args.toList ds p := hA0
  rw [Try.params6] at hA hval hsz
  obtain ⟨rfl, rfl⟩ := trodVars_none hV
  obtain ⟨v0, v1, v2, d0, d1, d2, p0, p1, p2, rfl, rfl, h0, h1, h2⟩ := trodAll_tri hA
  obtain ⟨A0, n0, c0, l0, rfl, g0, e0, i0, b0⟩ := openPairs Try.underlying25 Try.underlying29 (by kernel_rfl) rfl rfl (by kernel_rfl) (by kernel_rfl) Try.underlying2 Try.underlying2 (of_decide_eq_true (by kernel_rfl)) (hval 0 _ _ rfl rfl) h0 (weights_at hsz (j := 0) rfl rfl)
  obtain ⟨x1, y1, rfl, b1, z1⟩ := openTwo Try.underlying34 (by kernel_rfl) (by kernel_rfl) Try.underlying2 Try.underlying2 (hval 1 _ _ rfl rfl) h1
  obtain ⟨x2, rfl, b2⟩ := openOne Try.underlying44 (hval 2 _ _ rfl rfl) h2
  refine (balanced_calls A0 n0 c0 l0 x1 y1 x2 W i0 (reach_le (Nat.le_trans g0 e0)) g0 (wf_i64 b1) (wf_i64 z1) (wf_u16 b2)).mono ?_
  rintro e W' ⟨rfl, hb⟩
  exact ⟨_, rfl, post_true (tb := 4) rfl hW' Try.laidOut (by kernel_rfl) rfl (by kernel_rfl) Try.underlying4 hb⟩

theorem balanced_holds : Rows.PlayBalancedSaid :=
  OpenClaim.holds_of_wide 6 Try.f6 rfl rfl rfl rfl rfl rfl rfl ⟨rfl, rfl, rfl, rfl, rfl⟩ rfl rfl rfl rfl rfl (by kernel_rfl) Try.func6 (by kernel_rfl)
    (of_decide_eq_true (by kernel_rfl)) (by unfold Func.isWrapper; first | (rw [if_pos (by decide +kernel)]; kernel_rfl) | (rw [if_neg (by decide +kernel)]; exact ⟨rfl, rfl⟩))
    (fun os started H enc _ => balanced_lifted os started H enc)
end Go.Proofs.Ytlhkpdnnopknnaa
