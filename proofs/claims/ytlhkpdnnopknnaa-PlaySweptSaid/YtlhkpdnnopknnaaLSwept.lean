/-
  PlaySwept: a tip reads of what it sweeps what it reads of the groove, and sweeps just this; every groove that is read alike contains it. No condition.
-/
import Derived.Test.YtlhkpdnnopknnaaPlayM
namespace Go.Proofs.Ytlhkpdnnopknnaa
open Go.RowKit Go.Dw Go.ChangeShapes Go.WideShapes Go.ChangeAt Go.Deep

set_option maxRecDepth 100000 in
set_option maxHeartbeats 2000000 in
theorem swept_calls (A : Option Addr) (r c : Nat) (t : List Int) (B : Option Addr) (n d : Nat) (l : List Pt) (C : Option Addr) (m f : Nat) (bs : List Int) (w : World)
    (ht : IntsAt w A r t) (hl : PtsAt w B n l) (hb : SlAt (encK .u8) 1 w C m bs) (hr : r ≤ 4611686018427387904) (hn : n ≤ 4611686018427387904) (hm : m ≤ 4611686018427387904) (hbb : ∀ x ∈ bs, 0 ≤ x ∧ x ≤ 255) :
    Calls Try.prog 5 #[.agg #[.slice A r c], .slice B n d, .slice C m f] w fun e w' => e = .returned (.bool true) ∧ Below w.heap.size w w' := by
  have hb0 := below_new w (.cells #[.slice A r c] 24)
  have hbx := Box.new w 24 #[.slice A r c]
  have hl1 := hl.1
  have Hl := Lib.hid hl1
  go_enter Try.func5, Try.ntmps5
  clear hl1
  go_wp2_with fail
  generalize w.alloc (.cells #[.slice A r c] 24) = w0 at *
  refine (valid_calls A r c t B n d l 60 w0 (ht.below' hb0) (hl.below' hb0) hr hn).mono ?_
  rintro e w1 ⟨rfl, hw1⟩
  have hb1 := hb0.trans (hw1.mono hb0.size)
  have y1 : w1.cell? ⟨w.heap.size, 0, none⟩ = some (.slice A r c) := (hbx.below' hw1).cell 0
  by_cases hv : validB t l 60 = true
  · obtain ⟨v1, v2, v3⟩ := validB_ok (most := 60) hv
    have hck := checkBoth_of v1 v3
    have hck2 := checkBoth_sweep hck
    have hck3 := checkBoth_narrow (bs := bs) hck hbb
    have eR := wallsR_eq hck
    have eS := wallsS_eq hck
    have eR2 : wallsR t (sweepP t l) = readP t l := by rw [wallsR_eq hck2, readP_sweepP]
    have eS2 : wallsS t (sweepP t l) = sweepP t l := by rw [wallsS_eq hck2, sweepP_sweepP]
    have eR3 := wallsR_eq hck3
    have lR := readP_length t l
    have lS := sweepP_length t l
    have lN := narrowL_length l bs
    have lR3 := readP_length t (narrowL l bs)
    rw [Hl.out] at lR lS lN
    rw [lN] at lR3
    have hfin : (decide (readP t (narrowL l bs) = readP t l) = true) → decide (Inside (sweepP t l) (narrowL l bs)) = true := fun h => decide_eq_true (sweepP_least (of_decide_eq_true h))
    have hn4 : n ≤ 4096 := by have := Hl.out; omega
    have hbd := bd_of_check v3
    have HV := Lib.hid hv
    have HC := Lib.hid hck
    have HC2 := Lib.hid hck2
    have HC3 := Lib.hid hck3
    have ER := Lib.hid eR
    have ES := Lib.hid eS
    have ER2 := Lib.hid eR2
    have ES2 := Lib.hid eS2
    have ER3 := Lib.hid eR3
    have LR := Lib.hid lR
    have LS := Lib.hid lS
    have LN := Lib.hid lN
    have LR3 := Lib.hid lR3
    have FIN := Lib.hid hfin
    have BD := Lib.hid hbd
    clear hv hck hck2 hck3 eR eS eR2 eS2 eR3 lR lS lN lR3 hfin hbd v1 v2 v3
    rw [HV.out]
    go_wp2_with fail
    -- read
    refine (Read_calls A r c t B n d l w1 (ht.below' hb1) (hl.below' hb1) hr hn).mono ?_
    rintro e w2 ⟨vr, rfl, hown2, hw2⟩
    have hb2 := hb1.trans (hw2.mono hb1.size)
    have y2 : w2.cell? ⟨w.heap.size, 0, none⟩ = some (.slice A r c) := ((hbx.below' hw1).below' hw2).cell 0
    rw [HC.out]
    rw [ER.out, LR.out] at hown2
    obtain ⟨Ar, cr, rfl⟩ := own_form hown2
    have r2 := SlAt.of_own encP_len (by decide) hown2
    go_wp2_with fail
    -- sweep
    refine (Sweep_calls A r c t B n d l w2 (ht.below' hb2) (hl.below' hb2) hr hn).mono ?_
    rintro e w3 ⟨vs, rfl, hown3, hw3⟩
    have hb3 := hb2.trans (hw3.mono hb2.size)
    have y3 : w3.cell? ⟨w.heap.size, 0, none⟩ = some (.slice A r c) := (((hbx.below' hw1).below' hw2).below' hw3).cell 0
    rw [HC.out]
    rw [ES.out, LS.out] at hown3
    obtain ⟨As, cs, rfl⟩ := own_form hown3
    have s3 := SlAt.of_own encP_len (by decide) hown3
    go_wp2_with fail
    -- again
    refine (Read_calls A r c t As n cs (sweepP t l) w3 (ht.below' hb3) s3 hr hn).mono ?_
    rintro e w4 ⟨va, rfl, hown4, hw4⟩
    have hb4 := hb3.trans (hw4.mono hb3.size)
    have y4 : w4.cell? ⟨w.heap.size, 0, none⟩ = some (.slice A r c) := ((((hbx.below' hw1).below' hw2).below' hw3).below' hw4).cell 0
    rw [HC2.out]
    rw [ER2.out, LR.out] at hown4
    obtain ⟨Aa, ca, rfl⟩ := own_form hown4
    have a4 := SlAt.of_own encP_len (by decide) hown4
    go_wp2_with fail
    -- twice
    refine (Sweep_calls A r c t As n cs (sweepP t l) w4 (ht.below' hb4) (s3.below' hw4) hr hn).mono ?_
    rintro e w5 ⟨vt, rfl, hown5, hw5⟩
    have hb5 := hb4.trans (hw5.mono hb4.size)
    have y5 : w5.cell? ⟨w.heap.size, 0, none⟩ = some (.slice A r c) := (((((hbx.below' hw1).below' hw2).below' hw3).below' hw4).below' hw5).cell 0
    rw [HC2.out]
    rw [ES2.out, LS.out] at hown5
    obtain ⟨At, ct, rfl⟩ := own_form hown5
    have t5 := SlAt.of_own encP_len (by decide) hown5
    go_wp2_with fail
    -- Same(again, r)
    have r5 := ((r2.below' hw3).below' hw4).below' hw5
    refine (same_calls Aa Ar n ca n cr (readP t l) (readP t l) w5 (a4.below' hw5) r5 hn hn).mono ?_
    rintro e w6 ⟨rfl, hw6⟩
    have hb6 := hb5.trans (hw6.mono hb5.size)
    have q6 : decide (readP t l = readP t l) = true := by simp
    rw [q6]
    go_wp2_with fail
    -- Same(twice, s)
    have s6 := ((s3.below' hw4).below' hw5).below' hw6
    refine (same_calls At As n ct n cs (sweepP t l) (sweepP t l) w6 (t5.below' hw6) s6 hn hn).mono ?_
    rintro e w7 ⟨rfl, hw7⟩
    have hb7 := hb6.trans (hw7.mono hb6.size)
    have q7 : decide (sweepP t l = sweepP t l) = true := by simp
    rw [q7]
    go_wp2_with fail
    -- narrowed
    refine (narrowed_calls B C n d m f l bs w7 (hl.below' hb7) (hb.below' hb7) hn4 hm BD.out hbb).mono ?_
    rintro e w8 ⟨vo, rfl, hown8, hw8⟩
    have hb8 := hb7.trans (hw8.mono hb7.size)
    have y8 : w8.cell? ⟨w.heap.size, 0, none⟩ = some (.slice A r c) := ((((((((hbx.below' hw1).below' hw2).below' hw3).below' hw4).below' hw5).below' hw6).below' hw7).below' hw8).cell 0
    obtain ⟨Ao, co, rfl⟩ := own_form hown8
    have o8 := SlAt.of_own encP_len (by decide) hown8
    go_wp2_with fail
    -- read of it
    refine (Read_calls A r c t Ao n co (narrowL l bs) w8 (ht.below' hb8) o8 hr hn).mono ?_
    rintro e w9 ⟨v9, rfl, hown9, hw9⟩
    have hb9 := hb8.trans (hw9.mono hb8.size)
    rw [HC3.out]
    rw [ER3.out, LR3.out] at hown9
    obtain ⟨A9, c9, rfl⟩ := own_form hown9
    have o9 := SlAt.of_own encP_len (by decide) hown9
    go_wp2_with fail
    -- Same(o, r)
    have r9 := (((r5.below' hw6).below' hw7).below' hw8).below' hw9
    refine (same_calls A9 Ar n c9 n cr (readP t (narrowL l bs)) (readP t l) w9 o9 r9 hn hn).mono ?_
    rintro e w10 ⟨rfl, hw10⟩
    have hb10 := hb9.trans (hw10.mono hb9.size)
    cases hq : decide (readP t (narrowL l bs) = readP t l) with
    | true =>
      have hin := FIN.out hq
      have HIN := Lib.hid hin
      clear hin hq
      go_wp2_with fail
      have s10 := (((s6.below' hw7).below' hw8).below' hw9).below' hw10
      refine (inside_calls As Ao n cs n co (sweepP t l) (narrowL l bs) w10 s10 ((o8.below' hw9).below' hw10) hn hn).mono ?_
      rintro e w11 ⟨rfl, hw11⟩
      have hb11 := hb10.trans (hw11.mono hb10.size)
      rw [HIN.out]
      go_wp2_with fail
      refine (works_calls w11).mono ?_
      rintro e w12 ⟨rfl, hw12⟩
      go_wp2
      go_ret
      exact ⟨rfl, hb11.trans (hw12.mono hb11.size)⟩
    | false =>
      clear hq
      go_wp2_with fail
      refine (works_calls w10).mono ?_
      rintro e w12 ⟨rfl, hw12⟩
      go_wp2
      go_ret
      exact ⟨rfl, hb10.trans (hw12.mono hb10.size)⟩
  · have hv' : validB t l 60 = false := by simpa using hv
    rw [hv']
    clear hv hv'
    go_wp2_with fail
    refine (works_calls w1).mono ?_
    rintro e w2 ⟨rfl, hw2⟩
    go_wp2
    go_ret
    exact ⟨rfl, hb1.trans (hw2.mono hb1.size)⟩

set_option maxRecDepth 100000 in
theorem swept_lifted (os : Os) (started : os.Started) (H : Type) (enc : TypeId × Value → H) :
    ReturnsInHanded {} Try.checked os 5 .any (Rows.playSweptSpec.pre6 enc Try.prog Try.f5 Rows.playSweptRow.domain false) (Rows.playSweptSpec.post enc Try.prog Try.f5 false true false false) := by
  refine returnsInHanded_of_change_sized (C := Try.checked) Try.own started (by kernel_rfl) Try.func5
    (ChangeSpec.witness6 (enc := enc) (C := Try.checked) false ⟨#[], #[.agg #[.slice none 0 0], .slice none 0 0, .slice none 0 0], []⟩ 8 (by kernel_rfl) (by kernel_rfl) (by kernel_rfl) (by kernel_rfl)) ?_
  intro W base args ds gs before hval0 hW _ hsz0 _
  have hval : ∀ (j : Nat) t v, Try.f5.params[j]? = some t → args[j]? = some v → Value.okWide Try.prog W .any base t v := hval0
  have hsz : (DataW.weightsEach Try.prog (Try.f5.params.toList ++ Rows.playSweptSpec.plain.varTypes Try.prog) (ds ++ gs)).all (· ≤ reachBytes) = true := hsz0
  have hW' := hW
  obtain ⟨p, q, hA0, hV, rfl, hfz, hnd⟩ := hW
  have hA : DataW.TrodAll enc Try.prog W 0 (fun _ => true) true Try.f5.params.toList args.toList ds p := hA0
  rw [Try.params5] at hA hval hsz
  obtain ⟨rfl, rfl⟩ := trodVars_none hV
  obtain ⟨v0, v1, v2, d0, d1, d2, p0, p1, p2, rfl, rfl, rfl, h0, h1, h2⟩ := trodAll_three hA
  obtain ⟨A, r, c, t, rfl, g1, g2, i1, _⟩ := openBoxed Try.underlying24 rfl (by kernel_rfl) (by kernel_rfl) Try.underlying22 Try.underlying2 (by kernel_rfl) (of_decide_eq_true (by kernel_rfl)) (hval 0 _ _ rfl rfl) h0 (weights_at hsz (j := 0) rfl rfl)
  obtain ⟨B, n, e, l, rfl, g3, g4, i2, _⟩ := openPairs Try.underlying25 Try.underlying29 (by kernel_rfl) rfl rfl (by kernel_rfl) (by kernel_rfl) Try.underlying2 Try.underlying2 (of_decide_eq_true (by kernel_rfl)) (hval 1 _ _ rfl rfl) h1 (weights_at hsz (j := 1) rfl rfl)
  obtain ⟨C, m, f, bs, rfl, g5, g6, i3, b3⟩ := openInts Try.underlying39 Try.underlying5 (by kernel_rfl) (of_decide_eq_true (by kernel_rfl)) (hval 2 _ _ rfl rfl) h2 (weights_at hsz (j := 2) rfl rfl)
  refine (swept_calls A r c t B n e l C m f bs W i1 i2 i3 (reach_le (Nat.le_trans g1 g2)) (reach_le (Nat.le_trans g3 g4)) (reach_le (Nat.le_trans g5 g6)) (fun x hx => wf_u8 (b3 x hx))).mono ?_
  rintro e W' ⟨rfl, hb⟩
  exact ⟨_, rfl, post_true (tb := 4) rfl hW' Try.laidOut (by kernel_rfl) rfl (by kernel_rfl) Try.underlying4 hb⟩

theorem swept_holds : Rows.PlaySweptSaid :=
  OpenClaim.holds_of_wide 5 Try.f5 rfl rfl rfl rfl rfl rfl rfl ⟨rfl, rfl, rfl, rfl, rfl⟩ rfl rfl rfl rfl rfl (by kernel_rfl) Try.func5 (by kernel_rfl)
    (of_decide_eq_true (by kernel_rfl)) (by unfold Func.isWrapper; first | (rw [if_pos (by decide +kernel)]; kernel_rfl) | (rw [if_neg (by decide +kernel)]; exact ⟨rfl, rfl⟩))
    (fun os started H enc _ => swept_lifted os started H enc)
end Go.Proofs.Ytlhkpdnnopknnaa
