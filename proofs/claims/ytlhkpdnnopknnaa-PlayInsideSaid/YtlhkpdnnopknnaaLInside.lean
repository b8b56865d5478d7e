/-
  PlayInside: what a tip reads lies in what it sweeps, this in the groove; narrower grooves and sharper tips. No condition.
-/
import Derived.Test.YtlhkpdnnopknnaaPlayN
import Derived.Test.YtlhkpdnnopknnaaLift2
namespace Go.Proofs.Ytlhkpdnnopknnaa
open Go.RowKit Go.Dw Go.ChangeShapes Go.WideShapes Go.ChangeAt Go.Deep

set_option maxRecDepth 100000 in
set_option maxHeartbeats 2000000 in
theorem inside_law_calls (A : Option Addr) (r c : Nat) (t : List Int) (B : Option Addr) (n d : Nat) (l : List Pt) (C : Option Addr) (m f : Nat) (bs : List Int) (D : Option Addr) (m' f' : Nat) (ss : List Int) (less : Int) (w : World)
    (ht : IntsAt w A r t) (hr : r ≤ 4611686018427387904) (hl : PtsAt w B n l) (hn : n ≤ 4611686018427387904) (_ : n ≤ d) (hb : SlAt (encK .u8) 1 w C m bs) (hm : m ≤ 4611686018427387904) (hbb : ∀ x ∈ bs, 0 ≤ x ∧ x ≤ 255)
    (hs : SlAt (encK .u8) 1 w D m' ss) (hm' : m' ≤ 4611686018427387904) (hss : ∀ x ∈ ss, 0 ≤ x ∧ x ≤ 255) (hle : 0 ≤ less ∧ less ≤ 255) :
    Calls Try.prog 4 #[.agg #[.slice A r c], .slice B n d, .slice C m f, .slice D m' f', .int .u8 less] w fun e w' => e = .returned (.bool true) ∧ Below w.heap.size w w' := by
  have hb0 := below_new w (.cells #[.slice A r c] 24)
  have hbx := Box.new w 24 #[.slice A r c]
  have hl1 := hl.1
  have Hl := Lib.hid hl1
  go_enter Try.func4, Try.ntmps4
  clear hl1
  go_wp2_with fail
  generalize w.alloc (.cells #[.slice A r c] 24) = w0 at *
  refine (valid_calls A r c t B n d l 60 w0 (ht.below' hb0) (hl.below' hb0) hr hn).mono ?_
  rintro e w1 ⟨rfl, hw1⟩
  have hb1 := hb0.trans (hw1.mono hb0.size)
  have y1 : w1.cell? ⟨w.heap.size, 0, none⟩ = some (.slice A r c) := (hbx.below' hw1).cell 0
  by_cases hv : validB t l 60 = true
  · obtain ⟨v1, v2, v3⟩ := validB_ok (most := 60) hv
    have hck := checkBoth_of v1 v3
    have hck3 := checkBoth_narrow (bs := bs) hck hbb
    obtain ⟨sf1, sf2⟩ := sharpL_facts (bs := ss) (less := less) v1 hss
    have hck4 := checkBoth_of sf1 v3
    have eR := wallsR_eq hck
    have eS := wallsS_eq hck
    have eR3 := wallsR_eq hck3
    have eR4 := wallsR_eq hck4
    have lR := readP_length t l
    have lS := sweepP_length t l
    have lN := narrowL_length l bs
    have lR3 := readP_length t (narrowL l bs)
    have lR4 := readP_length (sharpL t ss less) l
    rw [Hl.out] at lR lS lN lR4
    rw [lN] at lR3
    have k1 : decide (Inside (readP t l) (sweepP t l)) = true := decide_eq_true (readP_in_sweepP t l)
    have k2 : decide (Inside (sweepP t l) l) = true := decide_eq_true (sweepP_in t l)
    have k3 : decide (Inside (readP t (narrowL l bs)) (readP t l)) = true := decide_eq_true (readP_mono (narrow_inside (bd_of_check v3) hbb))
    have k4 : decide (Inside (readP t l) (readP (sharpL t ss less) l)) = true := decide_eq_true (readP_sharper sf2)
    have hn4 : n ≤ 4096 := by have := Hl.out; omega
    have hbd := bd_of_check v3
    have lSh : (shN t less) ≤ 4611686018427387904 := by have := (checkTip_ok v1).2.1; unfold shN; omega
    have HV := Lib.hid hv
    have HC := Lib.hid hck
    have HC3 := Lib.hid hck3
    have HC4 := Lib.hid hck4
    have ER := Lib.hid eR
    have ES := Lib.hid eS
    have ER3 := Lib.hid eR3
    have ER4 := Lib.hid eR4
    have LR := Lib.hid lR
    have LS := Lib.hid lS
    have LN := Lib.hid lN
    have LR3 := Lib.hid lR3
    have LR4 := Lib.hid lR4
    have K1 := Lib.hid k1
    have K2 := Lib.hid k2
    have K3 := Lib.hid k3
    have K4 := Lib.hid k4
    have BD := Lib.hid hbd
    have CT := Lib.hid v1
    have SF := Lib.hid sf1
    clear hv hck hck3 hck4 eR eS eR3 eR4 lR lS lN lR3 lR4 k1 k2 k3 k4 hbd v1 v2 v3 sf1 sf2
    rw [HV.out]
    go_wp2_with fail
    refine (Read_calls A r c t B n d l w1 (ht.below' hb1) (hl.below' hb1) hr hn).mono ?_
    rintro e w2 ⟨vr, rfl, hown2, hw2⟩
    have hb2 := hb1.trans (hw2.mono hb1.size)
    have y2 : w2.cell? ⟨w.heap.size, 0, none⟩ = some (.slice A r c) := ((hbx.below' hw1).below' hw2).cell 0
    rw [HC.out]
    rw [ER.out, LR.out] at hown2
    obtain ⟨Ar, cr, rfl⟩ := own_form hown2
    have r2 := SlAt.of_own encP_len (by decide) hown2
    go_wp2_with fail
    refine (Sweep_calls A r c t B n d l w2 (ht.below' hb2) (hl.below' hb2) hr hn).mono ?_
    rintro e w3 ⟨vs, rfl, hown3, hw3⟩
    have hb3 := hb2.trans (hw3.mono hb2.size)
    have hbx3 := ((hbx.below' hw1).below' hw2).below' hw3
    have y3 : w3.cell? ⟨w.heap.size, 0, none⟩ = some (.slice A r c) := hbx3.cell 0
    rw [HC.out]
    rw [ES.out, LS.out] at hown3
    obtain ⟨As, cs, rfl⟩ := own_form hown3
    have s3 := SlAt.of_own encP_len (by decide) hown3
    have r3 := r2.below' hw3
    -- read of the narrower groove
    have c1 := narrowed_calls B C n d m f l bs w3.drew (hl.below' hb3.drew) (hb.below' hb3.drew) hn4 hm BD.out hbb
    have c2 : ∀ (w4 : World) (Ao : Option Addr) (co : Nat), Below w3.drew.heap.size w3.drew w4 → PtsAt w4 Ao n (narrowL l bs) →
        Calls Try.prog 21 #[.agg #[.slice A r c], .slice Ao n co] w4 fun e w' => ∃ v, e = .returned (.tuple #[v, .int .i64 0]) ∧ w'.ownsRow w4.heap.size 29 2 v n ((readP t (narrowL l bs)).flatMap encP) ∧ Below w4.heap.size w4 w' := fun w4 Ao co hb4 ho =>
      (Read_calls A r c t Ao n co (narrowL l bs) w4 (ht.below' (hb3.trans ((below_undrew hb4).mono hb3.size))) ho hr hn).mono (by
        rintro e w' ⟨v, rfl, hown, hw⟩
        rw [HC3.out]
        rw [ER3.out, LR3.out] at hown
        exact ⟨v, rfl, hown, hw⟩)
    have C1 := Lib.hid c1
    have C2 := Lib.hid c2
    clear c1 c2
    go_upto_region 5 with fail
    go_region_with (first
      | (go_at_call 25; (with_reducible refine C1.out.mono ?_); rintro e w4 ⟨vo, rfl, hown4, hw4⟩; obtain ⟨Ao, co, rfl⟩ := own_form hown4; have y4 : w4.cell? ⟨w.heap.size, 0, none⟩ = some (.slice A r c) := (hbx3.below (w := w3.drew) hw4 hbx3.lt).cell 0)
      | (go_at_call 21; (with_reducible refine (C2.out w4 Ao co hw4 (SlAt.of_own encP_len (by decide) hown4)).mono ?_); rintro e w5 ⟨v5, rfl, hown5, hw5⟩))
    all_goals
      have hw35 := (below_undrew hw4).trans (hw5.mono (below_undrew hw4).size)
      have hb5 := hb3.trans (hw35.mono hb3.size)
      have hbx5 := hbx3.below' hw35
      have y5 : w5.cell? ⟨w.heap.size, 0, none⟩ = some (.slice A r c) := hbx5.cell 0
      obtain ⟨An, cn, rfl⟩ := own_form hown5
      have n5 := SlAt.of_own encP_len (by decide) hown5
      go_wp2_with fail
      refine (sharper_calls A D r c m' f' t ss less w5 (ht.below' hb5) (hs.below' hb5) hm' CT.out hss hle).mono ?_
      rintro e w6 ⟨v6, rfl, hown6, hw6⟩
      have hb6 := hb5.trans (hw6.mono hb5.size)
      obtain ⟨A6, c6, rfl⟩ := own_form hown6
      have t6 := SlAt.of_own encI_len (by decide) hown6
      go_wp2_with fail
      refine (Read_calls A6 (shN t less) c6 (sharpL t ss less) B n d l w6 t6 (hl.below' hb6) lSh hn).mono ?_
      rintro e w7 ⟨v7, rfl, hown7, hw7⟩
      have hb7 := hb6.trans (hw7.mono hb6.size)
      rw [HC4.out]
      rw [ER4.out, LR4.out] at hown7
      obtain ⟨Am, cm, rfl⟩ := own_form hown7
      have m7 := SlAt.of_own encP_len (by decide) hown7
      have hw37 := hw35.trans ((hw6.trans (hw7.mono hw6.size)).mono hw35.size)
      have r7 := r3.below' hw37
      have s7 := s3.below' hw37
      have n7 := (n5.below' hw6).below' hw7
      go_wp2_with fail
      refine (inside_calls Ar As n cr n cs (readP t l) (sweepP t l) w7 r7 s7 hn hn).mono ?_
      rintro e w8 ⟨rfl, hw8⟩
      have hb8 := hb7.trans (hw8.mono hb7.size)
      rw [K1.out]
      go_wp2_with fail
      refine (inside_calls As B n cs n d (sweepP t l) l w8 (s7.below' hw8) (hl.below' hb8) hn hn).mono ?_
      rintro e w9 ⟨rfl, hw9⟩
      have hb9 := hb8.trans (hw9.mono hb8.size)
      rw [K2.out]
      go_wp2_with fail
      refine (inside_calls An Ar n cn n cr (readP t (narrowL l bs)) (readP t l) w9 ((n7.below' hw8).below' hw9) ((r7.below' hw8).below' hw9) hn hn).mono ?_
      rintro e w10 ⟨rfl, hw10⟩
      have hb10 := hb9.trans (hw10.mono hb9.size)
      rw [K3.out]
      go_wp2_with fail
      refine (inside_calls Ar Am n cr n cm (readP t l) (readP (sharpL t ss less) l) w10 (((r7.below' hw8).below' hw9).below' hw10) (((m7.below' hw8).below' hw9).below' hw10) hn hn).mono ?_
      rintro e w11 ⟨rfl, hw11⟩
      have hb11 := hb10.trans (hw11.mono hb10.size)
      rw [K4.out]
      go_wp2_with fail
      refine (works_calls w11).mono ?_
      rintro e w12 ⟨rfl, hw12⟩
      go_wp2
      go_ret
      exact ⟨rfl, hb11.trans (hw12.mono hb11.size)⟩
  · have hv' : validB t l 60 = false := by simpa using hv
    rw [hv']
    clear hv hv'
    go_wp2_with fail
    refine (works_calls w1).mono ?_
    rintro e w2 ⟨rfl, hw2⟩
    go_wp2
    go_ret
    exact ⟨rfl, hb1.trans (hw2.mono hb1.size)⟩

set_option maxRecDepth 100000 in
theorem inside_law_lifted (os : Os) (started : os.Started) (H : Type) (enc : TypeId × Value → H) :
    ReturnsInHanded {} Try.checked os 4 .any (Rows.playInsideSpec.pre6 enc Try.prog Try.f4 Rows.playInsideRow.domain false) (Rows.playInsideSpec.post enc Try.prog Try.f4 false true false false) := by
  refine returnsInHanded_of_change_sized (C := Try.checked) Try.own started (by kernel_rfl) Try.func4
    (ChangeSpec.witness6 (enc := enc) (C := Try.checked) false ⟨#[], #[.agg #[.slice none 0 0], .slice none 0 0, .slice none 0 0, .slice none 0 0, .int .u8 0], []⟩ 8 (by kernel_rfl) (by kernel_rfl) (by kernel_rfl) (by kernel_rfl)) ?_
  intro W base args ds gs before hval0 hW _ hsz0 _
  have hval : ∀ (j : Nat) t v, Try.f4.params[j]? = some t → args[j]? = some v → Value.okWide Try.prog W .any base t v := hval0
  have hsz : (DataW.weightsEach Try.prog (Try.f4.params.toList ++ Rows.playInsideSpec.plain.varTypes Try.prog) (ds ++ gs)).all (· ≤ reachBytes) = true := hsz0
  have hW' := hW
  obtain ⟨p, q, hA0, hV, rfl, hfz, hnd⟩ := hW
  have hA : DataW.TrodAll enc Try.prog W 0 (fun _ => true) true Try.f4.params.toList args.toList ds p := hA0
  rw [Try.params4] at hA hval hsz
  obtain ⟨rfl, rfl⟩ := trodVars_none hV
  obtain ⟨v0, v1, v2, v3, v4, d0, d1, d2, d3, d4, p0, p1, p2, p3, p4, rfl, rfl, h0, h1, h2, h3, h4⟩ := trodAll_five hA
  obtain ⟨A0, n0, c0, l0, rfl, g0, e0, i0, b0⟩ := openBoxed Try.underlying24 rfl (by kernel_rfl) (by kernel_rfl) Try.underlying22 Try.underlying2 (by kernel_rfl) (of_decide_eq_true (by kernel_rfl)) (hval 0 _ _ rfl rfl) h0 (weights_at hsz (j := 0) rfl rfl)
  obtain ⟨A1, n1, c1, l1, rfl, g1, e1, i1, b1⟩ := openPairs Try.underlying25 Try.underlying29 (by kernel_rfl) rfl rfl (by kernel_rfl) (by kernel_rfl) Try.underlying2 Try.underlying2 (of_decide_eq_true (by kernel_rfl)) (hval 1 _ _ rfl rfl) h1 (weights_at hsz (j := 1) rfl rfl)
  obtain ⟨A2, n2, c2, l2, rfl, g2, e2, i2, b2⟩ := openInts Try.underlying39 Try.underlying5 (by kernel_rfl) (of_decide_eq_true (by kernel_rfl)) (hval 2 _ _ rfl rfl) h2 (weights_at hsz (j := 2) rfl rfl)
  obtain ⟨A3, n3, c3, l3, rfl, g3, e3, i3, b3⟩ := openInts Try.underlying39 Try.underlying5 (by kernel_rfl) (of_decide_eq_true (by kernel_rfl)) (hval 3 _ _ rfl rfl) h3 (weights_at hsz (j := 3) rfl rfl)
  obtain ⟨x4, rfl, b4⟩ := openOne Try.underlying5 (hval 4 _ _ rfl rfl) h4
  refine (inside_law_calls A0 n0 c0 l0 A1 n1 c1 l1 A2 n2 c2 l2 A3 n3 c3 l3 x4 W i0 (reach_le (Nat.le_trans g0 e0)) i1 (reach_le (Nat.le_trans g1 e1)) g1 i2 (reach_le (Nat.le_trans g2 e2)) (fun x hx => wf_u8 (b2 x hx)) i3 (reach_le (Nat.le_trans g3 e3)) (fun x hx => wf_u8 (b3 x hx)) (wf_u8 b4)).mono ?_
  rintro e W' ⟨rfl, hb⟩
  exact ⟨_, rfl, post_true (tb := 4) rfl hW' Try.laidOut (by kernel_rfl) rfl (by kernel_rfl) Try.underlying4 hb⟩

theorem inside_law_holds : Rows.PlayInsideSaid :=
  OpenClaim.holds_of_wide 4 Try.f4 rfl rfl rfl rfl rfl rfl rfl ⟨rfl, rfl, rfl, rfl, rfl⟩ rfl rfl rfl rfl rfl (by kernel_rfl) Try.func4 (by kernel_rfl)
    (of_decide_eq_true (by kernel_rfl)) (by unfold Func.isWrapper; first | (rw [if_pos (by decide +kernel)]; kernel_rfl) | (rw [if_neg (by decide +kernel)]; exact ⟨rfl, rfl⟩))
    (fun os started H enc _ => inside_law_lifted os started H enc)
end Go.Proofs.Ytlhkpdnnopknnaa
