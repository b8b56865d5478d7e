/-
  The document's 'Sweep' is the program's. No condition but the sizes of slices.
-/
import Derived.Test.YtlfaaddoemcokaaPlayR
namespace Go.Proofs.Ytlfaaddoemcokaa
open Go.RowKit Go.Dw

def stepSw (t : List Int) (l : List Pt) (i : Nat) (p : Pt) (u : Nat) : Pt :=
  if dist u i < t.length then (min p.1 ((gp l u).1 + gi t (dist u i)), max p.2 ((gp l u).2 - gi t (dist u i))) else p
def sweepPt (t : List Int) (l : List Pt) (i k : Nat) : Pt := (List.range k).foldl (stepSw t l i) (gp l i)
def sweepPts (t : List Int) (l : List Pt) (k : Nat) : List Pt := (List.range k).map fun i => sweepPt t l i l.length
theorem sweepPt_succ (t : List Int) (l : List Pt) (i k : Nat) : sweepPt t l i (k + 1) = stepSw t l i (sweepPt t l i k) k := by simp [sweepPt, List.range_succ]
theorem sweepPts_succ (t : List Int) (l : List Pt) (k : Nat) : sweepPts t l (k + 1) = sweepPts t l k ++ [sweepPt t l k l.length] := by simp [sweepPts, List.range_succ]
theorem sweepPt_le2 {t : List Int} {l : List Pt} {i : Nat} {x : Int} : ∀ k, (sweepPt t l i k).2 ≤ x ↔ (gp l i).2 ≤ x ∧ ∀ u, u < k → dist u i < t.length → (gp l u).2 - gi t (dist u i) ≤ x
  | 0 => by simp [sweepPt]
  | k + 1 => by
    rw [sweepPt_succ, stepSw]
    have ih := sweepPt_le2 (t := t) (l := l) (i := i) (x := x) k
    by_cases hd : dist k i < t.length
    · rw [if_pos hd]
      constructor
      · intro h
        have h1 := ih.1 (by simp only at h; omega)
        refine ⟨h1.1, fun u hu hdu => ?_⟩
        rcases Nat.lt_succ_iff_lt_or_eq.1 hu with h2 | rfl
        · exact h1.2 u h2 hdu
        · simp only at h; omega
      · rintro ⟨h1, h2⟩
        have h3 := ih.2 ⟨h1, fun u hu hdu => h2 u (by omega) hdu⟩
        have h4 := h2 k (by omega) hd
        simp only; omega
    · rw [if_neg hd, ih]
      refine and_congr_right fun _ => ⟨fun h u hu hdu => ?_, fun h u hu hdu => h u (by omega) hdu⟩
      rcases Nat.lt_succ_iff_lt_or_eq.1 hu with h2 | rfl
      · exact h u h2 hdu
      · exact absurd hdu hd
theorem le_sweepPt1 {t : List Int} {l : List Pt} {i : Nat} {x : Int} : ∀ k, x ≤ (sweepPt t l i k).1 ↔ x ≤ (gp l i).1 ∧ ∀ u, u < k → dist u i < t.length → x ≤ (gp l u).1 + gi t (dist u i)
  | 0 => by simp [sweepPt]
  | k + 1 => by
    rw [sweepPt_succ, stepSw]
    have ih := le_sweepPt1 (t := t) (l := l) (i := i) (x := x) k
    by_cases hd : dist k i < t.length
    · rw [if_pos hd]
      constructor
      · intro h
        have h1 := ih.1 (by simp only at h; omega)
        refine ⟨h1.1, fun u hu hdu => ?_⟩
        rcases Nat.lt_succ_iff_lt_or_eq.1 hu with h2 | rfl
        · exact h1.2 u h2 hdu
        · simp only at h; omega
      · rintro ⟨h1, h2⟩
        have h3 := ih.2 ⟨h1, fun u hu hdu => h2 u (by omega) hdu⟩
        have h4 := h2 k (by omega) hd
        simp only; omega
    · rw [if_neg hd, ih]
      refine and_congr_right fun _ => ⟨fun h u hu hdu => ?_, fun h u hu hdu => h u (by omega) hdu⟩
      rcases Nat.lt_succ_iff_lt_or_eq.1 hu with h2 | rfl
      · exact h u h2 hdu
      · exact absurd hdu hd
theorem eq_of_ge_iff {a b : Int} (h : ∀ x, a ≤ x ↔ b ≤ x) : a = b := Int.le_antisymm ((h b).2 (Int.le_refl _)) ((h a).1 (Int.le_refl _))
theorem sweepPts_eq (t : List Int) (l : List Pt) : sweepPts t (readP t l) l.length = sweepP t l := pts_ext fun inn => by
  rw [hts_sweepP]
  show _ = walkL t (readT t (hts inn l)) true
  rw [← hts_readP]
  have hL : (readP t l).length = l.length := readP_length t l
  generalize readP t l = L at *
  refine list_ext_gi (by simp [hts_length, sweepPts, walkL_length, hL]) fun k hk => ?_
  have hk' : k < L.length := by simpa [hts_length, sweepPts, hL] using hk
  have e : gp (sweepPts t L l.length) k = sweepPt t L k L.length := by rw [gp_eq (by simpa [sweepPts, hL] using hk')]; simp [sweepPts]
  rw [gi_hts (by simpa [sweepPts, hL] using hk'), e, gi_walkL (by rw [hts_length]; exact hk')]
  refine eq_of_ge_iff fun x => ?_
  rw [walkAt_le, gi_hts hk', hts_length]
  cases inn
  · simp only [ofE, Bool.false_eq_true, if_false]
    rw [sweepPt_le2]
    exact and_congr_right fun _ => ⟨fun h j hj hd => by rw [gi_hts hj]; exact h j hj hd, fun h j hj hd => by have := h j hj hd; rw [gi_hts hj] at this; exact this⟩
  · simp only [ofE, if_true]
    have := le_sweepPt1 (t := t) (l := L) (i := k) (x := -x) L.length
    constructor
    · intro h
      have h1 := this.1 (by omega)
      exact ⟨by omega, fun j hj hd => by rw [gi_hts hj]; have := h1.2 j hj hd; simp only [ofE, if_true]; omega⟩
    · rintro ⟨h1, h2⟩
      have := this.2 ⟨by omega, fun j hj hd => by have := h2 j hj hd; rw [gi_hts hj] at this; simp only [ofE, if_true] at this; omega⟩
      omega

set_option maxRecDepth 100000 in
set_option maxHeartbeats 1000000 in
theorem refSweep_calls (A : Option Addr) (r c : Nat) (t : List Int) (B : Option Addr) (n d : Nat) (l : List Pt) (w : World) (ht : IntsAt w A r t) (hl : PtsAt w B n l) (hr : r ≤ 4611686018427387904) (hn : n ≤ 4611686018427387904) :
    Calls Try.prog 34 #[.agg #[.slice A r c], .slice B n d] w fun e w' => ∃ v, e = .returned (.tuple #[v, .int .i64 (checkBoth t l)]) ∧ w'.ownsRow w.heap.size 29 2 v (wallsS t l).length ((wallsS t l).flatMap encP) ∧ Below w.heap.size w w' := by
  have hb0 := below_new w (.cells #[.slice A r c] 24)
  have hbx := Box.new w 24 #[.slice A r c]
  by_cases h0 : checkBoth t l = 0
  · have e1 : wallsS t l = sweepP t l := by simp [wallsS, h0]
    obtain ⟨k1, k2⟩ := checkBoth_ok h0
    obtain ⟨m1, m2, _, _, m3⟩ := checkTip_ok k1
    obtain ⟨m4, m5⟩ := checkPts_ok k2
    have q1 := hl.1
    have q2 := ht.1
    have e3 := readPts_eq t l
    have e2 := sweepP_length t l
    have e4 := sweepPts_eq t l
    have eL := readP_length t l
    have hLb := bd_read (t := t) (l := l) (fun x hx => (m3 x hx).1) m5
    rw [q1] at e3 e2 e4 eL
    have E1 := Lib.hid e1
    have E2 := Lib.hid e2
    have E3 := Lib.hid e3
    have H0 := Lib.hid h0
    have Ht := Lib.hid q2
    have r1 : r ≤ 64 := by omega
    have n4 : n ≤ 4096 := by omega
    generalize hLL : readP t l = L at *
    have E4 := Lib.hid e4
    have HL := Lib.hid eL
    have hlb := m5
    have htb := m3
    clear e1 e2 e3 e4 eL h0 k1 k2 q1 q2 m1 m2 hLL
    obtain ⟨i0, hel⟩ := el_pt
    go_enter Try.func34, Try.ntmps34
    go_wp2_with fail
    generalize w.alloc (.cells #[.slice A r c] 24) = w0 at *
    refine (both_ref_calls A r c t B n d l w0 (ht.below' hb0) hr (hl.below' hb0) hn).mono ?_
    rintro e w1 ⟨rfl, hw1⟩
    have hb1 := hb0.trans (hw1.mono hb0.size)
    have y0 : w1.cell? ⟨w.heap.size, 0, none⟩ = some (.slice A r c) := (hbx.below' hw1).cell 0
    rw [H0.out]
    go_wp2_with fail
    refine (refread_calls A r c t B n d l w1 (ht.below' hb1) (hl.below' hb1) r1 n4 m3 m5).mono ?_
    rintro e w2 ⟨v, rfl, hownL, hw2⟩
    have hb2a := hb1.trans (hw2.mono hb1.size)
    have hbx2a := (hbx.below' hw1).below' hw2
    rw [E3.out] at hownL
    obtain ⟨Av, cv, rfl⟩ := own_form hownL
    have hL := SlAt.of_own encP_len (by decide) hownL
    have ht2 := ht.below' hb2a
    go_wp2
    go_loopw [8, 9] (fun v i wr => ∃ k : Nat, k ≤ n ∧ i = .int .i64 k ∧ wr.ownsRow w2.heap.size 29 2 v k ((sweepPts t L k).flatMap encP) ∧ Box wr w.heap.size 24 #[.slice A r c] ∧ Below w2.heap.size w2 wr) (fun _ i _ => n - (intOf i).toNat)
    case atStart => exact ⟨0, Nat.zero_le _, rfl, World.ownsRow_nil _ _ _ _, hbx2a, Below.refl _ _⟩
    case round =>
      obtain ⟨k, hk, rfl, hown, bxr, hbl⟩ := hrel
      by_cases hlt : k < n
      · obtain ⟨b, o, rfl, hb, p0, p1⟩ := pts_at (hL.below' hbl) hlt
        have n1 : (k : Int) < (n : Int) := by omega
        go_wp2_with fail
        have hp := Box.new wr 29 #[.int .i64 (gp L k).1, .int .i64 (gp L k).2]
        have hb1 := below_new wr (.cells #[.int .i64 (gp L k).1, .int .i64 (gp L k).2] 29)
        generalize wr.alloc (.cells #[.int .i64 (gp L k).1, .int .i64 (gp L k).2] 29) = w1 at *
        obtain ⟨wo, rfl⟩ : ∃ wo : World, wo = wr := ⟨_, rfl⟩
        go_loopw [11] (fun u wz => ∃ q : Nat, q ≤ n ∧ u = .int .i64 q ∧ Box wz wo.heap.size 29 #[.int .i64 (sweepPt t L k q).1, .int .i64 (sweepPt t L k q).2] ∧ Below wo.heap.size wo wz) (fun u _ => n - (intOf u).toNat)
        case atStart => exact ⟨0, Nat.zero_le _, rfl, by simpa [sweepPt] using hp, hb1⟩
        case round =>
          obtain ⟨q, hq, rfl, hpx, hbq⟩ := hrel
          have hb2 := hbl.trans (hbq.mono hbl.size)
          by_cases hqm : q < n
          · have hbx2 := bxr.below' hbq
            obtain ⟨b', o', hA, hb', hd1, hd2⟩ := pts_at (hL.below' hb2) hqm
            injection hA with hA; injection hA with hA1 hA2; subst hA1 hA2
            have hsl : wr.cell? ⟨w.heap.size, 0, none⟩ = some (.slice A r c) := hbx2.cell 0
            have hp1 : wr.cell? ⟨wo.heap.size, 0, none⟩ = some (.int .i64 (sweepPt t L k q).1) := hpx.cell 0
            have hp2 : wr.cell? ⟨wo.heap.size, 1, none⟩ = some (.int .i64 (sweepPt t L k q).2) := hpx.cell 1
            have hp3 : wr.frozen? ⟨wo.heap.size, 0, none⟩ = false := hpx.frozen 0
            have hp4 : wr.frozen? ⟨wo.heap.size, 1, none⟩ = false := hpx.frozen 1
            have hlq := (forall_gp.1 hLb) q (by rw [HL.out]; exact hqm)
            have n2 : (q : Int) < (n : Int) := by omega
            have w1' : IntKind.i64.wrap ((q : Int) - (k : Int)) = (q : Int) - (k : Int) := IntWalk.i64_in _ (by omega)
            have w2' : IntKind.i64.wrap ((k : Int) - (q : Int)) = (k : Int) - (q : Int) := IntWalk.i64_in _ (by omega)
            have hmx : max ((q : Int) - (k : Int)) ((k : Int) - (q : Int)) = ((dist q k : Nat) : Int) := by unfold dist; omega
            have hst := sweepPt_succ t L k q
            by_cases hdt : dist q k < r
            · rw [stepSw, if_pos (by rw [Ht.out]; exact hdt)] at hst
              have ST := Lib.hid hst
              clear hst
              generalize dist q k = D at *
              obtain ⟨b3, o3, rfl, hb3, hc3⟩ := Go.Dw.ints_at (ht2.below' hb2) hdt
              have htj := (forall_gi.1 htb) D (by rw [Ht.out]; exact hdt)
              have n3 : (D : Int) < (r : Int) := by omega
              have n4 : (0 : Int) ≤ (D : Int) := by omega
              have w3' : IntKind.i64.wrap ((gp L q).2 - gi t D) = (gp L q).2 - gi t D := IntWalk.i64_in _ (by omega)
              have w4' : IntKind.i64.wrap ((gp L q).1 + gi t D) = (gp L q).1 + gi t D := IntWalk.i64_in _ (by omega)
              go_upto_region 15 with fail
              go_still_tail 15, (by kernel_rfl)
              go_upto_region 16 with fail
              have hpx2 : Box (wr.setCell ⟨wo.heap.size, 1, none⟩ (.int .i64 (max (sweepPt t L k q).2 ((gp L q).2 - gi t D)))).drew wo.heap.size 29 #[.int .i64 (sweepPt t L k q).1, .int .i64 (max (sweepPt t L k q).2 ((gp L q).2 - gi t D))] := (hpx.set 1 _).drew
              have hbq2 : Below wo.heap.size wo (wr.setCell ⟨wo.heap.size, 1, none⟩ (.int .i64 (max (sweepPt t L k q).2 ((gp L q).2 - gi t D)))).drew := (hbq.setCell (by simp) _).drew
              clear hsl hp1 hp2 hp3 hp4 hd1 hd2 hc3 hbx2
              generalize (wr.setCell ⟨wo.heap.size, 1, none⟩ (.int .i64 (max (sweepPt t L k q).2 ((gp L q).2 - gi t D)))).drew = wy at *
              have hb2' := hbl.trans (hbq2.mono hbl.size)
              have hbx2 := bxr.below' hbq2
              obtain ⟨b', o', hA, hb', hd1, hd2⟩ := pts_at (hL.below' hb2') hqm
              injection hA with hA; injection hA with hA1 hA2; subst hA1 hA2
              obtain ⟨b', o', hA, hb3', hc3⟩ := Go.Dw.ints_at (ht2.below' hb2') hdt
              injection hA with hA; injection hA with hA1 hA2; subst hA1 hA2
              have hsl : wy.cell? ⟨w.heap.size, 0, none⟩ = some (.slice _ r c) := hbx2.cell 0
              have hp1 : wy.cell? ⟨wo.heap.size, 0, none⟩ = some (.int .i64 (sweepPt t L k q).1) := hpx2.cell 0
              have hp3 : wy.frozen? ⟨wo.heap.size, 0, none⟩ = false := hpx2.frozen 0
              go_still_tail 15, (by kernel_rfl)
              go_wp2
              go_roundw
              case rel => exact ⟨q + 1, by omega, by go_num, by rw [ST.out]; exact (hpx2.set 0 _).drew, (hbq2.setCell (by simp) _).drew⟩
              case measure => simp [intOf]; omega
            · rw [stepSw, if_neg (by rw [Ht.out]; exact hdt)] at hst
              have ST := Lib.hid hst
              clear hst
              generalize dist q k = D at *
              have n3 : decide ((D : Int) < (r : Int)) = false := by simp; omega
              go_wp2
              go_roundw
              case rel => exact ⟨q + 1, by omega, by go_num, by rw [ST.out]; exact hpx, hbq⟩
              case measure => simp [intOf]; omega
          · obtain rfl : q = n := by omega
            have hp1 : wr.cell? ⟨wo.heap.size, 0, none⟩ = some (.int .i64 (sweepPt t L k q).1) := hpx.cell 0
            have hp2 : wr.cell? ⟨wo.heap.size, 1, none⟩ = some (.int .i64 (sweepPt t L k q).2) := hpx.cell 1
            have hown1 := own_below' hown hbq
            have E := Lib.hid (sweepPts_succ t L k)
            go_wp2_with (at_builtin; refine wpList_push hel rfl _ _ rfl rfl (hown1.alloc _) rfl (Box.new wr 29 _) rfl (by intro u hu; simp at hu; rcases hu with rfl | rfl <;> rfl) (by omega) (by decide) (by have := hb2.size; simp; omega) ?_; intro v' w9 hown2 hg2)
            go_roundw
            case rel =>
              refine ⟨k + 1, by omega, by go_num, ?_, ((bxr.below' hbq).alloc _).grown hg2 (fun e => own_ne hown1 (bxr.below' hbq) (by decide) _ e.symm rfl), ?_⟩
              · rw [E.out, List.flatMap_append, HL.out]; exact hown2
              · exact (hb2.alloc hb2.size _).grown hg2 (by have := hb2.size; simp; omega) (fun g e => by have := hown1.lt g e; omega)
            case measure => simp [intOf]; omega
      · obtain rfl : k = n := by omega
        go_wp2
        go_ret2
        rw [E4.out] at hown
        exact ⟨_, by rw [H0.out]; rfl, by rw [E1.out, E2.out]; exact ⟨hown.1, by
          rcases hown.2 with h | ⟨g, cap, cur, hv, hg, rest⟩
          · exact .inl h
          · exact .inr ⟨g, cap, cur, hv, by have := hb2a.size; omega, rest⟩⟩, hb2a.trans (hbl.mono hb2a.size)⟩
  · have e1 : wallsS t l = [] := by simp [wallsS, h0]
    have d0 : (checkBoth t l != 0) = true := by simpa using h0
    have E1 := Lib.hid e1
    clear e1 h0
    go_enter Try.func34, Try.ntmps34
    go_wp2_with fail
    generalize w.alloc (.cells #[.slice A r c] 24) = w0 at *
    refine (both_ref_calls A r c t B n d l w0 (ht.below' hb0) hr (hl.below' hb0) hn).mono ?_
    rintro e w1 ⟨rfl, hw1⟩
    have hb1 := hb0.trans (hw1.mono hb0.size)
    go_wp2
    go_ret2
    exact ⟨_, rfl, by rw [E1.out]; exact World.ownsRow_nil _ _ _ _, hb1⟩
end Go.Proofs.Ytlfaaddoemcokaa
