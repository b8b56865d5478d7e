/-
  Contracts for hearing: tips, reads, wows, which tip is blunter. Conditions: told in each theorem.
-/
import Derived.Test.YtlfaaddoemcokaaPC
import Derived.Test.YtlfaaddoemcokaaMD
namespace Go.Proofs.Ytlfaaddoemcokaa
open Go.Ab Go.RowKit Go.Dw Go.Shelf

theorem open_t {w : World} {L : Nat → Prop} {t : List Int} {vs : Array Value} (hL : ∀ b, L b → b < w.heap.size) (h : RV w L ρ0 [.agg [V.ints t]] vs.toList) :
    ∃ A c, vs = #[.agg #[.slice A t.length c]] ∧ IntsAt w A t.length t := by
  obtain ⟨vs⟩ := vs
  obtain ⟨x1, e1, q1⟩ := h.get (i := 0) rfl
  obtain ⟨xs, rfl, hx⟩ := q1.agg_inv
  obtain ⟨xs⟩ := xs
  obtain ⟨y, e3, q3, _⟩ := hx.get (i := 0) rfl
  obtain ⟨A, c, rfl, _, ha⟩ := R_ints_inv q3 hL
  have hn := h.1
  have hm := hx.1
  refine ⟨A, c, ?_, ha⟩
  match vs, hn, xs, hm with
  | [a], _, [x], _ => simp at e1 e3; subst e1 e3; rfl
theorem ac_of_row {P : Program} {f : FuncId} {args : List V} {e0 : TypeId} {l : List Pt} {n : Nat} (he : ∀ (args : Array Value) (w : World), (callFunc f args).run P w = .ok (.enter f args) w)
    (h : ∀ (L : Nat → Prop) (w : World) (vs : Array Value), (∀ b, L b → b < w.heap.size) → RV w L ρ0 args vs.toList → Calls P f vs w fun e w' => ∃ v, e = .returned v ∧ w'.ownsRow w.heap.size e0 2 v n (l.flatMap encP) ∧ Below w.heap.size w w') : AC P f args (V.pts l) [] := by
  refine ac_of_calls he fun L w vs hL hvs => (h L w vs hL hvs).mono ?_
  rintro e w' ⟨v, rfl, ho, hb⟩
  obtain ⟨N, hN, hr⟩ := own_R_pts ho
  exact ⟨_, rfl, hb, N, hN, (hr ρ0).ext ⟨fun b hb => ⟨.inr hb, rfl⟩, fun _ _ h => h⟩⟩
theorem checkTip_ac (t : List Int) (ht : t.length ≤ 4611686018427387904) : AC Try.prog 40 [.agg [V.ints t]] (.i (checkTip t)) [] := by
  refine ac_of_flat (enters_of Try.func40 (by kernel_rfl) rfl) fun L w vs hL hvs => ?_
  obtain ⟨A, c, rfl, ha⟩ := open_t hL hvs
  exact checkTip_calls A _ c t w ha ht
theorem refCheckTip_ac (t : List Int) (ht : t.length ≤ 4611686018427387904) : AC Try.prog 41 [.agg [V.ints t]] (.i (checkTip t)) [] := by
  refine ac_of_flat (enters_of Try.func41 (by kernel_rfl) rfl) fun L w vs hL hvs => ?_
  obtain ⟨A, c, rfl, ha⟩ := open_t hL hvs
  exact refCheckTip_calls A _ c t w ha ht
theorem read_ac (t : List Int) (l : List Pt) (h0 : checkBoth t l = 0) : AC Try.prog 59 [.agg [V.ints t], V.pts l] (V.pts (readP t l)) [] := by
  refine ac_of_row (e0 := 29) (n := (readP t l).length) (enters_of Try.func59 (by kernel_rfl) rfl) fun L w vs hL hvs => ?_
  obtain ⟨A, c, B, d, rfl, ha, hb⟩ := open_tl hL hvs
  exact read_calls A _ c t B _ d l w ha hb h0
/-! ### wow -/
def wowI (off r per : Int) : Int × Int :=
  if off < 0 ∨ 4194304 < off ∨ r < 0 ∨ 4194304 < r ∨ per < 1 ∨ 65536 < per then (0, 3)
  else if r = 0 then (0, 9)
  else if 256 < (off * 113 * per + 710 * r - 1).tdiv (710 * r) then (0, 14)
  else ((off * 113 * per + 710 * r - 1).tdiv (710 * r), 0)
theorem wow_bound {off per : Int} (h : 0 ≤ off ∧ off ≤ 4194304) (k : 1 ≤ per ∧ per ≤ 65536) : 0 ≤ off * 113 * per ∧ off * 113 * per ≤ 31061975629824 := by
  have h1 : off * 113 * per ≤ (4194304 * 113) * 65536 := Int.mul_le_mul (by omega) k.2 (by omega) (by omega)
  have h2 : 0 ≤ off * 113 * per := Int.mul_nonneg (by omega) (by omega)
  omega
theorem wow_range {off r per : Int} (h : (decide (off < 0) || decide (4194304 < off) || decide (r < 0) || decide (4194304 < r) || decide (per < 1) || decide (65536 < per)) = true) : wowI off r per = (0, 3) := by
  simp at h
  rw [wowI, if_pos (by omega)]
theorem wow_zero {off r per : Int} (h : (decide (off < 0) || decide (4194304 < off) || decide (r < 0) || decide (4194304 < r) || decide (per < 1) || decide (65536 < per)) = false) (h2 : decide (r = 0) = true) : wowI off r per = (0, 9) := by
  simp at h h2
  rw [wowI, if_neg (by omega), if_pos h2]
theorem wow_limit {off r per : Int} (h : (decide (off < 0) || decide (4194304 < off) || decide (r < 0) || decide (4194304 < r) || decide (per < 1) || decide (65536 < per)) = false) (h2 : decide (r = 0) = false) (h3 : decide (256 < (off * 113 * per + 710 * r - 1).tdiv (710 * r)) = true) : wowI off r per = (0, 14) := by
  simp at h h2 h3
  rw [wowI, if_neg (by omega), if_neg h2, if_pos h3]
theorem wow_good {off r per : Int} (h : (decide (off < 0) || decide (4194304 < off) || decide (r < 0) || decide (4194304 < r) || decide (per < 1) || decide (65536 < per)) = false) (h2 : decide (r = 0) = false) (h3 : decide (256 < (off * 113 * per + 710 * r - 1).tdiv (710 * r)) = false) : wowI off r per = ((off * 113 * per + 710 * r - 1).tdiv (710 * r), 0) := by
  simp at h h2 h3
  rw [wowI, if_neg (by omega), if_neg h2, if_neg (by omega)]
set_option maxRecDepth 100000 in
theorem wow_ac (off r per : Int) : AC Try.prog 49 [.i off, .i r, .i per] (.tup [.i (wowI off r per).1, .i (wowI off r per).2]) [] := by
  refine ac_intro hTT hMX (fn := Try.f49) (N := _) ⟨Try.func49, rfl, Try.ntmps49, by kernel_rfl⟩ (by simp) fun C hC hF => ?_
  refine aw_seq_k fun K hK => ?_
  refine w_region (n' := 2) (by kernel_rfl) (by kernel_rfl) ?_
  refine aops_n hTT (M := []) (n := 2) [pv (6 : Nat) (V.i (0 : Int)), pv (7 : Nat) (V.i (0 : Int))] (by kernel_rfl) (by kernel_rfl) True.intro ?_
  refine aops_nil ?_
  refine xt_n ?_
  refine hK _ ?_
  clear hK K
  refine aw_seq_k fun K hK => ?_
  refine aw_block ?_
  refine aw_seq_k fun K hK => ?_
  refine w_region (n' := 3) (by kernel_rfl) (by kernel_rfl) ?_
  refine aops_n hTT (M := []) (n := 23) [pv (11 : Nat) (V.i off), pv (12 : Nat) (V.b (decide (off < (0 : Int)))), pv (13 : Nat) (V.b (decide (off < (0 : Int)))), pc (14 : Nat) ((True ∧ True) ∧ ((decide (off < (0 : Int)) == false) = true → True)) (V.gd (decide (off < (0 : Int)) == false) (V.i off)), pc (15 : Nat) ((((decide (off < (0 : Int)) == false) = true → (decide (off < (0 : Int)) == false) = true) ∧ True ∧ True) ∧ ((decide (off < (0 : Int)) == false) = true → True)) (V.gd (decide (off < (0 : Int)) == false) (V.b (decide ((4194304 : Int) < off)))), pc (16 : Nat) (True ∧ (decide (off < (0 : Int)) = false → (decide (off < (0 : Int)) == false) = true)) (V.b (decide (off < (0 : Int)) || decide ((4194304 : Int) < off))), pv (17 : Nat) (V.b (decide (off < (0 : Int)) || decide ((4194304 : Int) < off))), pc (18 : Nat) ((True ∧ True) ∧ (((decide (off < (0 : Int)) || decide ((4194304 : Int) < off)) == false) = true → True)) (V.gd ((decide (off < (0 : Int)) || decide ((4194304 : Int) < off)) == false) (V.i r)), pc (19 : Nat) (((((decide (off < (0 : Int)) || decide ((4194304 : Int) < off)) == false) = true → ((decide (off < (0 : Int)) || decide ((4194304 : Int) < off)) == false) = true) ∧ True ∧ True) ∧ (((decide (off < (0 : Int)) || decide ((4194304 : Int) < off)) == false) = true → True)) (V.gd ((decide (off < (0 : Int)) || decide ((4194304 : Int) < off)) == false) (V.b (decide (r < (0 : Int))))), pc (20 : Nat) (True ∧ ((decide (off < (0 : Int)) || decide ((4194304 : Int) < off)) = false → ((decide (off < (0 : Int)) || decide ((4194304 : Int) < off)) == false) = true)) (V.b (decide (off < (0 : Int)) || decide ((4194304 : Int) < off) || decide (r < (0 : Int)))), pv (21 : Nat) (V.b (decide (off < (0 : Int)) || decide ((4194304 : Int) < off) || decide (r < (0 : Int)))), pc (22 : Nat) ((True ∧ True) ∧ (((decide (off < (0 : Int)) || decide ((4194304 : Int) < off) || decide (r < (0 : Int))) == false) = true → True)) (V.gd ((decide (off < (0 : Int)) || decide ((4194304 : Int) < off) || decide (r < (0 : Int))) == false) (V.i r)), pc (23 : Nat) (((((decide (off < (0 : Int)) || decide ((4194304 : Int) < off) || decide (r < (0 : Int))) == false) = true → ((decide (off < (0 : Int)) || decide ((4194304 : Int) < off) || decide (r < (0 : Int))) == false) = true) ∧ True ∧ True) ∧ (((decide (off < (0 : Int)) || decide ((4194304 : Int) < off) || decide (r < (0 : Int))) == false) = true → True)) (V.gd ((decide (off < (0 : Int)) || decide ((4194304 : Int) < off) || decide (r < (0 : Int))) == false) (V.b (decide ((4194304 : Int) < r)))), pc (24 : Nat) (True ∧ ((decide (off < (0 : Int)) || decide ((4194304 : Int) < off) || decide (r < (0 : Int))) = false → ((decide (off < (0 : Int)) || decide ((4194304 : Int) < off) || decide (r < (0 : Int))) == false) = true)) (V.b (decide (off < (0 : Int)) || decide ((4194304 : Int) < off) || decide (r < (0 : Int)) || decide ((4194304 : Int) < r))), pv (25 : Nat) (V.b (decide (off < (0 : Int)) || decide ((4194304 : Int) < off) || decide (r < (0 : Int)) || decide ((4194304 : Int) < r))), pc (26 : Nat) ((True ∧ True) ∧ (((decide (off < (0 : Int)) || decide ((4194304 : Int) < off) || decide (r < (0 : Int)) || decide ((4194304 : Int) < r)) == false) = true → True)) (V.gd ((decide (off < (0 : Int)) || decide ((4194304 : Int) < off) || decide (r < (0 : Int)) || decide ((4194304 : Int) < r)) == false) (V.i per)), pc (27 : Nat) (((((decide (off < (0 : Int)) || decide ((4194304 : Int) < off) || decide (r < (0 : Int)) || decide ((4194304 : Int) < r)) == false) = true → ((decide (off < (0 : Int)) || decide ((4194304 : Int) < off) || decide (r < (0 : Int)) || decide ((4194304 : Int) < r)) == false) = true) ∧ True ∧ True) ∧ (((decide (off < (0 : Int)) || decide ((4194304 : Int) < off) || decide (r < (0 : Int)) || decide ((4194304 : Int) < r)) == false) = true → True)) (V.gd ((decide (off < (0 : Int)) || decide ((4194304 : Int) < off) || decide (r < (0 : Int)) || decide ((4194304 : Int) < r)) == false) (V.b (decide (per < (1 : Int))))), pc (28 : Nat) (True ∧ ((decide (off < (0 : Int)) || decide ((4194304 : Int) < off) || decide (r < (0 : Int)) || decide ((4194304 : Int) < r)) = false → ((decide (off < (0 : Int)) || decide ((4194304 : Int) < off) || decide (r < (0 : Int)) || decide ((4194304 : Int) < r)) == false) = true)) (V.b (decide (off < (0 : Int)) || decide ((4194304 : Int) < off) || decide (r < (0 : Int)) || decide ((4194304 : Int) < r) || decide (per < (1 : Int)))), pv (29 : Nat) (V.b (decide (off < (0 : Int)) || decide ((4194304 : Int) < off) || decide (r < (0 : Int)) || decide ((4194304 : Int) < r) || decide (per < (1 : Int)))), pc (30 : Nat) ((True ∧ True) ∧ (((decide (off < (0 : Int)) || decide ((4194304 : Int) < off) || decide (r < (0 : Int)) || decide ((4194304 : Int) < r) || decide (per < (1 : Int))) == false) = true → True)) (V.gd ((decide (off < (0 : Int)) || decide ((4194304 : Int) < off) || decide (r < (0 : Int)) || decide ((4194304 : Int) < r) || decide (per < (1 : Int))) == false) (V.i per)), pc (31 : Nat) (((((decide (off < (0 : Int)) || decide ((4194304 : Int) < off) || decide (r < (0 : Int)) || decide ((4194304 : Int) < r) || decide (per < (1 : Int))) == false) = true → ((decide (off < (0 : Int)) || decide ((4194304 : Int) < off) || decide (r < (0 : Int)) || decide ((4194304 : Int) < r) || decide (per < (1 : Int))) == false) = true) ∧ True ∧ True) ∧ (((decide (off < (0 : Int)) || decide ((4194304 : Int) < off) || decide (r < (0 : Int)) || decide ((4194304 : Int) < r) || decide (per < (1 : Int))) == false) = true → True)) (V.gd ((decide (off < (0 : Int)) || decide ((4194304 : Int) < off) || decide (r < (0 : Int)) || decide ((4194304 : Int) < r) || decide (per < (1 : Int))) == false) (V.b (decide ((65536 : Int) < per)))), pc (32 : Nat) (True ∧ ((decide (off < (0 : Int)) || decide ((4194304 : Int) < off) || decide (r < (0 : Int)) || decide ((4194304 : Int) < r) || decide (per < (1 : Int))) = false → ((decide (off < (0 : Int)) || decide ((4194304 : Int) < off) || decide (r < (0 : Int)) || decide ((4194304 : Int) < r) || decide (per < (1 : Int))) == false) = true)) (V.b (decide (off < (0 : Int)) || decide ((4194304 : Int) < off) || decide (r < (0 : Int)) || decide ((4194304 : Int) < r) || decide (per < (1 : Int)) || decide ((65536 : Int) < per))), pv (10 : Nat) (V.b (decide (off < (0 : Int)) || decide ((4194304 : Int) < off) || decide (r < (0 : Int)) || decide ((4194304 : Int) < r) || decide (per < (1 : Int)) || decide ((65536 : Int) < per)))] (by kernel_rfl) (by kernel_rfl) ⟨⟨⟨True.intro, True.intro⟩, (fun _ => True.intro)⟩, ⟨⟨(by (exact fun h => h)), ⟨True.intro, True.intro⟩⟩, (fun _ => True.intro)⟩, ⟨True.intro, (by (intro h; rw [h]; rfl))⟩, ⟨⟨True.intro, True.intro⟩, (fun _ => True.intro)⟩, ⟨⟨(by (exact fun h => h)), ⟨True.intro, True.intro⟩⟩, (fun _ => True.intro)⟩, ⟨True.intro, (by (intro h; rw [h]; rfl))⟩, ⟨⟨True.intro, True.intro⟩, (fun _ => True.intro)⟩, ⟨⟨(by (exact fun h => h)), ⟨True.intro, True.intro⟩⟩, (fun _ => True.intro)⟩, ⟨True.intro, (by (intro h; rw [h]; rfl))⟩, ⟨⟨True.intro, True.intro⟩, (fun _ => True.intro)⟩, ⟨⟨(by (exact fun h => h)), ⟨True.intro, True.intro⟩⟩, (fun _ => True.intro)⟩, ⟨True.intro, (by (intro h; rw [h]; rfl))⟩, ⟨⟨True.intro, True.intro⟩, (fun _ => True.intro)⟩, ⟨⟨(by (exact fun h => h)), ⟨True.intro, True.intro⟩⟩, (fun _ => True.intro)⟩, ⟨True.intro, (by (intro h; rw [h]; rfl))⟩, True.intro⟩ ?_
  refine aops_nil ?_
  refine xt_n ?_
  refine hK _ ?_
  clear hK K
  refine w_cond (t := decide (off < (0 : Int)) || decide ((4194304 : Int) < off) || decide (r < (0 : Int)) || decide ((4194304 : Int) < r) || decide (per < (1 : Int)) || decide ((65536 : Int) < per)) (by kernel_rfl) (fun h => ?_) (fun h => ?_)
  · rw [wow_range h]
    refine aw_seq_k fun K hK => ?_
    refine w_region (n' := 4) (by kernel_rfl) (by kernel_rfl) ?_
    refine aops_n hTT (M := []) (n := 2) [pv (6 : Nat) (V.i (0 : Int)), pv (7 : Nat) (V.i (3 : Int))] (by kernel_rfl) (by kernel_rfl) True.intro ?_
    refine aops_nil ?_
    refine xt_n ?_
    refine hK _ ?_
    clear hK K
    refine aw_ret ?_
    refine xb_r ?_
    refine xt_r ?_
    refine ret_pure (v' := V.tup [V.i (0 : Int), V.i (3 : Int)]) (.inr rfl) (by kernel_rfl) (by kernel_rfl) (by kernel_rfl)
  refine aw_seq_k fun K hK => ?_
  refine w_region (n' := 4) (by kernel_rfl) (by kernel_rfl) ?_
  refine aops_n hTT (M := []) (n := 3) [pv (34 : Nat) (V.i r), pv (35 : Nat) (V.b (decide (r = (0 : Int)))), pv (33 : Nat) (V.b (decide (r = (0 : Int))))] (by kernel_rfl) (by kernel_rfl) True.intro ?_
  refine aops_nil ?_
  refine xt_n ?_
  refine hK _ ?_
  clear hK K
  refine w_cond (t := decide (r = (0 : Int))) (by kernel_rfl) (fun h2 => ?_) (fun h2 => ?_)
  · rw [wow_zero h h2]
    refine aw_seq_k fun K hK => ?_
    refine w_region (n' := 5) (by kernel_rfl) (by kernel_rfl) ?_
    refine aops_n hTT (M := []) (n := 2) [pv (6 : Nat) (V.i (0 : Int)), pv (7 : Nat) (V.i (9 : Int))] (by kernel_rfl) (by kernel_rfl) True.intro ?_
    refine aops_nil ?_
    refine xt_n ?_
    refine hK _ ?_
    clear hK K
    refine aw_ret ?_
    refine xb_r ?_
    refine xt_r ?_
    refine ret_pure (v' := V.tup [V.i (0 : Int), V.i (9 : Int)]) (.inr rfl) (by kernel_rfl) (by kernel_rfl) (by kernel_rfl)
  have g := h
  have g2 := h2
  simp at g g2
  have b := wow_bound (off := off) (per := per) (by omega) (by omega)
  refine aw_skip ?_
  refine xb_n ?_
  refine xt_n ?_
  refine hK _ ?_
  clear hK K
  refine aw_seq_k fun K hK => ?_
  refine w_region (n' := 5) (by kernel_rfl) (by kernel_rfl) ?_
  refine aops_n hTT (M := []) (n := 3) [pv (36 : Nat) (V.i r), pc (37 : Nat) ((-9223372036854775808 : Int) ≤ (710 : Int) * r ∧ (710 : Int) * r ≤ (9223372036854775807 : Int)) (V.i ((710 : Int) * r)), pv (8 : Nat) (V.i ((710 : Int) * r))] (by kernel_rfl) (by kernel_rfl) ⟨(by omega), True.intro⟩ ?_
  refine aops_nil ?_
  refine xt_n ?_
  refine hK _ ?_
  clear hK K
  refine aw_seq_k fun K hK => ?_
  refine w_region (n' := 6) (by kernel_rfl) (by kernel_rfl) ?_
  refine aops_n hTT (M := []) (n := 10) [pv (38 : Nat) (V.i off), pc (39 : Nat) ((-9223372036854775808 : Int) ≤ off * (113 : Int) ∧ off * (113 : Int) ≤ (9223372036854775807 : Int)) (V.i (off * (113 : Int))), pv (40 : Nat) (V.i per), pc (41 : Nat) ((-9223372036854775808 : Int) ≤ off * (113 : Int) * per ∧ off * (113 : Int) * per ≤ (9223372036854775807 : Int)) (V.i (off * (113 : Int) * per)), pv (42 : Nat) (V.i ((710 : Int) * r)), pc (43 : Nat) ((-9223372036854775808 : Int) ≤ off * (113 : Int) * per + (710 : Int) * r ∧ off * (113 : Int) * per + (710 : Int) * r ≤ (9223372036854775807 : Int)) (V.i (off * (113 : Int) * per + (710 : Int) * r)), pc (44 : Nat) ((-9223372036854775808 : Int) ≤ off * (113 : Int) * per + (710 : Int) * r - (1 : Int) ∧ off * (113 : Int) * per + (710 : Int) * r - (1 : Int) ≤ (9223372036854775807 : Int)) (V.i (off * (113 : Int) * per + (710 : Int) * r - (1 : Int))), pv (45 : Nat) (V.i ((710 : Int) * r)), pc (46 : Nat) ((0 : Int) < (710 : Int) * r ∧ (-9223372036854775808 : Int) ≤ off * (113 : Int) * per + (710 : Int) * r - (1 : Int) ∧ off * (113 : Int) * per + (710 : Int) * r - (1 : Int) ≤ (9223372036854775807 : Int)) (V.i (Int.tdiv (off * (113 : Int) * per + (710 : Int) * r - (1 : Int)) ((710 : Int) * r))), pv (9 : Nat) (V.i (Int.tdiv (off * (113 : Int) * per + (710 : Int) * r - (1 : Int)) ((710 : Int) * r)))] (by kernel_rfl) (by kernel_rfl) ⟨(by omega), (by omega), (by omega), (by omega), ⟨(by omega), (by omega)⟩, True.intro⟩ ?_
  refine aops_nil ?_
  refine xt_n ?_
  refine hK _ ?_
  clear hK K
  refine aw_seq_k fun K hK => ?_
  refine aw_seq_k fun K hK => ?_
  refine w_region (n' := 7) (by kernel_rfl) (by kernel_rfl) ?_
  refine aops_n hTT (M := []) (n := 2) [pv (47 : Nat) (V.i (Int.tdiv (off * (113 : Int) * per + (710 : Int) * r - (1 : Int)) ((710 : Int) * r))), pv (48 : Nat) (V.b (decide ((256 : Int) < Int.tdiv (off * (113 : Int) * per + (710 : Int) * r - (1 : Int)) ((710 : Int) * r))))] (by kernel_rfl) (by kernel_rfl) True.intro ?_
  refine aops_nil ?_
  refine xt_n ?_
  refine hK _ ?_
  clear hK K
  refine w_cond (t := decide ((256 : Int) < Int.tdiv (off * (113 : Int) * per + (710 : Int) * r - (1 : Int)) ((710 : Int) * r))) (by kernel_rfl) (fun h3 => ?_) (fun h3 => ?_)
  · rw [wow_limit h h2 h3]
    refine aw_seq_k fun K hK => ?_
    refine w_region (n' := 8) (by kernel_rfl) (by kernel_rfl) ?_
    refine aops_n hTT (M := []) (n := 2) [pv (6 : Nat) (V.i (0 : Int)), pv (7 : Nat) (V.i (14 : Int))] (by kernel_rfl) (by kernel_rfl) True.intro ?_
    refine aops_nil ?_
    refine xt_n ?_
    refine hK _ ?_
    clear hK K
    refine aw_ret ?_
    refine xt_r ?_
    refine ret_pure (v' := V.tup [V.i (0 : Int), V.i (14 : Int)]) (.inr rfl) (by kernel_rfl) (by kernel_rfl) (by kernel_rfl)
  refine aw_skip ?_
  refine xt_n ?_
  refine hK _ ?_
  clear hK K
  refine aw_seq_k fun K hK => ?_
  refine w_region (n' := 8) (by kernel_rfl) (by kernel_rfl) ?_
  refine aops_n hTT (M := []) (n := 3) [pv (49 : Nat) (V.i (Int.tdiv (off * (113 : Int) * per + (710 : Int) * r - (1 : Int)) ((710 : Int) * r))), pv (6 : Nat) (V.i (Int.tdiv (off * (113 : Int) * per + (710 : Int) * r - (1 : Int)) ((710 : Int) * r))), pv (7 : Nat) (V.i (0 : Int))] (by kernel_rfl) (by kernel_rfl) True.intro ?_
  refine aops_nil ?_
  refine xt_n ?_
  refine hK _ ?_
  clear hK K
  refine aw_ret ?_
  rw [wow_good h h2 h3]
  refine ret_pure (v' := V.tup [V.i (Int.tdiv (off * (113 : Int) * per + (710 : Int) * r - (1 : Int)) ((710 : Int) * r)), V.i (0 : Int)]) (.inr rfl) (by kernel_rfl) (by kernel_rfl) (by kernel_rfl)
/-! ### blunter -/
def bluntB (a b : List Int) : Bool := decide (b.length ≤ a.length) && (List.range b.length).all fun k => decide (gi a k ≤ gi b k)
theorem blunt_short {a b : List Int} (h : a.length < b.length) : bluntB a b = false := by simp [bluntB]; omega
theorem blunt_bad {a b : List Int} {k : Nat} (hk : k < b.length) (h : gi b k < gi a k) : bluntB a b = false := by
  simp only [bluntB, Bool.and_eq_false_iff]
  right
  rw [List.all_eq_false]
  exact ⟨k, by simpa using hk, by simp; omega⟩
theorem blunt_good {a b : List Int} (h : b.length ≤ a.length) (hk : ∀ k, k < b.length → gi a k ≤ gi b k) : bluntB a b = true := by
  simp [bluntB, h]
  exact hk
set_option maxRecDepth 100000 in
theorem blunter_ac (a b : List Int) (ha : a.length ≤ 64) (hb : b.length ≤ 64) : AC Try.prog 76 [.agg [V.ints a], .agg [V.ints b]] (.b (bluntB a b)) [] := by
  refine ac_intro hTT hMX (fn := Try.f76) (N := _) ⟨Try.func76, rfl, Try.ntmps76, by kernel_rfl⟩ (by simp) fun C hC hF => ?_
  refine aw_seq_k fun K hK => ?_
  refine w_region (n' := 2) (by kernel_rfl) (by kernel_rfl) ?_
  refine aops_n hTT (M := []) (n := 3) [pv (2 : Nat) (V.ptr [V.sl (1 : Nat) (List.length a) fun (k : Nat) => [V.i (gi a k)]]), pv (3 : Nat) (V.ptr [V.sl (1 : Nat) (List.length b) fun (k : Nat) => [V.i (gi b k)]]), pv (4 : Nat) (V.b false)] (by kernel_rfl) (by kernel_rfl) True.intro ?_
  refine aops_nil ?_
  refine xt_n ?_
  refine hK _ ?_
  clear hK K
  refine aw_seq_k fun K hK => ?_
  refine aw_seq_k fun K hK => ?_
  refine w_region (n' := 3) (by kernel_rfl) (by kernel_rfl) ?_
  refine aops_n hTT (M := []) (n := 7) [pv (7 : Nat) (V.ptr [V.sl (1 : Nat) (List.length a) fun (k : Nat) => [V.i (gi a k)]]), pv (8 : Nat) (V.sl (1 : Nat) (List.length a) fun (k : Nat) => [V.i (gi a k)]), pv (9 : Nat) (V.i (↑(List.length a) : Int)), pv (10 : Nat) (V.ptr [V.sl (1 : Nat) (List.length b) fun (k : Nat) => [V.i (gi b k)]]), pv (11 : Nat) (V.sl (1 : Nat) (List.length b) fun (k : Nat) => [V.i (gi b k)]), pv (12 : Nat) (V.i (↑(List.length b) : Int)), pv (13 : Nat) (V.b (decide ((↑(List.length a) : Int) < (↑(List.length b) : Int))))] (by kernel_rfl) (by kernel_rfl) True.intro ?_
  refine aops_nil ?_
  refine xt_n ?_
  refine hK _ ?_
  clear hK K
  refine w_cond (t := decide ((↑(List.length a) : Int) < (↑(List.length b) : Int))) (by kernel_rfl) (fun h => ?_) (fun h => ?_)
  · rw [blunt_short (by simpa using h)]
    refine aw_seq_k fun K hK => ?_
    refine w_region (n' := 4) (by kernel_rfl) (by kernel_rfl) ?_
    refine aops_n hTT (M := []) (n := 1) [pv (4 : Nat) (V.b false)] (by kernel_rfl) (by kernel_rfl) True.intro ?_
    refine aops_nil ?_
    refine xt_n ?_
    refine hK _ ?_
    clear hK K
    refine aw_ret ?_
    refine xt_r ?_
    refine ret_pure (v' := V.b false) (.inr rfl) (by kernel_rfl) (by kernel_rfl) (by kernel_rfl)
  simp at h
  refine aw_skip ?_
  refine xt_n ?_
  refine hK _ ?_
  clear hK K
  refine aw_seq_k fun K hK => ?_
  refine aw_seq_k fun K hK => ?_
  refine w_region (n' := 4) (by kernel_rfl) (by kernel_rfl) ?_
  refine aops_n hTT (M := []) (n := 4) [pv (14 : Nat) (V.ptr [V.sl (1 : Nat) (List.length b) fun (k : Nat) => [V.i (gi b k)]]), pv (15 : Nat) (V.sl (1 : Nat) (List.length b) fun (k : Nat) => [V.i (gi b k)]), pv (16 : Nat) (V.i (↑(List.length b) : Int)), pv (17 : Nat) (V.i (0 : Int))] (by kernel_rfl) (by kernel_rfl) True.intro ?_
  refine aops_nil ?_
  refine xt_n ?_
  refine hK _ ?_
  clear hK K
  refine aw_block ?_
  refine w_loop (fun k : Nat => [(2, .ptr [V.ints a]), (15, V.ints b), (16, .i b.length), (17, .i k)]) (fun _ => []) (fun k => k ≤ b.length ∧ ∀ j, j < k → gi a j ≤ gi b j) (fun k => b.length - k) 0 ⟨Nat.zero_le _, fun j hj => by omega⟩ ?_ ?_
  · refine le_ren [] (.cons (by kernel_rfl) (.cons (by kernel_rfl) (.cons (by kernel_rfl) (.cons (by kernel_rfl) .nil)))) .nil (by kernel_rfl) (by kernel_rfl)
  rintro k ⟨hk, hg⟩
  refine aw_seq_k fun K hK => ?_
  refine w_region (n' := 2) (by kernel_rfl) (by kernel_rfl) ?_
  refine aops_n hTT (M := []) (n := 1) [pv (18 : Nat) (V.b (decide ((↑k : Int) < (↑(List.length b) : Int))))] (by kernel_rfl) (by kernel_rfl) True.intro ?_
  refine aops_nil ?_
  refine xt_n ?_
  refine hK _ ?_
  clear hK K
  refine aw_seq_k fun K hK => ?_
  refine w_cond (t := decide ((↑k : Int) < (↑(List.length b) : Int))) (by kernel_rfl) (fun hl => ?_) (fun hl => ?_)
  · simp at hl
    refine aw_skip ?_
    refine xt_n ?_
    refine hK _ ?_
    clear hK K
    refine aw_seq_k fun K hK => ?_
    refine aw_block ?_
    refine aw_seq_k fun K hK => ?_
    refine w_region (n' := 3) (by kernel_rfl) (by kernel_rfl) ?_
    refine aops_n hTT (M := []) (n := 5) [pv (19 : Nat) (V.i (↑k : Int)), pc (20 : Nat) ((0 : Int) ≤ (↑k : Int) ∧ (↑k : Int) < (↑(List.length b) : Int)) (V.ptr [V.i (gi b k)]), pv (21 : Nat) (V.i (gi b k)), pv (5 : Nat) (V.i (↑k : Int)), pv (6 : Nat) (V.i (gi b k))] (by kernel_rfl) (by kernel_rfl) ⟨(by omega), True.intro⟩ ?_
    refine aops_nil ?_
    refine xt_n ?_
    refine hK _ ?_
    clear hK K
    refine aw_seq_k fun K hK => ?_
    refine w_region (n' := 4) (by kernel_rfl) (by kernel_rfl) ?_
    refine aops_n hTT (M := []) (n := 7) [pv (22 : Nat) (V.i (gi b k)), pv (23 : Nat) (V.ptr [V.sl (1 : Nat) (List.length a) fun (k : Nat) => [V.i (gi a k)]]), pv (24 : Nat) (V.sl (1 : Nat) (List.length a) fun (k : Nat) => [V.i (gi a k)]), pv (25 : Nat) (V.i (↑k : Int)), pc (26 : Nat) ((0 : Int) ≤ (↑k : Int) ∧ (↑k : Int) < (↑(List.length a) : Int)) (V.ptr [V.i (gi a k)]), pv (27 : Nat) (V.i (gi a k)), pv (28 : Nat) (V.b (decide (gi b k < gi a k)))] (by kernel_rfl) (by kernel_rfl) ⟨(by omega), True.intro⟩ ?_
    refine aops_nil ?_
    refine xt_n ?_
    refine hK _ ?_
    clear hK K
    refine w_cond (t := decide (gi b k < gi a k)) (by kernel_rfl) (fun hc => ?_) (fun hc => ?_)
    · simp at hc
      refine aw_seq_k fun K hK => ?_
      refine w_region (n' := 5) (by kernel_rfl) (by kernel_rfl) ?_
      refine aops_n hTT (M := []) (n := 1) [pv (4 : Nat) (V.b false)] (by kernel_rfl) (by kernel_rfl) True.intro ?_
      refine aops_nil ?_
      refine xt_n ?_
      refine hK _ ?_
      clear hK K
      refine aw_ret ?_
      refine xb_r ?_
      refine xt_r ?_
      refine xt_r ?_
      refine xb_r ?_
      refine xt_r ?_
      rw [blunt_bad hl hc]
      refine ret_pure (v' := V.b false) (.inr rfl) (by kernel_rfl) (by kernel_rfl) (by kernel_rfl)
    simp at hc
    refine aw_skip ?_
    refine xb_n ?_
    refine xt_n ?_
    refine hK _ ?_
    clear hK K
    refine w_region (n' := 5) (by kernel_rfl) (by kernel_rfl) ?_
    refine aops_n hTT (M := []) (n := 2) [pc (29 : Nat) ((-9223372036854775808 : Int) ≤ (↑k : Int) + (1 : Int) ∧ (↑k : Int) + (1 : Int) ≤ (9223372036854775807 : Int)) (V.i ((↑k : Int) + (1 : Int))), pv (17 : Nat) (V.i ((↑k : Int) + (1 : Int)))] (by kernel_rfl) (by kernel_rfl) ⟨(by omega), True.intro⟩ ?_
    refine aops_nil ?_
    refine xt_n ?_
    refine ⟨k + 1, ⟨by omega, fun j hj => ?_⟩, ?_, by omega⟩
    · by_cases he : j = k
      · subst he; exact hc
      · exact hg j (by omega)
    · refine le_ren [] (.cons (by kernel_rfl) (.cons (by kernel_rfl) (.cons (by kernel_rfl) (.cons (by kernel_rfl) .nil)))) .nil (by kernel_rfl) (by kernel_rfl)
  simp at hl
  refine aw_exit ?_
  refine xt_x ?_
  refine xt_x ?_
  refine xb_same ?_
  refine xt_n ?_
  clear hK K
  refine hK _ ?_
  clear hK K
  refine aw_seq_k fun K hK => ?_
  refine w_region (n' := 3) (by kernel_rfl) (by kernel_rfl) ?_
  refine aops_n hTT (M := []) (n := 1) [pv (4 : Nat) (V.b true)] (by kernel_rfl) (by kernel_rfl) True.intro ?_
  refine aops_nil ?_
  refine xt_n ?_
  refine hK _ ?_
  clear hK K
  refine aw_ret ?_
  rw [blunt_good h fun k hk => hg k (by omega)]
  refine ret_pure (v' := V.b true) (.inr rfl) (by kernel_rfl) (by kernel_rfl) (by kernel_rfl)
end Go.Proofs.Ytlfaaddoemcokaa
