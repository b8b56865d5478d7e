/-
  GrooveMilder: the walk of the law. No condition.
-/
import Derived.Test.YtjjlgegccfolpaaGPl3
import Derived.Test.YtjjlgegccfolpaaMC
namespace Go.Proofs.Ytjjlgegccfolpaa
open Go.Ab Go.RowKit Go.Dw Go.Shelf

theorem mFst_le {c d : Cut} {l m : List Pt} {per p' F G : Int} (hF : IsFst (fitB c l per) 4194305 F) (hG : IsFst (fitB d m p') 4194305 G) (h : ∀ r, 0 ≤ r → fitB c l per r = true → fitB d m p' r = true) : G ≤ F := by
  refine Int.not_lt.1 fun hl => ?_
  have a := hF.hi F (Int.le_refl _) (by have := hG.b; omega)
  have b := hG.lo F hF.b.1 hl
  rw [h F hF.b.1 a] at b; cases b
set_option maxHeartbeats 2000000 in
set_option maxRecDepth 100000 in
theorem milder_law (c : Cut) (l : List Pt) (per b0 b1 b2 b3 b4 fw : Int) (hl : l.length ≤ 4611686018427387904) (h0 : 0 ≤ b0 ∧ b0 ≤ 65535) (h1 : 0 ≤ b1 ∧ b1 ≤ 65535) (h2 : 0 ≤ b2 ∧ b2 ≤ 65535) (h3 : 0 ≤ b3 ∧ b3 ≤ 65535) (h4 : 0 ≤ b4 ∧ b4 ≤ 65535) (hf : 0 ≤ fw ∧ fw ≤ 65535) :
    AC Try.prog 6 [c.v, V.pts l, .i per, .agg [.c (.int .u16 b0), .c (.int .u16 b1), .c (.int .u16 b2), .c (.int .u16 b3), .c (.int .u16 b4)], .c (.int .u16 fw)] (.b true) [] := by
  refine ac_intro hTT hMX (fn := Try.f6) (N := _) ⟨Try.func6, rfl, Try.ntmps6, by kernel_rfl⟩ (by simp) fun C hC hF => ?_
  refine aw_seq_k fun K hK => ?_
  refine w_region (n' := 2) (by kernel_rfl) (by kernel_rfl) ?_
  refine aops_n hTT (M := []) (n := 3) [pv (5 : Nat) (V.ptr [V.i (Cut.half c), V.i (Cut.gain c), V.i (Cut.thin c), V.i (Cut.wide c), V.i (Cut.slope c), V.i (Cut.jerk c), V.i (Cut.sty c)]), pv (8 : Nat) (V.ptr [V.c (Value.int IntKind.u16 b0), V.c (Value.int IntKind.u16 b1), V.c (Value.int IntKind.u16 b2), V.c (Value.int IntKind.u16 b3), V.c (Value.int IntKind.u16 b4)]), pv (10 : Nat) (V.b false)] (by kernel_rfl) (by kernel_rfl) True.intro ?_
  refine aops_nil ?_
  refine xt_n ?_
  refine hK _ ?_
  clear hK K
  refine aw_seq_k fun K hK => ?_
  refine aw_seq_k fun K hK => ?_
  refine w_region (n' := 3) (by kernel_rfl) (by kernel_rfl) ?_
  refine aops_n hTT (M := []) (n := 13) [pv (16 : Nat) (V.sl (2 : Nat) (List.length l) fun (k : Nat) => [V.i (Prod.fst (gp l k)), V.i (Prod.snd (gp l k))]), pv (17 : Nat) (V.i (↑(List.length l) : Int)), pv (18 : Nat) (V.b (decide ((60 : Int) < (↑(List.length l) : Int)))), pv (19 : Nat) (V.b (decide ((60 : Int) < (↑(List.length l) : Int)))), pc (20 : Nat) ((True ∧ True) ∧ ((decide ((60 : Int) < (↑(List.length l) : Int)) == false) = true → True)) (V.gd (decide ((60 : Int) < (↑(List.length l) : Int)) == false) (V.i per)), pc (21 : Nat) ((((decide ((60 : Int) < (↑(List.length l) : Int)) == false) = true → (decide ((60 : Int) < (↑(List.length l) : Int)) == false) = true) ∧ True ∧ True) ∧ ((decide ((60 : Int) < (↑(List.length l) : Int)) == false) = true → True)) (V.gd (decide ((60 : Int) < (↑(List.length l) : Int)) == false) (V.b (decide (per < (1 : Int))))), pc (22 : Nat) (True ∧ (decide ((60 : Int) < (↑(List.length l) : Int)) = false → (decide ((60 : Int) < (↑(List.length l) : Int)) == false) = true)) (V.b (decide ((60 : Int) < (↑(List.length l) : Int)) || decide (per < (1 : Int)))), pv (23 : Nat) (V.b (decide ((60 : Int) < (↑(List.length l) : Int)) || decide (per < (1 : Int)))), pc (24 : Nat) ((True ∧ True) ∧ (((decide ((60 : Int) < (↑(List.length l) : Int)) || decide (per < (1 : Int))) == false) = true → True)) (V.gd ((decide ((60 : Int) < (↑(List.length l) : Int)) || decide (per < (1 : Int))) == false) (V.i per)), pc (25 : Nat) (((((decide ((60 : Int) < (↑(List.length l) : Int)) || decide (per < (1 : Int))) == false) = true → ((decide ((60 : Int) < (↑(List.length l) : Int)) || decide (per < (1 : Int))) == false) = true) ∧ True ∧ True) ∧ (((decide ((60 : Int) < (↑(List.length l) : Int)) || decide (per < (1 : Int))) == false) = true → True)) (V.gd ((decide ((60 : Int) < (↑(List.length l) : Int)) || decide (per < (1 : Int))) == false) (V.b (decide ((65536 : Int) < per)))), pc (26 : Nat) (True ∧ ((decide ((60 : Int) < (↑(List.length l) : Int)) || decide (per < (1 : Int))) = false → ((decide ((60 : Int) < (↑(List.length l) : Int)) || decide (per < (1 : Int))) == false) = true)) (V.b (decide ((60 : Int) < (↑(List.length l) : Int)) || decide (per < (1 : Int)) || decide ((65536 : Int) < per))), pv (27 : Nat) (V.b (decide ((60 : Int) < (↑(List.length l) : Int)) || decide (per < (1 : Int)) || decide ((65536 : Int) < per))), pc (28 : Nat) ((True ∧ True) ∧ (((decide ((60 : Int) < (↑(List.length l) : Int)) || decide (per < (1 : Int)) || decide ((65536 : Int) < per)) == false) = true → True)) (V.gd ((decide ((60 : Int) < (↑(List.length l) : Int)) || decide (per < (1 : Int)) || decide ((65536 : Int) < per)) == false) (V.agg [V.i (Cut.half c), V.i (Cut.gain c), V.i (Cut.thin c), V.i (Cut.wide c), V.i (Cut.slope c), V.i (Cut.jerk c), V.i (Cut.sty c)]))] (by kernel_rfl) (by kernel_rfl) ⟨⟨⟨True.intro, True.intro⟩, (fun _ => True.intro)⟩, ⟨⟨(by (exact fun h => h)), ⟨True.intro, True.intro⟩⟩, (fun _ => True.intro)⟩, ⟨True.intro, (by (intro h; rw [h]; rfl))⟩, ⟨⟨True.intro, True.intro⟩, (fun _ => True.intro)⟩, ⟨⟨(by (exact fun h => h)), ⟨True.intro, True.intro⟩⟩, (fun _ => True.intro)⟩, ⟨True.intro, (by (intro h; rw [h]; rfl))⟩, ⟨⟨True.intro, True.intro⟩, (fun _ => True.intro)⟩, True.intro⟩ ?_
  refine e_callG 1 (g := (decide ((60 : Int) < (↑(List.length l) : Int)) || decide (per < (1 : Int)) || decide ((65536 : Int) < per)) == false) (first := []) (caps := []) (by kernel_rfl) (fun h => refCheck_ac c) (by kernel_rfl) (by kernel_rfl) (by kernel_rfl) (by kernel_rfl) (by kernel_rfl) (by kernel_rfl) ?_
  refine aops_n hTT (M := []) (n := 4) [pc (30 : Nat) (((((decide ((60 : Int) < (↑(List.length l) : Int)) || decide (per < (1 : Int)) || decide ((65536 : Int) < per)) == false) = true → ((decide ((60 : Int) < (↑(List.length l) : Int)) || decide (per < (1 : Int)) || decide ((65536 : Int) < per)) == false) = true) ∧ True ∧ True) ∧ (((decide ((60 : Int) < (↑(List.length l) : Int)) || decide (per < (1 : Int)) || decide ((65536 : Int) < per)) == false) = true → True)) (V.gd ((decide ((60 : Int) < (↑(List.length l) : Int)) || decide (per < (1 : Int)) || decide ((65536 : Int) < per)) == false) (V.b !decide (cutE c = (0 : Int)))), pc (31 : Nat) (True ∧ ((decide ((60 : Int) < (↑(List.length l) : Int)) || decide (per < (1 : Int)) || decide ((65536 : Int) < per)) = false → ((decide ((60 : Int) < (↑(List.length l) : Int)) || decide (per < (1 : Int)) || decide ((65536 : Int) < per)) == false) = true)) (V.b (decide ((60 : Int) < (↑(List.length l) : Int)) || decide (per < (1 : Int)) || decide ((65536 : Int) < per) || !decide (cutE c = (0 : Int)))), pv (32 : Nat) (V.b (decide ((60 : Int) < (↑(List.length l) : Int)) || decide (per < (1 : Int)) || decide ((65536 : Int) < per) || !decide (cutE c = (0 : Int)))), pc (33 : Nat) ((True ∧ True) ∧ (((decide ((60 : Int) < (↑(List.length l) : Int)) || decide (per < (1 : Int)) || decide ((65536 : Int) < per) || !decide (cutE c = (0 : Int))) == false) = true → True)) (V.gd ((decide ((60 : Int) < (↑(List.length l) : Int)) || decide (per < (1 : Int)) || decide ((65536 : Int) < per) || !decide (cutE c = (0 : Int))) == false) (V.sl (2 : Nat) (List.length l) fun (k : Nat) => [V.i (Prod.fst (gp l k)), V.i (Prod.snd (gp l k))]))] (by kernel_rfl) (by kernel_rfl) ⟨⟨⟨(by (exact fun h => h)), ⟨True.intro, True.intro⟩⟩, (fun _ => True.intro)⟩, ⟨True.intro, (by (intro h; rw [h]; rfl))⟩, ⟨⟨True.intro, True.intro⟩, (fun _ => True.intro)⟩, True.intro⟩ ?_
  refine e_callG 1 (g := (decide ((60 : Int) < (↑(List.length l) : Int)) || decide (per < (1 : Int)) || decide ((65536 : Int) < per) || !decide (cutE c = (0 : Int))) == false) (first := []) (caps := []) (by kernel_rfl) (fun h => refCheckPoints_ac l hl) (by kernel_rfl) (by kernel_rfl) (by kernel_rfl) (by kernel_rfl) (by kernel_rfl) (by kernel_rfl) ?_
  refine aops_n hTT (M := []) (n := 2) [pc (35 : Nat) (((((decide ((60 : Int) < (↑(List.length l) : Int)) || decide (per < (1 : Int)) || decide ((65536 : Int) < per) || !decide (cutE c = (0 : Int))) == false) = true → ((decide ((60 : Int) < (↑(List.length l) : Int)) || decide (per < (1 : Int)) || decide ((65536 : Int) < per) || !decide (cutE c = (0 : Int))) == false) = true) ∧ True ∧ True) ∧ (((decide ((60 : Int) < (↑(List.length l) : Int)) || decide (per < (1 : Int)) || decide ((65536 : Int) < per) || !decide (cutE c = (0 : Int))) == false) = true → True)) (V.gd ((decide ((60 : Int) < (↑(List.length l) : Int)) || decide (per < (1 : Int)) || decide ((65536 : Int) < per) || !decide (cutE c = (0 : Int))) == false) (V.b !decide (gChk l = (0 : Int)))), pc (36 : Nat) (True ∧ ((decide ((60 : Int) < (↑(List.length l) : Int)) || decide (per < (1 : Int)) || decide ((65536 : Int) < per) || !decide (cutE c = (0 : Int))) = false → ((decide ((60 : Int) < (↑(List.length l) : Int)) || decide (per < (1 : Int)) || decide ((65536 : Int) < per) || !decide (cutE c = (0 : Int))) == false) = true)) (V.b (decide ((60 : Int) < (↑(List.length l) : Int)) || decide (per < (1 : Int)) || decide ((65536 : Int) < per) || !decide (cutE c = (0 : Int)) || !decide (gChk l = (0 : Int))))] (by kernel_rfl) (by kernel_rfl) ⟨⟨⟨(by (exact fun h => h)), ⟨True.intro, True.intro⟩⟩, (fun _ => True.intro)⟩, ⟨True.intro, (by (intro h; rw [h]; rfl))⟩, True.intro⟩ ?_
  refine aops_nil ?_
  refine xt_n ?_
  refine hK _ ?_
  clear hK K
  refine w_cond (t := decide ((60 : Int) < (↑(List.length l) : Int)) || decide (per < (1 : Int)) || decide ((65536 : Int) < per) || !decide (cutE c = (0 : Int)) || !decide (gChk l = (0 : Int))) (by kernel_rfl) (fun c1 => ?_) (fun c1 => ?_)
  · refine aw_seq_k fun K hK => ?_
    refine w_region (n' := 4) (by kernel_rfl) (by kernel_rfl) ?_
    refine e_call (first := []) (caps := []) (gWorks_ac) (by kernel_rfl) (by kernel_rfl) (by kernel_rfl) (by kernel_rfl) (by kernel_rfl) ?_
    refine aops_n hTT (M := []) (n := 1) [pv (10 : Nat) (V.b true)] (by kernel_rfl) (by kernel_rfl) True.intro ?_
    refine aops_nil ?_
    refine xt_n ?_
    refine hK _ ?_
    clear hK K
    refine aw_ret ?_
    refine xt_r ?_
    refine ret_pure (v' := V.b true) (.inr rfl) (by kernel_rfl) (by kernel_rfl) (by kernel_rfl)
  have c1 : l.length ≤ 60 ∧ (1 ≤ per ∧ per ≤ 65536) ∧ cutE c = 0 ∧ gChk l = 0 := by simp at c1; omega
  obtain ⟨l60, hp, hc, hk⟩ := c1
  obtain ⟨q1, q2, q3, q4, q5, q6, q7⟩ := cutE_ok.1 hc
  obtain ⟨m, hm⟩ : ∃ m : Cut, m = ⟨c.half, c.gain, max 0 (c.thin - b0), min 1048576 (c.wide + b1), min 10000 (c.slope + b2), min 1048576 (c.jerk + b3), max 0 (c.sty - b4)⟩ := ⟨_, rfl⟩
  have hcm : cutE m = 0 := by
    rw [cutE_ok, hm]
    simp only
    omega
  obtain ⟨F, hF1⟩ := fstOk_ex c l per
  obtain ⟨G, hG1⟩ := fstOk_ex m l (max 1 (per - fw))
  have hFi : IsFst (fitB c l per) 4194305 F := hF1 (by rw [gErr_2 hc]; exact hk) (turnE_ok.2 hp)
  have hGi : IsFst (fitB m l (max 1 (per - fw))) 4194305 G := hG1 (by rw [gErr_2 hcm]; exact hk) (turnE_ok.2 (by omega))
  have hGF : G ≤ F := mFst_le hFi hGi fun r hr h => (fit_ok hcm hr (by omega)).2 (((fit_ok hc hr hp.1).1 h).milder hr (by omega) (by rw [hm]; simp only; omega) (by rw [hm]; simp only; omega) (by rw [hm]; simp only; omega) (by rw [hm]; simp only; omega) (by rw [hm]; simp only; omega))
  have A1 := Least_ac c l per F hl hF1
  have A2 := Least_ac m l (max 1 (per - fw)) G hl hG1
  rw [leastR_3 (by rw [gErr_2 hc]; exact hk) (turnE_ok.2 hp)] at A1
  rw [leastR_3 (by rw [gErr_2 hcm]; exact hk) (turnE_ok.2 (by omega)), hm] at A2
  refine aw_skip ?_
  refine xt_n ?_
  refine hK _ ?_
  clear hK K
  refine aw_seq_k fun K hK => ?_
  refine w_region (n' := 4) (by kernel_rfl) (by kernel_rfl) ?_
  refine aops_n hTT (M := []) (n := 3) [pv (38 : Nat) (V.agg [V.i (Cut.half c), V.i (Cut.gain c), V.i (Cut.thin c), V.i (Cut.wide c), V.i (Cut.slope c), V.i (Cut.jerk c), V.i (Cut.sty c)]), pn (11 : Nat) (V.ref (300011 : Nat) (0 : Nat)) (300011 : Nat) (Ob.box (23 : Nat) [V.i (0 : Int), V.i (0 : Int), V.i (0 : Int), V.i (0 : Int), V.i (0 : Int), V.i (0 : Int), V.i (0 : Int)]), pw ((0 : Nat) + (7 : Nat) ≤ (7 : Nat)) (300011 : Nat) (Ob.box (23 : Nat) [V.i (Cut.half c), V.i (Cut.gain c), V.i (Cut.thin c), V.i (Cut.wide c), V.i (Cut.slope c), V.i (Cut.jerk c), V.i (Cut.sty c)])] (by kernel_rfl) (by kernel_rfl) ⟨(by omega), True.intro⟩ ?_
  refine aops_nil ?_
  refine xt_n ?_
  refine hK _ ?_
  clear hK K
  refine aw_seq_k fun K hK => ?_
  refine w_region (n' := 5) (by kernel_rfl) (by kernel_rfl) ?_
  refine aops_n hTT (M := []) (n := 9) [pv (39 : Nat) (V.ptr [V.i (Cut.thin c), V.i (Cut.wide c), V.i (Cut.slope c), V.i (Cut.jerk c), V.i (Cut.sty c)]), pv (40 : Nat) (V.i (Cut.thin c)), pc (41 : Nat) ((0 : Int) ≤ (0 : Int) ∧ (0 : Int) < (↑(5 : Nat) : Int)) (V.ptr [V.c (Value.int IntKind.u16 b0), V.c (Value.int IntKind.u16 b1), V.c (Value.int IntKind.u16 b2), V.c (Value.int IntKind.u16 b3), V.c (Value.int IntKind.u16 b4)]), pv (42 : Nat) (V.c (Value.int IntKind.u16 b0)), pc (43 : Nat) ((-9223372036854775808 : Int) ≤ b0 ∧ b0 ≤ (9223372036854775807 : Int)) (V.i b0), pc (44 : Nat) ((-9223372036854775808 : Int) ≤ Cut.thin c - b0 ∧ Cut.thin c - b0 ≤ (9223372036854775807 : Int)) (V.i (Cut.thin c - b0)), pv (45 : Nat) (V.i (max (0 : Int) (Cut.thin c - b0))), pv (46 : Nat) (V.ref (300011 : Nat) (2 : Nat)), pw ((2 : Nat) + (1 : Nat) ≤ (7 : Nat)) (300011 : Nat) (Ob.box (23 : Nat) [V.i (Cut.half c), V.i (Cut.gain c), V.i (max (0 : Int) (Cut.thin c - b0)), V.i (Cut.wide c), V.i (Cut.slope c), V.i (Cut.jerk c), V.i (Cut.sty c)])] (by kernel_rfl) (by kernel_rfl) ⟨(by omega), (by omega), (by omega), (by omega), True.intro⟩ ?_
  refine aops_nil ?_
  refine xt_n ?_
  refine hK _ ?_
  clear hK K
  refine aw_seq_k fun K hK => ?_
  refine w_region (n' := 6) (by kernel_rfl) (by kernel_rfl) ?_
  refine aops_n hTT (M := []) (n := 9) [pv (47 : Nat) (V.ptr [V.i (Cut.wide c), V.i (Cut.slope c), V.i (Cut.jerk c), V.i (Cut.sty c)]), pv (48 : Nat) (V.i (Cut.wide c)), pc (49 : Nat) ((0 : Int) ≤ (1 : Int) ∧ (1 : Int) < (↑(5 : Nat) : Int)) (V.ptr [V.c (Value.int IntKind.u16 b1), V.c (Value.int IntKind.u16 b2), V.c (Value.int IntKind.u16 b3), V.c (Value.int IntKind.u16 b4)]), pv (50 : Nat) (V.c (Value.int IntKind.u16 b1)), pc (51 : Nat) ((-9223372036854775808 : Int) ≤ b1 ∧ b1 ≤ (9223372036854775807 : Int)) (V.i b1), pc (52 : Nat) ((-9223372036854775808 : Int) ≤ Cut.wide c + b1 ∧ Cut.wide c + b1 ≤ (9223372036854775807 : Int)) (V.i (Cut.wide c + b1)), pv (53 : Nat) (V.i (min (1048576 : Int) (Cut.wide c + b1))), pv (54 : Nat) (V.ref (300011 : Nat) (3 : Nat)), pw ((3 : Nat) + (1 : Nat) ≤ (7 : Nat)) (300011 : Nat) (Ob.box (23 : Nat) [V.i (Cut.half c), V.i (Cut.gain c), V.i (max (0 : Int) (Cut.thin c - b0)), V.i (min (1048576 : Int) (Cut.wide c + b1)), V.i (Cut.slope c), V.i (Cut.jerk c), V.i (Cut.sty c)])] (by kernel_rfl) (by kernel_rfl) ⟨(by omega), (by omega), (by omega), (by omega), True.intro⟩ ?_
  refine aops_nil ?_
  refine xt_n ?_
  refine hK _ ?_
  clear hK K
  refine aw_seq_k fun K hK => ?_
  refine w_region (n' := 7) (by kernel_rfl) (by kernel_rfl) ?_
  refine aops_n hTT (M := []) (n := 9) [pv (55 : Nat) (V.ptr [V.i (Cut.slope c), V.i (Cut.jerk c), V.i (Cut.sty c)]), pv (56 : Nat) (V.i (Cut.slope c)), pc (57 : Nat) ((0 : Int) ≤ (2 : Int) ∧ (2 : Int) < (↑(5 : Nat) : Int)) (V.ptr [V.c (Value.int IntKind.u16 b2), V.c (Value.int IntKind.u16 b3), V.c (Value.int IntKind.u16 b4)]), pv (58 : Nat) (V.c (Value.int IntKind.u16 b2)), pc (59 : Nat) ((-9223372036854775808 : Int) ≤ b2 ∧ b2 ≤ (9223372036854775807 : Int)) (V.i b2), pc (60 : Nat) ((-9223372036854775808 : Int) ≤ Cut.slope c + b2 ∧ Cut.slope c + b2 ≤ (9223372036854775807 : Int)) (V.i (Cut.slope c + b2)), pv (61 : Nat) (V.i (min (10000 : Int) (Cut.slope c + b2))), pv (62 : Nat) (V.ref (300011 : Nat) (4 : Nat)), pw ((4 : Nat) + (1 : Nat) ≤ (7 : Nat)) (300011 : Nat) (Ob.box (23 : Nat) [V.i (Cut.half c), V.i (Cut.gain c), V.i (max (0 : Int) (Cut.thin c - b0)), V.i (min (1048576 : Int) (Cut.wide c + b1)), V.i (min (10000 : Int) (Cut.slope c + b2)), V.i (Cut.jerk c), V.i (Cut.sty c)])] (by kernel_rfl) (by kernel_rfl) ⟨(by omega), (by omega), (by omega), (by omega), True.intro⟩ ?_
  refine aops_nil ?_
  refine xt_n ?_
  refine hK _ ?_
  clear hK K
  refine aw_seq_k fun K hK => ?_
  refine w_region (n' := 8) (by kernel_rfl) (by kernel_rfl) ?_
  refine aops_n hTT (M := []) (n := 9) [pv (63 : Nat) (V.ptr [V.i (Cut.jerk c), V.i (Cut.sty c)]), pv (64 : Nat) (V.i (Cut.jerk c)), pc (65 : Nat) ((0 : Int) ≤ (3 : Int) ∧ (3 : Int) < (↑(5 : Nat) : Int)) (V.ptr [V.c (Value.int IntKind.u16 b3), V.c (Value.int IntKind.u16 b4)]), pv (66 : Nat) (V.c (Value.int IntKind.u16 b3)), pc (67 : Nat) ((-9223372036854775808 : Int) ≤ b3 ∧ b3 ≤ (9223372036854775807 : Int)) (V.i b3), pc (68 : Nat) ((-9223372036854775808 : Int) ≤ Cut.jerk c + b3 ∧ Cut.jerk c + b3 ≤ (9223372036854775807 : Int)) (V.i (Cut.jerk c + b3)), pv (69 : Nat) (V.i (min (1048576 : Int) (Cut.jerk c + b3))), pv (70 : Nat) (V.ref (300011 : Nat) (5 : Nat)), pw ((5 : Nat) + (1 : Nat) ≤ (7 : Nat)) (300011 : Nat) (Ob.box (23 : Nat) [V.i (Cut.half c), V.i (Cut.gain c), V.i (max (0 : Int) (Cut.thin c - b0)), V.i (min (1048576 : Int) (Cut.wide c + b1)), V.i (min (10000 : Int) (Cut.slope c + b2)), V.i (min (1048576 : Int) (Cut.jerk c + b3)), V.i (Cut.sty c)])] (by kernel_rfl) (by kernel_rfl) ⟨(by omega), (by omega), (by omega), (by omega), True.intro⟩ ?_
  refine aops_nil ?_
  refine xt_n ?_
  refine hK _ ?_
  clear hK K
  refine aw_seq_k fun K hK => ?_
  refine w_region (n' := 9) (by kernel_rfl) (by kernel_rfl) ?_
  refine aops_n hTT (M := []) (n := 9) [pv (71 : Nat) (V.ptr [V.i (Cut.sty c)]), pv (72 : Nat) (V.i (Cut.sty c)), pc (73 : Nat) ((0 : Int) ≤ (4 : Int) ∧ (4 : Int) < (↑(5 : Nat) : Int)) (V.ptr [V.c (Value.int IntKind.u16 b4)]), pv (74 : Nat) (V.c (Value.int IntKind.u16 b4)), pc (75 : Nat) ((-9223372036854775808 : Int) ≤ b4 ∧ b4 ≤ (9223372036854775807 : Int)) (V.i b4), pc (76 : Nat) ((-9223372036854775808 : Int) ≤ Cut.sty c - b4 ∧ Cut.sty c - b4 ≤ (9223372036854775807 : Int)) (V.i (Cut.sty c - b4)), pv (77 : Nat) (V.i (max (0 : Int) (Cut.sty c - b4))), pv (78 : Nat) (V.ref (300011 : Nat) (6 : Nat)), pw ((6 : Nat) + (1 : Nat) ≤ (7 : Nat)) (300011 : Nat) (Ob.box (23 : Nat) [V.i (Cut.half c), V.i (Cut.gain c), V.i (max (0 : Int) (Cut.thin c - b0)), V.i (min (1048576 : Int) (Cut.wide c + b1)), V.i (min (10000 : Int) (Cut.slope c + b2)), V.i (min (1048576 : Int) (Cut.jerk c + b3)), V.i (max (0 : Int) (Cut.sty c - b4))])] (by kernel_rfl) (by kernel_rfl) ⟨(by omega), (by omega), (by omega), (by omega), True.intro⟩ ?_
  refine aops_nil ?_
  refine xt_n ?_
  refine hK _ ?_
  clear hK K
  refine aw_seq_k fun K hK => ?_
  refine w_region (n' := 10) (by kernel_rfl) (by kernel_rfl) ?_
  refine aops_n hTT (M := []) (n := 3) [pv (80 : Nat) (V.agg [V.i (Cut.half c), V.i (Cut.gain c), V.i (Cut.thin c), V.i (Cut.wide c), V.i (Cut.slope c), V.i (Cut.jerk c), V.i (Cut.sty c)]), pv (81 : Nat) (V.sl (2 : Nat) (List.length l) fun (k : Nat) => [V.i (Prod.fst (gp l k)), V.i (Prod.snd (gp l k))]), pv (82 : Nat) (V.i per)] (by kernel_rfl) (by kernel_rfl) True.intro ?_
  refine e_call (first := []) (caps := []) (A1) (by kernel_rfl) (by kernel_rfl) (by kernel_rfl) (by kernel_rfl) (by kernel_rfl) ?_
  refine aops_n hTT (M := []) (n := 5) [pv (79 : Nat) (V.tup [V.i (if F ≤ (4194304 : Int) then F else (0 : Int)), V.i (if F ≤ (4194304 : Int) then (0 : Int) else (14 : Int))]), pv (84 : Nat) (V.i (if F ≤ (4194304 : Int) then F else (0 : Int))), pv (85 : Nat) (V.i (if F ≤ (4194304 : Int) then (0 : Int) else (14 : Int))), pv (12 : Nat) (V.i (if F ≤ (4194304 : Int) then F else (0 : Int))), pv (13 : Nat) (V.i (if F ≤ (4194304 : Int) then (0 : Int) else (14 : Int)))] (by kernel_rfl) (by kernel_rfl) True.intro ?_
  refine aops_nil ?_
  refine xt_n ?_
  refine hK _ ?_
  clear hK K
  refine aw_seq_k fun K hK => ?_
  refine w_region (n' := 11) (by kernel_rfl) (by kernel_rfl) ?_
  refine aops_n hTT (M := []) (n := 7) [pc (87 : Nat) ((0 : Nat) ≤ (7 : Nat)) (V.agg [V.i (Cut.half c), V.i (Cut.gain c), V.i (max (0 : Int) (Cut.thin c - b0)), V.i (min (1048576 : Int) (Cut.wide c + b1)), V.i (min (10000 : Int) (Cut.slope c + b2)), V.i (min (1048576 : Int) (Cut.jerk c + b3)), V.i (max (0 : Int) (Cut.sty c - b4))]), pv (88 : Nat) (V.sl (2 : Nat) (List.length l) fun (k : Nat) => [V.i (Prod.fst (gp l k)), V.i (Prod.snd (gp l k))]), pv (89 : Nat) (V.i per), pv (90 : Nat) (V.c (Value.int IntKind.u16 fw)), pc (91 : Nat) ((-9223372036854775808 : Int) ≤ fw ∧ fw ≤ (9223372036854775807 : Int)) (V.i fw), pc (92 : Nat) ((-9223372036854775808 : Int) ≤ per - fw ∧ per - fw ≤ (9223372036854775807 : Int)) (V.i (per - fw)), pv (93 : Nat) (V.i (max (1 : Int) (per - fw)))] (by kernel_rfl) (by kernel_rfl) ⟨(by omega), (by omega), (by omega), True.intro⟩ ?_
  refine e_call (first := []) (caps := []) (A2) (by kernel_rfl) (by kernel_rfl) (by kernel_rfl) (by kernel_rfl) (by kernel_rfl) ?_
  refine aops_n hTT (M := []) (n := 5) [pv (86 : Nat) (V.tup [V.i (if G ≤ (4194304 : Int) then G else (0 : Int)), V.i (if G ≤ (4194304 : Int) then (0 : Int) else (14 : Int))]), pv (95 : Nat) (V.i (if G ≤ (4194304 : Int) then G else (0 : Int))), pv (96 : Nat) (V.i (if G ≤ (4194304 : Int) then (0 : Int) else (14 : Int))), pv (14 : Nat) (V.i (if G ≤ (4194304 : Int) then G else (0 : Int))), pv (15 : Nat) (V.i (if G ≤ (4194304 : Int) then (0 : Int) else (14 : Int)))] (by kernel_rfl) (by kernel_rfl) True.intro ?_
  refine aops_nil ?_
  refine xt_n ?_
  refine hK _ ?_
  clear hK K
  refine aw_seq_k fun K hK => ?_
  refine aw_seq_k fun K hK => ?_
  refine w_region (n' := 12) (by kernel_rfl) (by kernel_rfl) ?_
  refine aops_n hTT (M := []) (n := 2) [pv (97 : Nat) (V.i (if F ≤ (4194304 : Int) then (0 : Int) else (14 : Int))), pv (98 : Nat) (V.b !decide ((if F ≤ (4194304 : Int) then (0 : Int) else (14 : Int)) = (0 : Int)))] (by kernel_rfl) (by kernel_rfl) True.intro ?_
  refine aops_nil ?_
  refine xt_n ?_
  refine hK _ ?_
  clear hK K
  by_cases hF4 : F ≤ 4194304
  · rw [if_pos hF4, if_pos hF4, if_pos (by omega), if_pos (by omega)]
    refine w_false (t := false) (by kernel_rfl) rfl ?_
    refine aw_skip ?_
    refine xt_n ?_
    refine hK _ ?_
    clear hK K
    refine aw_seq_k fun K hK => ?_
    refine w_region (n' := 13) (by kernel_rfl) (by kernel_rfl) ?_
    refine aops_n hTT (M := []) (n := 8) [pv (104 : Nat) (V.i (0 : Int)), pv (105 : Nat) (V.b true), pv (106 : Nat) (V.b true), pc (107 : Nat) ((True ∧ True) ∧ ((true == true) = true → True)) (V.gd (true == true) (V.i G)), pc (108 : Nat) ((True ∧ True) ∧ ((true == true) = true → True)) (V.gd (true == true) (V.i F)), pc (109 : Nat) ((((true == true) = true → (true == true) = true) ∧ ((true == true) = true → (true == true) = true) ∧ True) ∧ ((true == true) = true → True)) (V.gd (true == true) (V.b (decide (G ≤ F)))), pc (110 : Nat) ((true = true → (true == true) = true) ∧ True) (V.b (decide (G ≤ F))), pv (111 : Nat) (V.b (decide (G ≤ F)))] (by kernel_rfl) (by kernel_rfl) ⟨⟨⟨True.intro, True.intro⟩, (fun _ => True.intro)⟩, ⟨⟨True.intro, True.intro⟩, (fun _ => True.intro)⟩, ⟨⟨(by (exact fun h => h)), ⟨(by (exact fun h => h)), True.intro⟩⟩, (fun _ => True.intro)⟩, ⟨(by (exact fun h => h)), True.intro⟩, True.intro⟩ ?_
    refine e_callG 0 (g := decide (G ≤ F) == true) (first := []) (caps := []) (by kernel_rfl) (fun h => gWorks_ac) (by kernel_rfl) (by kernel_rfl) (by kernel_rfl) (by kernel_rfl) (by kernel_rfl) (by kernel_rfl) ?_
    refine aops_n hTT (M := []) (n := 2) [pc (113 : Nat) ((decide (G ≤ F) = true → (decide (G ≤ F) == true) = true) ∧ True) (V.b (decide (G ≤ F) && true)), pv (10 : Nat) (V.b (decide (G ≤ F) && true))] (by kernel_rfl) (by kernel_rfl) ⟨⟨(by (intro h; rw [h]; rfl)), True.intro⟩, True.intro⟩ ?_
    refine aops_nil ?_
    refine xt_n ?_
    refine hK _ ?_
    clear hK K
    refine aw_ret ?_
    refine ret_pure (v' := V.b (decide (G ≤ F) && true)) (.inr rfl) (by kernel_rfl) ?_ (by kernel_rfl)
    simp
    omega
  · rw [if_neg hF4, if_neg hF4]
    refine w_true (t := true) (by kernel_rfl) rfl ?_
    refine aw_seq_k fun K hK => ?_
    refine w_region (n' := 13) (by kernel_rfl) (by kernel_rfl) ?_
    refine aops_n hTT (M := []) (n := 3) [pv (99 : Nat) (V.i (14 : Int)), pv (100 : Nat) (V.b true), pv (101 : Nat) (V.b true)] (by kernel_rfl) (by kernel_rfl) True.intro ?_
    refine e_callG 0 (g := true == true) (first := []) (caps := []) (by kernel_rfl) (fun h => gWorks_ac) (by kernel_rfl) (by kernel_rfl) (by kernel_rfl) (by kernel_rfl) (by kernel_rfl) (by kernel_rfl) ?_
    refine aops_n hTT (M := []) (n := 2) [pc (103 : Nat) ((true = true → (true == true) = true) ∧ True) (V.b true), pv (10 : Nat) (V.b true)] (by kernel_rfl) (by kernel_rfl) ⟨⟨(by (exact fun h => h)), True.intro⟩, True.intro⟩ ?_
    refine aops_nil ?_
    refine xt_n ?_
    refine hK _ ?_
    clear hK K
    refine aw_ret ?_
    refine xt_r ?_
    refine ret_pure (v' := V.b true) (.inr rfl) (by kernel_rfl) (by kernel_rfl) (by kernel_rfl)
def milderSh : List Sh := [(.fld (.int .i64) (.fld (.int .i64) (.fld (.int .i64) (.fld (.int .i64) (.fld (.int .i64) (.fld (.int .i64) (.lst (.int .i64)))))))), (.sl (.fld (.int .i64) (.lst (.int .i64)))), (.int .i64), (.arr 5 (.int .u16)), (.int .u16)]
theorem wf_u16' {x : Int} (h : (Lit.int .u16 x).wf = true) : 0 ≤ x ∧ x ≤ 65535 := by
  simp [Lit.wf, IntKind.min, IntKind.max, IntKind.signed, IntKind.bits] at h; omega
theorem milder_all (x : TL milderSh) (hx : wfL milderSh x) : AC Try.prog 6 (valL milderSh x) (V.b true) [] := by
  obtain ⟨⟨h, g, th, wi, sl, je, st⟩, l, per, by5, fw, _⟩ := x
  obtain ⟨_, ⟨h4, _⟩, _, ⟨h5, h6⟩, h7, _⟩ := hx
  have h5 : by5.length = 5 := h5
  match by5, h5, h6 with
  | [b0, b1, b2, b3, b4], _, h6 =>
    exact milder_law ⟨h, g, th, wi, sl, je, st⟩ l per b0 b1 b2 b3 b4 fw h4 (wf_u16' (h6 b0 (by simp))) (wf_u16' (h6 b1 (by simp))) (wf_u16' (h6 b2 (by simp))) (wf_u16' (h6 b3 (by simp))) (wf_u16' (h6 b4 (by simp))) (wf_u16' h7)
end Go.Proofs.Ytjjlgegccfolpaa
