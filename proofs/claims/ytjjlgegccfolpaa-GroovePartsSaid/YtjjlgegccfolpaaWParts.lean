/-
  GrooveParts: the walk of the law. No condition.
-/
import Derived.Test.YtjjlgegccfolpaaGPl4
import Derived.Test.YtjjlgegccfolpaaMC
namespace Go.Proofs.Ytjjlgegccfolpaa
open Go.Ab Go.RowKit Go.Dw Go.Shelf

theorem part_gE {l : List Pt} {a n : Nat} (h : gChk l = 0) : gChk ((l.drop a).take n) = 0 := by
  obtain ⟨h1, h2⟩ := gChk_ok.1 h
  refine gChk_ok.2 ⟨by rw [List.length_take, List.length_drop]; omega, fun k hk => ?_⟩
  rw [List.length_take, List.length_drop] at hk
  rw [gp_part (by omega)]
  exact h2 _ (by omega)
theorem part_len {l : List Pt} {a n : Nat} (h : a + n ≤ l.length) : ((l.drop a).take n).length = n := by rw [List.length_take, List.length_drop]; omega
/-- a groove that keeps to what another one keeps to has no greater least radius -/
theorem fst_le {c d : Cut} {l m : List Pt} {per p' F G : Int} (hF : IsFst (fitB c l per) 4194305 F) (hG : IsFst (fitB d m p') 4194305 G) (h : ∀ r, 0 ≤ r → fitB c l per r = true → fitB d m p' r = true) : G ≤ F := by
  refine Int.not_lt.1 fun hl => ?_
  have a := hF.hi F (Int.le_refl _) (by have := hG.b; omega)
  have b := hG.lo F hF.b.1 hl
  rw [h F hF.b.1 a] at b; cases b
theorem leastR_ok {c : Cut} {l : List Pt} {per F : Int} (h1 : cutE c = 0) (h2 : gChk l = 0) (hp : 1 ≤ per ∧ per ≤ 65536) : leastR c l per F = (okN F, okE F) := leastR_3 (by rw [gErr_2 h1]; exact h2) (turnE_ok.2 hp)
theorem fstOk_get {c : Cut} {l : List Pt} {per F : Int} (h1 : cutE c = 0) (h2 : gChk l = 0) (hp : 1 ≤ per ∧ per ≤ 65536) (h : FstOk c l per F) : IsFst (fitB c l per) 4194305 F := h (by rw [gErr_2 h1]; exact h2) (turnE_ok.2 hp)
set_option maxHeartbeats 2000000 in
set_option maxRecDepth 100000 in
theorem parts_law (c : Cut) (l : List Pt) (per a b : Int) (hl : l.length ≤ 4611686018427387904) (ha : 0 ≤ a ∧ a ≤ 255) (hb : 0 ≤ b ∧ b ≤ 255) : AC Try.prog 5 [c.v, V.pts l, .i per, .c (.int .u8 a), .c (.int .u8 b)] (.b true) [] := by
  refine ac_intro hTT hMX (fn := Try.f5) (N := _) ⟨Try.func5, rfl, Try.ntmps5, by kernel_rfl⟩ (by simp) fun C hC hF => ?_
  refine aw_seq_k fun K hK => ?_
  refine w_region (n' := 2) (by kernel_rfl) (by kernel_rfl) ?_
  refine aops_n hTT (M := []) (n := 2) [pv (5 : Nat) (V.ptr [V.i (Cut.half c), V.i (Cut.gain c), V.i (Cut.thin c), V.i (Cut.wide c), V.i (Cut.slope c), V.i (Cut.jerk c), V.i (Cut.sty c)]), pv (10 : Nat) (V.b false)] (by kernel_rfl) (by kernel_rfl) True.intro ?_
  refine aops_nil ?_
  refine xt_n ?_
  refine hK _ ?_
  clear hK K
  refine aw_seq_k fun K hK => ?_
  refine aw_seq_k fun K hK => ?_
  refine w_region (n' := 3) (by kernel_rfl) (by kernel_rfl) ?_
  refine aops_n hTT (M := []) (n := 13) [pv (22 : Nat) (V.sl (2 : Nat) (List.length l) fun (k : Nat) => [V.i (Prod.fst (gp l k)), V.i (Prod.snd (gp l k))]), pv (23 : Nat) (V.i (↑(List.length l) : Int)), pv (24 : Nat) (V.b (decide ((60 : Int) < (↑(List.length l) : Int)))), pv (25 : Nat) (V.b (decide ((60 : Int) < (↑(List.length l) : Int)))), pc (26 : Nat) ((True ∧ True) ∧ ((decide ((60 : Int) < (↑(List.length l) : Int)) == false) = true → True)) (V.gd (decide ((60 : Int) < (↑(List.length l) : Int)) == false) (V.i per)), pc (27 : Nat) ((((decide ((60 : Int) < (↑(List.length l) : Int)) == false) = true → (decide ((60 : Int) < (↑(List.length l) : Int)) == false) = true) ∧ True ∧ True) ∧ ((decide ((60 : Int) < (↑(List.length l) : Int)) == false) = true → True)) (V.gd (decide ((60 : Int) < (↑(List.length l) : Int)) == false) (V.b (decide (per < (1 : Int))))), pc (28 : Nat) (True ∧ (decide ((60 : Int) < (↑(List.length l) : Int)) = false → (decide ((60 : Int) < (↑(List.length l) : Int)) == false) = true)) (V.b (decide ((60 : Int) < (↑(List.length l) : Int)) || decide (per < (1 : Int)))), pv (29 : Nat) (V.b (decide ((60 : Int) < (↑(List.length l) : Int)) || decide (per < (1 : Int)))), pc (30 : Nat) ((True ∧ True) ∧ (((decide ((60 : Int) < (↑(List.length l) : Int)) || decide (per < (1 : Int))) == false) = true → True)) (V.gd ((decide ((60 : Int) < (↑(List.length l) : Int)) || decide (per < (1 : Int))) == false) (V.i per)), pc (31 : Nat) (((((decide ((60 : Int) < (↑(List.length l) : Int)) || decide (per < (1 : Int))) == false) = true → ((decide ((60 : Int) < (↑(List.length l) : Int)) || decide (per < (1 : Int))) == false) = true) ∧ True ∧ True) ∧ (((decide ((60 : Int) < (↑(List.length l) : Int)) || decide (per < (1 : Int))) == false) = true → True)) (V.gd ((decide ((60 : Int) < (↑(List.length l) : Int)) || decide (per < (1 : Int))) == false) (V.b (decide ((65536 : Int) < per)))), pc (32 : Nat) (True ∧ ((decide ((60 : Int) < (↑(List.length l) : Int)) || decide (per < (1 : Int))) = false → ((decide ((60 : Int) < (↑(List.length l) : Int)) || decide (per < (1 : Int))) == false) = true)) (V.b (decide ((60 : Int) < (↑(List.length l) : Int)) || decide (per < (1 : Int)) || decide ((65536 : Int) < per))), pv (33 : Nat) (V.b (decide ((60 : Int) < (↑(List.length l) : Int)) || decide (per < (1 : Int)) || decide ((65536 : Int) < per))), pc (34 : Nat) ((True ∧ True) ∧ (((decide ((60 : Int) < (↑(List.length l) : Int)) || decide (per < (1 : Int)) || decide ((65536 : Int) < per)) == false) = true → True)) (V.gd ((decide ((60 : Int) < (↑(List.length l) : Int)) || decide (per < (1 : Int)) || decide ((65536 : Int) < per)) == false) (V.agg [V.i (Cut.half c), V.i (Cut.gain c), V.i (Cut.thin c), V.i (Cut.wide c), V.i (Cut.slope c), V.i (Cut.jerk c), V.i (Cut.sty c)]))] (by kernel_rfl) (by kernel_rfl) ⟨⟨⟨True.intro, True.intro⟩, (fun _ => True.intro)⟩, ⟨⟨(by (exact fun h => h)), ⟨True.intro, True.intro⟩⟩, (fun _ => True.intro)⟩, ⟨True.intro, (by (intro h; rw [h]; rfl))⟩, ⟨⟨True.intro, True.intro⟩, (fun _ => True.intro)⟩, ⟨⟨(by (exact fun h => h)), ⟨True.intro, True.intro⟩⟩, (fun _ => True.intro)⟩, ⟨True.intro, (by (intro h; rw [h]; rfl))⟩, ⟨⟨True.intro, True.intro⟩, (fun _ => True.intro)⟩, True.intro⟩ ?_
  refine e_callG 1 (g := (decide ((60 : Int) < (↑(List.length l) : Int)) || decide (per < (1 : Int)) || decide ((65536 : Int) < per)) == false) (first := []) (caps := []) (by kernel_rfl) (fun h => refCheck_ac c) (by kernel_rfl) (by kernel_rfl) (by kernel_rfl) (by kernel_rfl) (by kernel_rfl) (by kernel_rfl) ?_
  refine aops_n hTT (M := []) (n := 4) [pc (36 : Nat) (((((decide ((60 : Int) < (↑(List.length l) : Int)) || decide (per < (1 : Int)) || decide ((65536 : Int) < per)) == false) = true → ((decide ((60 : Int) < (↑(List.length l) : Int)) || decide (per < (1 : Int)) || decide ((65536 : Int) < per)) == false) = true) ∧ True ∧ True) ∧ (((decide ((60 : Int) < (↑(List.length l) : Int)) || decide (per < (1 : Int)) || decide ((65536 : Int) < per)) == false) = true → True)) (V.gd ((decide ((60 : Int) < (↑(List.length l) : Int)) || decide (per < (1 : Int)) || decide ((65536 : Int) < per)) == false) (V.b !decide (cutE c = (0 : Int)))), pc (37 : Nat) (True ∧ ((decide ((60 : Int) < (↑(List.length l) : Int)) || decide (per < (1 : Int)) || decide ((65536 : Int) < per)) = false → ((decide ((60 : Int) < (↑(List.length l) : Int)) || decide (per < (1 : Int)) || decide ((65536 : Int) < per)) == false) = true)) (V.b (decide ((60 : Int) < (↑(List.length l) : Int)) || decide (per < (1 : Int)) || decide ((65536 : Int) < per) || !decide (cutE c = (0 : Int)))), pv (38 : Nat) (V.b (decide ((60 : Int) < (↑(List.length l) : Int)) || decide (per < (1 : Int)) || decide ((65536 : Int) < per) || !decide (cutE c = (0 : Int)))), pc (39 : Nat) ((True ∧ True) ∧ (((decide ((60 : Int) < (↑(List.length l) : Int)) || decide (per < (1 : Int)) || decide ((65536 : Int) < per) || !decide (cutE c = (0 : Int))) == false) = true → True)) (V.gd ((decide ((60 : Int) < (↑(List.length l) : Int)) || decide (per < (1 : Int)) || decide ((65536 : Int) < per) || !decide (cutE c = (0 : Int))) == false) (V.sl (2 : Nat) (List.length l) fun (k : Nat) => [V.i (Prod.fst (gp l k)), V.i (Prod.snd (gp l k))]))] (by kernel_rfl) (by kernel_rfl) ⟨⟨⟨(by (exact fun h => h)), ⟨True.intro, True.intro⟩⟩, (fun _ => True.intro)⟩, ⟨True.intro, (by (intro h; rw [h]; rfl))⟩, ⟨⟨True.intro, True.intro⟩, (fun _ => True.intro)⟩, True.intro⟩ ?_
  refine e_callG 1 (g := (decide ((60 : Int) < (↑(List.length l) : Int)) || decide (per < (1 : Int)) || decide ((65536 : Int) < per) || !decide (cutE c = (0 : Int))) == false) (first := []) (caps := []) (by kernel_rfl) (fun h => refCheckPoints_ac l hl) (by kernel_rfl) (by kernel_rfl) (by kernel_rfl) (by kernel_rfl) (by kernel_rfl) (by kernel_rfl) ?_
  refine aops_n hTT (M := []) (n := 2) [pc (41 : Nat) (((((decide ((60 : Int) < (↑(List.length l) : Int)) || decide (per < (1 : Int)) || decide ((65536 : Int) < per) || !decide (cutE c = (0 : Int))) == false) = true → ((decide ((60 : Int) < (↑(List.length l) : Int)) || decide (per < (1 : Int)) || decide ((65536 : Int) < per) || !decide (cutE c = (0 : Int))) == false) = true) ∧ True ∧ True) ∧ (((decide ((60 : Int) < (↑(List.length l) : Int)) || decide (per < (1 : Int)) || decide ((65536 : Int) < per) || !decide (cutE c = (0 : Int))) == false) = true → True)) (V.gd ((decide ((60 : Int) < (↑(List.length l) : Int)) || decide (per < (1 : Int)) || decide ((65536 : Int) < per) || !decide (cutE c = (0 : Int))) == false) (V.b !decide (gChk l = (0 : Int)))), pc (42 : Nat) (True ∧ ((decide ((60 : Int) < (↑(List.length l) : Int)) || decide (per < (1 : Int)) || decide ((65536 : Int) < per) || !decide (cutE c = (0 : Int))) = false → ((decide ((60 : Int) < (↑(List.length l) : Int)) || decide (per < (1 : Int)) || decide ((65536 : Int) < per) || !decide (cutE c = (0 : Int))) == false) = true)) (V.b (decide ((60 : Int) < (↑(List.length l) : Int)) || decide (per < (1 : Int)) || decide ((65536 : Int) < per) || !decide (cutE c = (0 : Int)) || !decide (gChk l = (0 : Int))))] (by kernel_rfl) (by kernel_rfl) ⟨⟨⟨(by (exact fun h => h)), ⟨True.intro, True.intro⟩⟩, (fun _ => True.intro)⟩, ⟨True.intro, (by (intro h; rw [h]; rfl))⟩, True.intro⟩ ?_
  refine aops_nil ?_
  refine xt_n ?_
  refine hK _ ?_
  clear hK K
  refine w_cond (t := decide ((60 : Int) < (↑(List.length l) : Int)) || decide (per < (1 : Int)) || decide ((65536 : Int) < per) || !decide (cutE c = (0 : Int)) || !decide (gChk l = (0 : Int))) (by kernel_rfl) (fun c1 => ?_) (fun c1 => ?_)
  · refine aw_seq_k fun K hK => ?_
    refine w_region (n' := 4) (by kernel_rfl) (by kernel_rfl) ?_
    refine e_call (first := []) (caps := []) (gWorks_ac) (by kernel_rfl) (by kernel_rfl) (by kernel_rfl) (by kernel_rfl) (by kernel_rfl) ?_
    refine aops_n hTT (M := []) (n := 1) [pv (10 : Nat) (V.b true)] (by kernel_rfl) (by kernel_rfl) True.intro ?_
    refine aops_nil ?_
    refine xt_n ?_
    refine hK _ ?_
    clear hK K
    refine aw_ret ?_
    refine xt_r ?_
    refine ret_pure (v' := V.b true) (.inr rfl) (by kernel_rfl) (by kernel_rfl) (by kernel_rfl)
  have c1 : l.length ≤ 60 ∧ (1 ≤ per ∧ per ≤ 65536) ∧ cutE c = 0 ∧ gChk l = 0 := by simp at c1; omega
  obtain ⟨l60, hp, hc, hk⟩ := c1
  obtain ⟨p, hp0, hpl⟩ : ∃ p : Nat, a.tmod ((l.length : Int) + 1) = (p : Int) ∧ p ≤ l.length := by
    have h1 := Int.emod_nonneg a (show (l.length : Int) + 1 ≠ 0 by omega)
    have h2 := Int.emod_lt_of_pos a (show 0 < (l.length : Int) + 1 by omega)
    exact ⟨(a % ((l.length : Int) + 1)).toNat, by rw [Int.tmod_eq_emod_of_nonneg ha.1]; omega, by omega⟩
  obtain ⟨q, hq0, hql⟩ : ∃ q : Nat, b.tmod ((l.length : Int) + 1) = (q : Int) ∧ q ≤ l.length := by
    have h1 := Int.emod_nonneg b (show (l.length : Int) + 1 ≠ 0 by omega)
    have h2 := Int.emod_lt_of_pos b (show 0 < (l.length : Int) + 1 by omega)
    exact ⟨(b % ((l.length : Int) + 1)).toNat, by rw [Int.tmod_eq_emod_of_nonneg hb.1]; omega, by omega⟩
  obtain ⟨F, hF1⟩ := fstOk_ex c l per
  have hFi := fstOk_get hc hk hp hF1
  obtain ⟨m, hm⟩ : ∃ m, m = (l.drop (min p q)).take (max p q - min p q) := ⟨_, rfl⟩
  have hml : m.length = max p q - min p q := by rw [hm]; exact part_len (by omega)
  have hmk : gChk m = 0 := by rw [hm]; exact part_gE hk
  obtain ⟨G, hG1⟩ := fstOk_ex c m per
  have hGi := fstOk_get hc hmk hp hG1
  have hGF : G ≤ F := fst_le hFi hGi fun r hr h => by
    rw [hm]
    exact (fit_ok hc hr hp.1).2 (((fit_ok hc hr hp.1).1 h).part _ _)
  have A1 := Least_ac c l per F hl hF1
  have A2 := Least_ac c m per G (by omega) hG1
  rw [leastR_ok hc hk hp] at A1
  rw [leastR_ok hc hmk hp] at A2
  refine aw_skip ?_
  refine xt_n ?_
  refine hK _ ?_
  clear hK K
  refine aw_seq_k fun K hK => ?_
  refine w_regionD (n' := 4) (by kernel_rfl) (by kernel_rfl) ?_
  refine aops_n hTT (M := []) (n := 14) [pv (44 : Nat) (V.c (Value.int IntKind.u8 a)), pc (45 : Nat) ((-9223372036854775808 : Int) ≤ a ∧ a ≤ (9223372036854775807 : Int)) (V.i a), pv (46 : Nat) (V.sl (2 : Nat) (List.length l) fun (k : Nat) => [V.i (Prod.fst (gp l k)), V.i (Prod.snd (gp l k))]), pv (47 : Nat) (V.i (↑(List.length l) : Int)), pc (48 : Nat) ((-9223372036854775808 : Int) ≤ (↑(List.length l) : Int) + (1 : Int) ∧ (↑(List.length l) : Int) + (1 : Int) ≤ (9223372036854775807 : Int)) (V.i ((↑(List.length l) : Int) + (1 : Int))), pc (49 : Nat) ((↑(List.length l) : Int) + (1 : Int) ≠ (0 : Int)) (V.i (Int.tmod a ((↑(List.length l) : Int) + (1 : Int)))), pv (50 : Nat) (V.c (Value.int IntKind.u8 b)), pc (51 : Nat) ((-9223372036854775808 : Int) ≤ b ∧ b ≤ (9223372036854775807 : Int)) (V.i b), pv (52 : Nat) (V.sl (2 : Nat) (List.length l) fun (k : Nat) => [V.i (Prod.fst (gp l k)), V.i (Prod.snd (gp l k))]), pv (53 : Nat) (V.i (↑(List.length l) : Int)), pc (54 : Nat) ((-9223372036854775808 : Int) ≤ (↑(List.length l) : Int) + (1 : Int) ∧ (↑(List.length l) : Int) + (1 : Int) ≤ (9223372036854775807 : Int)) (V.i ((↑(List.length l) : Int) + (1 : Int))), pc (55 : Nat) ((↑(List.length l) : Int) + (1 : Int) ≠ (0 : Int)) (V.i (Int.tmod b ((↑(List.length l) : Int) + (1 : Int)))), pv (11 : Nat) (V.i (Int.tmod a ((↑(List.length l) : Int) + (1 : Int)))), pv (12 : Nat) (V.i (Int.tmod b ((↑(List.length l) : Int) + (1 : Int))))] (by kernel_rfl) (by kernel_rfl) ⟨(by omega), (by omega), (by omega), (by omega), (by omega), (by omega), True.intro⟩ ?_
  refine aops_nil ⟨by kernel_rfl, ?_⟩
  refine xt_n ?_
  refine hK _ ?_
  clear hK K
  refine aw_seq_k fun K hK => ?_
  rw [hp0, hq0]
  refine w_region (n' := 5) (by kernel_rfl) (by kernel_rfl) ?_
  refine aops_n hTT (M := []) (n := 3) [pv (57 : Nat) (V.agg [V.i (Cut.half c), V.i (Cut.gain c), V.i (Cut.thin c), V.i (Cut.wide c), V.i (Cut.slope c), V.i (Cut.jerk c), V.i (Cut.sty c)]), pv (58 : Nat) (V.sl (2 : Nat) (List.length l) fun (k : Nat) => [V.i (Prod.fst (gp l k)), V.i (Prod.snd (gp l k))]), pv (59 : Nat) (V.i per)] (by kernel_rfl) (by kernel_rfl) True.intro ?_
  refine e_call (first := []) (caps := []) (A1) (by kernel_rfl) (by kernel_rfl) (by kernel_rfl) (by kernel_rfl) (by kernel_rfl) ?_
  refine aops_n hTT (M := []) (n := 5) [pv (56 : Nat) (V.tup [V.i (okN F), V.i (okE F)]), pv (61 : Nat) (V.i (okN F)), pv (62 : Nat) (V.i (okE F)), pv (13 : Nat) (V.i (okN F)), pv (14 : Nat) (V.i (okE F))] (by kernel_rfl) (by kernel_rfl) True.intro ?_
  refine aops_nil ?_
  refine xt_n ?_
  refine hK _ ?_
  clear hK K
  refine aw_seq_k fun K hK => ?_
  refine w_regionD (n' := 6) (by kernel_rfl) (by kernel_rfl) ?_
  refine aops_n hTT (M := []) (n := 10) [pv (64 : Nat) (V.agg [V.i (Cut.half c), V.i (Cut.gain c), V.i (Cut.thin c), V.i (Cut.wide c), V.i (Cut.slope c), V.i (Cut.jerk c), V.i (Cut.sty c)]), pv (65 : Nat) (V.sl (2 : Nat) (List.length l) fun (k : Nat) => [V.i (Prod.fst (gp l k)), V.i (Prod.snd (gp l k))]), pv (66 : Nat) (V.i (↑p : Int)), pv (67 : Nat) (V.i (↑q : Int)), pv (68 : Nat) (V.i (min (↑p : Int) (↑q : Int))), pv (69 : Nat) (V.i (↑p : Int)), pv (70 : Nat) (V.i (↑q : Int)), pv (71 : Nat) (V.i (max (↑p : Int) (↑q : Int))), pc (72 : Nat) ((0 : Int) ≤ min (↑p : Int) (↑q : Int) ∧ min (↑p : Int) (↑q : Int) ≤ max (↑p : Int) (↑q : Int) ∧ max (↑p : Int) (↑q : Int) ≤ (↑(List.length l) : Int)) (V.sl (2 : Nat) (Int.toNat (max (↑p : Int) (↑q : Int)) - Int.toNat (min (↑p : Int) (↑q : Int))) fun (i : Nat) => [V.i (Prod.fst (gp l (i + Int.toNat (min (↑p : Int) (↑q : Int))))), V.i (Prod.snd (gp l (i + Int.toNat (min (↑p : Int) (↑q : Int)))))]), pv (73 : Nat) (V.i per)] (by kernel_rfl) (by kernel_rfl) ⟨⟨(by omega), (by omega)⟩, True.intro⟩ ?_
  refine e_call (first := []) (caps := []) (AC.conv (A2) (args' := [V.agg [V.i (Cut.half c), V.i (Cut.gain c), V.i (Cut.thin c), V.i (Cut.wide c), V.i (Cut.slope c), V.i (Cut.jerk c), V.i (Cut.sty c)], V.sl (2 : Nat) (Int.toNat (max (↑p : Int) (↑q : Int)) - Int.toNat (min (↑p : Int) (↑q : Int))) fun (i : Nat) => [V.i (Prod.fst (gp l (i + Int.toNat (min (↑p : Int) (↑q : Int))))), V.i (Prod.snd (gp l (i + Int.toNat (min (↑p : Int) (↑q : Int)))))], V.i per]) ⟨RImp.refl _, ?_, RImp.refl _, trivial⟩) (by kernel_rfl) (by kernel_rfl) (by kernel_rfl) (by kernel_rfl) (by kernel_rfl) ?_
  · refine RImp.rows (by omega) fun i hi => ?_
    rw [hm, gp_part (by omega), show i + (min (p : Int) (q : Int)).toNat = min p q + i by omega]
  refine aops_n hTT (M := []) (n := 5) [pv (63 : Nat) (V.tup [V.i (okN G), V.i (okE G)]), pv (75 : Nat) (V.i (okN G)), pv (76 : Nat) (V.i (okE G)), pv (15 : Nat) (V.i (okN G)), pv (16 : Nat) (V.i (okE G))] (by kernel_rfl) (by kernel_rfl) True.intro ?_
  refine aops_nil ⟨by kernel_rfl, ?_⟩
  refine xt_n ?_
  refine hK _ ?_
  clear hK K
  refine aw_seq_k fun K hK => ?_
  refine aw_seq_k fun K hK => ?_
  refine w_region (n' := 7) (by kernel_rfl) (by kernel_rfl) ?_
  refine aops_n hTT (M := []) (n := 11) [pv (77 : Nat) (V.i (okE F)), pv (78 : Nat) (V.b (decide (okE F = (0 : Int)))), pv (79 : Nat) (V.b (decide (okE F = (0 : Int)))), pc (80 : Nat) ((True ∧ True) ∧ ((decide (okE F = (0 : Int)) == true) = true → True)) (V.gd (decide (okE F = (0 : Int)) == true) (V.i (okE G))), pc (81 : Nat) ((((decide (okE F = (0 : Int)) == true) = true → (decide (okE F = (0 : Int)) == true) = true) ∧ True ∧ True) ∧ ((decide (okE F = (0 : Int)) == true) = true → True)) (V.gd (decide (okE F = (0 : Int)) == true) (V.b !decide (okE G = (0 : Int)))), pc (82 : Nat) ((((decide (okE F = (0 : Int)) == true) = true → (decide (okE F = (0 : Int)) == true) = true) ∧ True) ∧ ((decide (okE F = (0 : Int)) == true) = true → True)) (V.gd (decide (okE F = (0 : Int)) == true) (V.b !decide (okE G = (0 : Int)))), pc (83 : Nat) ((True ∧ True) ∧ ((decide (okE F = (0 : Int)) == true && (!decide (okE G = (0 : Int))) == false) = true → True)) (V.gd (decide (okE F = (0 : Int)) == true && (!decide (okE G = (0 : Int))) == false) (V.i (okN G))), pc (84 : Nat) ((True ∧ True) ∧ ((decide (okE F = (0 : Int)) == true && (!decide (okE G = (0 : Int))) == false) = true → True)) (V.gd (decide (okE F = (0 : Int)) == true && (!decide (okE G = (0 : Int))) == false) (V.i (okN F))), pc (85 : Nat) ((((decide (okE F = (0 : Int)) == true && (!decide (okE G = (0 : Int))) == false) = true → (decide (okE F = (0 : Int)) == true && (!decide (okE G = (0 : Int))) == false) = true) ∧ ((decide (okE F = (0 : Int)) == true && (!decide (okE G = (0 : Int))) == false) = true → (decide (okE F = (0 : Int)) == true && (!decide (okE G = (0 : Int))) == false) = true) ∧ True) ∧ ((decide (okE F = (0 : Int)) == true && (!decide (okE G = (0 : Int))) == false) = true → True)) (V.gd (decide (okE F = (0 : Int)) == true && (!decide (okE G = (0 : Int))) == false) (V.b (decide (okN F < okN G)))), pc (86 : Nat) (((decide (okE F = (0 : Int)) == true) = true → (decide (okE F = (0 : Int)) == true) = true) ∧ ((decide (okE F = (0 : Int)) == true) = true → True) ∧ ((decide (okE F = (0 : Int)) == true) = true → (!decide (okE G = (0 : Int))) = false → (decide (okE F = (0 : Int)) == true && (!decide (okE G = (0 : Int))) == false) = true)) (V.gd (decide (okE F = (0 : Int)) == true) (V.b (!decide (okE G = (0 : Int)) || decide (okN F < okN G)))), pc (87 : Nat) ((decide (okE F = (0 : Int)) = true → (decide (okE F = (0 : Int)) == true) = true) ∧ True) (V.b (decide (okE F = (0 : Int)) && (!decide (okE G = (0 : Int)) || decide (okN F < okN G))))] (by kernel_rfl) (by kernel_rfl) ⟨⟨⟨True.intro, True.intro⟩, (fun _ => True.intro)⟩, ⟨⟨(by (exact fun h => h)), ⟨True.intro, True.intro⟩⟩, (fun _ => True.intro)⟩, ⟨⟨(by (exact fun h => h)), True.intro⟩, (fun _ => True.intro)⟩, ⟨⟨True.intro, True.intro⟩, (fun _ => True.intro)⟩, ⟨⟨True.intro, True.intro⟩, (fun _ => True.intro)⟩, ⟨⟨(by (exact fun h => h)), ⟨(by (exact fun h => h)), True.intro⟩⟩, (fun _ => True.intro)⟩, ⟨(by (exact fun h => h)), ⟨(fun _ => True.intro), (by (simp; omega))⟩⟩, ⟨(by (intro h; rw [h]; rfl)), True.intro⟩, True.intro⟩ ?_
  refine aops_nil ?_
  refine xt_n ?_
  refine hK _ ?_
  clear hK K
  refine w_cond (t := decide (okE F = (0 : Int)) && (!decide (okE G = (0 : Int)) || decide (okN F < okN G))) (by kernel_rfl) (fun d1 => ?_) (fun d1 => ?_)
  · exfalso
    simp [okE_iff] at d1
    obtain ⟨h4, d1⟩ := d1
    have e1 : okN F = F := if_pos h4
    have e2 : okN G = G := if_pos (by omega)
    omega
  refine aw_skip ?_
  refine xt_n ?_
  refine hK _ ?_
  clear hK K
  refine aw_seq_k fun K hK => ?_
  refine aw_seq_k fun K hK => ?_
  refine w_region (n' := 8) (by kernel_rfl) (by kernel_rfl) ?_
  refine aops_n hTT (M := []) (n := 3) [pv (88 : Nat) (V.sl (2 : Nat) (List.length l) fun (k : Nat) => [V.i (Prod.fst (gp l k)), V.i (Prod.snd (gp l k))]), pv (89 : Nat) (V.i (↑(List.length l) : Int)), pv (90 : Nat) (V.b (decide ((↑(List.length l) : Int) < (3 : Int))))] (by kernel_rfl) (by kernel_rfl) True.intro ?_
  refine aops_nil ?_
  refine xt_n ?_
  refine hK _ ?_
  clear hK K
  refine w_cond (t := decide ((↑(List.length l) : Int) < (3 : Int))) (by kernel_rfl) (fun d2 => ?_) (fun d2 => ?_)
  · refine aw_seq_k fun K hK => ?_
    refine w_region (n' := 9) (by kernel_rfl) (by kernel_rfl) ?_
    refine e_call (first := []) (caps := []) (gWorks_ac) (by kernel_rfl) (by kernel_rfl) (by kernel_rfl) (by kernel_rfl) (by kernel_rfl) ?_
    refine aops_n hTT (M := []) (n := 1) [pv (10 : Nat) (V.b true)] (by kernel_rfl) (by kernel_rfl) True.intro ?_
    refine aops_nil ?_
    refine xt_n ?_
    refine hK _ ?_
    clear hK K
    refine aw_ret ?_
    refine xt_r ?_
    refine ret_pure (v' := V.b true) (.inr rfl) (by kernel_rfl) (by kernel_rfl) (by kernel_rfl)
  have h3 : 3 ≤ l.length := by simp at d2; omega
  obtain ⟨n, hn⟩ : ∃ n, l.length = n + 2 := ⟨l.length - 2, by omega⟩
  have hpk : ∀ i, gChk ((l.drop i).take 3) = 0 := fun i => part_gE hk
  obtain ⟨Fs, hFs⟩ := pick_ex (p := fun i F => FstOk c ((l.drop i).take 3) per F) (n := n) fun i _ => fstOk_ex _ _ _
  have hFi' : ∀ i, i < n → IsFst (fitB c ((l.drop i).take 3) per) 4194305 (Fs i) := fun i hi => fstOk_get hc (hpk i) hp (hFs i hi)
  obtain ⟨m1, m2⟩ := mM_spec (n := n) (fun i hi => (hFi' i hi).b.1) hFi.b.1 (fun i hi => fst_le hFi (hFi' i hi) fun r hr h => (fit_ok hc hr hp.1).2 (((fit_ok hc hr hp.1).1 h).part _ _))
    (fun x x0 x1 hx => (hFi.iff x0 (by omega)).1 ((fit_ok hc x0 hp.1).2 (GOk.threes h3 fun i hi => (fit_ok hc x0 hp.1).1 (((hFi' i (by omega)).iff x0 (by omega)).2 (hx i (by omega))))))
  refine aw_skip ?_
  refine xt_n ?_
  refine hK _ ?_
  clear hK K
  refine aw_seq_k fun K hK => ?_
  refine w_region (n' := 9) (by kernel_rfl) (by kernel_rfl) ?_
  refine aops_n hTT (M := []) (n := 1) [pv (17 : Nat) (V.i (0 : Int))] (by kernel_rfl) (by kernel_rfl) True.intro ?_
  refine aops_nil ?_
  refine xt_n ?_
  refine hK _ ?_
  clear hK K
  refine aw_seq_k fun K hK => ?_
  refine w_region (n' := 10) (by kernel_rfl) (by kernel_rfl) ?_
  refine aops_n hTT (M := []) (n := 1) [pv (18 : Nat) (V.b false)] (by kernel_rfl) (by kernel_rfl) True.intro ?_
  refine aops_nil ?_
  refine xt_n ?_
  refine hK _ ?_
  clear hK K
  refine aw_seq_k fun K hK => ?_
  refine aw_seq_k fun K hK => ?_
  refine w_region (n' := 11) (by kernel_rfl) (by kernel_rfl) ?_
  refine aops_n hTT (M := []) (n := 1) [pv (19 : Nat) (V.i (0 : Int))] (by kernel_rfl) (by kernel_rfl) True.intro ?_
  refine aops_nil ?_
  refine xt_n ?_
  refine hK _ ?_
  clear hK K
  refine aw_block ?_
  refine w_loop (ι := Nat) (fun k => [(1, V.pts l), (2, .i per), (5, .ptr [.i c.half, .i c.gain, .i c.thin, .i c.wide, .i c.slope, .i c.jerk, .i c.sty]), (13, .i (okN F)), (14, .i (okE F)), (17, .i (mM Fs k)), (18, .b (limB Fs k)), (19, .i k)]) (fun _ => []) (fun k => k ≤ n) (fun k => n - k) 0 (Nat.zero_le _) ?_ ?_
  · refine le_ren [] (.cons (by kernel_rfl) (.cons (by kernel_rfl) (.cons (by kernel_rfl) (.cons (by kernel_rfl) (.cons (by kernel_rfl) (.cons (by kernel_rfl) (.cons (by kernel_rfl) (.cons (by kernel_rfl) .nil)))))))) .nil (by kernel_rfl) (by kernel_rfl)
  intro k hkn
  refine aw_seq_k fun K hK => ?_
  refine aw_seq_k fun K hK => ?_
  refine w_region (n' := 2) (by kernel_rfl) (by kernel_rfl) ?_
  refine aops_n hTT (M := []) (n := 5) [pv (92 : Nat) (V.i (↑k : Int)), pc (93 : Nat) ((-9223372036854775808 : Int) ≤ (↑k : Int) + (3 : Int) ∧ (↑k : Int) + (3 : Int) ≤ (9223372036854775807 : Int)) (V.i ((↑k : Int) + (3 : Int))), pv (94 : Nat) (V.sl (2 : Nat) (List.length l) fun (k : Nat) => [V.i (Prod.fst (gp l k)), V.i (Prod.snd (gp l k))]), pv (95 : Nat) (V.i (↑(List.length l) : Int)), pv (96 : Nat) (V.b (decide ((↑k : Int) + (3 : Int) ≤ (↑(List.length l) : Int))))] (by kernel_rfl) (by kernel_rfl) ⟨(by omega), True.intro⟩ ?_
  refine aops_nil ?_
  refine xt_n ?_
  refine hK _ ?_
  clear hK K
  refine w_cond (t := decide ((↑k : Int) + (3 : Int) ≤ (↑(List.length l) : Int))) (by kernel_rfl) (fun d3 => ?_) (fun d3 => ?_)
  · have h1 : k < n := by simp at d3; omega
    have A3 := Least_ac c ((l.drop k).take 3) per (Fs k) (by rw [List.length_take]; omega) (hFs k h1)
    rw [leastR_ok hc (hpk k) hp] at A3
    refine aw_skip ?_
    refine xt_n ?_
    refine hK _ ?_
    clear hK K
    refine aw_seq_k fun K hK => ?_
    refine aw_block ?_
    refine aw_seq_k fun K hK => ?_
    refine w_regionD (n' := 3) (by kernel_rfl) (by kernel_rfl) ?_
    refine aops_n hTT (M := []) (n := 7) [pv (100 : Nat) (V.agg [V.i (Cut.half c), V.i (Cut.gain c), V.i (Cut.thin c), V.i (Cut.wide c), V.i (Cut.slope c), V.i (Cut.jerk c), V.i (Cut.sty c)]), pv (101 : Nat) (V.sl (2 : Nat) (List.length l) fun (k : Nat) => [V.i (Prod.fst (gp l k)), V.i (Prod.snd (gp l k))]), pv (102 : Nat) (V.i (↑k : Int)), pv (103 : Nat) (V.i (↑k : Int)), pc (104 : Nat) ((-9223372036854775808 : Int) ≤ (↑k : Int) + (3 : Int) ∧ (↑k : Int) + (3 : Int) ≤ (9223372036854775807 : Int)) (V.i ((↑k : Int) + (3 : Int))), pc (105 : Nat) ((0 : Int) ≤ (↑k : Int) ∧ (↑k : Int) ≤ (↑k : Int) + (3 : Int) ∧ (↑k : Int) + (3 : Int) ≤ (↑(List.length l) : Int)) (V.sl (2 : Nat) (k + (3 : Nat) - k) fun (i : Nat) => [V.i (Prod.fst (gp l (i + k))), V.i (Prod.snd (gp l (i + k)))]), pv (106 : Nat) (V.i per)] (by kernel_rfl) (by kernel_rfl) ⟨(by omega), ⟨(by omega), (by omega)⟩, True.intro⟩ ?_
    refine e_call (first := []) (caps := []) (AC.conv (A3) (args' := [V.agg [V.i (Cut.half c), V.i (Cut.gain c), V.i (Cut.thin c), V.i (Cut.wide c), V.i (Cut.slope c), V.i (Cut.jerk c), V.i (Cut.sty c)], V.sl (2 : Nat) (k + (3 : Nat) - k) fun (i : Nat) => [V.i (Prod.fst (gp l (i + k))), V.i (Prod.snd (gp l (i + k)))], V.i per]) ⟨RImp.refl _, ?_, RImp.refl _, trivial⟩) (by kernel_rfl) (by kernel_rfl) (by kernel_rfl) (by kernel_rfl) (by kernel_rfl) ?_
    · refine RImp.rows (by rw [part_len (by omega)]; omega) fun i hi => ?_
      rw [gp_part (by omega), Nat.add_comm k i]
    refine aops_n hTT (M := []) (n := 5) [pv (99 : Nat) (V.tup [V.i (okN (Fs k)), V.i (okE (Fs k))]), pv (108 : Nat) (V.i (okN (Fs k))), pv (109 : Nat) (V.i (okE (Fs k))), pv (20 : Nat) (V.i (okN (Fs k))), pv (21 : Nat) (V.i (okE (Fs k)))] (by kernel_rfl) (by kernel_rfl) True.intro ?_
    refine aops_nil ⟨by kernel_rfl, ?_⟩
    refine xt_n ?_
    refine hK _ ?_
    clear hK K
    refine aw_seq_k fun K hK => ?_
    refine w_region (n' := 4) (by kernel_rfl) (by kernel_rfl) ?_
    refine aops_n hTT (M := []) (n := 6) [pv (110 : Nat) (V.b (limB Fs k)), pv (111 : Nat) (V.b (limB Fs k)), pc (112 : Nat) ((True ∧ True) ∧ ((limB Fs k == false) = true → True)) (V.gd (limB Fs k == false) (V.i (okE (Fs k)))), pc (113 : Nat) ((((limB Fs k == false) = true → (limB Fs k == false) = true) ∧ True ∧ True) ∧ ((limB Fs k == false) = true → True)) (V.gd (limB Fs k == false) (V.b !decide (okE (Fs k) = (0 : Int)))), pc (114 : Nat) (True ∧ (limB Fs k = false → (limB Fs k == false) = true)) (V.b (limB Fs k || !decide (okE (Fs k) = (0 : Int)))), pv (18 : Nat) (V.b (limB Fs k || !decide (okE (Fs k) = (0 : Int))))] (by kernel_rfl) (by kernel_rfl) ⟨⟨⟨True.intro, True.intro⟩, (fun _ => True.intro)⟩, ⟨⟨(by (exact fun h => h)), ⟨True.intro, True.intro⟩⟩, (fun _ => True.intro)⟩, ⟨True.intro, (by (intro h; rw [h]; rfl))⟩, True.intro⟩ ?_
    refine aops_nil ?_
    refine xt_n ?_
    refine hK _ ?_
    clear hK K
    refine w_region (n' := 5) (by kernel_rfl) (by kernel_rfl) ?_
    refine aops_n hTT (M := []) (n := 4) [pv (115 : Nat) (V.i (mM Fs k)), pv (116 : Nat) (V.i (okN (Fs k))), pv (117 : Nat) (V.i (max (mM Fs k) (okN (Fs k)))), pv (17 : Nat) (V.i (max (mM Fs k) (okN (Fs k))))] (by kernel_rfl) (by kernel_rfl) True.intro ?_
    refine aops_nil ?_
    refine xb_n ?_
    refine xt_n ?_
    refine hK _ ?_
    clear hK K
    refine w_region (n' := 6) (by kernel_rfl) (by kernel_rfl) ?_
    refine aops_n hTT (M := []) (n := 3) [pv (97 : Nat) (V.i (↑k : Int)), pc (98 : Nat) ((-9223372036854775808 : Int) ≤ (↑k : Int) + (1 : Int) ∧ (↑k : Int) + (1 : Int) ≤ (9223372036854775807 : Int)) (V.i ((↑k : Int) + (1 : Int))), pv (19 : Nat) (V.i ((↑k : Int) + (1 : Int)))] (by kernel_rfl) (by kernel_rfl) ⟨(by omega), True.intro⟩ ?_
    refine aops_nil ?_
    refine xt_n ?_
    refine ⟨k + 1, by omega, ?_, by omega⟩
    refine le_ren [] (.cons (by kernel_rfl) (.cons (by kernel_rfl) (.cons (by kernel_rfl) (.cons (by kernel_rfl) (.cons (by kernel_rfl) (.cons (by kernel_rfl) (.cons (by kernel_rfl) (.cons (by kernel_rfl) .nil)))))))) .nil (by kernel_rfl) (by kernel_rfl)
  · have h1 : k = n := by simp at d3; omega
    subst h1
    have kk : (limB Fs k == !decide (okE F = 0)) = true := by rw [m1]; simp
    have k2 : limB Fs k = false → mM Fs k = okN F := fun h => by
      rw [m2 h, okN, if_pos]
      rw [m1] at h
      exact okE_iff.1 (by simpa using h)
    refine aw_exit ?_
    refine xt_x ?_
    refine xt_x ?_
    refine xb_same ?_
    refine xt_n ?_
    clear hK K
    refine hK _ ?_
    clear hK K
    refine aw_seq_k fun K hK => ?_
    refine w_region (n' := 3) (by kernel_rfl) (by kernel_rfl) ?_
    refine aops_n hTT (M := []) (n := 13) [pv (118 : Nat) (V.b (limB Fs k)), pv (119 : Nat) (V.i (okE F)), pv (120 : Nat) (V.b !decide (okE F = (0 : Int))), pv (121 : Nat) (V.b (limB Fs k == !decide (okE F = (0 : Int)))), pv (122 : Nat) (V.b (limB Fs k == !decide (okE F = (0 : Int)))), pc (123 : Nat) ((True ∧ True) ∧ (((limB Fs k == !decide (okE F = (0 : Int))) == true) = true → True)) (V.gd ((limB Fs k == !decide (okE F = (0 : Int))) == true) (V.b (limB Fs k))), pc (124 : Nat) (((((limB Fs k == !decide (okE F = (0 : Int))) == true) = true → ((limB Fs k == !decide (okE F = (0 : Int))) == true) = true) ∧ True) ∧ (((limB Fs k == !decide (okE F = (0 : Int))) == true) = true → True)) (V.gd ((limB Fs k == !decide (okE F = (0 : Int))) == true) (V.b (limB Fs k))), pc (125 : Nat) ((True ∧ True) ∧ (((limB Fs k == !decide (okE F = (0 : Int))) == true && limB Fs k == false) = true → True)) (V.gd ((limB Fs k == !decide (okE F = (0 : Int))) == true && limB Fs k == false) (V.i (mM Fs k))), pc (126 : Nat) ((True ∧ True) ∧ (((limB Fs k == !decide (okE F = (0 : Int))) == true && limB Fs k == false) = true → True)) (V.gd ((limB Fs k == !decide (okE F = (0 : Int))) == true && limB Fs k == false) (V.i (okN F))), pc (127 : Nat) (((((limB Fs k == !decide (okE F = (0 : Int))) == true && limB Fs k == false) = true → ((limB Fs k == !decide (okE F = (0 : Int))) == true && limB Fs k == false) = true) ∧ (((limB Fs k == !decide (okE F = (0 : Int))) == true && limB Fs k == false) = true → ((limB Fs k == !decide (okE F = (0 : Int))) == true && limB Fs k == false) = true) ∧ True) ∧ (((limB Fs k == !decide (okE F = (0 : Int))) == true && limB Fs k == false) = true → True)) (V.gd ((limB Fs k == !decide (okE F = (0 : Int))) == true && limB Fs k == false) (V.b (decide (mM Fs k = okN F)))), pc (128 : Nat) ((((limB Fs k == !decide (okE F = (0 : Int))) == true) = true → ((limB Fs k == !decide (okE F = (0 : Int))) == true) = true) ∧ (((limB Fs k == !decide (okE F = (0 : Int))) == true) = true → True) ∧ (((limB Fs k == !decide (okE F = (0 : Int))) == true) = true → limB Fs k = false → ((limB Fs k == !decide (okE F = (0 : Int))) == true && limB Fs k == false) = true)) (V.gd ((limB Fs k == !decide (okE F = (0 : Int))) == true) (V.b (limB Fs k || decide (mM Fs k = okN F)))), pc (129 : Nat) (((limB Fs k == !decide (okE F = (0 : Int))) = true → ((limB Fs k == !decide (okE F = (0 : Int))) == true) = true) ∧ True) (V.b (limB Fs k == !decide (okE F = (0 : Int)) && (limB Fs k || decide (mM Fs k = okN F)))), pv (130 : Nat) (V.b (limB Fs k == !decide (okE F = (0 : Int)) && (limB Fs k || decide (mM Fs k = okN F))))] (by kernel_rfl) (by kernel_rfl) ⟨⟨⟨True.intro, True.intro⟩, (fun _ => True.intro)⟩, ⟨⟨(by (exact fun h => h)), True.intro⟩, (fun _ => True.intro)⟩, ⟨⟨True.intro, True.intro⟩, (fun _ => True.intro)⟩, ⟨⟨True.intro, True.intro⟩, (fun _ => True.intro)⟩, ⟨⟨(by (exact fun h => h)), ⟨(by (exact fun h => h)), True.intro⟩⟩, (fun _ => True.intro)⟩, ⟨(by (exact fun h => h)), ⟨(fun _ => True.intro), (by (intro h; simp_all; done))⟩⟩, ⟨(by (intro h; rw [h]; rfl)), True.intro⟩, True.intro⟩ ?_
    refine e_callG 0 (g := (limB Fs k == !decide (okE F = (0 : Int)) && (limB Fs k || decide (mM Fs k = okN F))) == true) (first := []) (caps := []) (by kernel_rfl) (fun h => gWorks_ac) (by kernel_rfl) (by kernel_rfl) (by kernel_rfl) (by kernel_rfl) (by kernel_rfl) (by kernel_rfl) ?_
    refine aops_n hTT (M := []) (n := 2) [pc (132 : Nat) (((limB Fs k == !decide (okE F = (0 : Int)) && (limB Fs k || decide (mM Fs k = okN F))) = true → ((limB Fs k == !decide (okE F = (0 : Int)) && (limB Fs k || decide (mM Fs k = okN F))) == true) = true) ∧ True) (V.b (limB Fs k == !decide (okE F = (0 : Int)) && (limB Fs k || decide (mM Fs k = okN F)) && true)), pv (10 : Nat) (V.b (limB Fs k == !decide (okE F = (0 : Int)) && (limB Fs k || decide (mM Fs k = okN F)) && true))] (by kernel_rfl) (by kernel_rfl) ⟨⟨(by (intro h; rw [h]; rfl)), True.intro⟩, True.intro⟩ ?_
    refine aops_nil ?_
    refine xt_n ?_
    refine hK _ ?_
    clear hK K
    refine aw_ret ?_
    refine ret_pure (v' := V.b (limB Fs k == !decide (okE F = (0 : Int)) && (limB Fs k || decide (mM Fs k = okN F)) && true)) (.inr rfl) (by kernel_rfl) ?_ (by kernel_rfl)
    refine vb ?_
    rw [kk]
    cases hh : limB Fs k with
    | true => simp
    | false => simp [k2 hh]
def partsSh : List Sh := [(.fld (.int .i64) (.fld (.int .i64) (.fld (.int .i64) (.fld (.int .i64) (.fld (.int .i64) (.fld (.int .i64) (.lst (.int .i64)))))))), (.sl (.fld (.int .i64) (.lst (.int .i64)))), (.int .i64), (.int .u8), (.int .u8)]
theorem parts_all (x : TL partsSh) (hx : wfL partsSh x) : AC Try.prog 5 (valL partsSh x) (V.b true) [] := by
  obtain ⟨⟨h, g, th, wi, sl, je, st⟩, l, per, a, b, _⟩ := x
  obtain ⟨_, ⟨h4, _⟩, _, h5, h6, _⟩ := hx
  exact parts_law ⟨h, g, th, wi, sl, je, st⟩ l per a b h4 (wf_u8 h5) (wf_u8 h6)
end Go.Proofs.Ytjjlgegccfolpaa
