/-
  Least radii: the walks of both copies. Conditions: told in each theorem.
-/
import Derived.Test.YtjjlgegccfolpaaGA8
namespace Go.Proofs.Ytjjlgegccfolpaa
open Go.Ab Go.RowKit Go.Dw Go.Shelf

/-! ### farther out no rule is broken that is not broken -/
theorem gRule_zero {c : Cut} {l : List Pt} {r per : Int} {i : Nat} : gRule c l r per i = 0 ↔ ∀ k, 1 ≤ k → k ≤ 5 → ruleB c r per (nb l i) (gp l i) (na l i) k = false := by
  constructor
  · intro h k h1 h5
    cases hk : ruleB c r per (nb l i) (gp l i) (na l i) k with
    | false => rfl
    | true =>
      exfalso
      obtain ⟨m, ⟨m1, m2⟩, m3, m4⟩ : ∃ m : Nat, (1 ≤ m ∧ m ≤ 5) ∧ ruleB c r per (nb l i) (gp l i) (na l i) m = true ∧ ∀ j, 1 ≤ j → j < m → ruleB c r per (nb l i) (gp l i) (na l i) j = false := by
        have ex : ∃ m : Nat, (1 ≤ m ∧ m ≤ 5) ∧ ruleB c r per (nb l i) (gp l i) (na l i) m = true := ⟨k, ⟨h1, h5⟩, hk⟩
        obtain ⟨m, hm, hl⟩ := least _ ex
        refine ⟨m, hm.1, hm.2, fun j a b => ?_⟩
        cases hj : ruleB c r per (nb l i) (gp l i) (na l i) j with
        | false => rfl
        | true => have := hl j ⟨⟨a, by omega⟩, hj⟩; omega
      rw [gRule, ruleP_at m1 m2 m4 m3] at h
      omega
  · intro h
    exact ruleP_no h
theorem gArc_mono {r r' per : Int} (hr : 0 ≤ r) (h : r ≤ r') (hp : 1 ≤ per) : gArc r per ≤ gArc r' per := by
  unfold gArc
  have h1 : 0 ≤ 710 * r * (710 * r) := Int.mul_nonneg (by omega) (by omega)
  have h2 : 710 * r * (710 * r) ≤ 710 * r' * (710 * r') := Int.mul_le_mul (by omega) (by omega) (by omega) (by omega)
  rw [Int.tdiv_eq_ediv_of_nonneg h1, Int.tdiv_eq_ediv_of_nonneg (by omega)]
  have h3 : 0 < 113 * per * (113 * per) := Int.mul_pos (by omega) (by omega)
  exact Int.ediv_le_ediv h3 h2
theorem ruleB_mono {c : Cut} {r r' per : Int} {b : Option Pt} {h : Pt} {a : Option Pt} {k : Nat} (hc : cutE c = 0) (hr : 0 ≤ r) (hrr : r ≤ r') (hp : 1 ≤ per) (h1 : ruleB c r per b h a k = false) : ruleB c r' per b h a k = false := by
  obtain ⟨c1, c2, c3, c4, c5, c6, c7⟩ := cutE_ok.1 hc
  have m1 : 710 * r * c.slope ≤ 710 * r' * c.slope := Int.mul_le_mul_of_nonneg_right (by omega) c5.1
  have m2 := gArc_mono hr hrr hp
  unfold ruleB at h1 ⊢
  split at h1 <;> rename_i e
  · exact h1
  · exact h1
  · simp only [steepB, decide_eq_false_iff_not] at h1 ⊢; omega
  · exact h1
  · simp only [sharpB, decide_eq_false_iff_not] at h1 ⊢; omega
theorem gRule_mono {c : Cut} {l : List Pt} {r r' per : Int} {i : Nat} (hc : cutE c = 0) (hr : 0 ≤ r) (hrr : r ≤ r') (hp : 1 ≤ per) (h : gRule c l r per i = 0) : gRule c l r' per i = 0 :=
  gRule_zero.2 fun k h1 h5 => ruleB_mono hc hr hrr hp (gRule_zero.1 h k h1 h5)
theorem fitB_iff {c : Cut} {l : List Pt} {per r : Int} : fitB c l per r = true ↔ ∀ i, i < l.length → gRule c l r per i = 0 := by
  unfold fitB
  rw [decide_eq_true_eq]
  constructor
  · intro h
    cases hf : faultN c l r per with
    | none => exact faultN_none.1 hf
    | some i =>
      rw [faultR, hf] at h
      have := (faultN_some.1 hf).2.1
      simp only at h
      omega
  · intro h
    rw [faultR_none h]
theorem fit_fst {c : Cut} (l : List Pt) {per : Int} (hc : cutE c = 0) (hp : 1 ≤ per) : ∃ F, IsFst (fitB c l per) 4194305 F :=
  fst_exists (by decide) fun m n h0 hmn _ hm => fitB_iff.2 fun i hi => gRule_mono hc h0 hmn hp (fitB_iff.1 hm i hi)
/-- the least radius, by the number from which on there is no fault -/
def leastR (c : Cut) (l : List Pt) (per F : Int) : Int × Int :=
  if gErr c l = 0 then (if turnE per = 0 then (if F ≤ 4194304 then (F, 0) else (0, 14)) else (0, 3)) else (0, gErr c l)
theorem leastR_1 {c : Cut} {l : List Pt} {per F : Int} (h : ¬ gErr c l = 0) : leastR c l per F = (0, gErr c l) := by rw [leastR, if_neg h]
theorem leastR_2 {c : Cut} {l : List Pt} {per F : Int} (h : gErr c l = 0) (h2 : ¬ turnE per = 0) : leastR c l per F = (0, 3) := by rw [leastR, if_pos h, if_neg h2]
theorem leastR_3 {c : Cut} {l : List Pt} {per F : Int} (h : gErr c l = 0) (h2 : turnE per = 0) : leastR c l per F = (if F ≤ 4194304 then F else 0, if F ≤ 4194304 then 0 else 14) := by
  rw [leastR, if_pos h, if_pos h2]; split <;> rfl
theorem plcE_0 (per : Int) : plcE 0 per = turnE per := by
  rw [plcE_turn, if_pos (by decide)]
/-- the number is the right one where there is one -/
def FstOk (c : Cut) (l : List Pt) (per F : Int) : Prop := gErr c l = 0 → turnE per = 0 → IsFst (fitB c l per) 4194305 F
set_option maxRecDepth 100000 in
theorem Least_ac (c : Cut) (l : List Pt) (per F : Int) (hl : l.length ≤ 4611686018427387904) (hF' : FstOk c l per F) : AC Try.prog 21 [c.v, V.pts l, .i per] (.tup [.i (leastR c l per F).1, .i (leastR c l per F).2]) [] := by
  have P0 := checkPlace_ac 0 per
  rw [plcE_0] at P0
  refine ac_intro hTT hMX (fn := Try.f21) (N := _) ⟨Try.func21, rfl, Try.ntmps21, by kernel_rfl⟩ (by simp) fun C hC hF => ?_
  by_cases h : gErr c l = 0
  · obtain ⟨q1, q2⟩ := gErr_ok h
    refine aw_seq_k fun K hK => ?_
    refine w_region (n' := 2) (by kernel_rfl) (by kernel_rfl) ?_
    refine aops_n hTT (M := []) (n := 3) [pv (3 : Nat) (V.ptr [V.i (Cut.half c), V.i (Cut.gain c), V.i (Cut.thin c), V.i (Cut.wide c), V.i (Cut.slope c), V.i (Cut.jerk c), V.i (Cut.sty c)]), pv (6 : Nat) (V.i (0 : Int)), pv (7 : Nat) (V.i (0 : Int))] (by kernel_rfl) (by kernel_rfl) True.intro ?_
    refine aops_nil ?_
    refine xt_n ?_
    refine hK _ ?_
    clear hK K
    refine aw_seq_k fun K hK => ?_
    refine w_region (n' := 3) (by kernel_rfl) (by kernel_rfl) ?_
    refine aops_n hTT (M := []) (n := 2) [pv (11 : Nat) (V.agg [V.i (Cut.half c), V.i (Cut.gain c), V.i (Cut.thin c), V.i (Cut.wide c), V.i (Cut.slope c), V.i (Cut.jerk c), V.i (Cut.sty c)]), pv (12 : Nat) (V.sl (2 : Nat) (List.length l) fun (k : Nat) => [V.i (Prod.fst (gp l k)), V.i (Prod.snd (gp l k))])] (by kernel_rfl) (by kernel_rfl) True.intro ?_
    refine e_callO (first := []) (caps := []) (k := 200013) (v' := V.tup [V.ref (200013 : Nat) (0 : Nat), V.i (0 : Int)]) (ob' := Ob.box (90 : Nat) [V.i (Cut.half c), V.i (Cut.gain c), V.i (Cut.thin c), V.i (Cut.wide c), V.i (Cut.slope c), V.i (Cut.jerk c), V.i (Cut.sty c), V.sl (2 : Nat) (List.length l) fun (k : Nat) => [V.i (Prod.fst (gp l k)), V.i (Prod.snd (gp l k))], V.i (0 : Int), V.i (0 : Int)]) (newTrack_ok c l hl h) (by kernel_rfl) (by kernel_rfl) (by kernel_rfl) (by kernel_rfl) (by kernel_rfl) (by kernel_rfl) (by kernel_rfl) ?_
    refine aops_n hTT (M := []) (n := 6) [pv (10 : Nat) (V.tup [V.ref (200013 : Nat) (0 : Nat), V.i (0 : Int)]), pv (14 : Nat) (V.ref (200013 : Nat) (0 : Nat)), pv (15 : Nat) (V.i (0 : Int)), pn (8 : Nat) (V.ref (200008 : Nat) (0 : Nat)) (200008 : Nat) (Ob.box (73 : Nat) [V.c (Value.pointer none)]), pw ((0 : Nat) + (1 : Nat) ≤ (1 : Nat)) (200008 : Nat) (Ob.box (73 : Nat) [V.ref (200013 : Nat) (0 : Nat)]), pv (9 : Nat) (V.i (0 : Int))] (by kernel_rfl) (by kernel_rfl) ⟨(by omega), True.intro⟩ ?_
    refine aops_nil ?_
    refine xt_n ?_
    refine hK _ ?_
    clear hK K
    refine aw_seq_k fun K hK => ?_
    refine aw_seq_k fun K hK => ?_
    refine w_region (n' := 4) (by kernel_rfl) (by kernel_rfl) ?_
    refine aops_n hTT (M := []) (n := 2) [pv (16 : Nat) (V.i (0 : Int)), pv (17 : Nat) (V.b true)] (by kernel_rfl) (by kernel_rfl) True.intro ?_
    refine aops_nil ?_
    refine xt_n ?_
    refine hK _ ?_
    clear hK K
    refine w_true (t := true) (by kernel_rfl) rfl ?_
    refine w_region (n' := 5) (by kernel_rfl) (by kernel_rfl) ?_
    refine aops_n hTT (M := []) (n := 1) [pv (18 : Nat) (V.i per)] (by kernel_rfl) (by kernel_rfl) True.intro ?_
    refine e_call (first := []) (caps := []) (P0) (by kernel_rfl) (by kernel_rfl) (by kernel_rfl) (by kernel_rfl) (by kernel_rfl) ?_
    refine aops_n hTT (M := []) (n := 1) [pv (9 : Nat) (V.i (turnE per))] (by kernel_rfl) (by kernel_rfl) True.intro ?_
    refine aops_nil ?_
    refine xt_n ?_
    refine hK _ ?_
    clear hK K
    refine aw_seq_k fun K hK => ?_
    refine aw_seq_k fun K hK => ?_
    refine w_region (n' := 6) (by kernel_rfl) (by kernel_rfl) ?_
    refine aops_n hTT (M := []) (n := 2) [pv (20 : Nat) (V.i (turnE per)), pv (21 : Nat) (V.b !decide (turnE per = (0 : Int)))] (by kernel_rfl) (by kernel_rfl) True.intro ?_
    refine aops_nil ?_
    refine xt_n ?_
    refine hK _ ?_
    clear hK K
    refine w_cond (t := !decide (turnE per = (0 : Int))) (by kernel_rfl) (fun c1 => ?_) (fun c1 => ?_)
    · have h2 : ¬ turnE per = 0 := by simpa using c1
      refine aw_seq_k fun K hK => ?_
      refine w_region (n' := 7) (by kernel_rfl) (by kernel_rfl) ?_
      refine aops_n hTT (M := []) (n := 3) [pv (22 : Nat) (V.i (turnE per)), pv (6 : Nat) (V.i (0 : Int)), pv (7 : Nat) (V.i (turnE per))] (by kernel_rfl) (by kernel_rfl) True.intro ?_
      refine aops_nil ?_
      refine xt_n ?_
      refine hK _ ?_
      clear hK K
      refine aw_ret ?_
      refine xt_r ?_
      rw [leastR_2 h h2, (turnE_or per).resolve_left h2]
      refine ret_pure (v' := V.tup [V.i (0 : Int), V.i (3 : Int)]) (.inr rfl) (by kernel_rfl) (by kernel_rfl) (by kernel_rfl)
    · have h2 : turnE per = 0 := by simpa using c1
      refine aw_skip ?_
      refine xt_n ?_
      refine hK _ ?_
      clear hK K
      refine aw_seq_k fun K hK => ?_
      refine w_region (n' := 7) (by kernel_rfl) (by kernel_rfl) ?_
      refine aops_n hTT (M := []) (n := 3) [pc (23 : Nat) ((0 : Nat) ≤ (1 : Nat)) (V.ref (200013 : Nat) (0 : Nat)), pv (24 : Nat) (V.i per), pv (25 : Nat) (V.fn (Fn.func (50 : Nat)) [] [V.ref (200008 : Nat) (0 : Nat)])] (by kernel_rfl) (by kernel_rfl) ⟨(by omega), True.intro⟩ ?_
      refine aops_callM [200013, 200008] (first := []) (caps := []) (ins' := [Ob.box (90 : Nat) [V.i (Cut.half c), V.i (Cut.gain c), V.i (Cut.thin c), V.i (Cut.wide c), V.i (Cut.slope c), V.i (Cut.jerk c), V.i (Cut.sty c), V.sl (2 : Nat) (List.length l) fun (k : Nat) => [V.i (Prod.fst (gp l k)), V.i (Prod.snd (gp l k))], V.i (0 : Int), V.i (0 : Int)], Ob.box (73 : Nat) [V.ref (200013 : Nat) (0 : Nat)]]) (v' := V.tup [V.i (if F ≤ (4194304 : Int) then F else (0 : Int)), V.i (if F ≤ (4194304 : Int) then (0 : Int) else (14 : Int))]) (δ := [(200013, Option.none), (200008, Option.none)]) (kp := [200013, 200008]) (leastIL_am c l 0 0 per F q1 q2 (turnE_ok.1 h2) (hF' h h2)) (by kernel_rfl) (by kernel_rfl) (by kernel_rfl) (by kernel_rfl) (by kernel_rfl) (by kernel_rfl) rfl rfl (by kernel_rfl) (.box (by kernel_rfl) (by kernel_rfl) (.box (by kernel_rfl) (by kernel_rfl) .nil)) (by kernel_rfl) (by kernel_rfl) (by kernel_rfl) ?_
      refine aops_n hTT (M := []) (n := 4) [pv (27 : Nat) (V.i (if F ≤ (4194304 : Int) then F else (0 : Int))), pv (28 : Nat) (V.i (if F ≤ (4194304 : Int) then (0 : Int) else (14 : Int))), pv (6 : Nat) (V.i (if F ≤ (4194304 : Int) then F else (0 : Int))), pv (7 : Nat) (V.i (if F ≤ (4194304 : Int) then (0 : Int) else (14 : Int)))] (by kernel_rfl) (by kernel_rfl) True.intro ?_
      refine aops_nil ?_
      refine xt_n ?_
      refine hK _ ?_
      clear hK K
      refine aw_ret ?_
      rw [leastR_3 h h2]
      refine ret_pure (v' := V.tup [V.i (if F ≤ (4194304 : Int) then F else (0 : Int)), V.i (if F ≤ (4194304 : Int) then (0 : Int) else (14 : Int))]) (.inr rfl) (by kernel_rfl) (by kernel_rfl) (by kernel_rfl)
  · refine aw_seq_k fun K hK => ?_
    refine w_region (n' := 2) (by kernel_rfl) (by kernel_rfl) ?_
    refine aops_n hTT (M := []) (n := 3) [pv (3 : Nat) (V.ptr [V.i (Cut.half c), V.i (Cut.gain c), V.i (Cut.thin c), V.i (Cut.wide c), V.i (Cut.slope c), V.i (Cut.jerk c), V.i (Cut.sty c)]), pv (6 : Nat) (V.i (0 : Int)), pv (7 : Nat) (V.i (0 : Int))] (by kernel_rfl) (by kernel_rfl) True.intro ?_
    refine aops_nil ?_
    refine xt_n ?_
    refine hK _ ?_
    clear hK K
    refine aw_seq_k fun K hK => ?_
    refine w_region (n' := 3) (by kernel_rfl) (by kernel_rfl) ?_
    refine aops_n hTT (M := []) (n := 2) [pv (11 : Nat) (V.agg [V.i (Cut.half c), V.i (Cut.gain c), V.i (Cut.thin c), V.i (Cut.wide c), V.i (Cut.slope c), V.i (Cut.jerk c), V.i (Cut.sty c)]), pv (12 : Nat) (V.sl (2 : Nat) (List.length l) fun (k : Nat) => [V.i (Prod.fst (gp l k)), V.i (Prod.snd (gp l k))])] (by kernel_rfl) (by kernel_rfl) True.intro ?_
    refine e_call (first := []) (caps := []) (newTrack_no c l hl h) (by kernel_rfl) (by kernel_rfl) (by kernel_rfl) (by kernel_rfl) (by kernel_rfl) ?_
    refine aops_n hTT (M := []) (n := 6) [pv (10 : Nat) (V.tup [V.c (Value.pointer none), V.i (gErr c l)]), pv (14 : Nat) (V.c (Value.pointer none)), pv (15 : Nat) (V.i (gErr c l)), pn (8 : Nat) (V.ref (200008 : Nat) (0 : Nat)) (200008 : Nat) (Ob.box (73 : Nat) [V.c (Value.pointer none)]), pw ((0 : Nat) + (1 : Nat) ≤ (1 : Nat)) (200008 : Nat) (Ob.box (73 : Nat) [V.c (Value.pointer none)]), pv (9 : Nat) (V.i (gErr c l))] (by kernel_rfl) (by kernel_rfl) ⟨(by omega), True.intro⟩ ?_
    refine aops_nil ?_
    refine xt_n ?_
    refine hK _ ?_
    clear hK K
    refine aw_seq_k fun K hK => ?_
    refine aw_seq_k fun K hK => ?_
    refine w_region (n' := 4) (by kernel_rfl) (by kernel_rfl) ?_
    refine aops_n hTT (M := []) (n := 2) [pv (16 : Nat) (V.i (gErr c l)), pv (17 : Nat) (V.b (decide (gErr c l = (0 : Int))))] (by kernel_rfl) (by kernel_rfl) True.intro ?_
    refine aops_nil ?_
    refine xt_n ?_
    refine hK _ ?_
    clear hK K
    refine w_cond (t := decide (gErr c l = (0 : Int))) (by kernel_rfl) (fun c1 => ?_) (fun c1 => ?_)
    · simp at c1
      exact absurd c1 h
    refine aw_skip ?_
    refine xt_n ?_
    refine hK _ ?_
    clear hK K
    refine aw_seq_k fun K hK => ?_
    refine aw_seq_k fun K hK => ?_
    refine w_region (n' := 5) (by kernel_rfl) (by kernel_rfl) ?_
    refine aops_n hTT (M := []) (n := 2) [pv (20 : Nat) (V.i (gErr c l)), pv (21 : Nat) (V.b !decide (gErr c l = (0 : Int)))] (by kernel_rfl) (by kernel_rfl) True.intro ?_
    refine aops_nil ?_
    refine xt_n ?_
    refine hK _ ?_
    clear hK K
    refine w_cond (t := !decide (gErr c l = (0 : Int))) (by kernel_rfl) (fun c1 => ?_) (fun c1 => ?_)
    · refine aw_seq_k fun K hK => ?_
      refine w_region (n' := 6) (by kernel_rfl) (by kernel_rfl) ?_
      refine aops_n hTT (M := []) (n := 3) [pv (22 : Nat) (V.i (gErr c l)), pv (6 : Nat) (V.i (0 : Int)), pv (7 : Nat) (V.i (gErr c l))] (by kernel_rfl) (by kernel_rfl) True.intro ?_
      refine aops_nil ?_
      refine xt_n ?_
      refine hK _ ?_
      clear hK K
      refine aw_ret ?_
      refine xt_r ?_
      rw [leastR_1 h]
      refine ret_pure (v' := V.tup [V.i (0 : Int), V.i (gErr c l)]) (.inr rfl) (by kernel_rfl) (by kernel_rfl) (by kernel_rfl)
    · simp at c1
      exact absurd c1 h
end Go.Proofs.Ytjjlgegccfolpaa
