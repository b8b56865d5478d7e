/-
  GrooveFits: the walk of the law. No condition.
-/
import Derived.Test.YtjjlgegccfolpaaGPl4
import Derived.Test.YtjjlgegccfolpaaMC
namespace Go.Proofs.Ytjjlgegccfolpaa
open Go.Ab Go.RowKit Go.Dw Go.Shelf

theorem fits_need {c : Cut} {l : List Pt} {per r : Int} : fitB c l per r = true ↔ ∀ i, i < l.length → needB c l per i r = true := by
  rw [fitB_iff]
  constructor
  · intro h i hi; rw [needB, h i hi]; rfl
  · intro h i hi
    have := h i hi
    rw [needB] at this
    exact of_decide_eq_true this
/-- a fault has an index and a rule -/
theorem fault_at {c : Cut} {l : List Pt} {r per : Int} (h : fitB c l per r = false) : ∃ i : Nat, i < l.length ∧ faultR c l r per = ((i : Int), gRule c l r per i) ∧ 1 ≤ gRule c l r per i ∧ gRule c l r per i ≤ 5 := by
  cases hf : faultN c l r per with
  | none =>
    have : fitB c l per r = true := fitB_iff.2 (faultN_none.1 hf)
    rw [h] at this; cases this
  | some i =>
    obtain ⟨h1, h2, h3⟩ := faultN_some.1 hf
    exact ⟨i, h1, faultR_some h1 h2 h3, by omega, (gRule_bd c l r per i).2⟩
theorem FaultV_fit {c : Cut} {l : List Pt} {r per : Int} (h1 : cutE c = 0) (h2 : gChk l = 0) (hp : Plc r per) (h : fitB c l per r = true) : FaultV c l r per = (0, 0, 5) :=
  FaultV_3 (by rw [gErr_2 h1]; exact h2) (plcE_ok.2 hp) (by rw [fitB, decide_eq_true_eq] at h; exact h)
theorem FaultV_not {c : Cut} {l : List Pt} {r per : Int} (h1 : cutE c = 0) (h2 : gChk l = 0) (hp : Plc r per) (h : fitB c l per r = false) : ∃ i : Nat, i < l.length ∧ FaultV c l r per = ((i : Int), gRule c l r per i, 0) ∧ 1 ≤ gRule c l r per i ∧ gRule c l r per i ≤ 5 := by
  obtain ⟨i, a, b, d, e⟩ := fault_at h
  refine ⟨i, a, ?_, d, e⟩
  rw [FaultV_4 (by rw [gErr_2 h1]; exact h2) (plcE_ok.2 hp) (by rw [b]; show ¬ gRule c l r per i = 0; omega), b]
/-- what a greater radius helps is too steep or too sharp -/
theorem rule_helped {c : Cut} {l : List Pt} {r r' per : Int} {i : Nat} (h : gRule c l r' per i = 0) (h2 : 1 ≤ gRule c l r per i) : gRule c l r per i = 3 ∨ gRule c l r per i = 5 := by
  have q := gRule_zero.1 h
  have q1 := q 1 (by decide) (by decide)
  have q2 := q 2 (by decide) (by decide)
  have q4 := q 4 (by decide) (by decide)
  simp only [ruleB] at q1 q2 q4
  unfold gRule ruleP at h2 ⊢
  rw [q1, q2, q4] at h2 ⊢
  simp only [Bool.false_eq_true, if_false] at h2 ⊢
  split
  · exact .inl rfl
  · rename_i h3
    rw [if_neg h3] at h2
    split
    · exact .inr rfl
    · rename_i h5
      rw [if_neg h5] at h2
      omega
set_option maxHeartbeats 4000000 in
set_option maxRecDepth 100000 in
theorem fits_law (c : Cut) (l : List Pt) (per r : Int) (hl : l.length ≤ 4611686018427387904) : AC Try.prog 11 [c.v, V.pts l, .i per, .i r] (.b true) [] := by
  refine ac_intro hTT hMX (fn := Try.f11) (N := _) ⟨Try.func11, rfl, Try.ntmps11, by kernel_rfl⟩ (by simp) fun C hC hF => ?_
  refine aw_seq_k fun K hK => ?_
  refine w_region (n' := 2) (by kernel_rfl) (by kernel_rfl) ?_
  refine aops_n hTT (M := []) (n := 2) [pv (4 : Nat) (V.ptr [V.i (Cut.half c), V.i (Cut.gain c), V.i (Cut.thin c), V.i (Cut.wide c), V.i (Cut.slope c), V.i (Cut.jerk c), V.i (Cut.sty c)]), pv (8 : Nat) (V.b false)] (by kernel_rfl) (by kernel_rfl) True.intro ?_
  refine aops_nil ?_
  refine xt_n ?_
  refine hK _ ?_
  clear hK K
  refine aw_seq_k fun K hK => ?_
  refine aw_seq_k fun K hK => ?_
  refine w_region (n' := 3) (by kernel_rfl) (by kernel_rfl) ?_
  refine aops_n hTT (M := []) (n := 21) [pv (25 : Nat) (V.sl (2 : Nat) (List.length l) fun (k : Nat) => [V.i (Prod.fst (gp l k)), V.i (Prod.snd (gp l k))]), pv (26 : Nat) (V.i (↑(List.length l) : Int)), pv (27 : Nat) (V.b (decide ((60 : Int) < (↑(List.length l) : Int)))), pv (28 : Nat) (V.b (decide ((60 : Int) < (↑(List.length l) : Int)))), pc (29 : Nat) ((True ∧ True) ∧ ((decide ((60 : Int) < (↑(List.length l) : Int)) == false) = true → True)) (V.gd (decide ((60 : Int) < (↑(List.length l) : Int)) == false) (V.i r)), pc (30 : Nat) ((((decide ((60 : Int) < (↑(List.length l) : Int)) == false) = true → (decide ((60 : Int) < (↑(List.length l) : Int)) == false) = true) ∧ True ∧ True) ∧ ((decide ((60 : Int) < (↑(List.length l) : Int)) == false) = true → True)) (V.gd (decide ((60 : Int) < (↑(List.length l) : Int)) == false) (V.b (decide (r < (0 : Int))))), pc (31 : Nat) (True ∧ (decide ((60 : Int) < (↑(List.length l) : Int)) = false → (decide ((60 : Int) < (↑(List.length l) : Int)) == false) = true)) (V.b (decide ((60 : Int) < (↑(List.length l) : Int)) || decide (r < (0 : Int)))), pv (32 : Nat) (V.b (decide ((60 : Int) < (↑(List.length l) : Int)) || decide (r < (0 : Int)))), pc (33 : Nat) ((True ∧ True) ∧ (((decide ((60 : Int) < (↑(List.length l) : Int)) || decide (r < (0 : Int))) == false) = true → True)) (V.gd ((decide ((60 : Int) < (↑(List.length l) : Int)) || decide (r < (0 : Int))) == false) (V.i r)), pc (34 : Nat) (((((decide ((60 : Int) < (↑(List.length l) : Int)) || decide (r < (0 : Int))) == false) = true → ((decide ((60 : Int) < (↑(List.length l) : Int)) || decide (r < (0 : Int))) == false) = true) ∧ True ∧ True) ∧ (((decide ((60 : Int) < (↑(List.length l) : Int)) || decide (r < (0 : Int))) == false) = true → True)) (V.gd ((decide ((60 : Int) < (↑(List.length l) : Int)) || decide (r < (0 : Int))) == false) (V.b (decide ((4194304 : Int) < r)))), pc (35 : Nat) (True ∧ ((decide ((60 : Int) < (↑(List.length l) : Int)) || decide (r < (0 : Int))) = false → ((decide ((60 : Int) < (↑(List.length l) : Int)) || decide (r < (0 : Int))) == false) = true)) (V.b (decide ((60 : Int) < (↑(List.length l) : Int)) || decide (r < (0 : Int)) || decide ((4194304 : Int) < r))), pv (36 : Nat) (V.b (decide ((60 : Int) < (↑(List.length l) : Int)) || decide (r < (0 : Int)) || decide ((4194304 : Int) < r))), pc (37 : Nat) ((True ∧ True) ∧ (((decide ((60 : Int) < (↑(List.length l) : Int)) || decide (r < (0 : Int)) || decide ((4194304 : Int) < r)) == false) = true → True)) (V.gd ((decide ((60 : Int) < (↑(List.length l) : Int)) || decide (r < (0 : Int)) || decide ((4194304 : Int) < r)) == false) (V.i per)), pc (38 : Nat) (((((decide ((60 : Int) < (↑(List.length l) : Int)) || decide (r < (0 : Int)) || decide ((4194304 : Int) < r)) == false) = true → ((decide ((60 : Int) < (↑(List.length l) : Int)) || decide (r < (0 : Int)) || decide ((4194304 : Int) < r)) == false) = true) ∧ True ∧ True) ∧ (((decide ((60 : Int) < (↑(List.length l) : Int)) || decide (r < (0 : Int)) || decide ((4194304 : Int) < r)) == false) = true → True)) (V.gd ((decide ((60 : Int) < (↑(List.length l) : Int)) || decide (r < (0 : Int)) || decide ((4194304 : Int) < r)) == false) (V.b (decide (per < (1 : Int))))), pc (39 : Nat) (True ∧ ((decide ((60 : Int) < (↑(List.length l) : Int)) || decide (r < (0 : Int)) || decide ((4194304 : Int) < r)) = false → ((decide ((60 : Int) < (↑(List.length l) : Int)) || decide (r < (0 : Int)) || decide ((4194304 : Int) < r)) == false) = true)) (V.b (decide ((60 : Int) < (↑(List.length l) : Int)) || decide (r < (0 : Int)) || decide ((4194304 : Int) < r) || decide (per < (1 : Int)))), pv (40 : Nat) (V.b (decide ((60 : Int) < (↑(List.length l) : Int)) || decide (r < (0 : Int)) || decide ((4194304 : Int) < r) || decide (per < (1 : Int)))), pc (41 : Nat) ((True ∧ True) ∧ (((decide ((60 : Int) < (↑(List.length l) : Int)) || decide (r < (0 : Int)) || decide ((4194304 : Int) < r) || decide (per < (1 : Int))) == false) = true → True)) (V.gd ((decide ((60 : Int) < (↑(List.length l) : Int)) || decide (r < (0 : Int)) || decide ((4194304 : Int) < r) || decide (per < (1 : Int))) == false) (V.i per)), pc (42 : Nat) (((((decide ((60 : Int) < (↑(List.length l) : Int)) || decide (r < (0 : Int)) || decide ((4194304 : Int) < r) || decide (per < (1 : Int))) == false) = true → ((decide ((60 : Int) < (↑(List.length l) : Int)) || decide (r < (0 : Int)) || decide ((4194304 : Int) < r) || decide (per < (1 : Int))) == false) = true) ∧ True ∧ True) ∧ (((decide ((60 : Int) < (↑(List.length l) : Int)) || decide (r < (0 : Int)) || decide ((4194304 : Int) < r) || decide (per < (1 : Int))) == false) = true → True)) (V.gd ((decide ((60 : Int) < (↑(List.length l) : Int)) || decide (r < (0 : Int)) || decide ((4194304 : Int) < r) || decide (per < (1 : Int))) == false) (V.b (decide ((65536 : Int) < per)))), pc (43 : Nat) (True ∧ ((decide ((60 : Int) < (↑(List.length l) : Int)) || decide (r < (0 : Int)) || decide ((4194304 : Int) < r) || decide (per < (1 : Int))) = false → ((decide ((60 : Int) < (↑(List.length l) : Int)) || decide (r < (0 : Int)) || decide ((4194304 : Int) < r) || decide (per < (1 : Int))) == false) = true)) (V.b (decide ((60 : Int) < (↑(List.length l) : Int)) || decide (r < (0 : Int)) || decide ((4194304 : Int) < r) || decide (per < (1 : Int)) || decide ((65536 : Int) < per))), pv (44 : Nat) (V.b (decide ((60 : Int) < (↑(List.length l) : Int)) || decide (r < (0 : Int)) || decide ((4194304 : Int) < r) || decide (per < (1 : Int)) || decide ((65536 : Int) < per))), pc (45 : Nat) ((True ∧ True) ∧ (((decide ((60 : Int) < (↑(List.length l) : Int)) || decide (r < (0 : Int)) || decide ((4194304 : Int) < r) || decide (per < (1 : Int)) || decide ((65536 : Int) < per)) == false) = true → True)) (V.gd ((decide ((60 : Int) < (↑(List.length l) : Int)) || decide (r < (0 : Int)) || decide ((4194304 : Int) < r) || decide (per < (1 : Int)) || decide ((65536 : Int) < per)) == false) (V.agg [V.i (Cut.half c), V.i (Cut.gain c), V.i (Cut.thin c), V.i (Cut.wide c), V.i (Cut.slope c), V.i (Cut.jerk c), V.i (Cut.sty c)]))] (by kernel_rfl) (by kernel_rfl) ⟨⟨⟨True.intro, True.intro⟩, (fun _ => True.intro)⟩, ⟨⟨(by (exact fun h => h)), ⟨True.intro, True.intro⟩⟩, (fun _ => True.intro)⟩, ⟨True.intro, (by (intro h; rw [h]; rfl))⟩, ⟨⟨True.intro, True.intro⟩, (fun _ => True.intro)⟩, ⟨⟨(by (exact fun h => h)), ⟨True.intro, True.intro⟩⟩, (fun _ => True.intro)⟩, ⟨True.intro, (by (intro h; rw [h]; rfl))⟩, ⟨⟨True.intro, True.intro⟩, (fun _ => True.intro)⟩, ⟨⟨(by (exact fun h => h)), ⟨True.intro, True.intro⟩⟩, (fun _ => True.intro)⟩, ⟨True.intro, (by (intro h; rw [h]; rfl))⟩, ⟨⟨True.intro, True.intro⟩, (fun _ => True.intro)⟩, ⟨⟨(by (exact fun h => h)), ⟨True.intro, True.intro⟩⟩, (fun _ => True.intro)⟩, ⟨True.intro, (by (intro h; rw [h]; rfl))⟩, ⟨⟨True.intro, True.intro⟩, (fun _ => True.intro)⟩, True.intro⟩ ?_
  refine e_callG 1 (g := (decide ((60 : Int) < (↑(List.length l) : Int)) || decide (r < (0 : Int)) || decide ((4194304 : Int) < r) || decide (per < (1 : Int)) || decide ((65536 : Int) < per)) == false) (first := []) (caps := []) (by kernel_rfl) (fun h => refCheck_ac c) (by kernel_rfl) (by kernel_rfl) (by kernel_rfl) (by kernel_rfl) (by kernel_rfl) (by kernel_rfl) ?_
  refine aops_n hTT (M := []) (n := 4) [pc (47 : Nat) (((((decide ((60 : Int) < (↑(List.length l) : Int)) || decide (r < (0 : Int)) || decide ((4194304 : Int) < r) || decide (per < (1 : Int)) || decide ((65536 : Int) < per)) == false) = true → ((decide ((60 : Int) < (↑(List.length l) : Int)) || decide (r < (0 : Int)) || decide ((4194304 : Int) < r) || decide (per < (1 : Int)) || decide ((65536 : Int) < per)) == false) = true) ∧ True ∧ True) ∧ (((decide ((60 : Int) < (↑(List.length l) : Int)) || decide (r < (0 : Int)) || decide ((4194304 : Int) < r) || decide (per < (1 : Int)) || decide ((65536 : Int) < per)) == false) = true → True)) (V.gd ((decide ((60 : Int) < (↑(List.length l) : Int)) || decide (r < (0 : Int)) || decide ((4194304 : Int) < r) || decide (per < (1 : Int)) || decide ((65536 : Int) < per)) == false) (V.b !decide (cutE c = (0 : Int)))), pc (48 : Nat) (True ∧ ((decide ((60 : Int) < (↑(List.length l) : Int)) || decide (r < (0 : Int)) || decide ((4194304 : Int) < r) || decide (per < (1 : Int)) || decide ((65536 : Int) < per)) = false → ((decide ((60 : Int) < (↑(List.length l) : Int)) || decide (r < (0 : Int)) || decide ((4194304 : Int) < r) || decide (per < (1 : Int)) || decide ((65536 : Int) < per)) == false) = true)) (V.b (decide ((60 : Int) < (↑(List.length l) : Int)) || decide (r < (0 : Int)) || decide ((4194304 : Int) < r) || decide (per < (1 : Int)) || decide ((65536 : Int) < per) || !decide (cutE c = (0 : Int)))), pv (49 : Nat) (V.b (decide ((60 : Int) < (↑(List.length l) : Int)) || decide (r < (0 : Int)) || decide ((4194304 : Int) < r) || decide (per < (1 : Int)) || decide ((65536 : Int) < per) || !decide (cutE c = (0 : Int)))), pc (50 : Nat) ((True ∧ True) ∧ (((decide ((60 : Int) < (↑(List.length l) : Int)) || decide (r < (0 : Int)) || decide ((4194304 : Int) < r) || decide (per < (1 : Int)) || decide ((65536 : Int) < per) || !decide (cutE c = (0 : Int))) == false) = true → True)) (V.gd ((decide ((60 : Int) < (↑(List.length l) : Int)) || decide (r < (0 : Int)) || decide ((4194304 : Int) < r) || decide (per < (1 : Int)) || decide ((65536 : Int) < per) || !decide (cutE c = (0 : Int))) == false) (V.sl (2 : Nat) (List.length l) fun (k : Nat) => [V.i (Prod.fst (gp l k)), V.i (Prod.snd (gp l k))]))] (by kernel_rfl) (by kernel_rfl) ⟨⟨⟨(by (exact fun h => h)), ⟨True.intro, True.intro⟩⟩, (fun _ => True.intro)⟩, ⟨True.intro, (by (intro h; rw [h]; rfl))⟩, ⟨⟨True.intro, True.intro⟩, (fun _ => True.intro)⟩, True.intro⟩ ?_
  refine e_callG 1 (g := (decide ((60 : Int) < (↑(List.length l) : Int)) || decide (r < (0 : Int)) || decide ((4194304 : Int) < r) || decide (per < (1 : Int)) || decide ((65536 : Int) < per) || !decide (cutE c = (0 : Int))) == false) (first := []) (caps := []) (by kernel_rfl) (fun h => refCheckPoints_ac l hl) (by kernel_rfl) (by kernel_rfl) (by kernel_rfl) (by kernel_rfl) (by kernel_rfl) (by kernel_rfl) ?_
  refine aops_n hTT (M := []) (n := 2) [pc (52 : Nat) (((((decide ((60 : Int) < (↑(List.length l) : Int)) || decide (r < (0 : Int)) || decide ((4194304 : Int) < r) || decide (per < (1 : Int)) || decide ((65536 : Int) < per) || !decide (cutE c = (0 : Int))) == false) = true → ((decide ((60 : Int) < (↑(List.length l) : Int)) || decide (r < (0 : Int)) || decide ((4194304 : Int) < r) || decide (per < (1 : Int)) || decide ((65536 : Int) < per) || !decide (cutE c = (0 : Int))) == false) = true) ∧ True ∧ True) ∧ (((decide ((60 : Int) < (↑(List.length l) : Int)) || decide (r < (0 : Int)) || decide ((4194304 : Int) < r) || decide (per < (1 : Int)) || decide ((65536 : Int) < per) || !decide (cutE c = (0 : Int))) == false) = true → True)) (V.gd ((decide ((60 : Int) < (↑(List.length l) : Int)) || decide (r < (0 : Int)) || decide ((4194304 : Int) < r) || decide (per < (1 : Int)) || decide ((65536 : Int) < per) || !decide (cutE c = (0 : Int))) == false) (V.b !decide (gChk l = (0 : Int)))), pc (53 : Nat) (True ∧ ((decide ((60 : Int) < (↑(List.length l) : Int)) || decide (r < (0 : Int)) || decide ((4194304 : Int) < r) || decide (per < (1 : Int)) || decide ((65536 : Int) < per) || !decide (cutE c = (0 : Int))) = false → ((decide ((60 : Int) < (↑(List.length l) : Int)) || decide (r < (0 : Int)) || decide ((4194304 : Int) < r) || decide (per < (1 : Int)) || decide ((65536 : Int) < per) || !decide (cutE c = (0 : Int))) == false) = true)) (V.b (decide ((60 : Int) < (↑(List.length l) : Int)) || decide (r < (0 : Int)) || decide ((4194304 : Int) < r) || decide (per < (1 : Int)) || decide ((65536 : Int) < per) || !decide (cutE c = (0 : Int)) || !decide (gChk l = (0 : Int))))] (by kernel_rfl) (by kernel_rfl) ⟨⟨⟨(by (exact fun h => h)), ⟨True.intro, True.intro⟩⟩, (fun _ => True.intro)⟩, ⟨True.intro, (by (intro h; rw [h]; rfl))⟩, True.intro⟩ ?_
  refine aops_nil ?_
  refine xt_n ?_
  refine hK _ ?_
  clear hK K
  refine w_cond (t := decide ((60 : Int) < (↑(List.length l) : Int)) || decide (r < (0 : Int)) || decide ((4194304 : Int) < r) || decide (per < (1 : Int)) || decide ((65536 : Int) < per) || !decide (cutE c = (0 : Int)) || !decide (gChk l = (0 : Int))) (by kernel_rfl) (fun c1 => ?_) (fun c1 => ?_)
  · refine aw_seq_k fun K hK => ?_
    refine w_region (n' := 4) (by kernel_rfl) (by kernel_rfl) ?_
    refine e_call (first := []) (caps := []) (gWorks_ac) (by kernel_rfl) (by kernel_rfl) (by kernel_rfl) (by kernel_rfl) (by kernel_rfl) ?_
    refine aops_n hTT (M := []) (n := 1) [pv (8 : Nat) (V.b true)] (by kernel_rfl) (by kernel_rfl) True.intro ?_
    refine aops_nil ?_
    refine xt_n ?_
    refine hK _ ?_
    clear hK K
    refine aw_ret ?_
    refine xt_r ?_
    refine ret_pure (v' := V.b true) (.inr rfl) (by kernel_rfl) (by kernel_rfl) (by kernel_rfl)
  have c1 : l.length ≤ 60 ∧ (0 ≤ r ∧ r ≤ 4194304) ∧ (1 ≤ per ∧ per ≤ 65536) ∧ cutE c = 0 ∧ gChk l = 0 := by simp at c1; omega
  obtain ⟨l60, hr, hp, hc, hk⟩ := c1
  obtain ⟨F, hF1⟩ := fstOk_ex c l per
  have hFi : IsFst (fitB c l per) 4194305 F := hF1 (by rw [gErr_2 hc]; exact hk) (turnE_ok.2 hp)
  have A1 := Least_ac c l per F hl hF1
  rw [leastR_3 (by rw [gErr_2 hc]; exact hk) (turnE_ok.2 hp), show (if F ≤ 4194304 then F else 0) = okN F from rfl, show (if F ≤ 4194304 then (0 : Int) else 14) = okE F from rfl] at A1
  have A2 := Fault_ac c l r per hl
  obtain ⟨Fs, hFs⟩ := pick_ex (p := fun i F => NstOk c l per i F) (n := l.length) fun i _ => nstOk_ex _ _ _ _
  have hFi' : ∀ i, i < l.length → IsFst (needB c l per i) 4194305 (Fs i) := fun i hi => by
    have := hFs i hi (by rw [gErr_2 hc]; exact hk) (turnE_ok.2 hp) (by omega)
    rwa [show ((i : Nat) : Int).toNat = i by omega] at this
  obtain ⟨m1, m2⟩ := mM_spec (Fs := Fs) (n := l.length) (F := F) (fun i hi => (hFi' i hi).b.1) hFi.b.1 (fun i hi => by
      refine Int.not_lt.1 fun hlt => ?_
      have a := hFi.hi F (Int.le_refl _) (by have := (hFi' i hi).b; omega)
      have b := (hFi' i hi).lo F hFi.b.1 hlt
      rw [fits_need.1 a i hi] at b; cases b)
    (fun x x0 x1 hx => (hFi.iff x0 (by omega)).1 (fits_need.2 fun i hi => ((hFi' i hi).iff x0 (by omega)).2 (hx i hi)))
  obtain ⟨fe, hfe⟩ : ∃ fe, fe = (FaultV c l r per).2.2 := ⟨_, rfl⟩
  have fe5 : fitB c l per r = true → fe = 5 := fun h => by rw [hfe, FaultV_fit hc hk ⟨hr, hp⟩ h]
  have fe0 : fitB c l per r = false → fe = 0 := fun h => by
    obtain ⟨i, _, e, _⟩ := FaultV_not hc hk ⟨hr, hp⟩ h
    rw [hfe, e]
  have fr := hFi.iff (n := r) hr.1 (by omega)
  unfold FaultT at A2
  rw [← hfe] at A2
  refine aw_skip ?_
  refine xt_n ?_
  refine hK _ ?_
  clear hK K
  refine aw_seq_k fun K hK => ?_
  refine w_region (n' := 4) (by kernel_rfl) (by kernel_rfl) ?_
  refine aops_n hTT (M := []) (n := 3) [pv (56 : Nat) (V.agg [V.i (Cut.half c), V.i (Cut.gain c), V.i (Cut.thin c), V.i (Cut.wide c), V.i (Cut.slope c), V.i (Cut.jerk c), V.i (Cut.sty c)]), pv (57 : Nat) (V.sl (2 : Nat) (List.length l) fun (k : Nat) => [V.i (Prod.fst (gp l k)), V.i (Prod.snd (gp l k))]), pv (58 : Nat) (V.i per)] (by kernel_rfl) (by kernel_rfl) True.intro ?_
  refine e_call (first := []) (caps := []) (A1) (by kernel_rfl) (by kernel_rfl) (by kernel_rfl) (by kernel_rfl) (by kernel_rfl) ?_
  refine aops_n hTT (M := []) (n := 5) [pv (55 : Nat) (V.tup [V.i (okN F), V.i (okE F)]), pv (60 : Nat) (V.i (okN F)), pv (61 : Nat) (V.i (okE F)), pv (9 : Nat) (V.i (okN F)), pv (10 : Nat) (V.i (okE F))] (by kernel_rfl) (by kernel_rfl) True.intro ?_
  refine aops_nil ?_
  refine xt_n ?_
  refine hK _ ?_
  clear hK K
  refine aw_seq_k fun K hK => ?_
  refine w_region (n' := 5) (by kernel_rfl) (by kernel_rfl) ?_
  refine aops_n hTT (M := []) (n := 4) [pv (63 : Nat) (V.agg [V.i (Cut.half c), V.i (Cut.gain c), V.i (Cut.thin c), V.i (Cut.wide c), V.i (Cut.slope c), V.i (Cut.jerk c), V.i (Cut.sty c)]), pv (64 : Nat) (V.sl (2 : Nat) (List.length l) fun (k : Nat) => [V.i (Prod.fst (gp l k)), V.i (Prod.snd (gp l k))]), pv (65 : Nat) (V.i r), pv (66 : Nat) (V.i per)] (by kernel_rfl) (by kernel_rfl) True.intro ?_
  refine e_call (first := []) (caps := []) (A2) (by kernel_rfl) (by kernel_rfl) (by kernel_rfl) (by kernel_rfl) (by kernel_rfl) ?_
  refine aops_n hTT (M := []) (n := 7) [pv (62 : Nat) (V.tup [V.i (Prod.fst (FaultV c l r per)), V.i (Prod.fst (Prod.snd (FaultV c l r per))), V.i fe]), pv (68 : Nat) (V.i (Prod.fst (FaultV c l r per))), pv (69 : Nat) (V.i (Prod.fst (Prod.snd (FaultV c l r per)))), pv (70 : Nat) (V.i fe), pv (11 : Nat) (V.i (Prod.fst (FaultV c l r per))), pv (12 : Nat) (V.i (Prod.fst (Prod.snd (FaultV c l r per)))), pv (13 : Nat) (V.i fe)] (by kernel_rfl) (by kernel_rfl) True.intro ?_
  refine aops_nil ?_
  refine xt_n ?_
  refine hK _ ?_
  clear hK K
  refine aw_seq_k fun K hK => ?_
  refine w_region (n' := 6) (by kernel_rfl) (by kernel_rfl) ?_
  refine aops_n hTT (M := []) (n := 1) [pv (14 : Nat) (V.i (0 : Int))] (by kernel_rfl) (by kernel_rfl) True.intro ?_
  refine aops_nil ?_
  refine xt_n ?_
  refine hK _ ?_
  clear hK K
  refine aw_seq_k fun K hK => ?_
  refine w_region (n' := 7) (by kernel_rfl) (by kernel_rfl) ?_
  refine aops_n hTT (M := []) (n := 1) [pv (15 : Nat) (V.b false)] (by kernel_rfl) (by kernel_rfl) True.intro ?_
  refine aops_nil ?_
  refine xt_n ?_
  refine hK _ ?_
  clear hK K
  refine aw_seq_k fun K hK => ?_
  refine aw_seq_k fun K hK => ?_
  refine w_region (n' := 8) (by kernel_rfl) (by kernel_rfl) ?_
  refine aops_n hTT (M := []) (n := 1) [pv (16 : Nat) (V.i (0 : Int))] (by kernel_rfl) (by kernel_rfl) True.intro ?_
  refine aops_nil ?_
  refine xt_n ?_
  refine hK _ ?_
  clear hK K
  refine aw_block ?_
  refine w_loop (ι := Nat) (fun k => [(1, V.pts l), (2, .i per), (3, .i r), (4, .ptr [.i c.half, .i c.gain, .i c.thin, .i c.wide, .i c.slope, .i c.jerk, .i c.sty]), (9, .i (okN F)), (10, .i (okE F)), (13, .i fe), (14, .i (mM Fs k)), (15, .b (limB Fs k)), (16, .i k)]) (fun _ => []) (fun k => k ≤ l.length) (fun k => l.length - k) 0 (Nat.zero_le _) ?_ ?_
  · refine le_ren [] (.cons (by kernel_rfl) (.cons (by kernel_rfl) (.cons (by kernel_rfl) (.cons (by kernel_rfl) (.cons (by kernel_rfl) (.cons (by kernel_rfl) (.cons (by kernel_rfl) (.cons (by kernel_rfl) (.cons (by kernel_rfl) (.cons (by kernel_rfl) .nil)))))))))) .nil (by kernel_rfl) (by kernel_rfl)
  intro k hk1
  refine aw_seq_k fun K hK => ?_
  refine aw_seq_k fun K hK => ?_
  refine w_region (n' := 2) (by kernel_rfl) (by kernel_rfl) ?_
  refine aops_n hTT (M := []) (n := 4) [pv (71 : Nat) (V.i (↑k : Int)), pv (72 : Nat) (V.sl (2 : Nat) (List.length l) fun (k : Nat) => [V.i (Prod.fst (gp l k)), V.i (Prod.snd (gp l k))]), pv (73 : Nat) (V.i (↑(List.length l) : Int)), pv (74 : Nat) (V.b (decide ((↑k : Int) < (↑(List.length l) : Int))))] (by kernel_rfl) (by kernel_rfl) True.intro ?_
  refine aops_nil ?_
  refine xt_n ?_
  refine hK _ ?_
  clear hK K
  refine w_cond (t := decide ((↑k : Int) < (↑(List.length l) : Int))) (by kernel_rfl) (fun d3 => ?_) (fun d3 => ?_)
  · have h1 : k < l.length := by simpa using d3
    have A3 := Needs_ac c l per k (Fs k) hl (hFs k h1)
    rw [needsR_4 (by rw [gErr_2 hc]; exact hk) (turnE_ok.2 hp) (by omega), show (if Fs k ≤ 4194304 then Fs k else 0) = okN (Fs k) from rfl, show (if Fs k ≤ 4194304 then (0 : Int) else 14) = okE (Fs k) from rfl] at A3
    have ee : okE (Fs k) = 0 ∨ okE (Fs k) = 14 := by unfold okE; split <;> simp
    refine aw_skip ?_
    refine xt_n ?_
    refine hK _ ?_
    clear hK K
    refine aw_seq_k fun K hK => ?_
    refine aw_block ?_
    refine aw_seq_k fun K hK => ?_
    refine w_region (n' := 3) (by kernel_rfl) (by kernel_rfl) ?_
    refine aops_n hTT (M := []) (n := 4) [pv (78 : Nat) (V.agg [V.i (Cut.half c), V.i (Cut.gain c), V.i (Cut.thin c), V.i (Cut.wide c), V.i (Cut.slope c), V.i (Cut.jerk c), V.i (Cut.sty c)]), pv (79 : Nat) (V.sl (2 : Nat) (List.length l) fun (k : Nat) => [V.i (Prod.fst (gp l k)), V.i (Prod.snd (gp l k))]), pv (80 : Nat) (V.i per), pv (81 : Nat) (V.i (↑k : Int))] (by kernel_rfl) (by kernel_rfl) True.intro ?_
    refine e_call (first := []) (caps := []) (A3) (by kernel_rfl) (by kernel_rfl) (by kernel_rfl) (by kernel_rfl) (by kernel_rfl) ?_
    refine aops_n hTT (M := []) (n := 5) [pv (77 : Nat) (V.tup [V.i (okN (Fs k)), V.i (okE (Fs k))]), pv (83 : Nat) (V.i (okN (Fs k))), pv (84 : Nat) (V.i (okE (Fs k))), pv (17 : Nat) (V.i (okN (Fs k))), pv (18 : Nat) (V.i (okE (Fs k)))] (by kernel_rfl) (by kernel_rfl) True.intro ?_
    refine aops_nil ?_
    refine xt_n ?_
    refine hK _ ?_
    clear hK K
    refine aw_seq_k fun K hK => ?_
    refine aw_seq_k fun K hK => ?_
    refine w_region (n' := 4) (by kernel_rfl) (by kernel_rfl) ?_
    refine aops_n hTT (M := []) (n := 6) [pv (85 : Nat) (V.i (okE (Fs k))), pv (86 : Nat) (V.b !decide (okE (Fs k) = (0 : Int))), pv (87 : Nat) (V.b !decide (okE (Fs k) = (0 : Int))), pc (88 : Nat) ((True ∧ True) ∧ (((!decide (okE (Fs k) = (0 : Int))) == true) = true → True)) (V.gd ((!decide (okE (Fs k) = (0 : Int))) == true) (V.i (okE (Fs k)))), pc (89 : Nat) (((((!decide (okE (Fs k) = (0 : Int))) == true) = true → ((!decide (okE (Fs k) = (0 : Int))) == true) = true) ∧ True ∧ True) ∧ (((!decide (okE (Fs k) = (0 : Int))) == true) = true → True)) (V.gd ((!decide (okE (Fs k) = (0 : Int))) == true) (V.b !decide (okE (Fs k) = (14 : Int)))), pc (90 : Nat) (((!decide (okE (Fs k) = (0 : Int))) = true → ((!decide (okE (Fs k) = (0 : Int))) == true) = true) ∧ True) (V.b (!decide (okE (Fs k) = (0 : Int)) && !decide (okE (Fs k) = (14 : Int))))] (by kernel_rfl) (by kernel_rfl) ⟨⟨⟨True.intro, True.intro⟩, (fun _ => True.intro)⟩, ⟨⟨(by (exact fun h => h)), ⟨True.intro, True.intro⟩⟩, (fun _ => True.intro)⟩, ⟨(by (intro h; rw [h]; rfl)), True.intro⟩, True.intro⟩ ?_
    refine aops_nil ?_
    refine xt_n ?_
    refine hK _ ?_
    clear hK K
    refine w_cond (t := !decide (okE (Fs k) = (0 : Int)) && !decide (okE (Fs k) = (14 : Int))) (by kernel_rfl) (fun d4 => ?_) (fun d4 => ?_)
    · exfalso
      simp at d4
      omega
    refine aw_skip ?_
    refine xt_n ?_
    refine hK _ ?_
    clear hK K
    refine aw_seq_k fun K hK => ?_
    refine w_region (n' := 5) (by kernel_rfl) (by kernel_rfl) ?_
    refine aops_n hTT (M := []) (n := 6) [pv (91 : Nat) (V.b (limB Fs k)), pv (92 : Nat) (V.b (limB Fs k)), pc (93 : Nat) ((True ∧ True) ∧ ((limB Fs k == false) = true → True)) (V.gd (limB Fs k == false) (V.i (okE (Fs k)))), pc (94 : Nat) ((((limB Fs k == false) = true → (limB Fs k == false) = true) ∧ True ∧ True) ∧ ((limB Fs k == false) = true → True)) (V.gd (limB Fs k == false) (V.b !decide (okE (Fs k) = (0 : Int)))), pc (95 : Nat) (True ∧ (limB Fs k = false → (limB Fs k == false) = true)) (V.b (limB Fs k || !decide (okE (Fs k) = (0 : Int)))), pv (15 : Nat) (V.b (limB Fs k || !decide (okE (Fs k) = (0 : Int))))] (by kernel_rfl) (by kernel_rfl) ⟨⟨⟨True.intro, True.intro⟩, (fun _ => True.intro)⟩, ⟨⟨(by (exact fun h => h)), ⟨True.intro, True.intro⟩⟩, (fun _ => True.intro)⟩, ⟨True.intro, (by (intro h; rw [h]; rfl))⟩, True.intro⟩ ?_
    refine aops_nil ?_
    refine xt_n ?_
    refine hK _ ?_
    clear hK K
    refine w_region (n' := 6) (by kernel_rfl) (by kernel_rfl) ?_
    refine aops_n hTT (M := []) (n := 4) [pv (96 : Nat) (V.i (mM Fs k)), pv (97 : Nat) (V.i (okN (Fs k))), pv (98 : Nat) (V.i (max (mM Fs k) (okN (Fs k)))), pv (14 : Nat) (V.i (max (mM Fs k) (okN (Fs k))))] (by kernel_rfl) (by kernel_rfl) True.intro ?_
    refine aops_nil ?_
    refine xb_n ?_
    refine xt_n ?_
    refine hK _ ?_
    clear hK K
    refine w_region (n' := 7) (by kernel_rfl) (by kernel_rfl) ?_
    refine aops_n hTT (M := []) (n := 3) [pv (75 : Nat) (V.i (↑k : Int)), pc (76 : Nat) ((-9223372036854775808 : Int) ≤ (↑k : Int) + (1 : Int) ∧ (↑k : Int) + (1 : Int) ≤ (9223372036854775807 : Int)) (V.i ((↑k : Int) + (1 : Int))), pv (16 : Nat) (V.i ((↑k : Int) + (1 : Int)))] (by kernel_rfl) (by kernel_rfl) ⟨(by omega), True.intro⟩ ?_
    refine aops_nil ?_
    refine xt_n ?_
    refine ⟨k + 1, by omega, ?_, by omega⟩
    refine le_ren [] (.cons (by kernel_rfl) (.cons (by kernel_rfl) (.cons (by kernel_rfl) (.cons (by kernel_rfl) (.cons (by kernel_rfl) (.cons (by kernel_rfl) (.cons (by kernel_rfl) (.cons (by kernel_rfl) (.cons (by kernel_rfl) (.cons (by kernel_rfl) .nil)))))))))) .nil (by kernel_rfl) (by kernel_rfl)
  have h1 : k = l.length := by simp at d3; omega
  rw [h1]
  have ee : okE F = 0 ∨ okE F = 14 := by unfold okE; split <;> simp
  refine aw_exit ?_
  refine xt_x ?_
  refine xt_x ?_
  refine xb_same ?_
  refine xt_n ?_
  clear hK K
  refine hK _ ?_
  clear hK K
  refine aw_seq_k fun K hK => ?_
  refine aw_seq_k fun K hK => ?_
  refine w_region (n' := 3) (by kernel_rfl) (by kernel_rfl) ?_
  refine aops_n hTT (M := []) (n := 17) [pv (99 : Nat) (V.b (limB Fs (List.length l))), pv (100 : Nat) (V.i (okE F)), pv (101 : Nat) (V.b (decide (okE F = (14 : Int)))), pv (102 : Nat) (V.b !limB Fs (List.length l) == decide (okE F = (14 : Int))), pv (103 : Nat) (V.b !limB Fs (List.length l) == decide (okE F = (14 : Int))), pc (104 : Nat) ((True ∧ True) ∧ (((!limB Fs (List.length l) == decide (okE F = (14 : Int))) == false) = true → True)) (V.gd ((!limB Fs (List.length l) == decide (okE F = (14 : Int))) == false) (V.b (limB Fs (List.length l)))), pc (105 : Nat) (((((!limB Fs (List.length l) == decide (okE F = (14 : Int))) == false) = true → ((!limB Fs (List.length l) == decide (okE F = (14 : Int))) == false) = true) ∧ True) ∧ (((!limB Fs (List.length l) == decide (okE F = (14 : Int))) == false) = true → True)) (V.gd ((!limB Fs (List.length l) == decide (okE F = (14 : Int))) == false) (V.b !limB Fs (List.length l))), pc (106 : Nat) (((((!limB Fs (List.length l) == decide (okE F = (14 : Int))) == false) = true → ((!limB Fs (List.length l) == decide (okE F = (14 : Int))) == false) = true) ∧ True) ∧ (((!limB Fs (List.length l) == decide (okE F = (14 : Int))) == false) = true → True)) (V.gd ((!limB Fs (List.length l) == decide (okE F = (14 : Int))) == false) (V.b !limB Fs (List.length l))), pc (107 : Nat) ((True ∧ True) ∧ (((!limB Fs (List.length l) == decide (okE F = (14 : Int))) == false && (!limB Fs (List.length l)) == true) = true → True)) (V.gd ((!limB Fs (List.length l) == decide (okE F = (14 : Int))) == false && (!limB Fs (List.length l)) == true) (V.i (okE F))), pc (108 : Nat) (((((!limB Fs (List.length l) == decide (okE F = (14 : Int))) == false && (!limB Fs (List.length l)) == true) = true → ((!limB Fs (List.length l) == decide (okE F = (14 : Int))) == false && (!limB Fs (List.length l)) == true) = true) ∧ True ∧ True) ∧ (((!limB Fs (List.length l) == decide (okE F = (14 : Int))) == false && (!limB Fs (List.length l)) == true) = true → True)) (V.gd ((!limB Fs (List.length l) == decide (okE F = (14 : Int))) == false && (!limB Fs (List.length l)) == true) (V.b !decide (okE F = (0 : Int)))), pc (109 : Nat) (((((!limB Fs (List.length l) == decide (okE F = (14 : Int))) == false && (!limB Fs (List.length l)) == true) = true → ((!limB Fs (List.length l) == decide (okE F = (14 : Int))) == false && (!limB Fs (List.length l)) == true) = true) ∧ True) ∧ (((!limB Fs (List.length l) == decide (okE F = (14 : Int))) == false && (!limB Fs (List.length l)) == true) = true → True)) (V.gd ((!limB Fs (List.length l) == decide (okE F = (14 : Int))) == false && (!limB Fs (List.length l)) == true) (V.b !decide (okE F = (0 : Int)))), pc (110 : Nat) ((True ∧ True) ∧ (((!limB Fs (List.length l) == decide (okE F = (14 : Int))) == false && (!limB Fs (List.length l)) == true && (!decide (okE F = (0 : Int))) == false) = true → True)) (V.gd ((!limB Fs (List.length l) == decide (okE F = (14 : Int))) == false && (!limB Fs (List.length l)) == true && (!decide (okE F = (0 : Int))) == false) (V.i (okN F))), pc (111 : Nat) ((True ∧ True) ∧ (((!limB Fs (List.length l) == decide (okE F = (14 : Int))) == false && (!limB Fs (List.length l)) == true && (!decide (okE F = (0 : Int))) == false) = true → True)) (V.gd ((!limB Fs (List.length l) == decide (okE F = (14 : Int))) == false && (!limB Fs (List.length l)) == true && (!decide (okE F = (0 : Int))) == false) (V.i (mM Fs (List.length l)))), pc (112 : Nat) (((((!limB Fs (List.length l) == decide (okE F = (14 : Int))) == false && (!limB Fs (List.length l)) == true && (!decide (okE F = (0 : Int))) == false) = true → ((!limB Fs (List.length l) == decide (okE F = (14 : Int))) == false && (!limB Fs (List.length l)) == true && (!decide (okE F = (0 : Int))) == false) = true) ∧ (((!limB Fs (List.length l) == decide (okE F = (14 : Int))) == false && (!limB Fs (List.length l)) == true && (!decide (okE F = (0 : Int))) == false) = true → ((!limB Fs (List.length l) == decide (okE F = (14 : Int))) == false && (!limB Fs (List.length l)) == true && (!decide (okE F = (0 : Int))) == false) = true) ∧ True) ∧ (((!limB Fs (List.length l) == decide (okE F = (14 : Int))) == false && (!limB Fs (List.length l)) == true && (!decide (okE F = (0 : Int))) == false) = true → True)) (V.gd ((!limB Fs (List.length l) == decide (okE F = (14 : Int))) == false && (!limB Fs (List.length l)) == true && (!decide (okE F = (0 : Int))) == false) (V.b !decide (okN F = mM Fs (List.length l)))), pc (113 : Nat) ((((!limB Fs (List.length l) == decide (okE F = (14 : Int))) == false && (!limB Fs (List.length l)) == true) = true → ((!limB Fs (List.length l) == decide (okE F = (14 : Int))) == false && (!limB Fs (List.length l)) == true) = true) ∧ (((!limB Fs (List.length l) == decide (okE F = (14 : Int))) == false && (!limB Fs (List.length l)) == true) = true → True) ∧ (((!limB Fs (List.length l) == decide (okE F = (14 : Int))) == false && (!limB Fs (List.length l)) == true) = true → (!decide (okE F = (0 : Int))) = false → ((!limB Fs (List.length l) == decide (okE F = (14 : Int))) == false && (!limB Fs (List.length l)) == true && (!decide (okE F = (0 : Int))) == false) = true)) (V.gd ((!limB Fs (List.length l) == decide (okE F = (14 : Int))) == false && (!limB Fs (List.length l)) == true) (V.b (!decide (okE F = (0 : Int)) || !decide (okN F = mM Fs (List.length l))))), pc (114 : Nat) ((((!limB Fs (List.length l) == decide (okE F = (14 : Int))) == false) = true → ((!limB Fs (List.length l) == decide (okE F = (14 : Int))) == false) = true) ∧ (((!limB Fs (List.length l) == decide (okE F = (14 : Int))) == false) = true → (!limB Fs (List.length l)) = true → ((!limB Fs (List.length l) == decide (okE F = (14 : Int))) == false && (!limB Fs (List.length l)) == true) = true) ∧ (((!limB Fs (List.length l) == decide (okE F = (14 : Int))) == false) = true → True)) (V.gd ((!limB Fs (List.length l) == decide (okE F = (14 : Int))) == false) (V.b (!limB Fs (List.length l) && (!decide (okE F = (0 : Int)) || !decide (okN F = mM Fs (List.length l)))))), pc (115 : Nat) (True ∧ ((!limB Fs (List.length l) == decide (okE F = (14 : Int))) = false → ((!limB Fs (List.length l) == decide (okE F = (14 : Int))) == false) = true)) (V.b (!limB Fs (List.length l) == decide (okE F = (14 : Int)) || !limB Fs (List.length l) && (!decide (okE F = (0 : Int)) || !decide (okN F = mM Fs (List.length l)))))] (by kernel_rfl) (by kernel_rfl) ⟨⟨⟨True.intro, True.intro⟩, (fun _ => True.intro)⟩, ⟨⟨(by (exact fun h => h)), True.intro⟩, (fun _ => True.intro)⟩, ⟨⟨(by (exact fun h => h)), True.intro⟩, (fun _ => True.intro)⟩, ⟨⟨True.intro, True.intro⟩, (fun _ => True.intro)⟩, ⟨⟨(by (exact fun h => h)), ⟨True.intro, True.intro⟩⟩, (fun _ => True.intro)⟩, ⟨⟨(by (exact fun h => h)), True.intro⟩, (fun _ => True.intro)⟩, ⟨⟨True.intro, True.intro⟩, (fun _ => True.intro)⟩, ⟨⟨True.intro, True.intro⟩, (fun _ => True.intro)⟩, ⟨⟨(by (exact fun h => h)), ⟨(by (exact fun h => h)), True.intro⟩⟩, (fun _ => True.intro)⟩, ⟨(by (exact fun h => h)), ⟨(fun _ => True.intro), (by (intro h; simp_all; done))⟩⟩, ⟨(by (exact fun h => h)), ⟨(by (intro h; simp_all; done)), (fun _ => True.intro)⟩⟩, ⟨True.intro, (by (intro h; rw [h]; rfl))⟩, True.intro⟩ ?_
  refine aops_nil ?_
  refine xt_n ?_
  refine hK _ ?_
  clear hK K
  refine w_cond (t := !limB Fs (List.length l) == decide (okE F = (14 : Int)) || !limB Fs (List.length l) && (!decide (okE F = (0 : Int)) || !decide (okN F = mM Fs (List.length l)))) (by kernel_rfl) (fun d4 => ?_) (fun d4 => ?_)
  · exfalso
    rw [m1] at d4
    rcases ee with e0 | e0
    · have q := m2 (by rw [m1, e0]; rfl)
      rw [q, e0] at d4
      have h4 := okE_iff.1 e0
      rw [okN, if_pos h4] at d4
      simp at d4
    · rw [e0] at d4
      simp at d4
  rcases ee with e0 | e0
  · have h4 := okE_iff.1 e0
    have e1 : okN F = F := if_pos h4
    rw [e0, e1]
    have pF : Plc F per := ⟨⟨hFi.b.1, h4⟩, hp⟩
    have B1 := Fault_ac c l F per hl
    unfold FaultT at B1
    rw [FaultV_fit hc hk pF (hFi.hi F (Int.le_refl _) (by omega))] at B1
    refine aw_skip ?_
    refine xt_n ?_
    refine hK _ ?_
    clear hK K
    refine aw_seq_k fun K hK => ?_
    refine aw_seq_k fun K hK => ?_
    refine w_region (n' := 4) (by kernel_rfl) (by kernel_rfl) ?_
    refine aops_n hTT (M := []) (n := 2) [pv (116 : Nat) (V.i (0 : Int)), pv (117 : Nat) (V.b false)] (by kernel_rfl) (by kernel_rfl) True.intro ?_
    refine aops_nil ?_
    refine xt_n ?_
    refine hK _ ?_
    clear hK K
    refine w_false (t := false) (by kernel_rfl) rfl ?_
    refine aw_skip ?_
    refine xt_n ?_
    refine hK _ ?_
    clear hK K
    refine aw_seq_k fun K hK => ?_
    refine aw_seq_k fun K hK => ?_
    refine w_region (n' := 5) (by kernel_rfl) (by kernel_rfl) ?_
    refine aops_n hTT (M := []) (n := 6) [pv (153 : Nat) (V.i fe), pv (154 : Nat) (V.b (decide (fe = (5 : Int)))), pv (155 : Nat) (V.i r), pv (156 : Nat) (V.i F), pv (157 : Nat) (V.b (decide (F ≤ r))), pv (158 : Nat) (V.b !decide (fe = (5 : Int)) == decide (F ≤ r))] (by kernel_rfl) (by kernel_rfl) True.intro ?_
    refine aops_nil ?_
    refine xt_n ?_
    refine hK _ ?_
    clear hK K
    refine w_cond (t := !decide (fe = (5 : Int)) == decide (F ≤ r)) (by kernel_rfl) (fun d5 => ?_) (fun d5 => ?_)
    · exfalso
      cases hq : fitB c l per r with
      | true =>
        rw [fe5 hq] at d5
        have := fr.1 hq
        simp at d5
        omega
      | false =>
        rw [fe0 hq] at d5
        have : ¬ F ≤ r := fun h => by have := fr.2 h; rw [hq] at this; cases this
        simp at d5
        omega
    refine aw_skip ?_
    refine xt_n ?_
    refine hK _ ?_
    clear hK K
    refine aw_seq_k fun K hK => ?_
    refine w_region (n' := 6) (by kernel_rfl) (by kernel_rfl) ?_
    refine aops_n hTT (M := []) (n := 4) [pv (160 : Nat) (V.agg [V.i (Cut.half c), V.i (Cut.gain c), V.i (Cut.thin c), V.i (Cut.wide c), V.i (Cut.slope c), V.i (Cut.jerk c), V.i (Cut.sty c)]), pv (161 : Nat) (V.sl (2 : Nat) (List.length l) fun (k : Nat) => [V.i (Prod.fst (gp l k)), V.i (Prod.snd (gp l k))]), pv (162 : Nat) (V.i F), pv (163 : Nat) (V.i per)] (by kernel_rfl) (by kernel_rfl) True.intro ?_
    refine e_call (first := []) (caps := []) (B1) (by kernel_rfl) (by kernel_rfl) (by kernel_rfl) (by kernel_rfl) (by kernel_rfl) ?_
    refine aops_n hTT (M := []) (n := 5) [pv (159 : Nat) (V.tup [V.i (0 : Int), V.i (Prod.fst ((0 : Int), (5 : Int))), V.i (Prod.snd ((0 : Int), (5 : Int)))]), pv (165 : Nat) (V.i (0 : Int)), pv (166 : Nat) (V.i (0 : Int)), pv (167 : Nat) (V.i (5 : Int)), pv (13 : Nat) (V.i (5 : Int))] (by kernel_rfl) (by kernel_rfl) True.intro ?_
    refine aops_nil ?_
    refine xt_n ?_
    refine hK _ ?_
    clear hK K
    refine aw_seq_k fun K hK => ?_
    refine aw_seq_k fun K hK => ?_
    refine w_region (n' := 7) (by kernel_rfl) (by kernel_rfl) ?_
    refine aops_n hTT (M := []) (n := 2) [pv (168 : Nat) (V.i (5 : Int)), pv (169 : Nat) (V.b false)] (by kernel_rfl) (by kernel_rfl) True.intro ?_
    refine aops_nil ?_
    refine xt_n ?_
    refine hK _ ?_
    clear hK K
    refine w_false (t := false) (by kernel_rfl) rfl ?_
    refine aw_skip ?_
    refine xt_n ?_
    refine hK _ ?_
    clear hK K
    refine aw_seq_k fun K hK => ?_
    refine aw_seq_k fun K hK => ?_
    refine w_region (n' := 8) (by kernel_rfl) (by kernel_rfl) ?_
    refine aops_n hTT (M := []) (n := 2) [pv (170 : Nat) (V.i F), pv (171 : Nat) (V.b (decide ((0 : Int) < F)))] (by kernel_rfl) (by kernel_rfl) True.intro ?_
    refine aops_nil ?_
    refine xt_n ?_
    refine hK _ ?_
    clear hK K
    refine w_cond (t := decide ((0 : Int) < F)) (by kernel_rfl) (fun d6 => ?_) (fun d6 => ?_)
    · have h0 : 0 < F := by simpa using d6
      have pF' : Plc (F - 1) per := ⟨by omega, hp⟩
      have nf : fitB c l per (F - 1) = false := hFi.lo (F - 1) (by omega) (by omega)
      obtain ⟨i, hi, hv, g1, g5⟩ := FaultV_not hc hk pF' nf
      have hz : gRule c l F per i = 0 := fitB_iff.1 (hFi.hi F (Int.le_refl _) (by omega)) i hi
      have g35 := rule_helped hz g1
      have B2 := Fault_ac c l (F - 1) per hl
      unfold FaultT at B2
      rw [hv] at B2
      refine aw_seq_k fun K hK => ?_
      refine w_region (n' := 9) (by kernel_rfl) (by kernel_rfl) ?_
      refine aops_n hTT (M := []) (n := 5) [pv (173 : Nat) (V.agg [V.i (Cut.half c), V.i (Cut.gain c), V.i (Cut.thin c), V.i (Cut.wide c), V.i (Cut.slope c), V.i (Cut.jerk c), V.i (Cut.sty c)]), pv (174 : Nat) (V.sl (2 : Nat) (List.length l) fun (k : Nat) => [V.i (Prod.fst (gp l k)), V.i (Prod.snd (gp l k))]), pv (175 : Nat) (V.i F), pc (176 : Nat) ((-9223372036854775808 : Int) ≤ F - (1 : Int) ∧ F - (1 : Int) ≤ (9223372036854775807 : Int)) (V.i (F - (1 : Int))), pv (177 : Nat) (V.i per)] (by kernel_rfl) (by kernel_rfl) ⟨(by omega), True.intro⟩ ?_
      refine e_call (first := []) (caps := []) (B2) (by kernel_rfl) (by kernel_rfl) (by kernel_rfl) (by kernel_rfl) (by kernel_rfl) ?_
      refine aops_n hTT (M := []) (n := 7) [pv (172 : Nat) (V.tup [V.i (↑i : Int), V.i (Prod.fst (gRule c l (F - (1 : Int)) per i, (0 : Int))), V.i (Prod.snd (gRule c l (F - (1 : Int)) per i, (0 : Int)))]), pv (179 : Nat) (V.i (↑i : Int)), pv (180 : Nat) (V.i (gRule c l (F - (1 : Int)) per i)), pv (181 : Nat) (V.i (0 : Int)), pv (22 : Nat) (V.i (↑i : Int)), pv (23 : Nat) (V.i (gRule c l (F - (1 : Int)) per i)), pv (24 : Nat) (V.i (0 : Int))] (by kernel_rfl) (by kernel_rfl) True.intro ?_
      refine aops_nil ?_
      refine xt_n ?_
      refine hK _ ?_
      clear hK K
      refine aw_seq_k fun K hK => ?_
      refine w_region (n' := 10) (by kernel_rfl) (by kernel_rfl) ?_
      refine aops_n hTT (M := []) (n := 10) [pv (182 : Nat) (V.i (0 : Int)), pv (183 : Nat) (V.b false), pv (184 : Nat) (V.b false), pc (185 : Nat) ((True ∧ True) ∧ ((false == false) = true → True)) (V.gd (false == false) (V.i (gRule c l (F - (1 : Int)) per i))), pc (186 : Nat) ((((false == false) = true → (false == false) = true) ∧ True ∧ True) ∧ ((false == false) = true → True)) (V.gd (false == false) (V.b !decide (gRule c l (F - (1 : Int)) per i = (3 : Int)))), pc (187 : Nat) ((((false == false) = true → (false == false) = true) ∧ True) ∧ ((false == false) = true → True)) (V.gd (false == false) (V.b !decide (gRule c l (F - (1 : Int)) per i = (3 : Int)))), pc (188 : Nat) ((True ∧ True) ∧ ((false == false && (!decide (gRule c l (F - (1 : Int)) per i = (3 : Int))) == true) = true → True)) (V.gd (false == false && (!decide (gRule c l (F - (1 : Int)) per i = (3 : Int))) == true) (V.i (gRule c l (F - (1 : Int)) per i))), pc (189 : Nat) ((((false == false && (!decide (gRule c l (F - (1 : Int)) per i = (3 : Int))) == true) = true → (false == false && (!decide (gRule c l (F - (1 : Int)) per i = (3 : Int))) == true) = true) ∧ True ∧ True) ∧ ((false == false && (!decide (gRule c l (F - (1 : Int)) per i = (3 : Int))) == true) = true → True)) (V.gd (false == false && (!decide (gRule c l (F - (1 : Int)) per i = (3 : Int))) == true) (V.b !decide (gRule c l (F - (1 : Int)) per i = (5 : Int)))), pc (190 : Nat) (((false == false) = true → (false == false) = true) ∧ ((false == false) = true → (!decide (gRule c l (F - (1 : Int)) per i = (3 : Int))) = true → (false == false && (!decide (gRule c l (F - (1 : Int)) per i = (3 : Int))) == true) = true) ∧ ((false == false) = true → True)) (V.gd (false == false) (V.b (!decide (gRule c l (F - (1 : Int)) per i = (3 : Int)) && !decide (gRule c l (F - (1 : Int)) per i = (5 : Int))))), pc (191 : Nat) (True ∧ (false = false → (false == false) = true)) (V.b (!decide (gRule c l (F - (1 : Int)) per i = (3 : Int)) && !decide (gRule c l (F - (1 : Int)) per i = (5 : Int))))] (by kernel_rfl) (by kernel_rfl) ⟨⟨⟨True.intro, True.intro⟩, (fun _ => True.intro)⟩, ⟨⟨(by (exact fun h => h)), ⟨True.intro, True.intro⟩⟩, (fun _ => True.intro)⟩, ⟨⟨(by (exact fun h => h)), True.intro⟩, (fun _ => True.intro)⟩, ⟨⟨True.intro, True.intro⟩, (fun _ => True.intro)⟩, ⟨⟨(by (exact fun h => h)), ⟨True.intro, True.intro⟩⟩, (fun _ => True.intro)⟩, ⟨(by (exact fun h => h)), ⟨(by (intro _; simp; done)), (fun _ => True.intro)⟩⟩, ⟨True.intro, (by (intro h; rw [h]; rfl))⟩, True.intro⟩ ?_
      refine aops_nil ?_
      refine xt_n ?_
      refine hK _ ?_
      clear hK K
      refine w_cond (t := !decide (gRule c l (F - (1 : Int)) per i = (3 : Int)) && !decide (gRule c l (F - (1 : Int)) per i = (5 : Int))) (by kernel_rfl) (fun d7 => ?_) (fun d7 => ?_)
      · exfalso
        simp at d7
        omega
      refine aw_skip ?_
      refine xt_n ?_
      refine hK _ ?_
      clear hK K
      refine aw_seq_k fun K hK => ?_
      refine w_region (n' := 11) (by kernel_rfl) (by kernel_rfl) ?_
      refine e_call (first := []) (caps := []) (gWorks_ac) (by kernel_rfl) (by kernel_rfl) (by kernel_rfl) (by kernel_rfl) (by kernel_rfl) ?_
      refine aops_n hTT (M := []) (n := 1) [pv (8 : Nat) (V.b true)] (by kernel_rfl) (by kernel_rfl) True.intro ?_
      refine aops_nil ?_
      refine xt_n ?_
      refine hK _ ?_
      clear hK K
      refine aw_ret ?_
      refine ret_pure (v' := V.b true) (.inr rfl) (by kernel_rfl) (by kernel_rfl) (by kernel_rfl)
    · refine aw_skip ?_
      refine xt_n ?_
      refine hK _ ?_
      clear hK K
      refine aw_seq_k fun K hK => ?_
      refine w_region (n' := 9) (by kernel_rfl) (by kernel_rfl) ?_
      refine e_call (first := []) (caps := []) (gWorks_ac) (by kernel_rfl) (by kernel_rfl) (by kernel_rfl) (by kernel_rfl) (by kernel_rfl) ?_
      refine aops_n hTT (M := []) (n := 1) [pv (8 : Nat) (V.b true)] (by kernel_rfl) (by kernel_rfl) True.intro ?_
      refine aops_nil ?_
      refine xt_n ?_
      refine hK _ ?_
      clear hK K
      refine aw_ret ?_
      refine ret_pure (v' := V.b true) (.inr rfl) (by kernel_rfl) (by kernel_rfl) (by kernel_rfl)
  · have h4 : F = 4194305 := by
      have := hFi.b
      have : ¬ F ≤ 4194304 := fun h => by have := okE_iff.2 h; omega
      omega
    rw [e0]
    have nf : fitB c l per 4194304 = false := hFi.lo _ (by decide) (by omega)
    have nr : fitB c l per r = false := hFi.lo _ hr.1 (by omega)
    obtain ⟨i, hi, hv, g1, g5⟩ := FaultV_not hc hk ⟨by decide, hp⟩ nf
    have B2 := Fault_ac c l 4194304 per hl
    unfold FaultT at B2
    rw [hv] at B2
    have f0 := fe0 nr
    refine aw_skip ?_
    refine xt_n ?_
    refine hK _ ?_
    clear hK K
    refine aw_seq_k fun K hK => ?_
    refine aw_seq_k fun K hK => ?_
    refine w_region (n' := 4) (by kernel_rfl) (by kernel_rfl) ?_
    refine aops_n hTT (M := []) (n := 2) [pv (116 : Nat) (V.i (14 : Int)), pv (117 : Nat) (V.b true)] (by kernel_rfl) (by kernel_rfl) True.intro ?_
    refine aops_nil ?_
    refine xt_n ?_
    refine hK _ ?_
    clear hK K
    refine w_true (t := true) (by kernel_rfl) rfl ?_
    refine aw_seq_k fun K hK => ?_
    refine w_region (n' := 5) (by kernel_rfl) (by kernel_rfl) ?_
    refine aops_n hTT (M := []) (n := 3) [pv (119 : Nat) (V.agg [V.i (Cut.half c), V.i (Cut.gain c), V.i (Cut.thin c), V.i (Cut.wide c), V.i (Cut.slope c), V.i (Cut.jerk c), V.i (Cut.sty c)]), pv (120 : Nat) (V.sl (2 : Nat) (List.length l) fun (k : Nat) => [V.i (Prod.fst (gp l k)), V.i (Prod.snd (gp l k))]), pv (121 : Nat) (V.i per)] (by kernel_rfl) (by kernel_rfl) True.intro ?_
    refine e_call (first := []) (caps := []) (B2) (by kernel_rfl) (by kernel_rfl) (by kernel_rfl) (by kernel_rfl) (by kernel_rfl) ?_
    refine aops_n hTT (M := []) (n := 7) [pv (118 : Nat) (V.tup [V.i (↑i : Int), V.i (Prod.fst (gRule c l (4194304 : Int) per i, (0 : Int))), V.i (Prod.snd (gRule c l (4194304 : Int) per i, (0 : Int)))]), pv (123 : Nat) (V.i (↑i : Int)), pv (124 : Nat) (V.i (gRule c l (4194304 : Int) per i)), pv (125 : Nat) (V.i (0 : Int)), pv (19 : Nat) (V.i (↑i : Int)), pv (20 : Nat) (V.i (gRule c l (4194304 : Int) per i)), pv (21 : Nat) (V.i (0 : Int))] (by kernel_rfl) (by kernel_rfl) True.intro ?_
    refine aops_nil ?_
    refine xt_n ?_
    refine hK _ ?_
    clear hK K
    refine aw_seq_k fun K hK => ?_
    refine w_region (n' := 6) (by kernel_rfl) (by kernel_rfl) ?_
    refine aops_n hTT (M := []) (n := 25) [pv (126 : Nat) (V.i fe), pv (127 : Nat) (V.b (decide (fe = (0 : Int)))), pv (128 : Nat) (V.b (decide (fe = (0 : Int)))), pc (129 : Nat) ((True ∧ True) ∧ ((decide (fe = (0 : Int)) == true) = true → True)) (V.gd (decide (fe = (0 : Int)) == true) (V.i (0 : Int))), pc (130 : Nat) ((((decide (fe = (0 : Int)) == true) = true → (decide (fe = (0 : Int)) == true) = true) ∧ True ∧ True) ∧ ((decide (fe = (0 : Int)) == true) = true → True)) (V.gd (decide (fe = (0 : Int)) == true) (V.b true)), pc (131 : Nat) ((decide (fe = (0 : Int)) = true → (decide (fe = (0 : Int)) == true) = true) ∧ True) (V.b (decide (fe = (0 : Int)) && true)), pv (132 : Nat) (V.b (decide (fe = (0 : Int)) && true)), pc (133 : Nat) ((True ∧ True) ∧ (((decide (fe = (0 : Int)) && true) == true) = true → True)) (V.gd ((decide (fe = (0 : Int)) && true) == true) (V.i (↑i : Int))), pc (134 : Nat) (((((decide (fe = (0 : Int)) && true) == true) = true → ((decide (fe = (0 : Int)) && true) == true) = true) ∧ True ∧ True) ∧ (((decide (fe = (0 : Int)) && true) == true) = true → True)) (V.gd ((decide (fe = (0 : Int)) && true) == true) (V.b (decide ((0 : Int) ≤ (↑i : Int))))), pc (135 : Nat) (((decide (fe = (0 : Int)) && true) = true → ((decide (fe = (0 : Int)) && true) == true) = true) ∧ True) (V.b (decide (fe = (0 : Int)) && true && decide ((0 : Int) ≤ (↑i : Int)))), pv (136 : Nat) (V.b (decide (fe = (0 : Int)) && true && decide ((0 : Int) ≤ (↑i : Int)))), pc (137 : Nat) ((True ∧ True) ∧ (((decide (fe = (0 : Int)) && true && decide ((0 : Int) ≤ (↑i : Int))) == true) = true → True)) (V.gd ((decide (fe = (0 : Int)) && true && decide ((0 : Int) ≤ (↑i : Int))) == true) (V.i (↑i : Int))), pc (138 : Nat) ((True ∧ True) ∧ (((decide (fe = (0 : Int)) && true && decide ((0 : Int) ≤ (↑i : Int))) == true) = true → True)) (V.gd ((decide (fe = (0 : Int)) && true && decide ((0 : Int) ≤ (↑i : Int))) == true) (V.sl (2 : Nat) (List.length l) fun (k : Nat) => [V.i (Prod.fst (gp l k)), V.i (Prod.snd (gp l k))])), pc (139 : Nat) (((((decide (fe = (0 : Int)) && true && decide ((0 : Int) ≤ (↑i : Int))) == true) = true → ((decide (fe = (0 : Int)) && true && decide ((0 : Int) ≤ (↑i : Int))) == true) = true) ∧ True) ∧ (((decide (fe = (0 : Int)) && true && decide ((0 : Int) ≤ (↑i : Int))) == true) = true → True)) (V.gd ((decide (fe = (0 : Int)) && true && decide ((0 : Int) ≤ (↑i : Int))) == true) (V.i (↑(List.length l) : Int))), pc (140 : Nat) (((((decide (fe = (0 : Int)) && true && decide ((0 : Int) ≤ (↑i : Int))) == true) = true → ((decide (fe = (0 : Int)) && true && decide ((0 : Int) ≤ (↑i : Int))) == true) = true) ∧ (((decide (fe = (0 : Int)) && true && decide ((0 : Int) ≤ (↑i : Int))) == true) = true → ((decide (fe = (0 : Int)) && true && decide ((0 : Int) ≤ (↑i : Int))) == true) = true) ∧ True) ∧ (((decide (fe = (0 : Int)) && true && decide ((0 : Int) ≤ (↑i : Int))) == true) = true → True)) (V.gd ((decide (fe = (0 : Int)) && true && decide ((0 : Int) ≤ (↑i : Int))) == true) (V.b (decide ((↑i : Int) < (↑(List.length l) : Int))))), pc (141 : Nat) (((decide (fe = (0 : Int)) && true && decide ((0 : Int) ≤ (↑i : Int))) = true → ((decide (fe = (0 : Int)) && true && decide ((0 : Int) ≤ (↑i : Int))) == true) = true) ∧ True) (V.b (decide (fe = (0 : Int)) && true && decide ((0 : Int) ≤ (↑i : Int)) && decide ((↑i : Int) < (↑(List.length l) : Int)))), pv (142 : Nat) (V.b (decide (fe = (0 : Int)) && true && decide ((0 : Int) ≤ (↑i : Int)) && decide ((↑i : Int) < (↑(List.length l) : Int)))), pc (143 : Nat) ((True ∧ True) ∧ (((decide (fe = (0 : Int)) && true && decide ((0 : Int) ≤ (↑i : Int)) && decide ((↑i : Int) < (↑(List.length l) : Int))) == true) = true → True)) (V.gd ((decide (fe = (0 : Int)) && true && decide ((0 : Int) ≤ (↑i : Int)) && decide ((↑i : Int) < (↑(List.length l) : Int))) == true) (V.i (gRule c l (4194304 : Int) per i))), pc (144 : Nat) (((((decide (fe = (0 : Int)) && true && decide ((0 : Int) ≤ (↑i : Int)) && decide ((↑i : Int) < (↑(List.length l) : Int))) == true) = true → ((decide (fe = (0 : Int)) && true && decide ((0 : Int) ≤ (↑i : Int)) && decide ((↑i : Int) < (↑(List.length l) : Int))) == true) = true) ∧ True ∧ True) ∧ (((decide (fe = (0 : Int)) && true && decide ((0 : Int) ≤ (↑i : Int)) && decide ((↑i : Int) < (↑(List.length l) : Int))) == true) = true → True)) (V.gd ((decide (fe = (0 : Int)) && true && decide ((0 : Int) ≤ (↑i : Int)) && decide ((↑i : Int) < (↑(List.length l) : Int))) == true) (V.b (decide ((1 : Int) ≤ gRule c l (4194304 : Int) per i)))), pc (145 : Nat) (((decide (fe = (0 : Int)) && true && decide ((0 : Int) ≤ (↑i : Int)) && decide ((↑i : Int) < (↑(List.length l) : Int))) = true → ((decide (fe = (0 : Int)) && true && decide ((0 : Int) ≤ (↑i : Int)) && decide ((↑i : Int) < (↑(List.length l) : Int))) == true) = true) ∧ True) (V.b (decide (fe = (0 : Int)) && true && decide ((0 : Int) ≤ (↑i : Int)) && decide ((↑i : Int) < (↑(List.length l) : Int)) && decide ((1 : Int) ≤ gRule c l (4194304 : Int) per i))), pv (146 : Nat) (V.b (decide (fe = (0 : Int)) && true && decide ((0 : Int) ≤ (↑i : Int)) && decide ((↑i : Int) < (↑(List.length l) : Int)) && decide ((1 : Int) ≤ gRule c l (4194304 : Int) per i))), pc (147 : Nat) ((True ∧ True) ∧ (((decide (fe = (0 : Int)) && true && decide ((0 : Int) ≤ (↑i : Int)) && decide ((↑i : Int) < (↑(List.length l) : Int)) && decide ((1 : Int) ≤ gRule c l (4194304 : Int) per i)) == true) = true → True)) (V.gd ((decide (fe = (0 : Int)) && true && decide ((0 : Int) ≤ (↑i : Int)) && decide ((↑i : Int) < (↑(List.length l) : Int)) && decide ((1 : Int) ≤ gRule c l (4194304 : Int) per i)) == true) (V.i (gRule c l (4194304 : Int) per i))), pc (148 : Nat) (((((decide (fe = (0 : Int)) && true && decide ((0 : Int) ≤ (↑i : Int)) && decide ((↑i : Int) < (↑(List.length l) : Int)) && decide ((1 : Int) ≤ gRule c l (4194304 : Int) per i)) == true) = true → ((decide (fe = (0 : Int)) && true && decide ((0 : Int) ≤ (↑i : Int)) && decide ((↑i : Int) < (↑(List.length l) : Int)) && decide ((1 : Int) ≤ gRule c l (4194304 : Int) per i)) == true) = true) ∧ True ∧ True) ∧ (((decide (fe = (0 : Int)) && true && decide ((0 : Int) ≤ (↑i : Int)) && decide ((↑i : Int) < (↑(List.length l) : Int)) && decide ((1 : Int) ≤ gRule c l (4194304 : Int) per i)) == true) = true → True)) (V.gd ((decide (fe = (0 : Int)) && true && decide ((0 : Int) ≤ (↑i : Int)) && decide ((↑i : Int) < (↑(List.length l) : Int)) && decide ((1 : Int) ≤ gRule c l (4194304 : Int) per i)) == true) (V.b (decide (gRule c l (4194304 : Int) per i ≤ (5 : Int))))), pc (149 : Nat) (((decide (fe = (0 : Int)) && true && decide ((0 : Int) ≤ (↑i : Int)) && decide ((↑i : Int) < (↑(List.length l) : Int)) && decide ((1 : Int) ≤ gRule c l (4194304 : Int) per i)) = true → ((decide (fe = (0 : Int)) && true && decide ((0 : Int) ≤ (↑i : Int)) && decide ((↑i : Int) < (↑(List.length l) : Int)) && decide ((1 : Int) ≤ gRule c l (4194304 : Int) per i)) == true) = true) ∧ True) (V.b (decide (fe = (0 : Int)) && true && decide ((0 : Int) ≤ (↑i : Int)) && decide ((↑i : Int) < (↑(List.length l) : Int)) && decide ((1 : Int) ≤ gRule c l (4194304 : Int) per i) && decide (gRule c l (4194304 : Int) per i ≤ (5 : Int)))), pv (150 : Nat) (V.b (decide (fe = (0 : Int)) && true && decide ((0 : Int) ≤ (↑i : Int)) && decide ((↑i : Int) < (↑(List.length l) : Int)) && decide ((1 : Int) ≤ gRule c l (4194304 : Int) per i) && decide (gRule c l (4194304 : Int) per i ≤ (5 : Int))))] (by kernel_rfl) (by kernel_rfl) ⟨⟨⟨True.intro, True.intro⟩, (fun _ => True.intro)⟩, ⟨⟨(by (exact fun h => h)), ⟨True.intro, True.intro⟩⟩, (fun _ => True.intro)⟩, ⟨(by (intro h; rw [h]; rfl)), True.intro⟩, ⟨⟨True.intro, True.intro⟩, (fun _ => True.intro)⟩, ⟨⟨(by (exact fun h => h)), ⟨True.intro, True.intro⟩⟩, (fun _ => True.intro)⟩, ⟨(by (intro h; rw [h]; rfl)), True.intro⟩, ⟨⟨True.intro, True.intro⟩, (fun _ => True.intro)⟩, ⟨⟨True.intro, True.intro⟩, (fun _ => True.intro)⟩, ⟨⟨(by (exact fun h => h)), True.intro⟩, (fun _ => True.intro)⟩, ⟨⟨(by (exact fun h => h)), ⟨(by (exact fun h => h)), True.intro⟩⟩, (fun _ => True.intro)⟩, ⟨(by (intro h; rw [h]; rfl)), True.intro⟩, ⟨⟨True.intro, True.intro⟩, (fun _ => True.intro)⟩, ⟨⟨(by (exact fun h => h)), ⟨True.intro, True.intro⟩⟩, (fun _ => True.intro)⟩, ⟨(by (intro h; rw [h]; rfl)), True.intro⟩, ⟨⟨True.intro, True.intro⟩, (fun _ => True.intro)⟩, ⟨⟨(by (exact fun h => h)), ⟨True.intro, True.intro⟩⟩, (fun _ => True.intro)⟩, ⟨(by (intro h; rw [h]; rfl)), True.intro⟩, True.intro⟩ ?_
    refine e_callG 0 (g := (decide (fe = (0 : Int)) && true && decide ((0 : Int) ≤ (↑i : Int)) && decide ((↑i : Int) < (↑(List.length l) : Int)) && decide ((1 : Int) ≤ gRule c l (4194304 : Int) per i) && decide (gRule c l (4194304 : Int) per i ≤ (5 : Int))) == true) (first := []) (caps := []) (by kernel_rfl) (fun h => gWorks_ac) (by kernel_rfl) (by kernel_rfl) (by kernel_rfl) (by kernel_rfl) (by kernel_rfl) (by kernel_rfl) ?_
    refine aops_n hTT (M := []) (n := 2) [pc (152 : Nat) (((decide (fe = (0 : Int)) && true && decide ((0 : Int) ≤ (↑i : Int)) && decide ((↑i : Int) < (↑(List.length l) : Int)) && decide ((1 : Int) ≤ gRule c l (4194304 : Int) per i) && decide (gRule c l (4194304 : Int) per i ≤ (5 : Int))) = true → ((decide (fe = (0 : Int)) && true && decide ((0 : Int) ≤ (↑i : Int)) && decide ((↑i : Int) < (↑(List.length l) : Int)) && decide ((1 : Int) ≤ gRule c l (4194304 : Int) per i) && decide (gRule c l (4194304 : Int) per i ≤ (5 : Int))) == true) = true) ∧ True) (V.b (decide (fe = (0 : Int)) && true && decide ((0 : Int) ≤ (↑i : Int)) && decide ((↑i : Int) < (↑(List.length l) : Int)) && decide ((1 : Int) ≤ gRule c l (4194304 : Int) per i) && decide (gRule c l (4194304 : Int) per i ≤ (5 : Int)) && true)), pv (8 : Nat) (V.b (decide (fe = (0 : Int)) && true && decide ((0 : Int) ≤ (↑i : Int)) && decide ((↑i : Int) < (↑(List.length l) : Int)) && decide ((1 : Int) ≤ gRule c l (4194304 : Int) per i) && decide (gRule c l (4194304 : Int) per i ≤ (5 : Int)) && true))] (by kernel_rfl) (by kernel_rfl) ⟨⟨(by (intro h; rw [h]; rfl)), True.intro⟩, True.intro⟩ ?_
    refine aops_nil ?_
    refine xt_n ?_
    refine hK _ ?_
    clear hK K
    refine aw_ret ?_
    refine xt_r ?_
    refine ret_pure (v' := V.b (decide (fe = (0 : Int)) && true && decide ((0 : Int) ≤ (↑i : Int)) && decide ((↑i : Int) < (↑(List.length l) : Int)) && decide ((1 : Int) ≤ gRule c l (4194304 : Int) per i) && decide (gRule c l (4194304 : Int) per i ≤ (5 : Int)) && true)) (.inr rfl) (by kernel_rfl) ?_ (by kernel_rfl)
    simp
    omega
def fitsSh : List Sh := [(.fld (.int .i64) (.fld (.int .i64) (.fld (.int .i64) (.fld (.int .i64) (.fld (.int .i64) (.fld (.int .i64) (.lst (.int .i64)))))))), (.sl (.fld (.int .i64) (.lst (.int .i64)))), (.int .i64), (.int .i64)]
theorem fits_all (x : TL fitsSh) (hx : wfL fitsSh x) : AC Try.prog 11 (valL fitsSh x) (V.b true) [] := by
  obtain ⟨⟨h, g, th, wi, sl, je, st⟩, l, per, r, _⟩ := x
  obtain ⟨_, ⟨h4, _⟩, _⟩ := hx
  exact fits_law ⟨h, g, th, wi, sl, je, st⟩ l per r h4
end Go.Proofs.Ytjjlgegccfolpaa
