/-
  What an index of a groove needs: the walks of both copies. Conditions: told in each theorem.
-/
import Derived.Test.YtjjlgegccfolpaaGA9
namespace Go.Proofs.Ytjjlgegccfolpaa
open Go.Ab Go.RowKit Go.Dw Go.Shelf

def needsR (c : Cut) (l : List Pt) (per i F : Int) : Int × Int :=
  if gErr c l = 0 then (if turnE per = 0 then (if 0 ≤ i ∧ i < l.length then (if F ≤ 4194304 then F else 0, if F ≤ 4194304 then 0 else 14) else (0, 3)) else (0, 3)) else (0, gErr c l)
theorem needsR_1 {c : Cut} {l : List Pt} {per i F : Int} (h : ¬ gErr c l = 0) : needsR c l per i F = (0, gErr c l) := by rw [needsR, if_neg h]
theorem needsR_2 {c : Cut} {l : List Pt} {per i F : Int} (h : gErr c l = 0) (h2 : ¬ turnE per = 0) : needsR c l per i F = (0, 3) := by rw [needsR, if_pos h, if_neg h2]
theorem needsR_3 {c : Cut} {l : List Pt} {per i F : Int} (h : gErr c l = 0) (h3 : ¬ (0 ≤ i ∧ i < l.length)) : needsR c l per i F = (0, 3) := by
  rw [needsR, if_pos h, if_neg h3]; split <;> rfl
theorem needsR_4 {c : Cut} {l : List Pt} {per i F : Int} (h : gErr c l = 0) (h2 : turnE per = 0) (h3 : 0 ≤ i ∧ i < l.length) : needsR c l per i F = (if F ≤ 4194304 then F else 0, if F ≤ 4194304 then 0 else 14) := by rw [needsR, if_pos h, if_pos h2, if_pos h3]
def NstOk (c : Cut) (l : List Pt) (per i F : Int) : Prop := gErr c l = 0 → turnE per = 0 → 0 ≤ i ∧ i < l.length → IsFst (needB c l per i.toNat) 4194305 F
theorem nstOk_ex (c : Cut) (l : List Pt) (per i : Int) : ∃ F, NstOk c l per i F := by
  by_cases h : gErr c l = 0 ∧ turnE per = 0
  · obtain ⟨F, hF⟩ := need_fst l i.toNat (gErr_ok h.1).1 (turnE_ok.1 h.2).1
    exact ⟨F, fun _ _ _ => hF⟩
  · exact ⟨0, fun a b _ => absurd ⟨a, b⟩ h⟩
set_option maxRecDepth 100000 in
theorem Needs_ac (c : Cut) (l : List Pt) (per i F : Int) (hl : l.length ≤ 4611686018427387904) (hF' : NstOk c l per i F) : AC Try.prog 24 [c.v, V.pts l, .i per, .i i] (.tup [.i (needsR c l per i F).1, .i (needsR c l per i F).2]) [] := by
  have P0 := checkPlace_ac 0 per
  rw [plcE_0] at P0
  refine ac_intro hTT hMX (fn := Try.f24) (N := _) ⟨Try.func24, rfl, Try.ntmps24, by kernel_rfl⟩ (by simp) fun C hC hF => ?_
  by_cases h : gErr c l = 0
  · obtain ⟨q1, q2⟩ := gErr_ok h
    refine aw_seq_k fun K hK => ?_
    refine w_region (n' := 2) (by kernel_rfl) (by kernel_rfl) ?_
    refine aops_n hTT (M := []) (n := 4) [pv (4 : Nat) (V.ptr [V.i (Cut.half c), V.i (Cut.gain c), V.i (Cut.thin c), V.i (Cut.wide c), V.i (Cut.slope c), V.i (Cut.jerk c), V.i (Cut.sty c)]), pv (7 : Nat) (V.ptr [V.i i]), pv (8 : Nat) (V.i (0 : Int)), pv (9 : Nat) (V.i (0 : Int))] (by kernel_rfl) (by kernel_rfl) True.intro ?_
    refine aops_nil ?_
    refine xt_n ?_
    refine hK _ ?_
    clear hK K
    refine aw_seq_k fun K hK => ?_
    refine w_region (n' := 3) (by kernel_rfl) (by kernel_rfl) ?_
    refine aops_n hTT (M := []) (n := 2) [pv (13 : Nat) (V.agg [V.i (Cut.half c), V.i (Cut.gain c), V.i (Cut.thin c), V.i (Cut.wide c), V.i (Cut.slope c), V.i (Cut.jerk c), V.i (Cut.sty c)]), pv (14 : Nat) (V.sl (2 : Nat) (List.length l) fun (k : Nat) => [V.i (Prod.fst (gp l k)), V.i (Prod.snd (gp l k))])] (by kernel_rfl) (by kernel_rfl) True.intro ?_
    refine e_callO (first := []) (caps := []) (k := 200015) (v' := V.tup [V.ref (200015 : Nat) (0 : Nat), V.i (0 : Int)]) (ob' := Ob.box (90 : Nat) [V.i (Cut.half c), V.i (Cut.gain c), V.i (Cut.thin c), V.i (Cut.wide c), V.i (Cut.slope c), V.i (Cut.jerk c), V.i (Cut.sty c), V.sl (2 : Nat) (List.length l) fun (k : Nat) => [V.i (Prod.fst (gp l k)), V.i (Prod.snd (gp l k))], V.i (0 : Int), V.i (0 : Int)]) (newTrack_ok c l hl h) (by kernel_rfl) (by kernel_rfl) (by kernel_rfl) (by kernel_rfl) (by kernel_rfl) (by kernel_rfl) (by kernel_rfl) ?_
    refine aops_n hTT (M := []) (n := 6) [pv (12 : Nat) (V.tup [V.ref (200015 : Nat) (0 : Nat), V.i (0 : Int)]), pv (16 : Nat) (V.ref (200015 : Nat) (0 : Nat)), pv (17 : Nat) (V.i (0 : Int)), pn (10 : Nat) (V.ref (200010 : Nat) (0 : Nat)) (200010 : Nat) (Ob.box (73 : Nat) [V.c (Value.pointer none)]), pw ((0 : Nat) + (1 : Nat) ≤ (1 : Nat)) (200010 : Nat) (Ob.box (73 : Nat) [V.ref (200015 : Nat) (0 : Nat)]), pv (11 : Nat) (V.i (0 : Int))] (by kernel_rfl) (by kernel_rfl) ⟨(by omega), True.intro⟩ ?_
    refine aops_nil ?_
    refine xt_n ?_
    refine hK _ ?_
    clear hK K
    refine aw_seq_k fun K hK => ?_
    refine aw_seq_k fun K hK => ?_
    refine w_region (n' := 4) (by kernel_rfl) (by kernel_rfl) ?_
    refine aops_n hTT (M := []) (n := 2) [pv (18 : Nat) (V.i (0 : Int)), pv (19 : Nat) (V.b true)] (by kernel_rfl) (by kernel_rfl) True.intro ?_
    refine aops_nil ?_
    refine xt_n ?_
    refine hK _ ?_
    clear hK K
    refine w_true (t := true) (by kernel_rfl) rfl ?_
    refine w_region (n' := 5) (by kernel_rfl) (by kernel_rfl) ?_
    refine aops_n hTT (M := []) (n := 1) [pv (20 : Nat) (V.i per)] (by kernel_rfl) (by kernel_rfl) True.intro ?_
    refine e_call (first := []) (caps := []) (P0) (by kernel_rfl) (by kernel_rfl) (by kernel_rfl) (by kernel_rfl) (by kernel_rfl) ?_
    refine aops_n hTT (M := []) (n := 1) [pv (11 : Nat) (V.i (turnE per))] (by kernel_rfl) (by kernel_rfl) True.intro ?_
    refine aops_nil ?_
    refine xt_n ?_
    refine hK _ ?_
    clear hK K
    refine aw_seq_k fun K hK => ?_
    refine aw_seq_k fun K hK => ?_
    refine w_region (n' := 6) (by kernel_rfl) (by kernel_rfl) ?_
    refine aops_n hTT (M := []) (n := 12) [pv (22 : Nat) (V.i (turnE per)), pv (23 : Nat) (V.b (decide (turnE per = (0 : Int)))), pv (24 : Nat) (V.b (decide (turnE per = (0 : Int)))), pc (25 : Nat) ((True ∧ True) ∧ ((decide (turnE per = (0 : Int)) == true) = true → True)) (V.gd (decide (turnE per = (0 : Int)) == true) (V.i i)), pc (26 : Nat) ((((decide (turnE per = (0 : Int)) == true) = true → (decide (turnE per = (0 : Int)) == true) = true) ∧ True ∧ True) ∧ ((decide (turnE per = (0 : Int)) == true) = true → True)) (V.gd (decide (turnE per = (0 : Int)) == true) (V.b (decide (i < (0 : Int))))), pc (27 : Nat) ((((decide (turnE per = (0 : Int)) == true) = true → (decide (turnE per = (0 : Int)) == true) = true) ∧ True) ∧ ((decide (turnE per = (0 : Int)) == true) = true → True)) (V.gd (decide (turnE per = (0 : Int)) == true) (V.b (decide (i < (0 : Int))))), pc (28 : Nat) ((True ∧ True) ∧ ((decide (turnE per = (0 : Int)) == true && decide (i < (0 : Int)) == false) = true → True)) (V.gd (decide (turnE per = (0 : Int)) == true && decide (i < (0 : Int)) == false) (V.i i)), pc (29 : Nat) ((True ∧ True) ∧ ((decide (turnE per = (0 : Int)) == true && decide (i < (0 : Int)) == false) = true → True)) (V.gd (decide (turnE per = (0 : Int)) == true && decide (i < (0 : Int)) == false) (V.sl (2 : Nat) (List.length l) fun (k : Nat) => [V.i (Prod.fst (gp l k)), V.i (Prod.snd (gp l k))])), pc (30 : Nat) ((((decide (turnE per = (0 : Int)) == true && decide (i < (0 : Int)) == false) = true → (decide (turnE per = (0 : Int)) == true && decide (i < (0 : Int)) == false) = true) ∧ True) ∧ ((decide (turnE per = (0 : Int)) == true && decide (i < (0 : Int)) == false) = true → True)) (V.gd (decide (turnE per = (0 : Int)) == true && decide (i < (0 : Int)) == false) (V.i (↑(List.length l) : Int))), pc (31 : Nat) ((((decide (turnE per = (0 : Int)) == true && decide (i < (0 : Int)) == false) = true → (decide (turnE per = (0 : Int)) == true && decide (i < (0 : Int)) == false) = true) ∧ ((decide (turnE per = (0 : Int)) == true && decide (i < (0 : Int)) == false) = true → (decide (turnE per = (0 : Int)) == true && decide (i < (0 : Int)) == false) = true) ∧ True) ∧ ((decide (turnE per = (0 : Int)) == true && decide (i < (0 : Int)) == false) = true → True)) (V.gd (decide (turnE per = (0 : Int)) == true && decide (i < (0 : Int)) == false) (V.b (decide ((↑(List.length l) : Int) ≤ i)))), pc (32 : Nat) (((decide (turnE per = (0 : Int)) == true) = true → (decide (turnE per = (0 : Int)) == true) = true) ∧ ((decide (turnE per = (0 : Int)) == true) = true → True) ∧ ((decide (turnE per = (0 : Int)) == true) = true → decide (i < (0 : Int)) = false → (decide (turnE per = (0 : Int)) == true && decide (i < (0 : Int)) == false) = true)) (V.gd (decide (turnE per = (0 : Int)) == true) (V.b (decide (i < (0 : Int)) || decide ((↑(List.length l) : Int) ≤ i)))), pc (33 : Nat) ((decide (turnE per = (0 : Int)) = true → (decide (turnE per = (0 : Int)) == true) = true) ∧ True) (V.b (decide (turnE per = (0 : Int)) && (decide (i < (0 : Int)) || decide ((↑(List.length l) : Int) ≤ i))))] (by kernel_rfl) (by kernel_rfl) ⟨⟨⟨True.intro, True.intro⟩, (fun _ => True.intro)⟩, ⟨⟨(by (exact fun h => h)), ⟨True.intro, True.intro⟩⟩, (fun _ => True.intro)⟩, ⟨⟨(by (exact fun h => h)), True.intro⟩, (fun _ => True.intro)⟩, ⟨⟨True.intro, True.intro⟩, (fun _ => True.intro)⟩, ⟨⟨True.intro, True.intro⟩, (fun _ => True.intro)⟩, ⟨⟨(by (exact fun h => h)), True.intro⟩, (fun _ => True.intro)⟩, ⟨⟨(by (exact fun h => h)), ⟨(by (exact fun h => h)), True.intro⟩⟩, (fun _ => True.intro)⟩, ⟨(by (exact fun h => h)), ⟨(fun _ => True.intro), (by (simp; omega))⟩⟩, ⟨(by (intro h; rw [h]; rfl)), True.intro⟩, True.intro⟩ ?_
    refine aops_nil ?_
    refine xt_n ?_
    refine hK _ ?_
    clear hK K
    refine w_cond (t := decide (turnE per = (0 : Int)) && (decide (i < (0 : Int)) || decide ((↑(List.length l) : Int) ≤ i))) (by kernel_rfl) (fun c1 => ?_) (fun c1 => ?_)
    · have h2 : turnE per = 0 := by simp at c1; omega
      have h3 : ¬ (0 ≤ i ∧ i < l.length) := by simp at c1; omega
      refine w_region (n' := 7) (by kernel_rfl) (by kernel_rfl) ?_
      refine aops_n hTT (M := []) (n := 1) [pv (11 : Nat) (V.i (3 : Int))] (by kernel_rfl) (by kernel_rfl) True.intro ?_
      refine aops_nil ?_
      refine xt_n ?_
      refine hK _ ?_
      clear hK K
      refine aw_seq_k fun K hK => ?_
      refine aw_seq_k fun K hK => ?_
      refine w_region (n' := 8) (by kernel_rfl) (by kernel_rfl) ?_
      refine aops_n hTT (M := []) (n := 2) [pv (34 : Nat) (V.i (3 : Int)), pv (35 : Nat) (V.b true)] (by kernel_rfl) (by kernel_rfl) True.intro ?_
      refine aops_nil ?_
      refine xt_n ?_
      refine hK _ ?_
      clear hK K
      refine w_true (t := true) (by kernel_rfl) rfl ?_
      refine aw_seq_k fun K hK => ?_
      refine w_region (n' := 9) (by kernel_rfl) (by kernel_rfl) ?_
      refine aops_n hTT (M := []) (n := 3) [pv (36 : Nat) (V.i (3 : Int)), pv (8 : Nat) (V.i (0 : Int)), pv (9 : Nat) (V.i (3 : Int))] (by kernel_rfl) (by kernel_rfl) True.intro ?_
      refine aops_nil ?_
      refine xt_n ?_
      refine hK _ ?_
      clear hK K
      refine aw_ret ?_
      refine xt_r ?_
      rw [needsR_3 h h3]
      refine ret_pure (v' := V.tup [V.i (0 : Int), V.i (3 : Int)]) (.inr rfl) (by kernel_rfl) (by kernel_rfl) (by kernel_rfl)
    · refine aw_skip ?_
      refine xt_n ?_
      refine hK _ ?_
      clear hK K
      refine aw_seq_k fun K hK => ?_
      refine aw_seq_k fun K hK => ?_
      refine w_region (n' := 7) (by kernel_rfl) (by kernel_rfl) ?_
      refine aops_n hTT (M := []) (n := 2) [pv (34 : Nat) (V.i (turnE per)), pv (35 : Nat) (V.b !decide (turnE per = (0 : Int)))] (by kernel_rfl) (by kernel_rfl) True.intro ?_
      refine aops_nil ?_
      refine xt_n ?_
      refine hK _ ?_
      clear hK K
      refine w_cond (t := !decide (turnE per = (0 : Int))) (by kernel_rfl) (fun c2 => ?_) (fun c2 => ?_)
      · have h2 : ¬ turnE per = 0 := by simpa using c2
        refine aw_seq_k fun K hK => ?_
        refine w_region (n' := 8) (by kernel_rfl) (by kernel_rfl) ?_
        refine aops_n hTT (M := []) (n := 3) [pv (36 : Nat) (V.i (turnE per)), pv (8 : Nat) (V.i (0 : Int)), pv (9 : Nat) (V.i (turnE per))] (by kernel_rfl) (by kernel_rfl) True.intro ?_
        refine aops_nil ?_
        refine xt_n ?_
        refine hK _ ?_
        clear hK K
        refine aw_ret ?_
        refine xt_r ?_
        rw [needsR_2 h h2, (turnE_or per).resolve_left h2]
        refine ret_pure (v' := V.tup [V.i (0 : Int), V.i (3 : Int)]) (.inr rfl) (by kernel_rfl) (by kernel_rfl) (by kernel_rfl)
      · have h2 : turnE per = 0 := by simpa using c2
        have h3 : 0 ≤ i ∧ i < l.length := by simp [h2] at c1; omega
        have A := leastIN_am c l 0 0 per F i.toNat q1 q2 (turnE_ok.1 h2) (by omega) (hF' h h2 h3)
        rw [show ((i.toNat : Nat) : Int) = i by omega] at A
        refine aw_skip ?_
        refine xt_n ?_
        refine hK _ ?_
        clear hK K
        refine aw_seq_k fun K hK => ?_
        refine w_region (n' := 8) (by kernel_rfl) (by kernel_rfl) ?_
        refine aops_n hTT (M := []) (n := 3) [pc (37 : Nat) ((0 : Nat) ≤ (1 : Nat)) (V.ref (200015 : Nat) (0 : Nat)), pv (38 : Nat) (V.i per), pv (39 : Nat) (V.fn (Fn.func (55 : Nat)) [] [V.ref (200010 : Nat) (0 : Nat), V.ptr [V.i i]])] (by kernel_rfl) (by kernel_rfl) ⟨(by omega), True.intro⟩ ?_
        refine aops_callM [200015, 200010] (first := []) (caps := []) (ins' := [Ob.box (90 : Nat) [V.i (Cut.half c), V.i (Cut.gain c), V.i (Cut.thin c), V.i (Cut.wide c), V.i (Cut.slope c), V.i (Cut.jerk c), V.i (Cut.sty c), V.sl (2 : Nat) (List.length l) fun (k : Nat) => [V.i (Prod.fst (gp l k)), V.i (Prod.snd (gp l k))], V.i (0 : Int), V.i (0 : Int)], Ob.box (73 : Nat) [V.ref (200015 : Nat) (0 : Nat)]]) (v' := V.tup [V.i (if F ≤ (4194304 : Int) then F else (0 : Int)), V.i (if F ≤ (4194304 : Int) then (0 : Int) else (14 : Int))]) (δ := [(200015, Option.none), (200010, Option.none)]) (kp := [200015, 200010]) (A) (by kernel_rfl) (by kernel_rfl) (by kernel_rfl) (by kernel_rfl) (by kernel_rfl) (by kernel_rfl) rfl rfl (by kernel_rfl) (.box (by kernel_rfl) (by kernel_rfl) (.box (by kernel_rfl) (by kernel_rfl) .nil)) (by kernel_rfl) (by kernel_rfl) (by kernel_rfl) ?_
        refine aops_n hTT (M := []) (n := 4) [pv (41 : Nat) (V.i (if F ≤ (4194304 : Int) then F else (0 : Int))), pv (42 : Nat) (V.i (if F ≤ (4194304 : Int) then (0 : Int) else (14 : Int))), pv (8 : Nat) (V.i (if F ≤ (4194304 : Int) then F else (0 : Int))), pv (9 : Nat) (V.i (if F ≤ (4194304 : Int) then (0 : Int) else (14 : Int)))] (by kernel_rfl) (by kernel_rfl) True.intro ?_
        refine aops_nil ?_
        refine xt_n ?_
        refine hK _ ?_
        clear hK K
        refine aw_ret ?_
        rw [needsR_4 h h2 h3]
        refine ret_pure (v' := V.tup [V.i (if F ≤ (4194304 : Int) then F else (0 : Int)), V.i (if F ≤ (4194304 : Int) then (0 : Int) else (14 : Int))]) (.inr rfl) (by kernel_rfl) (by kernel_rfl) (by kernel_rfl)
  · refine aw_seq_k fun K hK => ?_
    refine w_region (n' := 2) (by kernel_rfl) (by kernel_rfl) ?_
    refine aops_n hTT (M := []) (n := 4) [pv (4 : Nat) (V.ptr [V.i (Cut.half c), V.i (Cut.gain c), V.i (Cut.thin c), V.i (Cut.wide c), V.i (Cut.slope c), V.i (Cut.jerk c), V.i (Cut.sty c)]), pv (7 : Nat) (V.ptr [V.i i]), pv (8 : Nat) (V.i (0 : Int)), pv (9 : Nat) (V.i (0 : Int))] (by kernel_rfl) (by kernel_rfl) True.intro ?_
    refine aops_nil ?_
    refine xt_n ?_
    refine hK _ ?_
    clear hK K
    refine aw_seq_k fun K hK => ?_
    refine w_region (n' := 3) (by kernel_rfl) (by kernel_rfl) ?_
    refine aops_n hTT (M := []) (n := 2) [pv (13 : Nat) (V.agg [V.i (Cut.half c), V.i (Cut.gain c), V.i (Cut.thin c), V.i (Cut.wide c), V.i (Cut.slope c), V.i (Cut.jerk c), V.i (Cut.sty c)]), pv (14 : Nat) (V.sl (2 : Nat) (List.length l) fun (k : Nat) => [V.i (Prod.fst (gp l k)), V.i (Prod.snd (gp l k))])] (by kernel_rfl) (by kernel_rfl) True.intro ?_
    refine e_call (first := []) (caps := []) (newTrack_no c l hl h) (by kernel_rfl) (by kernel_rfl) (by kernel_rfl) (by kernel_rfl) (by kernel_rfl) ?_
    refine aops_n hTT (M := []) (n := 6) [pv (12 : Nat) (V.tup [V.c (Value.pointer none), V.i (gErr c l)]), pv (16 : Nat) (V.c (Value.pointer none)), pv (17 : Nat) (V.i (gErr c l)), pn (10 : Nat) (V.ref (200010 : Nat) (0 : Nat)) (200010 : Nat) (Ob.box (73 : Nat) [V.c (Value.pointer none)]), pw ((0 : Nat) + (1 : Nat) ≤ (1 : Nat)) (200010 : Nat) (Ob.box (73 : Nat) [V.c (Value.pointer none)]), pv (11 : Nat) (V.i (gErr c l))] (by kernel_rfl) (by kernel_rfl) ⟨(by omega), True.intro⟩ ?_
    refine aops_nil ?_
    refine xt_n ?_
    refine hK _ ?_
    clear hK K
    refine aw_seq_k fun K hK => ?_
    refine aw_seq_k fun K hK => ?_
    refine w_region (n' := 4) (by kernel_rfl) (by kernel_rfl) ?_
    refine aops_n hTT (M := []) (n := 2) [pv (18 : Nat) (V.i (gErr c l)), pv (19 : Nat) (V.b (decide (gErr c l = (0 : Int))))] (by kernel_rfl) (by kernel_rfl) True.intro ?_
    refine aops_nil ?_
    refine xt_n ?_
    refine hK _ ?_
    clear hK K
    refine w_cond (t := decide (gErr c l = (0 : Int))) (by kernel_rfl) (fun c1 => ?_) (fun c1 => ?_)
    · simp at c1
      exact absurd c1 h
    refine aw_skip ?_
    refine xt_n ?_
    refine hK _ ?_
    clear hK K
    refine aw_seq_k fun K hK => ?_
    refine aw_seq_k fun K hK => ?_
    refine w_region (n' := 5) (by kernel_rfl) (by kernel_rfl) ?_
    refine aops_n hTT (M := []) (n := 12) [pv (22 : Nat) (V.i (gErr c l)), pv (23 : Nat) (V.b (decide (gErr c l = (0 : Int)))), pv (24 : Nat) (V.b (decide (gErr c l = (0 : Int)))), pc (25 : Nat) ((True ∧ True) ∧ ((decide (gErr c l = (0 : Int)) == true) = true → True)) (V.gd (decide (gErr c l = (0 : Int)) == true) (V.i i)), pc (26 : Nat) ((((decide (gErr c l = (0 : Int)) == true) = true → (decide (gErr c l = (0 : Int)) == true) = true) ∧ True ∧ True) ∧ ((decide (gErr c l = (0 : Int)) == true) = true → True)) (V.gd (decide (gErr c l = (0 : Int)) == true) (V.b (decide (i < (0 : Int))))), pc (27 : Nat) ((((decide (gErr c l = (0 : Int)) == true) = true → (decide (gErr c l = (0 : Int)) == true) = true) ∧ True) ∧ ((decide (gErr c l = (0 : Int)) == true) = true → True)) (V.gd (decide (gErr c l = (0 : Int)) == true) (V.b (decide (i < (0 : Int))))), pc (28 : Nat) ((True ∧ True) ∧ ((decide (gErr c l = (0 : Int)) == true && decide (i < (0 : Int)) == false) = true → True)) (V.gd (decide (gErr c l = (0 : Int)) == true && decide (i < (0 : Int)) == false) (V.i i)), pc (29 : Nat) ((True ∧ True) ∧ ((decide (gErr c l = (0 : Int)) == true && decide (i < (0 : Int)) == false) = true → True)) (V.gd (decide (gErr c l = (0 : Int)) == true && decide (i < (0 : Int)) == false) (V.sl (2 : Nat) (List.length l) fun (k : Nat) => [V.i (Prod.fst (gp l k)), V.i (Prod.snd (gp l k))])), pc (30 : Nat) ((((decide (gErr c l = (0 : Int)) == true && decide (i < (0 : Int)) == false) = true → (decide (gErr c l = (0 : Int)) == true && decide (i < (0 : Int)) == false) = true) ∧ True) ∧ ((decide (gErr c l = (0 : Int)) == true && decide (i < (0 : Int)) == false) = true → True)) (V.gd (decide (gErr c l = (0 : Int)) == true && decide (i < (0 : Int)) == false) (V.i (↑(List.length l) : Int))), pc (31 : Nat) ((((decide (gErr c l = (0 : Int)) == true && decide (i < (0 : Int)) == false) = true → (decide (gErr c l = (0 : Int)) == true && decide (i < (0 : Int)) == false) = true) ∧ ((decide (gErr c l = (0 : Int)) == true && decide (i < (0 : Int)) == false) = true → (decide (gErr c l = (0 : Int)) == true && decide (i < (0 : Int)) == false) = true) ∧ True) ∧ ((decide (gErr c l = (0 : Int)) == true && decide (i < (0 : Int)) == false) = true → True)) (V.gd (decide (gErr c l = (0 : Int)) == true && decide (i < (0 : Int)) == false) (V.b (decide ((↑(List.length l) : Int) ≤ i)))), pc (32 : Nat) (((decide (gErr c l = (0 : Int)) == true) = true → (decide (gErr c l = (0 : Int)) == true) = true) ∧ ((decide (gErr c l = (0 : Int)) == true) = true → True) ∧ ((decide (gErr c l = (0 : Int)) == true) = true → decide (i < (0 : Int)) = false → (decide (gErr c l = (0 : Int)) == true && decide (i < (0 : Int)) == false) = true)) (V.gd (decide (gErr c l = (0 : Int)) == true) (V.b (decide (i < (0 : Int)) || decide ((↑(List.length l) : Int) ≤ i)))), pc (33 : Nat) ((decide (gErr c l = (0 : Int)) = true → (decide (gErr c l = (0 : Int)) == true) = true) ∧ True) (V.b (decide (gErr c l = (0 : Int)) && (decide (i < (0 : Int)) || decide ((↑(List.length l) : Int) ≤ i))))] (by kernel_rfl) (by kernel_rfl) ⟨⟨⟨True.intro, True.intro⟩, (fun _ => True.intro)⟩, ⟨⟨(by (exact fun h => h)), ⟨True.intro, True.intro⟩⟩, (fun _ => True.intro)⟩, ⟨⟨(by (exact fun h => h)), True.intro⟩, (fun _ => True.intro)⟩, ⟨⟨True.intro, True.intro⟩, (fun _ => True.intro)⟩, ⟨⟨True.intro, True.intro⟩, (fun _ => True.intro)⟩, ⟨⟨(by (exact fun h => h)), True.intro⟩, (fun _ => True.intro)⟩, ⟨⟨(by (exact fun h => h)), ⟨(by (exact fun h => h)), True.intro⟩⟩, (fun _ => True.intro)⟩, ⟨(by (exact fun h => h)), ⟨(fun _ => True.intro), (by (intro hg; simp at hg; omega))⟩⟩, ⟨(by (intro h; rw [h]; rfl)), True.intro⟩, True.intro⟩ ?_
    refine aops_nil ?_
    refine xt_n ?_
    refine hK _ ?_
    clear hK K
    refine w_cond (t := decide (gErr c l = (0 : Int)) && (decide (i < (0 : Int)) || decide ((↑(List.length l) : Int) ≤ i))) (by kernel_rfl) (fun c2 => ?_) (fun c2 => ?_)
    · simp at c2
      exact absurd c2.1 h
    refine aw_skip ?_
    refine xt_n ?_
    refine hK _ ?_
    clear hK K
    refine aw_seq_k fun K hK => ?_
    refine aw_seq_k fun K hK => ?_
    refine w_region (n' := 6) (by kernel_rfl) (by kernel_rfl) ?_
    refine aops_n hTT (M := []) (n := 2) [pv (34 : Nat) (V.i (gErr c l)), pv (35 : Nat) (V.b !decide (gErr c l = (0 : Int)))] (by kernel_rfl) (by kernel_rfl) True.intro ?_
    refine aops_nil ?_
    refine xt_n ?_
    refine hK _ ?_
    clear hK K
    refine w_cond (t := !decide (gErr c l = (0 : Int))) (by kernel_rfl) (fun c3 => ?_) (fun c3 => ?_)
    · refine aw_seq_k fun K hK => ?_
      refine w_region (n' := 7) (by kernel_rfl) (by kernel_rfl) ?_
      refine aops_n hTT (M := []) (n := 3) [pv (36 : Nat) (V.i (gErr c l)), pv (8 : Nat) (V.i (0 : Int)), pv (9 : Nat) (V.i (gErr c l))] (by kernel_rfl) (by kernel_rfl) True.intro ?_
      refine aops_nil ?_
      refine xt_n ?_
      refine hK _ ?_
      clear hK K
      refine aw_ret ?_
      refine xt_r ?_
      rw [needsR_1 h]
      refine ret_pure (v' := V.tup [V.i (0 : Int), V.i (gErr c l)]) (.inr rfl) (by kernel_rfl) (by kernel_rfl) (by kernel_rfl)
    · simp at c3
      exact absurd c3 h
end Go.Proofs.Ytjjlgegccfolpaa
