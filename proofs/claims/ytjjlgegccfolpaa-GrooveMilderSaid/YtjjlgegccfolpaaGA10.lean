/-
  What an index of a groove needs: the walks of both copies. Conditions: told in each theorem.
-/
import Derived.Test.YtjjlgegccfolpaaGA9
namespace Go.Proofs.Ytjjlgegccfolpaa
open Go.Ab Go.RowKit Go.Dw Go.Shelf

def needsR (c : Cut) (l : List Pt) (per i F : Int) : Int × Int :=
  if gErr c l = 0 then (if turnE per = 0 then (if 0 ≤ i ∧ i < l.length then (if F ≤ 4194304 then F else 0, if F ≤ 4194304 then 0 else 14) else (0, 3)) else (0, 3)) else (0, gErr c l)
theorem needsR_1 {c : Cut} {l : List Pt} {per i F : Int} (h : ¬ gErr c l = 0) : needsR c l per i F = (0, gErr c l) := by rw [needsR, if_neg h]
theorem needsR_2 {c : Cut} {l : List Pt} {per i F : Int} (h : gErr c l = 0) (h2 : ¬ turnE per = 0) : needsR c l per i F = (0, 3) := by rw [needsR, if_pos h, if_neg h2]
theorem needsR_3 {c : Cut} {l : List Pt} {per i F : Int} (h : gErr c l = 0) (h3 : ¬ (0 ≤ i ∧ i < l.length)) : needsR c l per i F = (0, 3) := by
  rw [needsR, if_pos h, if_neg h3]; split <;> rfl
theorem needsR_4 {c : Cut} {l : List Pt} {per i F : Int} (h : gErr c l = 0) (h2 : turnE per = 0) (h3 : 0 ≤ i ∧ i < l.length) : needsR c l per i F = (if F ≤ 4194304 then F else 0, if F ≤ 4194304 then 0 else 14) := by rw [needsR, if_pos h, if_pos h2, if_pos h3]
def NstOk (c : Cut) (l : List Pt) (per i F : Int) : Prop := gErr c l = 0 → turnE per = 0 → 0 ≤ i ∧ i < l.length → IsFst (needB c l per i.toNat) 4194305 F
theorem nstOk_ex (c : Cut) (l : List Pt) (per i : Int) : ∃ F, NstOk c l per i F := by
  by_cases h : gErr c l = 0 ∧ turnE per = 0
  · obtain ⟨F, hF⟩ := need_fst l i.toNat (gErr_ok h.1).1 (turnE_ok.1 h.2).1
    exact ⟨F, fun _ _ _ => hF⟩
  · exact ⟨0, fun a b _ => absurd ⟨a, b⟩ h⟩
set_option maxRecDepth 100000 in
theorem Needs_ac (c : Cut) (l : List Pt) (per i F : Int) (hl : l.length ≤ 4611686018427387904) (hF' : NstOk c l per i F) : AC Try.prog 24 [c.v, V.pts l, .i per, .i i] (.tup [.i (needsR c l per i F).1, .i (needsR c l per i F).2]) [] := by
  have P0 := checkPlace_ac 0 per
  rw [plcE_0] at P0
  refine ac_intro hTT hMX (fn := Try.f24) (N := _) ⟨Try.func24, rfl, Try.ntmps24, by kernel_rfl⟩ (by simp) fun C hC hF => ?_
  by_cases h : gErr c l = 0
  · obtain ⟨q1, q2⟩ := gErr_ok h
    refine aw_seq_k fun K hK => ?_
    refine w_region (n' := 2) (by kernel_rfl) (by kernel_rfl) ?_
    refine aops_n hTT (M := []) (n := 4) [pv (4 : Nat) (V.ptr [V.i (Cut.half c), V.i (Cut.gain c), V.i (Cut.thin c), V.i (Cut.wide c), V.i (Cut.slope c), V.i (Cut.jerk c), V.i (Cut.sty c)]), pv (7 : Nat) (V.ptr [V.i i]), pv (8 : Nat) (V.i (0 : Int)), pv (9 : Nat) (V.i (0 : Int))] (by kernel_rfl) (by kernel_rfl) True.intro ?_
    refine aops_nil ?_
    refine xt_n ?_
    refine hK _ ?_
    clear hK K
    refine aw_seq_k fun K hK => ?_
    refine w_region (n' := 3) (by kernel_rfl) (by kernel_rfl) ?_
    refine aops_n hTT (M := []) (n := 2) [pv (13 : Nat) (V.agg [V.i (Cut.half c), V.i (Cut.gain c), V.i (Cut.thin c), V.i (Cut.wide c), V.i (Cut.slope c), V.i (Cut.jerk c), V.i (Cut.sty c)]), pv (14 : Nat) (V.sl (2 : Nat) (List.length l) fun (k : Nat) => [V.i (Prod.fst (gp l k)), V.i (Prod.snd (gp l k))])] (by kernel_rfl) (by kernel_rfl) True.intro ?_
    refine e_callO (first := []) (caps := []) (k := 200015) (v' := V.tup [V.ref (200015 : Nat) (0 : Nat), V.i (0 : Int)]) (ob' := Ob.box (90 : Nat) [V.i (Cut.half c), V.i (Cut.gain c), V.i (Cut.thin c), V.i (Cut.wide c), V.i (Cut.slope c), V.i (Cut.jerk c), V.i (Cut.sty c), V.sl (2 : Nat) (List.length l) fun (k : Nat) => [V.i (Prod.fst (gp l k)), V.i (Prod.snd (gp l k))], V.i (0 : Int), V.i (0 : Int)]) (newTrack_ok c l hl h) (by kernel_rfl) (by kernel_rfl) (by kernel_rfl) (by kernel_rfl) (by kernel_rfl) (by kernel_rfl) (by kernel_rfl) ?_
    refine aops_n hTT (M := []) (n := 6) [pv (12 : Nat) (V.tup [V.ref (200015 : Nat) (0 : Nat), V.i (0 : Int)]), pv (16 : Nat) (V.ref (200015 : Nat) (0 : Nat)), pv (17 : Nat) (V.i (0 : Int)), pn (10 : Nat) (V.ref (200010 : Nat) (0 : Nat)) (200010 : Nat) (Ob.box (73 : Nat) [V.c (Value.pointer none)]), pw ((0 : Nat) + (1 : Nat) ≤ (1 : Nat)) (200010 : Nat) (Ob.box (73 : Nat) [V.ref (200015 : Nat) (0 : Nat)]), pv (11 : Nat) (V.i (0 : Int))] (by kernel_rfl) (by kernel_rfl) ⟨(by omega), True.intro⟩ ?_
    refine aops_nil ?_
    refine xt_n ?_
    refine hK _ ?_
    clear hK K
    refine aw_seq_k fun K hK => ?_
    refine aw_seq_k fun K hK => ?_
    refine w_region (n' := 4) (by kernel_rfl) (by kernel_rfl) ?_
    refine aops_n hTT (M := []) (n := 2) [pv (18 : Nat) (V.i (0 : Int)), pv (19 : Nat) (V.b true)] (by kernel_rfl) (by kernel_rfl) True.intro ?_
    refine aops_nil ?_
    refine xt_n ?_
    refine hK _ ?_
    clear hK K
    refine w_true (t := true) (by kernel_rfl) rfl ?_
    refine w_region (n' := 5) (by kernel_rfl) (by kernel_rfl) ?_
    refine aops_n hTT (M := []) (n := 1) [pv (20 : Nat) (V.i per)] (by kernel_rfl) (by kernel_rfl) True.intro ?_
    refine e_call (first := []) (caps := []) (P0) (by kernel_rfl) (by kernel_rfl) (by kernel_rfl) (by kernel_rfl) (by kernel_rfl) ?_
    refine aops_n hTT (M := []) (n := 1) [pv (11 : Nat) (V.i (turnE per))] (by kernel_rfl) (by kernel_rfl) True.intro ?_
    refine aops_nil ?_
    refine xt_n ?_
    refine hK _ ?_
    clear hK K
    refine aw_seq_k fun K hK => ?_
    refine aw_seq_k fun K hK => ?_
    refine w_region (n' := 6) (by kernel_rfl) (by kernel_rfl) ?_
    refine aops_n hTT (M := []) (n := 12) [pv (22 : Nat) (V.i (turnE per)), pv (23 : Nat) (V.b (decide (turnE per = (0 : Int)))), pv (24 : Nat) (V.b (decide (turnE per = (0 : Int)))), pc (25 : Nat) ((True ∧ True) ∧ ((decide (turnE per = (0 : Int)) == true) = true → True)) (V.gd (decide (turnE per = (0 : Int)) == true) (V.i i)), pc (26 : Nat) ((((decide (turnE per = (0 : Int)) == true) = true → (decide (turnE per = (0 : Int)) == true) = true) ∧ True ∧ True) ∧ ((decide (turnE per = (0 : Int)) == true) = true → True)) (V.gd (decide (turnE per = (0 : Int)) == true) (V.b (decide (i < (0 : Int))))), pc (27 : Nat) ((((decide (turnE per = (0 : Int)) == true) = true → (decide (turnE per = (0 : Int)) == true) = true) ∧ True) ∧ ((decide (turnE per = (0 : Int)) == true) = true → True)) (V.gd (decide (turnE per = (0 : Int)) == true) (V.b (decide (i < (0 : Int))))), pc (28 : Nat) ((True ∧ True) ∧ ((decide (turnE per = (0 : Int)) == true && decide (i < (0 : Int)) == false) = true → True)) (V.gd (decide (turnE per = (0 : Int)) == true && decide (i < (0 : Int)) == false) (V.i i)), pc (29 : Nat) ((True ∧ True) ∧ ((decide (turnE per = (0 : Int)) == true && decide (i < (0 : Int)) == false) = true → True)) (V.gd (decide (turnE per = (0 : Int)) == true && decide (i < (0 : Int)) == false) (V.sl (2 : Nat) (List.length l) fun (k : Nat) => [V.i (Prod.fst (gp l k)), V.i (Prod.snd (gp l k))])), pc (30 : Nat) ((((decide (turnE per = (0 : Int)) == true && decide (i < (0 : Int)) == false) = true → (decide (turnE per = (0 : Int)) == true && decide (i < (0 : Int)) == false) = true) ∧ True) ∧ ((decide (turnE per = (0 : Int)) == true && decide (i < (0 : Int)) == false) = true → True)) (V.gd (decide (turnE per = (0 : Int)) == true && decide (i < (0 : Int)) == false) (V.i (↑(List.length l) : Int))), pc (31 : Nat) ((((decide (turnE per = (0 : Int)) == true && decide (i < (0 : Int)) == false) = true → (decide (turnE per = (0 : Int)) == true && decide (i < (0 : Int)) == false) = true) ∧ ((decide (turnE per = (0 : Int)) == true && decide (i < (0 : Int)) == false) = true → (decide (turnE per = (0 : Int)) == true && decide (i < (0 : Int)) == false) = true) ∧ True) ∧ ((decide (turnE per = (0 : Int)) == true && decide (i < (0 : Int)) == false) = true → True)) (V.gd (decide (turnE per = (0 : Int)) == true && decide (i < (0 : Int)) == false) (V.b (decide ((↑(List.length l) : Int) ≤ i)))), pc (32 : Nat) (((decide (turnE per = (0 : Int)) == true) = true → (decide (turnE per = (0 : Int)) == true) = true) ∧ ((decide (turnE per = (0 : Int)) == true) = true → True) ∧ ((decide (turnE per = (0 : Int)) == true) = true → decide (i < (0 : Int)) = false → (decide (turnE per = (0 : Int)) == true && decide (i < (0 : Int)) == false) = true)) (V.gd (decide (turnE per = (0 : Int)) == true) (V.b (decide (i < (0 : Int)) || decide ((↑(List.length l) : Int) ≤ i)))), pc (33 : Nat) ((decide (turnE per = (0 : Int)) = true → (decide (turnE per = (0 : Int)) == true) = true) ∧ True) (V.b (decide (turnE per = (0 : Int)) && (decide (i < (0 : Int)) || decide ((↑(List.length l) : Int) ≤ i))))] (by kernel_rfl) (by kernel_rfl) ⟨⟨⟨True.intro, True.intro⟩, (fun _ => True.intro)⟩, ⟨⟨(by (exact fun h => h)), ⟨True.intro, True.intro⟩⟩, (fun _ => True.intro)⟩, ⟨⟨(by (exact fun h => h)), True.intro⟩, (fun _ => True.intro)⟩, ⟨⟨True.intro, True.intro⟩, (fun _ => True.intro)⟩, ⟨⟨True.intro, True.intro⟩, (fun _ => True.intro)⟩, ⟨⟨(by (exact fun h => h)), True.intro⟩, (fun _ => True.intro)⟩, ⟨⟨(by (exact fun h => h)), ⟨(by (exact fun h => h)), True.intro⟩⟩, (fun _ => True.intro)⟩, ⟨(by (exact fun h => h)), ⟨(fun _ => True.intro), (by (simp; omega))⟩⟩, ⟨(by (intro h; rw [h]; rfl)), True.intro⟩, True.intro⟩ ?_
    refine aops_nil ?_
    refine xt_n ?_
    refine hK _ ?_
    clear hK K
    refine w_cond (t := decide (turnE per = (0 : Int)) && (decide (i < (0 : Int)) || decide ((↑(List.length l) : Int) ≤ i))) (by kernel_rfl) (fun c1 => ?_) (fun c1 => ?_)
    · have h2 : turnE per = 0 := by simp at c1; omega
      have h3 : ¬ (0 ≤ i ∧ i < l.length) := by simp at c1; omega
      refine w_region (n' := 7) (by kernel_rfl) (by kernel_rfl) ?_
      refine aops_n hTT (M := []) (n := 1) [pv (11 : Nat) (V.i (3 : Int))] (by kernel_rfl) (by kernel_rfl) True.intro ?_
      refine aops_nil ?_
      refine xt_n ?_
      refine hK _ ?_
      clear hK K
      refine aw_seq_k fun K hK => ?_
      refine aw_seq_k fun K hK => ?_
      refine w_region (n' := 8) (by kernel_rfl) (by kernel_rfl) ?_
      refine aops_n hTT (M := []) (n := 2) [pv (34 : Nat) (V.i (3 : Int)), pv (35 : Nat) (V.b true)] (by kernel_rfl) (by kernel_rfl) True.intro ?_
      refine aops_nil ?_
      refine xt_n ?_
      refine hK _ ?_
      clear hK K
      refine w_true (t := true) (by kernel_rfl) rfl ?_
      refine aw_seq_k fun K hK => ?_
      refine w_region (n' := 9) (by kernel_rfl) (by kernel_rfl) ?_
      refine aops_n hTT (M := []) (n := 3) [pv (36 : Nat) (V.i (3 : Int)), pv (8 : Nat) (V.i (0 : Int)), pv (9 : Nat) (V.i (3 : Int))] (by kernel_rfl) (by kernel_rfl) True.intro ?_
      refine aops_nil ?_
      refine xt_n ?_
      refine hK _ ?_
      clear hK K
      refine aw_ret ?_
      refine xt_r ?_
      rw [needsR_3 h h3]
      refine ret_pure (v' := V.tup [V.i (0 : Int), V.i (3 : Int)]) (.inr rfl) (by kernel_rfl) (by kernel_rfl) (by kernel_rfl)
    · refine aw_skip ?_
      refine xt_n ?_
      refine hK _ ?_
      clear hK K
      refine aw_seq_k fun K hK => ?_
      refine aw_seq_k fun K hK => ?_
      refine w_region (n' := 7) (by kernel_rfl) (by kernel_rfl) ?_
      refine aops_n hTT (M := []) (n := 2) [pv (34 : Nat) (V.i (turnE per)), pv (35 : Nat) (V.b !decide (turnE per = (0 : Int)))] (by kernel_rfl) (by kernel_rfl) True.intro ?_
      refine aops_nil ?_
      refine xt_n ?_
      refine hK _ ?_
      clear hK K
      refine w_cond (t := !decide (turnE per = (0 : Int))) (by kernel_rfl) (fun c2 => ?_) (fun c2 => ?_)
      · have h2 : ¬ turnE per = 0 := by simpa using c2
        refine aw_seq_k fun K hK => ?_
        refine w_region (n' := 8) (by kernel_rfl) (by kernel_rfl) ?_
        refine aops_n hTT (M := []) (n := 3) [pv (36 : Nat) (V.i (turnE per)), pv (8 : Nat) (V.i (0 : Int)), pv (9 : Nat) (V.i (turnE per))] (by kernel_rfl) (by kernel_rfl) True.intro ?_
        refine aops_nil ?_
        refine xt_n ?_
        refine hK _ ?_
        clear hK K
        refine aw_ret ?_
        refine xt_r ?_
        rw [needsR_2 h h2, (turnE_or per).resolve_left h2]
        refine ret_pure (v' := V.tup [V.i (0 : Int), V.i (3 : Int)]) (.inr rfl) (by kernel_rfl) (by kernel_rfl) (by kernel_rfl)
      · have h2 : turnE per = 0 := by simpa using c2
        have h3 : 0 ≤ i ∧ i < l.length := by simp [h2] at c1; omega
        have A := leastIN_am c l 0 0 per F i.toNat q1 q2 (turnE_ok.1 h2) (by omega) (hF' h h2 h3)
        rw [show ((i.toNat : Nat) : Int) = i by omega] at A
        refine aw_skip ?_
        refine xt_n ?_
        refine hK _ ?_
        clear hK K
        refine aw_seq_k fun K hK => ?_
        refine w_region (n' := 8) (by kernel_rfl) (by kernel_rfl) ?_
        refine aops_n hTT (M := []) (n := 3) [pc (37 : Nat) ((0 : Nat) ≤ (1 : Nat)) (V.ref (200015 : Nat) (0 : Nat)), pv (38 : Nat) (V.i per), pv (39 : Nat) (V.fn (Fn.func (55 : Nat)) [] [V.ref (200010 : Nat) (0 : Nat), V.ptr [V.i i]])] (by kernel_rfl) (by kernel_rfl) ⟨(by omega), True.intro⟩ ?_
        refine aops_callM [200015, 200010] (first := []) (caps := []) (ins' := [Ob.box (90 : Nat) [V.i (Cut.half c), V.i (Cut.gain c), V.i (Cut.thin c), V.i (Cut.wide c), V.i (Cut.slope c), V.i (Cut.jerk c), V.i (Cut.sty c), V.sl (2 : Nat) (List.length l) fun (k : Nat) => [V.i (Prod.fst (gp l k)), V.i (Prod.snd (gp l k))], V.i (0 : Int), V.i (0 : Int)], Ob.box (73 : Nat) [V.ref (200015 : Nat) (0 : Nat)]]) (v' := V.tup [V.i (if F ≤ (4194304 : Int) then F else (0 : Int)), V.i (if F ≤ (4194304 : Int) then (0 : Int) else (14 : Int))]) (δ := [(200015, Option.none), (200010, Option.none)]) (kp := [200015, 200010]) (A) (by kernel_rfl) (by kernel_rfl) (by kernel_rfl) (by kernel_rfl) (by kernel_rfl) (by kernel_rfl) rfl rfl (by kernel_rfl) (.box (by kernel_rfl) (by kernel_rfl) (.box (by kernel_rfl) (by kernel_rfl) .nil)) (by kernel_rfl) (by kernel_rfl) (by kernel_rfl) ?_
        refine aops_n hTT (M := []) (n := 4) [pv (41 : Nat) (V.i (if F ≤ (4194304 : Int) then F else (0 : Int))), pv (42 : Nat) (V.i (if F ≤ (4194304 : Int) then (0 : Int) else (14 : Int))), pv (8 : Nat) (V.i (if F ≤ (4194304 : Int) then F else (0 : Int))), pv (9 : Nat) (V.i (if F ≤ (4194304 : Int) then (0 : Int) else (14 : Int)))] (by kernel_rfl) (by kernel_rfl) True.intro ?_
        refine aops_nil ?_
        refine xt_n ?_
        refine hK _ ?_
        clear hK K
        refine aw_ret ?_
        rw [needsR_4 h h2 h3]
        refine ret_pure (v' := V.tup [V.i (if F ≤ (4194304 : Int) then F else (0 : Int)), V.i (if F ≤ (4194304 : Int) then (0 : Int) else (14 : Int))]) (.inr rfl) (by kernel_rfl) (by kernel_rfl) (by kernel_rfl)
  · refine aw_seq_k fun K hK => ?_
    refine w_region (n' := 2) (by kernel_rfl) (by kernel_rfl) ?_
    refine aops_n hTT (M := []) (n := 4) [pv (4 : Nat) (V.ptr [V.i (Cut.half c), V.i (Cut.gain c), V.i (Cut.thin c), V.i (Cut.wide c), V.i (Cut.slope c), V.i (Cut.jerk c), V.i (Cut.sty c)]), pv (7 : Nat) (V.ptr [V.i i]), pv (8 : Nat) (V.i (0 : Int)), pv (9 : Nat) (V.i (0 : Int))] (by kernel_rfl) (by kernel_rfl) True.intro ?_
    refine aops_nil ?_
    refine xt_n ?_
    refine hK _ ?_
    clear hK K
    refine aw_seq_k fun K hK => ?_
    refine w_region (n' := 3) (by kernel_rfl) (by kernel_rfl) ?_
    refine aops_n hTT (M := []) (n := 2) [pv (13 : Nat) (V.agg [V.i (Cut.half c), V.i (Cut.gain c), V.i (Cut.thin c), V.i (Cut.wide c), V.i (Cut.slope c), V.i (Cut.jerk c), V.i (Cut.sty c)]), pv (14 : Nat) (V.sl (2 : Nat) (List.length l) fun (k : Nat) => [V.i (Prod.fst (gp l k)), V.i (Prod.snd (gp l k))])] (by kernel_rfl) (by kernel_rfl) True.intro ?_
    refine e_call (first := []) (caps := []) (newTrack_no c l hl h) (by kernel_rfl) (by kernel_rfl) (by kernel_rfl) (by kernel_rfl) (by kernel_rfl) ?_
    refine aops_n hTT (M := []) (n := 6) [pv (12 : Nat) (V.tup [V.c (Value.pointer none), V.i (gErr c l)]), pv (16 : Nat) (V.c (Value.pointer none)), pv (17 : Nat) (V.i (gErr c l)), pn (10 : Nat) (V.ref (200010 : Nat) (0 : Nat)) (200010 : Nat) (Ob.box (73 : Nat) [V.c (Value.pointer none)]), pw ((0 : Nat) + (1 : Nat) ≤ (1 : Nat)) (200010 : Nat) (Ob.box (73 : Nat) [V.c (Value.pointer none)]), pv (11 : Nat) (V.i (gErr c l))] (by kernel_rfl) (by kernel_rfl) ⟨(by omega), True.intro⟩ ?_
    refine aops_nil ?_
    refine xt_n ?_
    refine hK _ ?_
    clear hK K
    refine aw_seq_k fun K hK => ?_
    refine aw_seq_k fun K hK => ?_
    refine w_region (n' := 4) (by kernel_rfl) (by kernel_rfl) ?_
    refine aops_n hTT (M := []) (n := 2) [pv (18 : Nat) (V.i (gErr c l)), pv (19 : Nat) (V.b (decide (gErr c l = (0 : Int))))] (by kernel_rfl) (by kernel_rfl) True.intro ?_
    refine aops_nil ?_
    refine xt_n ?_
    refine hK _ ?_
    clear hK K
    refine w_cond (t := decide (gErr c l = (0 : Int))) (by kernel_rfl) (fun c1 => ?_) (fun c1 => ?_)
    · simp at c1
      exact absurd c1 h
    refine aw_skip ?_
    refine xt_n ?_
    refine hK _ ?_
    clear hK K
    refine aw_seq_k fun K hK => ?_
    refine aw_seq_k fun K hK => ?_
    refine w_region (n' := 5) (by kernel_rfl) (by kernel_rfl) ?_
    refine aops_n hTT (M := []) (n := 12) [pv (22 : Nat) (V.i (gErr c l)), pv (23 : Nat) (V.b (decide (gErr c l = (0 : Int)))), pv (24 : Nat) (V.b (decide (gErr c l = (0 : Int)))), pc (25 : Nat) ((True ∧ True) ∧ ((decide (gErr c l = (0 : Int)) == true) = true → True)) (V.gd (decide (gErr c l = (0 : Int)) == true) (V.i i)), pc (26 : Nat) ((((decide (gErr c l = (0 : Int)) == true) = true → (decide (gErr c l = (0 : Int)) == true) = true) ∧ True ∧ True) ∧ ((decide (gErr c l = (0 : Int)) == true) = true → True)) (V.gd (decide (gErr c l = (0 : Int)) == true) (V.b (decide (i < (0 : Int))))), pc (27 : Nat) ((((decide (gErr c l = (0 : Int)) == true) = true → (decide (gErr c l = (0 : Int)) == true) = true) ∧ True) ∧ ((decide (gErr c l = (0 : Int)) == true) = true → True)) (V.gd (decide (gErr c l = (0 : Int)) == true) (V.b (decide (i < (0 : Int))))), pc (28 : Nat) ((True ∧ True) ∧ ((decide (gErr c l = (0 : Int)) == true && decide (i < (0 : Int)) == false) = true → True)) (V.gd (decide (gErr c l = (0 : Int)) == true && decide (i < (0 : Int)) == false) (V.i i)), pc (29 : Nat) ((True ∧ True) ∧ ((decide (gErr c l = (0 : Int)) == true && decide (i < (0 : Int)) == false) = true → True)) (V.gd (decide (gErr c l = (0 : Int)) == true && decide (i < (0 : Int)) == false) (V.sl (2 : Nat) (List.length l) fun (k : Nat) => [V.i (Prod.fst (gp l k)), V.i (Prod.snd (gp l k))])), pc (30 : Nat) ((((decide (gErr c l = (0 : Int)) == true && decide (i < (0 : Int)) == false) = true → (decide (gErr c l = (0 : Int)) == true && decide (i < (0 : Int)) == false) = true) ∧ True) ∧ ((decide (gErr c l = (0 : Int)) == true && decide (i < (0 : Int)) == false) = true → True)) (V.gd (decide (gErr c l = (0 : Int)) == true && decide (i < (0 : Int)) == false) (V.i (↑(List.length l) : Int))), pc (31 : Nat) ((((decide (gErr c l = (0 : Int)) == true && decide (i < (0 : Int)) == false) = true → (decide (gErr c l = (0 : Int)) == true && decide (i < (0 : Int)) == false) = true) ∧ ((decide (gErr c l = (0 : Int)) == true && decide (i < (0 : Int)) == false) = true → (decide (gErr c l = (0 : Int)) == true && decide (i < (0 : Int)) == false) = true) ∧ True) ∧ ((decide (gErr c l = (0 : Int)) == true && decide (i < (0 : Int)) == false) = true → True)) (V.gd (decide (gErr c l = (0 : Int)) == true && decide (i < (0 : Int)) == false) (V.b (decide ((↑(List.length l) : Int) ≤ i)))), pc (32 : Nat) (((decide (gErr c l = (0 : Int)) == true) = true → (decide (gErr c l = (0 : Int)) == true) = true) ∧ ((decide (gErr c l = (0 : Int)) == true) = true → True) ∧ ((decide (gErr c l = (0 : Int)) == true) = true → decide (i < (0 : Int)) = false → (decide (gErr c l = (0 : Int)) == true && decide (i < (0 : Int)) == false) = true)) (V.gd (decide (gErr c l = (0 : Int)) == true) (V.b (decide (i < (0 : Int)) || decide ((↑(List.length l) : Int) ≤ i)))), pc (33 : Nat) ((decide (gErr c l = (0 : Int)) = true → (decide (gErr c l = (0 : Int)) == true) = true) ∧ True) (V.b (decide (gErr c l = (0 : Int)) && (decide (i < (0 : Int)) || decide ((↑(List.length l) : Int) ≤ i))))] (by kernel_rfl) (by kernel_rfl) ⟨⟨⟨True.intro, True.intro⟩, (fun _ => True.intro)⟩, ⟨⟨(by (exact fun h => h)), ⟨True.intro, True.intro⟩⟩, (fun _ => True.intro)⟩, ⟨⟨(by (exact fun h => h)), True.intro⟩, (fun _ => True.intro)⟩, ⟨⟨True.intro, True.intro⟩, (fun _ => True.intro)⟩, ⟨⟨True.intro, True.intro⟩, (fun _ => True.intro)⟩, ⟨⟨(by (exact fun h => h)), True.intro⟩, (fun _ => True.intro)⟩, ⟨⟨(by (exact fun h => h)), ⟨(by (exact fun h => h)), True.intro⟩⟩, (fun _ => True.intro)⟩, ⟨(by (exact fun h => h)), ⟨(fun _ => True.intro), (by (intro hg; simp at hg; omega))⟩⟩, ⟨(by (intro h; rw [h]; rfl)), True.intro⟩, True.intro⟩ ?_
    refine aops_nil ?_
    refine xt_n ?_
    refine hK _ ?_
    clear hK K
    refine w_cond (t := decide (gErr c l = (0 : Int)) && (decide (i < (0 : Int)) || decide ((↑(List.length l) : Int) ≤ i))) (by kernel_rfl) (fun c2 => ?_) (fun c2 => ?_)
    · simp at c2
      exact absurd c2.1 h
    refine aw_skip ?_
    refine xt_n ?_
    refine hK _ ?_
    clear hK K
    refine aw_seq_k fun K hK => ?_
    refine aw_seq_k fun K hK => ?_
    refine w_region (n' := 6) (by kernel_rfl) (by kernel_rfl) ?_
    refine aops_n hTT (M := []) (n := 2) [pv (34 : Nat) (V.i (gErr c l)), pv (35 : Nat) (V.b !decide (gErr c l = (0 : Int)))] (by kernel_rfl) (by kernel_rfl) True.intro ?_
    refine aops_nil ?_
    refine xt_n ?_
    refine hK _ ?_
    clear hK K
    refine w_cond (t := !decide (gErr c l = (0 : Int))) (by kernel_rfl) (fun c3 => ?_) (fun c3 => ?_)
    · refine aw_seq_k fun K hK => ?_
      refine w_region (n' := 7) (by kernel_rfl) (by kernel_rfl) ?_
      refine aops_n hTT (M := []) (n := 3) [pv (36 : Nat) (V.i (gErr c l)), pv (8 : Nat) (V.i (0 : Int)), pv (9 : Nat) (V.i (gErr c l))] (by kernel_rfl) (by kernel_rfl) True.intro ?_
      refine aops_nil ?_
      refine xt_n ?_
      refine hK _ ?_
      clear hK K
      refine aw_ret ?_
      refine xt_r ?_
      rw [needsR_1 h]
      refine ret_pure (v' := V.tup [V.i (0 : Int), V.i (gErr c l)]) (.inr rfl) (by kernel_rfl) (by kernel_rfl) (by kernel_rfl)
    · simp at c3
      exact absurd c3 h
set_option maxRecDepth 100000 in
theorem refNeeds_ac (c : Cut) (l : List Pt) (per i F : Int) (hl : l.length ≤ 4611686018427387904) (hr : inR .i64 i) (hF' : NstOk c l per i F) : AC Try.prog 25 [c.v, V.pts l, .i per, .i i] (.tup [.i (needsR c l per i F).1, .i (needsR c l per i F).2]) [] := by
  refine ac_intro hTT hMX (fn := Try.f25) (N := _) ⟨Try.func25, rfl, Try.ntmps25, by kernel_rfl⟩ (by simp) fun C hC hF => ?_
  refine aw_seq_k fun K hK => ?_
  refine w_region (n' := 2) (by kernel_rfl) (by kernel_rfl) ?_
  refine aops_n hTT (M := []) (n := 3) [pv (4 : Nat) (V.ptr [V.i (Cut.half c), V.i (Cut.gain c), V.i (Cut.thin c), V.i (Cut.wide c), V.i (Cut.slope c), V.i (Cut.jerk c), V.i (Cut.sty c)]), pv (8 : Nat) (V.i (0 : Int)), pv (9 : Nat) (V.i (0 : Int))] (by kernel_rfl) (by kernel_rfl) True.intro ?_
  refine aops_nil ?_
  refine xt_n ?_
  refine hK _ ?_
  clear hK K
  refine aw_seq_k fun K hK => ?_
  refine aw_seq_k fun K hK => ?_
  refine w_region (n' := 3) (by kernel_rfl) (by kernel_rfl) ?_
  refine aops_n hTT (M := []) (n := 2) [pv (15 : Nat) (V.agg [V.i (Cut.half c), V.i (Cut.gain c), V.i (Cut.thin c), V.i (Cut.wide c), V.i (Cut.slope c), V.i (Cut.jerk c), V.i (Cut.sty c)]), pv (16 : Nat) (V.sl (2 : Nat) (List.length l) fun (k : Nat) => [V.i (Prod.fst (gp l k)), V.i (Prod.snd (gp l k))])] (by kernel_rfl) (by kernel_rfl) True.intro ?_
  refine e_call (first := []) (caps := []) (grooved_ac c l hl) (by kernel_rfl) (by kernel_rfl) (by kernel_rfl) (by kernel_rfl) (by kernel_rfl) ?_
  refine aops_n hTT (M := []) (n := 1) [pv (18 : Nat) (V.b !decide (gErr c l = (0 : Int)))] (by kernel_rfl) (by kernel_rfl) True.intro ?_
  refine aops_nil ?_
  refine xt_n ?_
  refine hK _ ?_
  clear hK K
  refine w_cond (t := !decide (gErr c l = (0 : Int))) (by kernel_rfl) (fun c0 => ?_) (fun c0 => ?_)
  · have h : ¬ gErr c l = 0 := by simpa using c0
    refine aw_seq_k fun K hK => ?_
    refine w_region (n' := 4) (by kernel_rfl) (by kernel_rfl) ?_
    refine aops_n hTT (M := []) (n := 2) [pv (19 : Nat) (V.agg [V.i (Cut.half c), V.i (Cut.gain c), V.i (Cut.thin c), V.i (Cut.wide c), V.i (Cut.slope c), V.i (Cut.jerk c), V.i (Cut.sty c)]), pv (20 : Nat) (V.sl (2 : Nat) (List.length l) fun (k : Nat) => [V.i (Prod.fst (gp l k)), V.i (Prod.snd (gp l k))])] (by kernel_rfl) (by kernel_rfl) True.intro ?_
    refine e_call (first := []) (caps := []) (grooved_ac c l hl) (by kernel_rfl) (by kernel_rfl) (by kernel_rfl) (by kernel_rfl) (by kernel_rfl) ?_
    refine aops_n hTT (M := []) (n := 2) [pv (8 : Nat) (V.i (0 : Int)), pv (9 : Nat) (V.i (gErr c l))] (by kernel_rfl) (by kernel_rfl) True.intro ?_
    refine aops_nil ?_
    refine xt_n ?_
    refine hK _ ?_
    clear hK K
    refine aw_ret ?_
    refine xt_r ?_
    rw [needsR_1 h]
    refine ret_pure (v' := V.tup [V.i (0 : Int), V.i (gErr c l)]) (.inr rfl) (by kernel_rfl) (by kernel_rfl) (by kernel_rfl)
  have h : gErr c l = 0 := by simpa using c0
  obtain ⟨q1, q2⟩ := gErr_ok h
  obtain ⟨l1, l2⟩ := gChk_ok.1 q2
  refine aw_skip ?_
  refine xt_n ?_
  refine hK _ ?_
  clear hK K
  refine aw_seq_k fun K hK => ?_
  refine aw_seq_k fun K hK => ?_
  refine w_region (n' := 4) (by kernel_rfl) (by kernel_rfl) ?_
  refine aops_n hTT (M := []) (n := 1) [pv (22 : Nat) (V.i per)] (by kernel_rfl) (by kernel_rfl) True.intro ?_
  refine e_call (first := []) (caps := []) (turn_ac per) (by kernel_rfl) (by kernel_rfl) (by kernel_rfl) (by kernel_rfl) (by kernel_rfl) ?_
  refine aops_n hTT (M := []) (n := 11) [pv (24 : Nat) (V.b !decide (turnE per = (0 : Int))), pv (25 : Nat) (V.b !decide (turnE per = (0 : Int))), pc (26 : Nat) ((True ∧ True) ∧ (((!decide (turnE per = (0 : Int))) == false) = true → True)) (V.gd ((!decide (turnE per = (0 : Int))) == false) (V.i i)), pc (27 : Nat) (((((!decide (turnE per = (0 : Int))) == false) = true → ((!decide (turnE per = (0 : Int))) == false) = true) ∧ True ∧ True) ∧ (((!decide (turnE per = (0 : Int))) == false) = true → True)) (V.gd ((!decide (turnE per = (0 : Int))) == false) (V.b (decide (i < (0 : Int))))), pc (28 : Nat) (True ∧ ((!decide (turnE per = (0 : Int))) = false → ((!decide (turnE per = (0 : Int))) == false) = true)) (V.b (!decide (turnE per = (0 : Int)) || decide (i < (0 : Int)))), pv (29 : Nat) (V.b (!decide (turnE per = (0 : Int)) || decide (i < (0 : Int)))), pc (30 : Nat) ((True ∧ True) ∧ (((!decide (turnE per = (0 : Int)) || decide (i < (0 : Int))) == false) = true → True)) (V.gd ((!decide (turnE per = (0 : Int)) || decide (i < (0 : Int))) == false) (V.i i)), pc (31 : Nat) ((True ∧ True) ∧ (((!decide (turnE per = (0 : Int)) || decide (i < (0 : Int))) == false) = true → True)) (V.gd ((!decide (turnE per = (0 : Int)) || decide (i < (0 : Int))) == false) (V.sl (2 : Nat) (List.length l) fun (k : Nat) => [V.i (Prod.fst (gp l k)), V.i (Prod.snd (gp l k))])), pc (32 : Nat) (((((!decide (turnE per = (0 : Int)) || decide (i < (0 : Int))) == false) = true → ((!decide (turnE per = (0 : Int)) || decide (i < (0 : Int))) == false) = true) ∧ True) ∧ (((!decide (turnE per = (0 : Int)) || decide (i < (0 : Int))) == false) = true → True)) (V.gd ((!decide (turnE per = (0 : Int)) || decide (i < (0 : Int))) == false) (V.i (↑(List.length l) : Int))), pc (33 : Nat) (((((!decide (turnE per = (0 : Int)) || decide (i < (0 : Int))) == false) = true → ((!decide (turnE per = (0 : Int)) || decide (i < (0 : Int))) == false) = true) ∧ (((!decide (turnE per = (0 : Int)) || decide (i < (0 : Int))) == false) = true → ((!decide (turnE per = (0 : Int)) || decide (i < (0 : Int))) == false) = true) ∧ True) ∧ (((!decide (turnE per = (0 : Int)) || decide (i < (0 : Int))) == false) = true → True)) (V.gd ((!decide (turnE per = (0 : Int)) || decide (i < (0 : Int))) == false) (V.b (decide ((↑(List.length l) : Int) ≤ i)))), pc (34 : Nat) (True ∧ ((!decide (turnE per = (0 : Int)) || decide (i < (0 : Int))) = false → ((!decide (turnE per = (0 : Int)) || decide (i < (0 : Int))) == false) = true)) (V.b (!decide (turnE per = (0 : Int)) || decide (i < (0 : Int)) || decide ((↑(List.length l) : Int) ≤ i)))] (by kernel_rfl) (by kernel_rfl) ⟨⟨⟨True.intro, True.intro⟩, (fun _ => True.intro)⟩, ⟨⟨(by (exact fun h => h)), ⟨True.intro, True.intro⟩⟩, (fun _ => True.intro)⟩, ⟨True.intro, (by (intro h; rw [h]; rfl))⟩, ⟨⟨True.intro, True.intro⟩, (fun _ => True.intro)⟩, ⟨⟨True.intro, True.intro⟩, (fun _ => True.intro)⟩, ⟨⟨(by (exact fun h => h)), True.intro⟩, (fun _ => True.intro)⟩, ⟨⟨(by (exact fun h => h)), ⟨(by (exact fun h => h)), True.intro⟩⟩, (fun _ => True.intro)⟩, ⟨True.intro, (by (intro h; rw [h]; rfl))⟩, True.intro⟩ ?_
  refine aops_nil ?_
  refine xt_n ?_
  refine hK _ ?_
  clear hK K
  refine w_cond (t := !decide (turnE per = (0 : Int)) || decide (i < (0 : Int)) || decide ((↑(List.length l) : Int) ≤ i)) (by kernel_rfl) (fun c1 => ?_) (fun c1 => ?_)
  · have h2 : ¬ (turnE per = 0 ∧ 0 ≤ i ∧ i < l.length) := by simp at c1; omega
    have e : needsR c l per i F = (0, 3) := by
      by_cases h3 : turnE per = 0
      · exact needsR_3 h fun h4 => h2 ⟨h3, h4⟩
      · exact needsR_2 h h3
    refine aw_seq_k fun K hK => ?_
    refine w_region (n' := 5) (by kernel_rfl) (by kernel_rfl) ?_
    refine aops_n hTT (M := []) (n := 2) [pv (8 : Nat) (V.i (0 : Int)), pv (9 : Nat) (V.i (3 : Int))] (by kernel_rfl) (by kernel_rfl) True.intro ?_
    refine aops_nil ?_
    refine xt_n ?_
    refine hK _ ?_
    clear hK K
    refine aw_ret ?_
    refine xt_r ?_
    rw [e]
    refine ret_pure (v' := V.tup [V.i (0 : Int), V.i (3 : Int)]) (.inr rfl) (by kernel_rfl) (by kernel_rfl) (by kernel_rfl)
  have h2 : turnE per = 0 ∧ 0 ≤ i ∧ i < l.length := by simp at c1; omega
  obtain ⟨h2, h3⟩ := h2
  obtain ⟨ix, rfl⟩ : ∃ ix : Nat, (ix : Int) = i := ⟨i.toNat, by omega⟩
  have hx : ix < l.length := by omega
  have hI := hF' h h2 h3
  rw [show ((ix : Nat) : Int).toNat = ix by omega] at hI
  have hFb := hI.b
  have hp := turnE_ok.1 h2
  have hw := win_len (l := l) (i := ix)
  refine aw_skip ?_
  refine xt_n ?_
  refine hK _ ?_
  clear hK K
  refine aw_seq_k fun K hK => ?_
  refine w_region (n' := 5) (by kernel_rfl) (by kernel_rfl) ?_
  refine aops_n hTT (M := []) (n := 10) [pv (35 : Nat) (V.i (↑ix : Int)), pc (36 : Nat) ((-9223372036854775808 : Int) ≤ (↑ix : Int) - (1 : Int) ∧ (↑ix : Int) - (1 : Int) ≤ (9223372036854775807 : Int)) (V.i ((↑ix : Int) - (1 : Int))), pv (37 : Nat) (V.i (max (0 : Int) ((↑ix : Int) - (1 : Int)))), pv (38 : Nat) (V.sl (2 : Nat) (List.length l) fun (k : Nat) => [V.i (Prod.fst (gp l k)), V.i (Prod.snd (gp l k))]), pv (39 : Nat) (V.i (↑(List.length l) : Int)), pv (40 : Nat) (V.i (↑ix : Int)), pc (41 : Nat) ((-9223372036854775808 : Int) ≤ (↑ix : Int) + (2 : Int) ∧ (↑ix : Int) + (2 : Int) ≤ (9223372036854775807 : Int)) (V.i ((↑ix : Int) + (2 : Int))), pv (42 : Nat) (V.i (min (↑(List.length l) : Int) ((↑ix : Int) + (2 : Int)))), pv (10 : Nat) (V.i (max (0 : Int) ((↑ix : Int) - (1 : Int)))), pv (11 : Nat) (V.i (min (↑(List.length l) : Int) ((↑ix : Int) + (2 : Int))))] (by kernel_rfl) (by kernel_rfl) ⟨(by omega), (by omega), True.intro⟩ ?_
  refine aops_nil ?_
  refine xt_n ?_
  refine hK _ ?_
  clear hK K
  refine aw_seq_k fun K hK => ?_
  refine w_region (n' := 6) (by kernel_rfl) (by kernel_rfl) ?_
  refine aops_n hTT (M := []) (n := 2) [pv (12 : Nat) (V.i (0 : Int)), pv (13 : Nat) (V.i (4194305 : Int))] (by kernel_rfl) (by kernel_rfl) True.intro ?_
  refine aops_nil ?_
  refine xt_n ?_
  refine hK _ ?_
  clear hK K
  refine aw_seq_k fun K hK => ?_
  refine aw_block ?_
  refine w_loop (ι := Int × Int) (fun s => [(1, V.pts l), (2, .i per), (3, .i ix), (4, .ptr [.i c.half, .i c.gain, .i c.thin, .i c.wide, .i c.slope, .i c.jerk, .i c.sty]), (10, .i (max 0 ((ix : Int) - 1))), (11, .i (min (l.length : Int) ((ix : Int) + 2))), (12, .i s.1), (13, .i s.2)]) (fun _ => []) (fun s => 0 ≤ s.1 ∧ s.1 ≤ F ∧ F ≤ s.2 ∧ s.2 ≤ 4194305) (fun s => (s.2 - s.1).toNat) (0, 4194305) ⟨Int.le_refl _, hFb.1, hFb.2, Int.le_refl _⟩ ?_ ?_
  · refine le_ren [] (.cons (by kernel_rfl) (.cons (by kernel_rfl) (.cons (by kernel_rfl) (.cons (by kernel_rfl) (.cons (by kernel_rfl) (.cons (by kernel_rfl) (.cons (by kernel_rfl) (.cons (by kernel_rfl) .nil)))))))) .nil (by kernel_rfl) (by kernel_rfl)
  rintro ⟨i, j⟩ ⟨h1, h2', h3', h4⟩
  simp only at h1 h2' h3' h4
  refine aw_seq_k fun K hK => ?_
  refine aw_seq_k fun K hK => ?_
  refine w_region (n' := 2) (by kernel_rfl) (by kernel_rfl) ?_
  refine aops_n hTT (M := []) (n := 3) [pv (43 : Nat) (V.i i), pv (44 : Nat) (V.i j), pv (45 : Nat) (V.b (decide (i < j)))] (by kernel_rfl) (by kernel_rfl) True.intro ?_
  refine aops_nil ?_
  refine xt_n ?_
  refine hK _ ?_
  clear hK K
  refine w_cond (t := decide (i < j)) (by kernel_rfl) (fun c2 => ?_) (fun c2 => ?_)
  · have c2 : i < j := by simpa using c2
    obtain ⟨m, hm⟩ : ∃ m : Int, (i + j).tdiv 2 = m := ⟨_, rfl⟩
    have m1 : i ≤ m ∧ m < j := by
      rw [Int.tdiv_eq_ediv_of_nonneg (by omega)] at hm
      omega
    refine aw_skip ?_
    refine xt_n ?_
    refine hK _ ?_
    clear hK K
    refine aw_block ?_
    refine aw_seq_k fun K hK => ?_
    refine w_region (n' := 3) (by kernel_rfl) (by kernel_rfl) ?_
    refine aops_n hTT (M := []) (n := 5) [pv (46 : Nat) (V.i i), pv (47 : Nat) (V.i j), pc (48 : Nat) ((-9223372036854775808 : Int) ≤ i + j ∧ i + j ≤ (9223372036854775807 : Int)) (V.i (i + j)), pc (49 : Nat) ((0 : Int) < (2 : Int) ∧ (-9223372036854775808 : Int) ≤ i + j ∧ i + j ≤ (9223372036854775807 : Int)) (V.i (Int.tdiv (i + j) (2 : Int))), pv (14 : Nat) (V.i (Int.tdiv (i + j) (2 : Int)))] (by kernel_rfl) (by kernel_rfl) ⟨(by omega), ⟨(by omega), (by omega)⟩, True.intro⟩ ?_
    refine aops_nil ?_
    refine xt_n ?_
    refine hK _ ?_
    clear hK K
    refine aw_seq_k fun K hK => ?_
    rw [hm]
    refine w_regionD (n' := 4) (by kernel_rfl) (by kernel_rfl) ?_
    refine aops_n hTT (M := []) (n := 10) [pv (50 : Nat) (V.agg [V.i (Cut.half c), V.i (Cut.gain c), V.i (Cut.thin c), V.i (Cut.wide c), V.i (Cut.slope c), V.i (Cut.jerk c), V.i (Cut.sty c)]), pv (51 : Nat) (V.sl (2 : Nat) (List.length l) fun (k : Nat) => [V.i (Prod.fst (gp l k)), V.i (Prod.snd (gp l k))]), pv (52 : Nat) (V.i (max (0 : Int) ((↑ix : Int) - (1 : Int)))), pv (53 : Nat) (V.i (min (↑(List.length l) : Int) ((↑ix : Int) + (2 : Int)))), pc (54 : Nat) ((0 : Int) ≤ max (0 : Int) ((↑ix : Int) - (1 : Int)) ∧ max (0 : Int) ((↑ix : Int) - (1 : Int)) ≤ min (↑(List.length l) : Int) ((↑ix : Int) + (2 : Int)) ∧ min (↑(List.length l) : Int) ((↑ix : Int) + (2 : Int)) ≤ (↑(List.length l) : Int)) (V.sl (2 : Nat) (Int.toNat (min (↑(List.length l) : Int) ((↑ix : Int) + (2 : Int))) - Int.toNat (max (0 : Int) ((↑ix : Int) - (1 : Int)))) fun (i : Nat) => [V.i (Prod.fst (gp l (i + Int.toNat (max (0 : Int) ((↑ix : Int) - (1 : Int)))))), V.i (Prod.snd (gp l (i + Int.toNat (max (0 : Int) ((↑ix : Int) - (1 : Int))))))]), pv (55 : Nat) (V.i m), pv (56 : Nat) (V.i per), pv (57 : Nat) (V.i (↑ix : Int)), pv (58 : Nat) (V.i (max (0 : Int) ((↑ix : Int) - (1 : Int)))), pc (59 : Nat) ((-9223372036854775808 : Int) ≤ (↑ix : Int) - max (0 : Int) ((↑ix : Int) - (1 : Int)) ∧ (↑ix : Int) - max (0 : Int) ((↑ix : Int) - (1 : Int)) ≤ (9223372036854775807 : Int)) (V.i ((↑ix : Int) - max (0 : Int) ((↑ix : Int) - (1 : Int))))] (by kernel_rfl) (by kernel_rfl) ⟨⟨(by omega), (by omega)⟩, (by omega), True.intro⟩ ?_
    refine e_call (first := []) (caps := []) (AC.conv (Broken_ac c (win l ix) m per (ix - (ix - 1)) q1 (by omega) (win_gE l2) ⟨by omega, hp⟩ (by omega)) (args' := [V.agg [V.i (Cut.half c), V.i (Cut.gain c), V.i (Cut.thin c), V.i (Cut.wide c), V.i (Cut.slope c), V.i (Cut.jerk c), V.i (Cut.sty c)], V.sl (2 : Nat) (Int.toNat (min (↑(List.length l) : Int) ((↑ix : Int) + (2 : Int))) - Int.toNat (max (0 : Int) ((↑ix : Int) - (1 : Int)))) fun (i : Nat) => [V.i (Prod.fst (gp l (i + Int.toNat (max (0 : Int) ((↑ix : Int) - (1 : Int)))))), V.i (Prod.snd (gp l (i + Int.toNat (max (0 : Int) ((↑ix : Int) - (1 : Int))))))], V.i m, V.i per, V.i ((↑ix : Int) - max (0 : Int) ((↑ix : Int) - (1 : Int)))]) ⟨RImp.refl _, ?_, RImp.refl _, RImp.refl _, ?_, trivial⟩) (by kernel_rfl) (by kernel_rfl) (by kernel_rfl) (by kernel_rfl) (by kernel_rfl) ?_
    · refine RImp.rows ?_ fun i hi => ?_
      · rw [hw]; omega
      · have e : (max 0 ((ix : Int) - 1)).toNat = ix - 1 := by omega
        rw [e, win_gp (by omega)]
    · exact RImp.int (by omega)
    rw [win_rule hx]
    refine aops_n hTT (M := []) (n := 1) [pv (61 : Nat) (V.b (decide (gRule c l m per ix = (0 : Int))))] (by kernel_rfl) (by kernel_rfl) True.intro ?_
    refine aops_nil ⟨by kernel_rfl, ?_⟩
    refine xt_n ?_
    refine hK _ ?_
    clear hK K
    refine w_cond (t := decide (gRule c l m per ix = (0 : Int))) (by kernel_rfl) (fun c3 => ?_) (fun c3 => ?_)
    · have q : needB c l per ix m = true := c3
      have m2 : F ≤ m := (hI.iff (by omega) (by omega)).1 q
      refine w_region (n' := 5) (by kernel_rfl) (by kernel_rfl) ?_
      refine aops_n hTT (M := []) (n := 2) [pv (62 : Nat) (V.i m), pv (13 : Nat) (V.i m)] (by kernel_rfl) (by kernel_rfl) True.intro ?_
      refine aops_nil ?_
      refine xb_n ?_
      refine xt_n ?_
      refine ⟨(i, m), ⟨h1, h2', m2, by show m ≤ 4194305; omega⟩, ?_, by show (m - i).toNat < (j - i).toNat; omega⟩
      refine le_ren [] (.cons (by kernel_rfl) (.cons (by kernel_rfl) (.cons (by kernel_rfl) (.cons (by kernel_rfl) (.cons (by kernel_rfl) (.cons (by kernel_rfl) (.cons (by kernel_rfl) (.cons (by kernel_rfl) .nil)))))))) .nil (by kernel_rfl) (by kernel_rfl)
    · have q : needB c l per ix m = false := c3
      have m2 : m < F := by
        refine Int.not_le.1 fun h => ?_
        rw [hI.hi m h (by omega)] at q; cases q
      refine w_region (n' := 5) (by kernel_rfl) (by kernel_rfl) ?_
      refine aops_n hTT (M := []) (n := 3) [pv (63 : Nat) (V.i m), pc (64 : Nat) ((-9223372036854775808 : Int) ≤ m + (1 : Int) ∧ m + (1 : Int) ≤ (9223372036854775807 : Int)) (V.i (m + (1 : Int))), pv (12 : Nat) (V.i (m + (1 : Int)))] (by kernel_rfl) (by kernel_rfl) ⟨(by omega), True.intro⟩ ?_
      refine aops_nil ?_
      refine xb_n ?_
      refine xt_n ?_
      refine ⟨(m + 1, j), ⟨by show 0 ≤ m + 1; omega, by show m + 1 ≤ F; omega, h3', h4⟩, ?_, by show (j - (m + 1)).toNat < (j - i).toNat; omega⟩
      refine le_ren [] (.cons (by kernel_rfl) (.cons (by kernel_rfl) (.cons (by kernel_rfl) (.cons (by kernel_rfl) (.cons (by kernel_rfl) (.cons (by kernel_rfl) (.cons (by kernel_rfl) (.cons (by kernel_rfl) .nil)))))))) .nil (by kernel_rfl) (by kernel_rfl)
  · have c2 : j ≤ i := by simpa using c2
    obtain rfl : i = F := by omega
    refine aw_exit ?_
    refine xt_x ?_
    refine xt_x ?_
    refine xb_same ?_
    refine xt_n ?_
    clear hK K
    refine hK _ ?_
    clear hK K
    refine aw_seq_k fun K hK => ?_
    refine aw_seq_k fun K hK => ?_
    refine w_region (n' := 3) (by kernel_rfl) (by kernel_rfl) ?_
    refine aops_n hTT (M := []) (n := 2) [pv (65 : Nat) (V.i i), pv (66 : Nat) (V.b (decide ((4194304 : Int) < i)))] (by kernel_rfl) (by kernel_rfl) True.intro ?_
    refine aops_nil ?_
    refine xt_n ?_
    refine hK _ ?_
    clear hK K
    refine w_cond (t := decide ((4194304 : Int) < i)) (by kernel_rfl) (fun c3 => ?_) (fun c3 => ?_)
    · refine aw_seq_k fun K hK => ?_
      refine w_region (n' := 4) (by kernel_rfl) (by kernel_rfl) ?_
      refine aops_n hTT (M := []) (n := 2) [pv (8 : Nat) (V.i (0 : Int)), pv (9 : Nat) (V.i (14 : Int))] (by kernel_rfl) (by kernel_rfl) True.intro ?_
      refine aops_nil ?_
      refine xt_n ?_
      refine hK _ ?_
      clear hK K
      refine aw_ret ?_
      refine xt_r ?_
      rw [needsR_4 h h2 h3, if_neg (by simp at c3; omega), if_neg (by simp at c3; omega)]
      refine ret_pure (v' := V.tup [V.i (0 : Int), V.i (14 : Int)]) (.inr rfl) (by kernel_rfl) (by kernel_rfl) (by kernel_rfl)
    · refine aw_skip ?_
      refine xt_n ?_
      refine hK _ ?_
      clear hK K
      refine aw_seq_k fun K hK => ?_
      refine w_region (n' := 4) (by kernel_rfl) (by kernel_rfl) ?_
      refine aops_n hTT (M := []) (n := 3) [pv (67 : Nat) (V.i i), pv (8 : Nat) (V.i i), pv (9 : Nat) (V.i (0 : Int))] (by kernel_rfl) (by kernel_rfl) True.intro ?_
      refine aops_nil ?_
      refine xt_n ?_
      refine hK _ ?_
      clear hK K
      refine aw_ret ?_
      rw [needsR_4 h h2 h3, if_pos (by simp at c3; omega), if_pos (by simp at c3; omega)]
      refine ret_pure (v' := V.tup [V.i i, V.i (0 : Int)]) (.inr rfl) (by kernel_rfl) (by kernel_rfl) (by kernel_rfl)
end Go.Proofs.Ytjjlgegccfolpaa
