/-
  Programmes that are valid, and needs: both copies. Condition: as many elements as a slice can have.
-/
import Derived.Test.YtblipieipldanaaFA8
import Derived.Test.YtblipieipldanaaFPl3
namespace Go.Proofs.Ytblipieipldanaa
open Go.Ab Go.RowKit Go.Dw Go.Shelf

def loudB (p : Pt) (m : Int) : Bool := bey p.1 m || bey p.2 m
theorem loudB_no {p : Pt} {m : Int} : loudB p m = false ↔ (-m ≤ p.1 ∧ p.1 ≤ m) ∧ (-m ≤ p.2 ∧ p.2 ≤ m) := by
  unfold loudB; rw [Bool.or_eq_false_iff, bey_no, bey_no]
def progE (l : List Pt) : Int := if 4096 < l.length then 6 else if l.any fun p => loudB p 32767 then 3 else 0
theorem any_gp {l : List Pt} {m : Int} : (l.any fun p => loudB p m) = true ↔ ∃ k, k < l.length ∧ loudB (gp l k) m = true := by
  rw [List.any_eq_true]
  constructor
  · rintro ⟨x, hx, h⟩
    obtain ⟨k, hk, rfl⟩ := List.getElem_of_mem hx
    exact ⟨k, hk, by rw [gp_eq hk]; exact h⟩
  · rintro ⟨k, hk, h⟩
    exact ⟨l[k], List.getElem_mem _, by rw [← gp_eq hk]; exact h⟩
theorem any_gp_no {l : List Pt} {m : Int} : (l.any fun p => loudB p m) = false ↔ ∀ k, k < l.length → loudB (gp l k) m = false := by
  constructor
  · intro h k hk
    cases hb : loudB (gp l k) m with
    | false => rfl
    | true => rw [any_gp.2 ⟨k, hk, hb⟩] at h; cases h
  · intro h
    cases hb : l.any fun p => loudB p m with
    | false => rfl
    | true =>
      obtain ⟨k, hk, h2⟩ := any_gp.1 hb
      rw [h k hk] at h2; cases h2
theorem progE_ok {l : List Pt} : progE l = 0 ↔ l.length ≤ 4096 ∧ ∀ k, k < l.length → (-32767 ≤ (gp l k).1 ∧ (gp l k).1 ≤ 32767) ∧ (-32767 ≤ (gp l k).2 ∧ (gp l k).2 ≤ 32767) := by
  unfold progE
  by_cases h : 4096 < l.length
  · rw [if_pos h]; simp; omega
  · rw [if_neg h]
    have e : (∀ k, k < l.length → (-32767 ≤ (gp l k).1 ∧ (gp l k).1 ≤ 32767) ∧ (-32767 ≤ (gp l k).2 ∧ (gp l k).2 ≤ 32767)) ↔ (l.any fun p => loudB p 32767) = false := by
      rw [any_gp_no]
      exact ⟨fun h k hk => loudB_no.2 (h k hk), fun h k hk => loudB_no.1 (h k hk)⟩
    rw [e]
    cases (l.any fun p => loudB p 32767) <;> simp
    omega
set_option maxRecDepth 100000 in
theorem loud_ac (p : Pt) (m : Int) (hm : 0 ≤ m ∧ m ≤ 4611686018427387904) : AC Try.prog 96 [.agg [.i p.1, .i p.2], .i m] (.b (loudB p m)) [] := by
  refine ac_intro hTT hMX (fn := Try.f96) (N := _) ⟨Try.func96, rfl, Try.ntmps96, by kernel_rfl⟩ (by simp) fun C hC hF => ?_
  refine aw_seq_k fun K hK => ?_
  refine w_region (n' := 2) (by kernel_rfl) (by kernel_rfl) ?_
  refine aops_n hTT (M := []) (n := 2) [pv (2 : Nat) (V.ptr [V.i (Prod.fst p), V.i (Prod.snd p)]), pv (4 : Nat) (V.b false)] (by kernel_rfl) (by kernel_rfl) True.intro ?_
  refine aops_nil ?_
  refine xt_n ?_
  refine hK _ ?_
  clear hK K
  refine aw_seq_k fun K hK => ?_
  refine w_region (n' := 3) (by kernel_rfl) (by kernel_rfl) ?_
  refine aops_n hTT (M := []) (n := 3) [pv (5 : Nat) (V.ptr [V.i (Prod.fst p), V.i (Prod.snd p)]), pv (6 : Nat) (V.i (Prod.fst p)), pv (7 : Nat) (V.i m)] (by kernel_rfl) (by kernel_rfl) True.intro ?_
  refine e_call (first := []) (caps := []) (beyond_ac p.1 m hm) (by kernel_rfl) (by kernel_rfl) (by kernel_rfl) (by kernel_rfl) (by kernel_rfl) ?_
  refine aops_n hTT (M := []) (n := 4) [pv (9 : Nat) (V.b (bey (Prod.fst p) m)), pc (10 : Nat) ((True ∧ True) ∧ ((bey (Prod.fst p) m == false) = true → True)) (V.gd (bey (Prod.fst p) m == false) (V.ptr [V.i (Prod.snd p)])), pc (11 : Nat) ((((bey (Prod.fst p) m == false) = true → (bey (Prod.fst p) m == false) = true) ∧ True) ∧ ((bey (Prod.fst p) m == false) = true → True)) (V.gd (bey (Prod.fst p) m == false) (V.i (Prod.snd p))), pc (12 : Nat) ((True ∧ True) ∧ ((bey (Prod.fst p) m == false) = true → True)) (V.gd (bey (Prod.fst p) m == false) (V.i m))] (by kernel_rfl) (by kernel_rfl) ⟨⟨⟨True.intro, True.intro⟩, (fun _ => True.intro)⟩, ⟨⟨(by (exact fun h => h)), True.intro⟩, (fun _ => True.intro)⟩, ⟨⟨True.intro, True.intro⟩, (fun _ => True.intro)⟩, True.intro⟩ ?_
  refine e_callG 2 (g := bey (Prod.fst p) m == false) (first := []) (caps := []) (by kernel_rfl) (fun h => beyond_ac p.2 m hm) (by kernel_rfl) (by kernel_rfl) (by kernel_rfl) (by kernel_rfl) (by kernel_rfl) (by kernel_rfl) ?_
  refine aops_n hTT (M := []) (n := 2) [pc (14 : Nat) (True ∧ (bey (Prod.fst p) m = false → (bey (Prod.fst p) m == false) = true)) (V.b (bey (Prod.fst p) m || bey (Prod.snd p) m)), pv (4 : Nat) (V.b (bey (Prod.fst p) m || bey (Prod.snd p) m))] (by kernel_rfl) (by kernel_rfl) ⟨⟨True.intro, (by (intro h; rw [h]; rfl))⟩, True.intro⟩ ?_
  refine aops_nil ?_
  refine xt_n ?_
  refine hK _ ?_
  clear hK K
  refine aw_ret ?_
  refine ret_pure (v' := V.b (bey (Prod.fst p) m || bey (Prod.snd p) m)) (.inr rfl) (by kernel_rfl) (by kernel_rfl) (by kernel_rfl)
set_option maxRecDepth 100000 in
theorem checkProgramme1_ac (p : Pt) : AC Try.prog 95 [.agg [.i p.1, .i p.2]] (.b (loudB p 32767)) [] := by
  refine ac_intro hTT hMX (fn := Try.f95) (N := _) ⟨Try.func95, rfl, Try.ntmps95, by kernel_rfl⟩ (by simp) fun C hC hF => ?_
  refine aw_seq_k fun K hK => ?_
  refine w_region (n' := 2) (by kernel_rfl) (by kernel_rfl) ?_
  refine aops_n hTT (M := []) (n := 2) [pv (1 : Nat) (V.ptr [V.i (Prod.fst p), V.i (Prod.snd p)]), pv (2 : Nat) (V.b false)] (by kernel_rfl) (by kernel_rfl) True.intro ?_
  refine aops_nil ?_
  refine xt_n ?_
  refine hK _ ?_
  clear hK K
  refine aw_seq_k fun K hK => ?_
  refine w_region (n' := 3) (by kernel_rfl) (by kernel_rfl) ?_
  refine aops_n hTT (M := []) (n := 1) [pv (3 : Nat) (V.agg [V.i (Prod.fst p), V.i (Prod.snd p)])] (by kernel_rfl) (by kernel_rfl) True.intro ?_
  refine e_call (first := []) (caps := []) (loud_ac p 32767 (by decide)) (by kernel_rfl) (by kernel_rfl) (by kernel_rfl) (by kernel_rfl) (by kernel_rfl) ?_
  refine aops_n hTT (M := []) (n := 1) [pv (2 : Nat) (V.b (loudB p (32767 : Int)))] (by kernel_rfl) (by kernel_rfl) True.intro ?_
  refine aops_nil ?_
  refine xt_n ?_
  refine hK _ ?_
  clear hK K
  refine aw_ret ?_
  refine ret_pure (v' := V.b (loudB p (32767 : Int))) (.inr rfl) (by kernel_rfl) (by kernel_rfl) (by kernel_rfl)
def firstP (l : List Pt) (m : Int) : Int := match (List.range l.length).find? fun k => loudB (gp l k) m with
  | some k => (k : Int)
  | none => -1
theorem firstP_some {l : List Pt} {m : Int} {k : Nat} (hk : k < l.length) (h : loudB (gp l k) m = true) (hj : ∀ j, j < k → loudB (gp l j) m = false) : firstP l m = k := by
  have : (List.range l.length).find? (fun k => loudB (gp l k) m) = some k := by
    rw [List.find?_range_eq_some]
    exact ⟨h, by simpa using hk, fun j hjk => by simp [hj j hjk]⟩
  rw [firstP, this]
theorem firstP_none {l : List Pt} {m : Int} (h : ∀ k, k < l.length → loudB (gp l k) m = false) : firstP l m = -1 := by
  have : (List.range l.length).find? (fun k => loudB (gp l k) m) = none := by
    rw [List.find?_eq_none]
    intro x hx
    simp [h x (by simpa using hx)]
  rw [firstP, this]
theorem firstP_any (l : List Pt) (m : Int) : decide (0 ≤ firstP l m) = l.any fun p => loudB p m := by
  by_cases h : ∃ k, k < l.length ∧ loudB (gp l k) m = true
  · obtain ⟨k, ⟨h1, h2⟩, h3⟩ := least _ h
    rw [any_gp.2 ⟨k, h1, h2⟩, firstP_some h1 h2 fun j hj => by
      cases hb : loudB (gp l j) m with
      | false => rfl
      | true => have := h3 j ⟨by omega, hb⟩; omega]
    simp
  · have h2 : ∀ k, k < l.length → loudB (gp l k) m = false := fun k hk => by
      cases hb : loudB (gp l k) m with
      | false => rfl
      | true => exact absurd ⟨k, hk, hb⟩ h
    rw [firstP_none h2, any_gp_no.2 h2]; rfl
set_option maxRecDepth 100000 in
theorem indexLoud_ac (l : List Pt) (hl : l.length ≤ bigL) : AC Try.prog 110 [V.pts l, .fn (.func 95) [] []] (.i (firstP l 32767)) [] := by
  unfold bigL at hl
  refine ac_intro hTT hMX (fn := Try.f110) (N := _) ⟨Try.func110, rfl, Try.ntmps110, by kernel_rfl⟩ (by simp) fun C hC hF => ?_
  refine aw_seq_k fun K hK => ?_
  refine w_region (n' := 2) (by kernel_rfl) (by kernel_rfl) ?_
  refine aops_n hTT (M := []) (n := 1) [pv (4 : Nat) (V.i (0 : Int))] (by kernel_rfl) (by kernel_rfl) True.intro ?_
  refine aops_nil ?_
  refine xt_n ?_
  refine hK _ ?_
  clear hK K
  refine aw_seq_k fun K hK => ?_
  refine aw_seq_k fun K hK => ?_
  refine w_region (n' := 3) (by kernel_rfl) (by kernel_rfl) ?_
  refine aops_n hTT (M := []) (n := 3) [pv (6 : Nat) (V.sl (2 : Nat) (List.length l) fun (k : Nat) => [V.i (Prod.fst (gp l k)), V.i (Prod.snd (gp l k))]), pv (7 : Nat) (V.i (↑(List.length l) : Int)), pv (8 : Nat) (V.i (0 : Int))] (by kernel_rfl) (by kernel_rfl) True.intro ?_
  refine aops_nil ?_
  refine xt_n ?_
  refine hK _ ?_
  clear hK K
  refine aw_block ?_
  refine w_loop (ι := Nat) (fun k => [(0, V.pts l), (1, .fn (.func 95) [] []), (7, .i l.length), (8, .i k)]) (fun _ => []) (fun k => k ≤ l.length ∧ ∀ j, j < k → loudB (gp l j) 32767 = false) (fun k => l.length - k) 0 ⟨Nat.zero_le _, fun j hj => by omega⟩ ?_ ?_
  · refine le_ren [] (.cons (by kernel_rfl) (.cons (by kernel_rfl) (.cons (by kernel_rfl) (.cons (by kernel_rfl) .nil)))) .nil (by kernel_rfl) (by kernel_rfl)
  rintro k ⟨hk, hb⟩
  refine aw_seq_k fun K hK => ?_
  refine w_region (n' := 2) (by kernel_rfl) (by kernel_rfl) ?_
  refine aops_n hTT (M := []) (n := 1) [pv (9 : Nat) (V.b (decide ((↑k : Int) < (↑(List.length l) : Int))))] (by kernel_rfl) (by kernel_rfl) True.intro ?_
  refine aops_nil ?_
  refine xt_n ?_
  refine hK _ ?_
  clear hK K
  refine aw_seq_k fun K hK => ?_
  refine w_cond (t := decide ((↑k : Int) < (↑(List.length l) : Int))) (by kernel_rfl) (fun c1 => ?_) (fun c1 => ?_)
  · simp at c1
    refine aw_skip ?_
    refine xt_n ?_
    refine hK _ ?_
    clear hK K
    refine aw_seq_k fun K hK => ?_
    refine aw_block ?_
    refine aw_seq_k fun K hK => ?_
    refine w_region (n' := 3) (by kernel_rfl) (by kernel_rfl) ?_
    refine aops_n hTT (M := []) (n := 2) [pv (10 : Nat) (V.i (↑k : Int)), pv (5 : Nat) (V.i (↑k : Int))] (by kernel_rfl) (by kernel_rfl) True.intro ?_
    refine aops_nil ?_
    refine xt_n ?_
    refine hK _ ?_
    clear hK K
    refine aw_seq_k fun K hK => ?_
    refine w_region (n' := 4) (by kernel_rfl) (by kernel_rfl) ?_
    refine aops_n hTT (M := []) (n := 5) [pv (11 : Nat) (V.fn (Fn.func (95 : Nat)) [] []), pv (12 : Nat) (V.sl (2 : Nat) (List.length l) fun (k : Nat) => [V.i (Prod.fst (gp l k)), V.i (Prod.snd (gp l k))]), pv (13 : Nat) (V.i (↑k : Int)), pc (14 : Nat) ((0 : Int) ≤ (↑k : Int) ∧ (↑k : Int) < (↑(List.length l) : Int)) (V.ptr [V.i (Prod.fst (gp l k)), V.i (Prod.snd (gp l k))]), pv (15 : Nat) (V.agg [V.i (Prod.fst (gp l k)), V.i (Prod.snd (gp l k))])] (by kernel_rfl) (by kernel_rfl) ⟨(by omega), True.intro⟩ ?_
    refine e_call (first := []) (caps := []) (checkProgramme1_ac (gp l k)) (by kernel_rfl) (by kernel_rfl) (by kernel_rfl) (by kernel_rfl) (by kernel_rfl) ?_
    refine aops_nil ?_
    refine xt_n ?_
    refine hK _ ?_
    clear hK K
    refine w_cond (t := loudB (gp l k) (32767 : Int)) (by kernel_rfl) (fun c2 => ?_) (fun c2 => ?_)
    · refine aw_seq_k fun K hK => ?_
      refine w_region (n' := 5) (by kernel_rfl) (by kernel_rfl) ?_
      refine aops_n hTT (M := []) (n := 2) [pv (17 : Nat) (V.i (↑k : Int)), pv (4 : Nat) (V.i (↑k : Int))] (by kernel_rfl) (by kernel_rfl) True.intro ?_
      refine aops_nil ?_
      refine xt_n ?_
      refine hK _ ?_
      clear hK K
      refine aw_ret ?_
      refine xb_r ?_
      refine xt_r ?_
      refine xt_r ?_
      refine xb_r ?_
      refine xt_r ?_
      rw [firstP_some c1 c2 hb]
      refine ret_pure (v' := V.i (↑k : Int)) (.inr rfl) (by kernel_rfl) (by kernel_rfl) (by kernel_rfl)
    · refine aw_skip ?_
      refine xb_n ?_
      refine xt_n ?_
      refine hK _ ?_
      clear hK K
      refine w_region (n' := 5) (by kernel_rfl) (by kernel_rfl) ?_
      refine aops_n hTT (M := []) (n := 2) [pc (18 : Nat) ((-9223372036854775808 : Int) ≤ (↑k : Int) + (1 : Int) ∧ (↑k : Int) + (1 : Int) ≤ (9223372036854775807 : Int)) (V.i ((↑k : Int) + (1 : Int))), pv (8 : Nat) (V.i ((↑k : Int) + (1 : Int)))] (by kernel_rfl) (by kernel_rfl) ⟨(by omega), True.intro⟩ ?_
      refine aops_nil ?_
      refine xt_n ?_
      refine ⟨k + 1, ⟨by omega, fun j hj => ?_⟩, by refine le_ren [] (.cons (by kernel_rfl) (.cons (by kernel_rfl) (.cons (by kernel_rfl) (.cons (by kernel_rfl) .nil)))) .nil (by kernel_rfl) (by kernel_rfl), by omega⟩
      by_cases h : j < k
      · exact hb j h
      · obtain rfl : j = k := by omega
        exact c2
  · simp at c1
    refine aw_exit ?_
    refine xt_x ?_
    refine xt_x ?_
    refine xb_same ?_
    refine xt_n ?_
    clear hK K
    refine hK _ ?_
    clear hK K
    refine aw_seq_k fun K hK => ?_
    refine w_region (n' := 3) (by kernel_rfl) (by kernel_rfl) ?_
    refine aops_n hTT (M := []) (n := 1) [pv (4 : Nat) (V.i (-1 : Int))] (by kernel_rfl) (by kernel_rfl) True.intro ?_
    refine aops_nil ?_
    refine xt_n ?_
    refine hK _ ?_
    clear hK K
    refine aw_ret ?_
    rw [firstP_none fun j hj => hb j (by omega)]
    refine ret_pure (v' := V.i (-1 : Int)) (.inr rfl) (by kernel_rfl) (by kernel_rfl) (by kernel_rfl)
set_option maxRecDepth 100000 in
theorem containsLoud_ac (l : List Pt) (hl : l.length ≤ bigL) : AC Try.prog 94 [V.pts l, .fn (.func 95) [] []] (.b (l.any fun p => loudB p 32767)) [] := by
  refine ac_intro hTT hMX (fn := Try.f94) (N := _) ⟨Try.func94, rfl, Try.ntmps94, by kernel_rfl⟩ (by simp) fun C hC hF => ?_
  refine aw_seq_k fun K hK => ?_
  refine w_region (n' := 2) (by kernel_rfl) (by kernel_rfl) ?_
  refine aops_n hTT (M := []) (n := 1) [pv (4 : Nat) (V.b false)] (by kernel_rfl) (by kernel_rfl) True.intro ?_
  refine aops_nil ?_
  refine xt_n ?_
  refine hK _ ?_
  clear hK K
  refine aw_seq_k fun K hK => ?_
  refine w_region (n' := 3) (by kernel_rfl) (by kernel_rfl) ?_
  refine aops_n hTT (M := []) (n := 2) [pv (5 : Nat) (V.sl (2 : Nat) (List.length l) fun (k : Nat) => [V.i (Prod.fst (gp l k)), V.i (Prod.snd (gp l k))]), pv (6 : Nat) (V.fn (Fn.func (95 : Nat)) [] [])] (by kernel_rfl) (by kernel_rfl) True.intro ?_
  refine e_call (first := []) (caps := []) (indexLoud_ac l hl) (by kernel_rfl) (by kernel_rfl) (by kernel_rfl) (by kernel_rfl) (by kernel_rfl) ?_
  refine aops_n hTT (M := []) (n := 2) [pv (8 : Nat) (V.b (decide ((0 : Int) ≤ firstP l (32767 : Int)))), pv (4 : Nat) (V.b (decide ((0 : Int) ≤ firstP l (32767 : Int))))] (by kernel_rfl) (by kernel_rfl) True.intro ?_
  refine aops_nil ?_
  refine xt_n ?_
  refine hK _ ?_
  clear hK K
  refine aw_ret ?_
  rw [← firstP_any]
  refine ret_pure (v' := V.b (decide ((0 : Int) ≤ firstP l (32767 : Int)))) (.inr rfl) (by kernel_rfl) (by kernel_rfl) (by kernel_rfl)
set_option maxRecDepth 100000 in
theorem checkProgramme_ac (l : List Pt) (hl : l.length ≤ bigL) : AC Try.prog 70 [V.pts l] (.i (progE l)) [] := by
  have hl' := hl
  unfold bigL at hl'
  refine ac_intro hTT hMX (fn := Try.f70) (N := _) ⟨Try.func70, rfl, Try.ntmps70, by kernel_rfl⟩ (by simp) fun C hC hF => ?_
  refine aw_seq_k fun K hK => ?_
  refine w_region (n' := 2) (by kernel_rfl) (by kernel_rfl) ?_
  refine aops_n hTT (M := []) (n := 1) [pv (2 : Nat) (V.i (0 : Int))] (by kernel_rfl) (by kernel_rfl) True.intro ?_
  refine aops_nil ?_
  refine xt_n ?_
  refine hK _ ?_
  clear hK K
  refine aw_seq_k fun K hK => ?_
  refine aw_seq_k fun K hK => ?_
  refine w_region (n' := 3) (by kernel_rfl) (by kernel_rfl) ?_
  refine aops_n hTT (M := []) (n := 3) [pv (3 : Nat) (V.sl (2 : Nat) (List.length l) fun (k : Nat) => [V.i (Prod.fst (gp l k)), V.i (Prod.snd (gp l k))]), pv (4 : Nat) (V.i (↑(List.length l) : Int)), pv (5 : Nat) (V.b (decide ((4096 : Int) < (↑(List.length l) : Int))))] (by kernel_rfl) (by kernel_rfl) True.intro ?_
  refine aops_nil ?_
  refine xt_n ?_
  refine hK _ ?_
  clear hK K
  refine w_cond (t := decide ((4096 : Int) < (↑(List.length l) : Int))) (by kernel_rfl) (fun c1 => ?_) (fun c1 => ?_)
  · simp at c1
    refine aw_seq_k fun K hK => ?_
    refine w_region (n' := 4) (by kernel_rfl) (by kernel_rfl) ?_
    refine aops_n hTT (M := []) (n := 1) [pv (2 : Nat) (V.i (6 : Int))] (by kernel_rfl) (by kernel_rfl) True.intro ?_
    refine aops_nil ?_
    refine xt_n ?_
    refine hK _ ?_
    clear hK K
    refine aw_ret ?_
    refine xt_r ?_
    rw [show progE l = 6 by unfold progE; rw [if_pos (by omega)]]
    refine ret_pure (v' := V.i (6 : Int)) (.inr rfl) (by kernel_rfl) (by kernel_rfl) (by kernel_rfl)
  · simp at c1
    refine aw_skip ?_
    refine xt_n ?_
    refine hK _ ?_
    clear hK K
    refine aw_seq_k fun K hK => ?_
    refine aw_seq_k fun K hK => ?_
    refine w_region (n' := 4) (by kernel_rfl) (by kernel_rfl) ?_
    refine aops_n hTT (M := []) (n := 1) [pv (6 : Nat) (V.sl (2 : Nat) (List.length l) fun (k : Nat) => [V.i (Prod.fst (gp l k)), V.i (Prod.snd (gp l k))])] (by kernel_rfl) (by kernel_rfl) True.intro ?_
    refine e_call (first := []) (caps := []) (containsLoud_ac l hl) (by kernel_rfl) (by kernel_rfl) (by kernel_rfl) (by kernel_rfl) (by kernel_rfl) ?_
    refine aops_nil ?_
    refine xt_n ?_
    refine hK _ ?_
    clear hK K
    refine w_cond (t := List.any l fun (p : Pt) => loudB p (32767 : Int)) (by kernel_rfl) (fun c2 => ?_) (fun c2 => ?_)
    · refine aw_seq_k fun K hK => ?_
      refine w_region (n' := 5) (by kernel_rfl) (by kernel_rfl) ?_
      refine aops_n hTT (M := []) (n := 1) [pv (2 : Nat) (V.i (3 : Int))] (by kernel_rfl) (by kernel_rfl) True.intro ?_
      refine aops_nil ?_
      refine xt_n ?_
      refine hK _ ?_
      clear hK K
      refine aw_ret ?_
      refine xt_r ?_
      rw [show progE l = 3 by unfold progE; rw [if_neg (by omega), if_pos c2]]
      refine ret_pure (v' := V.i (3 : Int)) (.inr rfl) (by kernel_rfl) (by kernel_rfl) (by kernel_rfl)
    · refine aw_skip ?_
      refine xt_n ?_
      refine hK _ ?_
      clear hK K
      refine aw_seq_k fun K hK => ?_
      refine w_region (n' := 5) (by kernel_rfl) (by kernel_rfl) ?_
      refine aops_n hTT (M := []) (n := 1) [pv (2 : Nat) (V.i (0 : Int))] (by kernel_rfl) (by kernel_rfl) True.intro ?_
      refine aops_nil ?_
      refine xt_n ?_
      refine hK _ ?_
      clear hK K
      refine aw_ret ?_
      rw [show progE l = 0 by unfold progE; rw [if_neg (by omega), if_neg (by rw [c2]; decide)]]
      refine ret_pure (v' := V.i (0 : Int)) (.inr rfl) (by kernel_rfl) (by kernel_rfl) (by kernel_rfl)
set_option maxRecDepth 100000 in
theorem need_ac (p : Pt) (c : Int) (h1 : (-32767 ≤ p.1 ∧ p.1 ≤ 32767) ∧ (-32767 ≤ p.2 ∧ p.2 ≤ 32767)) (hc : 1 ≤ c ∧ c ≤ 32767) : AC Try.prog 71 [.agg [.i p.1, .i p.2], .i c] (.i (needI p c)) [] := by
  have hb := amtS_bd h1
  have ha : amtS p = max (max (max p.1 (-p.1)) p.2) (-p.2) := rfl
  refine ac_intro hTT hMX (fn := Try.f71) (N := _) ⟨Try.func71, rfl, Try.ntmps71, by kernel_rfl⟩ (by simp) fun C hC hF => ?_
  refine aw_seq_k fun K hK => ?_
  refine w_region (n' := 2) (by kernel_rfl) (by kernel_rfl) ?_
  refine aops_n hTT (M := []) (n := 2) [pv (2 : Nat) (V.ptr [V.i (Prod.fst p), V.i (Prod.snd p)]), pv (4 : Nat) (V.i (0 : Int))] (by kernel_rfl) (by kernel_rfl) True.intro ?_
  refine aops_nil ?_
  refine xt_n ?_
  refine hK _ ?_
  clear hK K
  refine aw_seq_k fun K hK => ?_
  refine w_region (n' := 3) (by kernel_rfl) (by kernel_rfl) ?_
  refine aops_n hTT (M := []) (n := 12) [pv (6 : Nat) (V.ptr [V.i (Prod.fst p), V.i (Prod.snd p)]), pv (7 : Nat) (V.i (Prod.fst p)), pv (8 : Nat) (V.ptr [V.i (Prod.fst p), V.i (Prod.snd p)]), pv (9 : Nat) (V.i (Prod.fst p)), pc (10 : Nat) ((-9223372036854775808 : Int) ≤ -Prod.fst p ∧ -Prod.fst p ≤ (9223372036854775807 : Int)) (V.i (-Prod.fst p)), pv (11 : Nat) (V.ptr [V.i (Prod.snd p)]), pv (12 : Nat) (V.i (Prod.snd p)), pv (13 : Nat) (V.ptr [V.i (Prod.snd p)]), pv (14 : Nat) (V.i (Prod.snd p)), pc (15 : Nat) ((-9223372036854775808 : Int) ≤ -Prod.snd p ∧ -Prod.snd p ≤ (9223372036854775807 : Int)) (V.i (-Prod.snd p)), pv (16 : Nat) (V.i (max (max (max (Prod.fst p) (-Prod.fst p)) (Prod.snd p)) (-Prod.snd p))), pv (5 : Nat) (V.i (max (max (max (Prod.fst p) (-Prod.fst p)) (Prod.snd p)) (-Prod.snd p)))] (by kernel_rfl) (by kernel_rfl) ⟨(by omega), (by omega), True.intro⟩ ?_
  refine aops_nil ?_
  refine xt_n ?_
  refine hK _ ?_
  clear hK K
  refine aw_seq_k fun K hK => ?_
  refine aw_seq_k fun K hK => ?_
  refine w_region (n' := 4) (by kernel_rfl) (by kernel_rfl) ?_
  refine aops_n hTT (M := []) (n := 2) [pv (17 : Nat) (V.i (max (max (max (Prod.fst p) (-Prod.fst p)) (Prod.snd p)) (-Prod.snd p))), pv (18 : Nat) (V.b (decide (max (max (max (Prod.fst p) (-Prod.fst p)) (Prod.snd p)) (-Prod.snd p) = (0 : Int))))] (by kernel_rfl) (by kernel_rfl) True.intro ?_
  refine aops_nil ?_
  refine xt_n ?_
  refine hK _ ?_
  clear hK K
  refine w_cond (t := decide (max (max (max (Prod.fst p) (-Prod.fst p)) (Prod.snd p)) (-Prod.snd p) = (0 : Int))) (by kernel_rfl) (fun c1 => ?_) (fun c1 => ?_)
  · have h0 : amtS p = 0 := by rw [ha]; simp at c1; omega
    refine aw_seq_k fun K hK => ?_
    refine w_region (n' := 5) (by kernel_rfl) (by kernel_rfl) ?_
    refine aops_n hTT (M := []) (n := 1) [pv (4 : Nat) (V.i (256 : Int))] (by kernel_rfl) (by kernel_rfl) True.intro ?_
    refine aops_nil ?_
    refine xt_n ?_
    refine hK _ ?_
    clear hK K
    refine aw_ret ?_
    refine xt_r ?_
    rw [show needI p c = 256 by unfold needI; rw [if_pos h0]]
    refine ret_pure (v' := V.i (256 : Int)) (.inr rfl) (by kernel_rfl) (by kernel_rfl) (by kernel_rfl)
  · have h0 : ¬ amtS p = 0 := by rw [ha]; simp at c1; omega
    rw [ha] at hb h0
    refine aw_skip ?_
    refine xt_n ?_
    refine hK _ ?_
    clear hK K
    refine aw_seq_k fun K hK => ?_
    refine w_region (n' := 5) (by kernel_rfl) (by kernel_rfl) ?_
    refine aops_n hTT (M := []) (n := 8) [pv (19 : Nat) (V.i c), pc (20 : Nat) ((-9223372036854775808 : Int) ≤ c + (1 : Int) ∧ c + (1 : Int) ≤ (9223372036854775807 : Int)) (V.i (c + (1 : Int))), pc (21 : Nat) ((-9223372036854775808 : Int) ≤ (256 : Int) * (c + (1 : Int)) ∧ (256 : Int) * (c + (1 : Int)) ≤ (9223372036854775807 : Int)) (V.i ((256 : Int) * (c + (1 : Int)))), pc (22 : Nat) ((-9223372036854775808 : Int) ≤ (256 : Int) * (c + (1 : Int)) - (1 : Int) ∧ (256 : Int) * (c + (1 : Int)) - (1 : Int) ≤ (9223372036854775807 : Int)) (V.i ((256 : Int) * (c + (1 : Int)) - (1 : Int))), pv (23 : Nat) (V.i (max (max (max (Prod.fst p) (-Prod.fst p)) (Prod.snd p)) (-Prod.snd p))), pc (24 : Nat) ((0 : Int) < max (max (max (Prod.fst p) (-Prod.fst p)) (Prod.snd p)) (-Prod.snd p) ∧ (-9223372036854775808 : Int) ≤ (256 : Int) * (c + (1 : Int)) - (1 : Int) ∧ (256 : Int) * (c + (1 : Int)) - (1 : Int) ≤ (9223372036854775807 : Int)) (V.i (Int.tdiv ((256 : Int) * (c + (1 : Int)) - (1 : Int)) (max (max (max (Prod.fst p) (-Prod.fst p)) (Prod.snd p)) (-Prod.snd p)))), pv (25 : Nat) (V.i (min (256 : Int) (Int.tdiv ((256 : Int) * (c + (1 : Int)) - (1 : Int)) (max (max (max (Prod.fst p) (-Prod.fst p)) (Prod.snd p)) (-Prod.snd p))))), pv (4 : Nat) (V.i (min (256 : Int) (Int.tdiv ((256 : Int) * (c + (1 : Int)) - (1 : Int)) (max (max (max (Prod.fst p) (-Prod.fst p)) (Prod.snd p)) (-Prod.snd p)))))] (by kernel_rfl) (by kernel_rfl) ⟨(by omega), (by omega), (by omega), ⟨(by omega), (by omega)⟩, True.intro⟩ ?_
    refine aops_nil ?_
    refine xt_n ?_
    refine hK _ ?_
    clear hK K
    refine aw_ret ?_
    rw [show needI p c = min 256 ((256 * (c + 1) - 1).tdiv (max (max (max p.1 (-p.1)) p.2) (-p.2))) by unfold needI; rw [ha, if_neg h0, Int.tdiv_eq_ediv_of_nonneg (by omega)]]
    refine ret_pure (v' := V.i (min (256 : Int) (Int.tdiv ((256 : Int) * (c + (1 : Int)) - (1 : Int)) (max (max (max (Prod.fst p) (-Prod.fst p)) (Prod.snd p)) (-Prod.snd p))))) (.inr rfl) (by kernel_rfl) (by kernel_rfl) (by kernel_rfl)
end Go.Proofs.Ytblipieipldanaa
