/-
  Programmes that are valid, and needs: both copies. Condition: as many elements as a slice can have.
-/
import Derived.Test.YtblipieipldanaaFA8
import Derived.Test.YtblipieipldanaaFPl3
namespace Go.Proofs.Ytblipieipldanaa
open Go.Ab Go.RowKit Go.Dw Go.Shelf

def loudB (p : Pt) (m : Int) : Bool := bey p.1 m || bey p.2 m
theorem loudB_no {p : Pt} {m : Int} : loudB p m = false ↔ (-m ≤ p.1 ∧ p.1 ≤ m) ∧ (-m ≤ p.2 ∧ p.2 ≤ m) := by
  unfold loudB; rw [Bool.or_eq_false_iff, bey_no, bey_no]
def progE (l : List Pt) : Int := if 4096 < l.length then 6 else if l.any fun p => loudB p 32767 then 3 else 0
theorem any_gp {l : List Pt} {m : Int} : (l.any fun p => loudB p m) = true ↔ ∃ k, k < l.length ∧ loudB (gp l k) m = true := by
  rw [List.any_eq_true]
  constructor
  · rintro ⟨x, hx, h⟩
    obtain ⟨k, hk, rfl⟩ := List.getElem_of_mem hx
    exact ⟨k, hk, by rw [gp_eq hk]; exact h⟩
  · rintro ⟨k, hk, h⟩
    exact ⟨l[k], List.getElem_mem _, by rw [← gp_eq hk]; exact h⟩
theorem any_gp_no {l : List Pt} {m : Int} : (l.any fun p => loudB p m) = false ↔ ∀ k, k < l.length → loudB (gp l k) m = false := by
  constructor
  · intro h k hk
    cases hb : loudB (gp l k) m with
    | false => rfl
    | true => rw [any_gp.2 ⟨k, hk, hb⟩] at h; cases h
  · intro h
    cases hb : l.any fun p => loudB p m with
    | false => rfl
    | true =>
      obtain ⟨k, hk, h2⟩ := any_gp.1 hb
      rw [h k hk] at h2; cases h2
theorem progE_ok {l : List Pt} : progE l = 0 ↔ l.length ≤ 4096 ∧ ∀ k, k < l.length → (-32767 ≤ (gp l k).1 ∧ (gp l k).1 ≤ 32767) ∧ (-32767 ≤ (gp l k).2 ∧ (gp l k).2 ≤ 32767) := by
  unfold progE
  by_cases h : 4096 < l.length
  · rw [if_pos h]; simp; omega
  · rw [if_neg h]
    have e : (∀ k, k < l.length → (-32767 ≤ (gp l k).1 ∧ (gp l k).1 ≤ 32767) ∧ (-32767 ≤ (gp l k).2 ∧ (gp l k).2 ≤ 32767)) ↔ (l.any fun p => loudB p 32767) = false := by
      rw [any_gp_no]
      exact ⟨fun h k hk => loudB_no.2 (h k hk), fun h k hk => loudB_no.1 (h k hk)⟩
    rw [e]
    cases (l.any fun p => loudB p 32767) <;> simp
    omega
set_option maxRecDepth 100000 in
theorem loud_ac (p : Pt) (m : Int) (hm : 0 ≤ m ∧ m ≤ 4611686018427387904) : AC Try.prog 96 [.agg [.i p.1, .i p.2], .i m] (.b (loudB p m)) [] := by
  refine ac_intro hTT hMX (fn := Try.f96) (N := _) ⟨Try.func96, rfl, Try.ntmps96, by kernel_rfl⟩ (by simp) fun C hC hF => ?_
  refine aw_seq_k fun K hK => ?_
  refine w_region (n' := 2) (by kernel_rfl) (by kernel_rfl) ?_
  refine aops_n hTT (M := []) (n := 2) [pv (2 : Nat) (V.ptr [V.i (Prod.fst p), V.i (Prod.snd p)]), pv (4 : Nat) (V.b false)] (by kernel_rfl) (by kernel_rfl) True.intro ?_
  refine aops_nil ?_
  refine xt_n ?_
  refine hK _ ?_
  clear hK K
  refine aw_seq_k fun K hK => ?_
  refine w_region (n' := 3) (by kernel_rfl) (by kernel_rfl) ?_
  refine aops_n hTT (M := []) (n := 3) [pv (5 : Nat) (V.ptr [V.i (Prod.fst p), V.i (Prod.snd p)]), pv (6 : Nat) (V.i (Prod.fst p)), pv (7 : Nat) (V.i m)] (by kernel_rfl) (by kernel_rfl) True.intro ?_
  refine e_call (first := []) (caps := []) (beyond_ac p.1 m hm) (by kernel_rfl) (by kernel_rfl) (by kernel_rfl) (by kernel_rfl) (by kernel_rfl) ?_
  refine aops_n hTT (M := []) (n := 4) [pv (9 : Nat) (V.b (bey (Prod.fst p) m)), pc (10 : Nat) ((True ∧ True) ∧ ((bey (Prod.fst p) m == false) = true → True)) (V.gd (bey (Prod.fst p) m == false) (V.ptr [V.i (Prod.snd p)])), pc (11 : Nat) ((((bey (Prod.fst p) m == false) = true → (bey (Prod.fst p) m == false) = true) ∧ True) ∧ ((bey (Prod.fst p) m == false) = true → True)) (V.gd (bey (Prod.fst p) m == false) (V.i (Prod.snd p))), pc (12 : Nat) ((True ∧ True) ∧ ((bey (Prod.fst p) m == false) = true → True)) (V.gd (bey (Prod.fst p) m == false) (V.i m))] (by kernel_rfl) (by kernel_rfl) ⟨⟨⟨True.intro, True.intro⟩, (fun _ => True.intro)⟩, ⟨⟨(by (exact fun h => h)), True.intro⟩, (fun _ => True.intro)⟩, ⟨⟨True.intro, True.intro⟩, (fun _ => True.intro)⟩, True.intro⟩ ?_
  refine e_callG 2 (g := bey (Prod.fst p) m == false) (first := []) (caps := []) (by kernel_rfl) (fun h => beyond_ac p.2 m hm) (by kernel_rfl) (by kernel_rfl) (by kernel_rfl) (by kernel_rfl) (by kernel_rfl) (by kernel_rfl) ?_
  refine aops_n hTT (M := []) (n := 2) [pc (14 : Nat) (True ∧ (bey (Prod.fst p) m = false → (bey (Prod.fst p) m == false) = true)) (V.b (bey (Prod.fst p) m || bey (Prod.snd p) m)), pv (4 : Nat) (V.b (bey (Prod.fst p) m || bey (Prod.snd p) m))] (by kernel_rfl) (by kernel_rfl) ⟨⟨True.intro, (by (intro h; rw [h]; rfl))⟩, True.intro⟩ ?_
  refine aops_nil ?_
  refine xt_n ?_
  refine hK _ ?_
  clear hK K
  refine aw_ret ?_
  refine ret_pure (v' := V.b (bey (Prod.fst p) m || bey (Prod.snd p) m)) (.inr rfl) (by kernel_rfl) (by kernel_rfl) (by kernel_rfl)
set_option maxRecDepth 100000 in
theorem checkProgramme1_ac (p : Pt) : AC Try.prog 95 [.agg [.i p.1, .i p.2]] (.b (loudB p 32767)) [] := by
  refine ac_intro hTT hMX (fn := Try.f95) (N := _) ⟨Try.func95, rfl, Try.ntmps95, by kernel_rfl⟩ (by simp) fun C hC hF => ?_
  refine aw_seq_k fun K hK => ?_
  refine w_region (n' := 2) (by kernel_rfl) (by kernel_rfl) ?_
  refine aops_n hTT (M := []) (n := 2) [pv (1 : Nat) (V.ptr [V.i (Prod.fst p), V.i (Prod.snd p)]), pv (2 : Nat) (V.b false)] (by kernel_rfl) (by kernel_rfl) True.intro ?_
  refine aops_nil ?_
  refine xt_n ?_
  refine hK _ ?_
  clear hK K
  refine aw_seq_k fun K hK => ?_
  refine w_region (n' := 3) (by kernel_rfl) (by kernel_rfl) ?_
  refine aops_n hTT (M := []) (n := 1) [pv (3 : Nat) (V.agg [V.i (Prod.fst p), V.i (Prod.snd p)])] (by kernel_rfl) (by kernel_rfl) True.intro ?_
  refine e_call (first := []) (caps := []) (loud_ac p 32767 (by decide)) (by kernel_rfl) (by kernel_rfl) (by kernel_rfl) (by kernel_rfl) (by kernel_rfl) ?_
  refine aops_n hTT (M := []) (n := 1) [pv (2 : Nat) (V.b (loudB p (32767 : Int)))] (by kernel_rfl) (by kernel_rfl) True.intro ?_
  refine aops_nil ?_
  refine xt_n ?_
  refine hK _ ?_
  clear hK K
  refine aw_ret ?_
  refine ret_pure (v' := V.b (loudB p (32767 : Int))) (.inr rfl) (by kernel_rfl) (by kernel_rfl) (by kernel_rfl)
def firstP (l : List Pt) (m : Int) : Int := match (List.range l.length).find? fun k => loudB (gp l k) m with
  | some k => (k : Int)
  | none => -1
theorem firstP_some {l : List Pt} {m : Int} {k : Nat} (hk : k < l.length) (h : loudB (gp l k) m = true) (hj : ∀ j, j < k → loudB (gp l j) m = false) : firstP l m = k := by
  have : (List.range l.length).find? (fun k => loudB (gp l k) m) = some k := by
    rw [List.find?_range_eq_some]
    exact ⟨h, by simpa using hk, fun j hjk => by simp [hj j hjk]⟩
  rw [firstP, this]
theorem firstP_none {l : List Pt} {m : Int} (h : ∀ k, k < l.length → loudB (gp l k) m = false) : firstP l m = -1 := by
  have : (List.range l.length).find? (fun k => loudB (gp l k) m) = none := by
    rw [List.find?_eq_none]
    intro x hx
    simp [h x (by simpa using hx)]
  rw [firstP, this]
theorem firstP_any (l : List Pt) (m : Int) : decide (0 ≤ firstP l m) = l.any fun p => loudB p m := by
  by_cases h : ∃ k, k < l.length ∧ loudB (gp l k) m = true
  · obtain ⟨k, ⟨h1, h2⟩, h3⟩ := least _ h
    rw [any_gp.2 ⟨k, h1, h2⟩, firstP_some h1 h2 fun j hj => by
      cases hb : loudB (gp l j) m with
      | false => rfl
      | true => have := h3 j ⟨by omega, hb⟩; omega]
    simp
  · have h2 : ∀ k, k < l.length → loudB (gp l k) m = false := fun k hk => by
      cases hb : loudB (gp l k) m with
      | false => rfl
      | true => exact absurd ⟨k, hk, hb⟩ h
    rw [firstP_none h2, any_gp_no.2 h2]; rfl
set_option maxRecDepth 100000 in
theorem indexLoud_ac (l : List Pt) (hl : l.length ≤ bigL) : AC Try.prog 110 [V.pts l, .fn (.func 95) [] []] (.i (firstP l 32767)) [] := by
  unfold bigL at hl
  refine ac_intro hTT hMX (fn := Try.f110) (N := _) ⟨Try.func110, rfl, Try.ntmps110, by kernel_rfl⟩ (by simp) fun C hC hF => ?_
  refine aw_seq_k fun K hK => ?_
  refine w_region (n' := 2) (by kernel_rfl) (by kernel_rfl) ?_
  refine aops_n hTT (M := []) (n := 1) [pv (4 : Nat) (V.i (0 : Int))] (by kernel_rfl) (by kernel_rfl) True.intro ?_
  refine aops_nil ?_
  refine xt_n ?_
  refine hK _ ?_
  clear hK K
  refine aw_seq_k fun K hK => ?_
  refine aw_seq_k fun K hK => ?_
  refine w_region (n' := 3) (by kernel_rfl) (by kernel_rfl) ?_
  refine aops_n hTT (M := []) (n := 3) [pv (6 : Nat) (V.sl (2 : Nat) (List.length l) fun (k : Nat) => [V.i (Prod.fst (gp l k)), V.i (Prod.snd (gp l k))]), pv (7 : Nat) (V.i (↑(List.length l) : Int)), pv (8 : Nat) (V.i (0 : Int))] (by kernel_rfl) (by kernel_rfl) True.intro ?_
  refine aops_nil ?_
  refine xt_n ?_
  refine hK _ ?_
  clear hK K
  refine aw_block ?_
  refine w_loop (ι := Nat) (fun k => [(0, V.pts l), (1, .fn (.func 95) [] []), (7, .i l.length), (8, .i k)]) (fun _ => []) (fun k => k ≤ l.length ∧ ∀ j, j < k → loudB (gp l j) 32767 = false) (fun k => l.length - k) 0 ⟨Nat.zero_le _, fun j hj => by omega⟩ ?_ ?_
  · refine le_ren [] (.cons (by kernel_rfl) (.cons (by kernel_rfl) (.cons (by kernel_rfl) (.cons (by kernel_rfl) .nil)))) .nil (by kernel_rfl) (by kernel_rfl)
  rintro k ⟨hk, hb⟩
  refine aw_seq_k fun K hK => ?_
  refine w_region (n' := 2) (by kernel_rfl) (by kernel_rfl) ?_
  refine aops_n hTT (M := []) (n := 1) [pv (9 : Nat) (V.b (decide ((↑k : Int) < (↑(List.length l) : Int))))] (by kernel_rfl) (by kernel_rfl) True.intro ?_
  refine aops_nil ?_
  refine xt_n ?_
  refine hK _ ?_
  clear hK K
  refine aw_seq_k fun K hK => ?_
  refine w_cond (t := decide ((↑k : Int) < (↑(List.length l) : Int))) (by kernel_rfl) (fun c1 => ?_) (fun c1 => ?_)
  · simp at c1
    refine aw_skip ?_
    refine xt_n ?_
    refine hK _ ?_
    clear hK K
    refine aw_seq_k fun K hK => ?_
    refine aw_block ?_
    refine aw_seq_k fun K hK => ?_
    refine w_region (n' := 3) (by kernel_rfl) (by kernel_rfl) ?_
    refine aops_n hTT (M := []) (n := 2) [pv (10 : Nat) (V.i (↑k : Int)), pv (5 : Nat) (V.i (↑k : Int))] (by kernel_rfl) (by kernel_rfl) True.intro ?_
    refine aops_nil ?_
    refine xt_n ?_
    refine hK _ ?_
    clear hK K
    refine aw_seq_k fun K hK => ?_
    refine w_region (n' := 4) (by kernel_rfl) (by kernel_rfl) ?_
    refine aops_n hTT (M := []) (n := 5) [pv (11 : Nat) (V.fn (Fn.func (95 : Nat)) [] []), pv (12 : Nat) (V.sl (2 : Nat) (List.length l) fun (k : Nat) => [V.i (Prod.fst (gp l k)), V.i (Prod.snd (gp l k))]), pv (13 : Nat) (V.i (↑k : Int)), pc (14 : Nat) ((0 : Int) ≤ (↑k : Int) ∧ (↑k : Int) < (↑(List.length l) : Int)) (V.ptr [V.i (Prod.fst (gp l k)), V.i (Prod.snd (gp l k))]), pv (15 : Nat) (V.agg [V.i (Prod.fst (gp l k)), V.i (Prod.snd (gp l k))])] (by kernel_rfl) (by kernel_rfl) ⟨(by omega), True.intro⟩ ?_
    refine e_call (first := []) (caps := []) (checkProgramme1_ac (gp l k)) (by kernel_rfl) (by kernel_rfl) (by kernel_rfl) (by kernel_rfl) (by kernel_rfl) ?_
    refine aops_nil ?_
    refine xt_n ?_
    refine hK _ ?_
    clear hK K
    refine w_cond (t := loudB (gp l k) (32767 : Int)) (by kernel_rfl) (fun c2 => ?_) (fun c2 => ?_)
    · refine aw_seq_k fun K hK => ?_
      refine w_region (n' := 5) (by kernel_rfl) (by kernel_rfl) ?_
      refine aops_n hTT (M := []) (n := 2) [pv (17 : Nat) (V.i (↑k : Int)), pv (4 : Nat) (V.i (↑k : Int))] (by kernel_rfl) (by kernel_rfl) True.intro ?_
      refine aops_nil ?_
      refine xt_n ?_
      refine hK _ ?_
      clear hK K
      refine aw_ret ?_
      refine xb_r ?_
      refine xt_r ?_
      refine xt_r ?_
      refine xb_r ?_
      refine xt_r ?_
      rw [firstP_some c1 c2 hb]
      refine ret_pure (v' := V.i (↑k : Int)) (.inr rfl) (by kernel_rfl) (by kernel_rfl) (by kernel_rfl)
    · refine aw_skip ?_
      refine xb_n ?_
      refine xt_n ?_
      refine hK _ ?_
      clear hK K
      refine w_region (n' := 5) (by kernel_rfl) (by kernel_rfl) ?_
      refine aops_n hTT (M := []) (n := 2) [pc (18 : Nat) ((-9223372036854775808 : Int) ≤ (↑k : Int) + (1 : Int) ∧ (↑k : Int) + (1 : Int) ≤ (9223372036854775807 : Int)) (V.i ((↑k : Int) + (1 : Int))), pv (8 : Nat) (V.i ((↑k : Int) + (1 : Int)))] (by kernel_rfl) (by kernel_rfl) ⟨(by omega), True.intro⟩ ?_
      refine aops_nil ?_
      refine xt_n ?_
      refine ⟨k + 1, ⟨by omega, fun j hj => ?_⟩, by refine le_ren [] (.cons (by kernel_rfl) (.cons (by kernel_rfl) (.cons (by kernel_rfl) (.cons (by kernel_rfl) .nil)))) .nil (by kernel_rfl) (by kernel_rfl), by omega⟩
      by_cases h : j < k
      · exact hb j h
      · obtain rfl : j = k := by omega
        exact c2
  · simp at c1
    refine aw_exit ?_
    refine xt_x ?_
    refine xt_x ?_
    refine xb_same ?_
    refine xt_n ?_
    clear hK K
    refine hK _ ?_
    clear hK K
    refine aw_seq_k fun K hK => ?_
    refine w_region (n' := 3) (by kernel_rfl) (by kernel_rfl) ?_
    refine aops_n hTT (M := []) (n := 1) [pv (4 : Nat) (V.i (-1 : Int))] (by kernel_rfl) (by kernel_rfl) True.intro ?_
    refine aops_nil ?_
    refine xt_n ?_
    refine hK _ ?_
    clear hK K
    refine aw_ret ?_
    rw [firstP_none fun j hj => hb j (by omega)]
    refine ret_pure (v' := V.i (-1 : Int)) (.inr rfl) (by kernel_rfl) (by kernel_rfl) (by kernel_rfl)
set_option maxRecDepth 100000 in
theorem containsLoud_ac (l : List Pt) (hl : l.length ≤ bigL) : AC Try.prog 94 [V.pts l, .fn (.func 95) [] []] (.b (l.any fun p => loudB p 32767)) [] := by
  refine ac_intro hTT hMX (fn := Try.f94) (N := _) ⟨Try.func94, rfl, Try.ntmps94, by kernel_rfl⟩ (by simp) fun C hC hF => ?_
  refine aw_seq_k fun K hK => ?_
  refine w_region (n' := 2) (by kernel_rfl) (by kernel_rfl) ?_
  refine aops_n hTT (M := []) (n := 1) [pv (4 : Nat) (V.b false)] (by kernel_rfl) (by kernel_rfl) True.intro ?_
  refine aops_nil ?_
  refine xt_n ?_
  refine hK _ ?_
  clear hK K
  refine aw_seq_k fun K hK => ?_
  refine w_region (n' := 3) (by kernel_rfl) (by kernel_rfl) ?_
  refine aops_n hTT (M := []) (n := 2) [pv (5 : Nat) (V.sl (2 : Nat) (List.length l) fun (k : Nat) => [V.i (Prod.fst (gp l k)), V.i (Prod.snd (gp l k))]), pv (6 : Nat) (V.fn (Fn.func (95 : Nat)) [] [])] (by kernel_rfl) (by kernel_rfl) True.intro ?_
  refine e_call (first := []) (caps := []) (indexLoud_ac l hl) (by kernel_rfl) (by kernel_rfl) (by kernel_rfl) (by kernel_rfl) (by kernel_rfl) ?_
  refine aops_n hTT (M := []) (n := 2) [pv (8 : Nat) (V.b (decide ((0 : Int) ≤ firstP l (32767 : Int)))), pv (4 : Nat) (V.b (decide ((0 : Int) ≤ firstP l (32767 : Int))))] (by kernel_rfl) (by kernel_rfl) True.intro ?_
  refine aops_nil ?_
  refine xt_n ?_
  refine hK _ ?_
  clear hK K
  refine aw_ret ?_
  rw [← firstP_any]
  refine ret_pure (v' := V.b (decide ((0 : Int) ≤ firstP l (32767 : Int)))) (.inr rfl) (by kernel_rfl) (by kernel_rfl) (by kernel_rfl)
set_option maxRecDepth 100000 in
theorem checkProgramme_ac (l : List Pt) (hl : l.length ≤ bigL) : AC Try.prog 70 [V.pts l] (.i (progE l)) [] := by
  have hl' := hl
  unfold bigL at hl'
  refine ac_intro hTT hMX (fn := Try.f70) (N := _) ⟨Try.func70, rfl, Try.ntmps70, by kernel_rfl⟩ (by simp) fun C hC hF => ?_
  refine aw_seq_k fun K hK => ?_
  refine w_region (n' := 2) (by kernel_rfl) (by kernel_rfl) ?_
  refine aops_n hTT (M := []) (n := 1) [pv (2 : Nat) (V.i (0 : Int))] (by kernel_rfl) (by kernel_rfl) True.intro ?_
  refine aops_nil ?_
  refine xt_n ?_
  refine hK _ ?_
  clear hK K
  refine aw_seq_k fun K hK => ?_
  refine aw_seq_k fun K hK => ?_
  refine w_region (n' := 3) (by kernel_rfl) (by kernel_rfl) ?_
  refine aops_n hTT (M := []) (n := 3) [pv (3 : Nat) (V.sl (2 : Nat) (List.length l) fun (k : Nat) => [V.i (Prod.fst (gp l k)), V.i (Prod.snd (gp l k))]), pv (4 : Nat) (V.i (↑(List.length l) : Int)), pv (5 : Nat) (V.b (decide ((4096 : Int) < (↑(List.length l) : Int))))] (by kernel_rfl) (by kernel_rfl) True.intro ?_
  refine aops_nil ?_
  refine xt_n ?_
  refine hK _ ?_
  clear hK K
  refine w_cond (t := decide ((4096 : Int) < (↑(List.length l) : Int))) (by kernel_rfl) (fun c1 => ?_) (fun c1 => ?_)
  · simp at c1
    refine aw_seq_k fun K hK => ?_
    refine w_region (n' := 4) (by kernel_rfl) (by kernel_rfl) ?_
    refine aops_n hTT (M := []) (n := 1) [pv (2 : Nat) (V.i (6 : Int))] (by kernel_rfl) (by kernel_rfl) True.intro ?_
    refine aops_nil ?_
    refine xt_n ?_
    refine hK _ ?_
    clear hK K
    refine aw_ret ?_
    refine xt_r ?_
    rw [show progE l = 6 by unfold progE; rw [if_pos (by omega)]]
    refine ret_pure (v' := V.i (6 : Int)) (.inr rfl) (by kernel_rfl) (by kernel_rfl) (by kernel_rfl)
  · simp at c1
    refine aw_skip ?_
    refine xt_n ?_
    refine hK _ ?_
    clear hK K
    refine aw_seq_k fun K hK => ?_
    refine aw_seq_k fun K hK => ?_
    refine w_region (n' := 4) (by kernel_rfl) (by kernel_rfl) ?_
    refine aops_n hTT (M := []) (n := 1) [pv (6 : Nat) (V.sl (2 : Nat) (List.length l) fun (k : Nat) => [V.i (Prod.fst (gp l k)), V.i (Prod.snd (gp l k))])] (by kernel_rfl) (by kernel_rfl) True.intro ?_
    refine e_call (first := []) (caps := []) (containsLoud_ac l hl) (by kernel_rfl) (by kernel_rfl) (by kernel_rfl) (by kernel_rfl) (by kernel_rfl) ?_
    refine aops_nil ?_
    refine xt_n ?_
    refine hK _ ?_
    clear hK K
    refine w_cond (t := List.any l fun (p : Pt) => loudB p (32767 : Int)) (by kernel_rfl) (fun c2 => ?_) (fun c2 => ?_)
    · refine aw_seq_k fun K hK => ?_
      refine w_region (n' := 5) (by kernel_rfl) (by kernel_rfl) ?_
      refine aops_n hTT (M := []) (n := 1) [pv (2 : Nat) (V.i (3 : Int))] (by kernel_rfl) (by kernel_rfl) True.intro ?_
      refine aops_nil ?_
      refine xt_n ?_
      refine hK _ ?_
      clear hK K
      refine aw_ret ?_
      refine xt_r ?_
      rw [show progE l = 3 by unfold progE; rw [if_neg (by omega), if_pos c2]]
      refine ret_pure (v' := V.i (3 : Int)) (.inr rfl) (by kernel_rfl) (by kernel_rfl) (by kernel_rfl)
    · refine aw_skip ?_
      refine xt_n ?_
      refine hK _ ?_
      clear hK K
      refine aw_seq_k fun K hK => ?_
      refine w_region (n' := 5) (by kernel_rfl) (by kernel_rfl) ?_
      refine aops_n hTT (M := []) (n := 1) [pv (2 : Nat) (V.i (0 : Int))] (by kernel_rfl) (by kernel_rfl) True.intro ?_
      refine aops_nil ?_
      refine xt_n ?_
      refine hK _ ?_
      clear hK K
      refine aw_ret ?_
      rw [show progE l = 0 by unfold progE; rw [if_neg (by omega), if_neg (by rw [c2]; decide)]]
      refine ret_pure (v' := V.i (0 : Int)) (.inr rfl) (by kernel_rfl) (by kernel_rfl) (by kernel_rfl)
set_option maxRecDepth 100000 in
theorem refProgramme_ac (l : List Pt) (hl : l.length ≤ bigL) : AC Try.prog 66 [V.pts l] (.i (progE l)) [] := by
  unfold bigL at hl
  refine ac_intro hTT hMX (fn := Try.f66) (N := _) ⟨Try.func66, rfl, Try.ntmps66, by kernel_rfl⟩ (by simp) fun C hC hF => ?_
  refine aw_seq_k fun K hK => ?_
  refine w_region (n' := 2) (by kernel_rfl) (by kernel_rfl) ?_
  refine aops_n hTT (M := []) (n := 1) [pv (2 : Nat) (V.i (0 : Int))] (by kernel_rfl) (by kernel_rfl) True.intro ?_
  refine aops_nil ?_
  refine xt_n ?_
  refine hK _ ?_
  clear hK K
  refine aw_seq_k fun K hK => ?_
  refine aw_seq_k fun K hK => ?_
  refine w_region (n' := 3) (by kernel_rfl) (by kernel_rfl) ?_
  refine aops_n hTT (M := []) (n := 3) [pv (4 : Nat) (V.sl (2 : Nat) (List.length l) fun (k : Nat) => [V.i (Prod.fst (gp l k)), V.i (Prod.snd (gp l k))]), pv (5 : Nat) (V.i (↑(List.length l) : Int)), pv (6 : Nat) (V.b (decide ((4096 : Int) < (↑(List.length l) : Int))))] (by kernel_rfl) (by kernel_rfl) True.intro ?_
  refine aops_nil ?_
  refine xt_n ?_
  refine hK _ ?_
  clear hK K
  refine w_cond (t := decide ((4096 : Int) < (↑(List.length l) : Int))) (by kernel_rfl) (fun c1 => ?_) (fun c1 => ?_)
  · simp at c1
    refine aw_seq_k fun K hK => ?_
    refine w_region (n' := 4) (by kernel_rfl) (by kernel_rfl) ?_
    refine aops_n hTT (M := []) (n := 1) [pv (2 : Nat) (V.i (6 : Int))] (by kernel_rfl) (by kernel_rfl) True.intro ?_
    refine aops_nil ?_
    refine xt_n ?_
    refine hK _ ?_
    clear hK K
    refine aw_ret ?_
    refine xt_r ?_
    rw [show progE l = 6 by unfold progE; rw [if_pos (by omega)]]
    refine ret_pure (v' := V.i (6 : Int)) (.inr rfl) (by kernel_rfl) (by kernel_rfl) (by kernel_rfl)
  simp at c1
  refine aw_skip ?_
  refine xt_n ?_
  refine hK _ ?_
  clear hK K
  refine aw_seq_k fun K hK => ?_
  refine aw_seq_k fun K hK => ?_
  refine w_region (n' := 4) (by kernel_rfl) (by kernel_rfl) ?_
  refine aops_n hTT (M := []) (n := 1) [pv (3 : Nat) (V.i (0 : Int))] (by kernel_rfl) (by kernel_rfl) True.intro ?_
  refine aops_nil ?_
  refine xt_n ?_
  refine hK _ ?_
  clear hK K
  refine aw_block ?_
  refine w_loop (ι := Nat) (fun k => [(0, V.pts l), (3, .i k)]) (fun _ => []) (fun k => k ≤ l.length ∧ ∀ j, j < k → loudB (gp l j) 32767 = false) (fun k => l.length - k) 0 ⟨Nat.zero_le _, fun j hj => by omega⟩ ?_ ?_
  · refine le_ren [] (.cons (by kernel_rfl) (.cons (by kernel_rfl) .nil)) .nil (by kernel_rfl) (by kernel_rfl)
  rintro k ⟨hk, hb⟩
  refine aw_seq_k fun K hK => ?_
  refine aw_seq_k fun K hK => ?_
  refine w_region (n' := 2) (by kernel_rfl) (by kernel_rfl) ?_
  refine aops_n hTT (M := []) (n := 4) [pv (7 : Nat) (V.i (↑k : Int)), pv (8 : Nat) (V.sl (2 : Nat) (List.length l) fun (k : Nat) => [V.i (Prod.fst (gp l k)), V.i (Prod.snd (gp l k))]), pv (9 : Nat) (V.i (↑(List.length l) : Int)), pv (10 : Nat) (V.b (decide ((↑k : Int) < (↑(List.length l) : Int))))] (by kernel_rfl) (by kernel_rfl) True.intro ?_
  refine aops_nil ?_
  refine xt_n ?_
  refine hK _ ?_
  clear hK K
  refine w_cond (t := decide ((↑k : Int) < (↑(List.length l) : Int))) (by kernel_rfl) (fun c2 => ?_) (fun c2 => ?_)
  · simp at c2
    refine aw_skip ?_
    refine xt_n ?_
    refine hK _ ?_
    clear hK K
    refine aw_seq_k fun K hK => ?_
    refine aw_block ?_
    refine aw_seq_k fun K hK => ?_
    refine w_region (n' := 3) (by kernel_rfl) (by kernel_rfl) ?_
    refine aops_n hTT (M := []) (n := 30) [pv (13 : Nat) (V.sl (2 : Nat) (List.length l) fun (k : Nat) => [V.i (Prod.fst (gp l k)), V.i (Prod.snd (gp l k))]), pv (14 : Nat) (V.i (↑k : Int)), pc (15 : Nat) ((0 : Int) ≤ (↑k : Int) ∧ (↑k : Int) < (↑(List.length l) : Int)) (V.ptr [V.i (Prod.fst (gp l k)), V.i (Prod.snd (gp l k))]), pv (16 : Nat) (V.ptr [V.i (Prod.fst (gp l k)), V.i (Prod.snd (gp l k))]), pv (17 : Nat) (V.i (Prod.fst (gp l k))), pv (18 : Nat) (V.b (decide (Prod.fst (gp l k) < (-32767 : Int)))), pv (19 : Nat) (V.b (decide (Prod.fst (gp l k) < (-32767 : Int)))), pc (20 : Nat) ((True ∧ True) ∧ ((decide (Prod.fst (gp l k) < (-32767 : Int)) == false) = true → True)) (V.gd (decide (Prod.fst (gp l k) < (-32767 : Int)) == false) (V.sl (2 : Nat) (List.length l) fun (k : Nat) => [V.i (Prod.fst (gp l k)), V.i (Prod.snd (gp l k))])), pc (21 : Nat) ((True ∧ True) ∧ ((decide (Prod.fst (gp l k) < (-32767 : Int)) == false) = true → True)) (V.gd (decide (Prod.fst (gp l k) < (-32767 : Int)) == false) (V.i (↑k : Int))), pc (22 : Nat) ((((decide (Prod.fst (gp l k) < (-32767 : Int)) == false) = true → (decide (Prod.fst (gp l k) < (-32767 : Int)) == false) = true) ∧ ((decide (Prod.fst (gp l k) < (-32767 : Int)) == false) = true → (decide (Prod.fst (gp l k) < (-32767 : Int)) == false) = true) ∧ True) ∧ ((decide (Prod.fst (gp l k) < (-32767 : Int)) == false) = true → (0 : Int) ≤ (↑k : Int) ∧ (↑k : Int) < (↑(List.length l) : Int))) (V.gd (decide (Prod.fst (gp l k) < (-32767 : Int)) == false) (V.ptr [V.i (Prod.fst (gp l k)), V.i (Prod.snd (gp l k))])), pc (23 : Nat) ((((decide (Prod.fst (gp l k) < (-32767 : Int)) == false) = true → (decide (Prod.fst (gp l k) < (-32767 : Int)) == false) = true) ∧ True) ∧ ((decide (Prod.fst (gp l k) < (-32767 : Int)) == false) = true → True)) (V.gd (decide (Prod.fst (gp l k) < (-32767 : Int)) == false) (V.ptr [V.i (Prod.fst (gp l k)), V.i (Prod.snd (gp l k))])), pc (24 : Nat) ((((decide (Prod.fst (gp l k) < (-32767 : Int)) == false) = true → (decide (Prod.fst (gp l k) < (-32767 : Int)) == false) = true) ∧ True) ∧ ((decide (Prod.fst (gp l k) < (-32767 : Int)) == false) = true → True)) (V.gd (decide (Prod.fst (gp l k) < (-32767 : Int)) == false) (V.i (Prod.fst (gp l k)))), pc (25 : Nat) ((((decide (Prod.fst (gp l k) < (-32767 : Int)) == false) = true → (decide (Prod.fst (gp l k) < (-32767 : Int)) == false) = true) ∧ True ∧ True) ∧ ((decide (Prod.fst (gp l k) < (-32767 : Int)) == false) = true → True)) (V.gd (decide (Prod.fst (gp l k) < (-32767 : Int)) == false) (V.b (decide ((32767 : Int) < Prod.fst (gp l k))))), pc (26 : Nat) (True ∧ (decide (Prod.fst (gp l k) < (-32767 : Int)) = false → (decide (Prod.fst (gp l k) < (-32767 : Int)) == false) = true)) (V.b (decide (Prod.fst (gp l k) < (-32767 : Int)) || decide ((32767 : Int) < Prod.fst (gp l k)))), pv (27 : Nat) (V.b (decide (Prod.fst (gp l k) < (-32767 : Int)) || decide ((32767 : Int) < Prod.fst (gp l k)))), pc (28 : Nat) ((True ∧ True) ∧ (((decide (Prod.fst (gp l k) < (-32767 : Int)) || decide ((32767 : Int) < Prod.fst (gp l k))) == false) = true → True)) (V.gd ((decide (Prod.fst (gp l k) < (-32767 : Int)) || decide ((32767 : Int) < Prod.fst (gp l k))) == false) (V.sl (2 : Nat) (List.length l) fun (k : Nat) => [V.i (Prod.fst (gp l k)), V.i (Prod.snd (gp l k))])), pc (29 : Nat) ((True ∧ True) ∧ (((decide (Prod.fst (gp l k) < (-32767 : Int)) || decide ((32767 : Int) < Prod.fst (gp l k))) == false) = true → True)) (V.gd ((decide (Prod.fst (gp l k) < (-32767 : Int)) || decide ((32767 : Int) < Prod.fst (gp l k))) == false) (V.i (↑k : Int))), pc (30 : Nat) (((((decide (Prod.fst (gp l k) < (-32767 : Int)) || decide ((32767 : Int) < Prod.fst (gp l k))) == false) = true → ((decide (Prod.fst (gp l k) < (-32767 : Int)) || decide ((32767 : Int) < Prod.fst (gp l k))) == false) = true) ∧ (((decide (Prod.fst (gp l k) < (-32767 : Int)) || decide ((32767 : Int) < Prod.fst (gp l k))) == false) = true → ((decide (Prod.fst (gp l k) < (-32767 : Int)) || decide ((32767 : Int) < Prod.fst (gp l k))) == false) = true) ∧ True) ∧ (((decide (Prod.fst (gp l k) < (-32767 : Int)) || decide ((32767 : Int) < Prod.fst (gp l k))) == false) = true → (0 : Int) ≤ (↑k : Int) ∧ (↑k : Int) < (↑(List.length l) : Int))) (V.gd ((decide (Prod.fst (gp l k) < (-32767 : Int)) || decide ((32767 : Int) < Prod.fst (gp l k))) == false) (V.ptr [V.i (Prod.fst (gp l k)), V.i (Prod.snd (gp l k))])), pc (31 : Nat) (((((decide (Prod.fst (gp l k) < (-32767 : Int)) || decide ((32767 : Int) < Prod.fst (gp l k))) == false) = true → ((decide (Prod.fst (gp l k) < (-32767 : Int)) || decide ((32767 : Int) < Prod.fst (gp l k))) == false) = true) ∧ True) ∧ (((decide (Prod.fst (gp l k) < (-32767 : Int)) || decide ((32767 : Int) < Prod.fst (gp l k))) == false) = true → True)) (V.gd ((decide (Prod.fst (gp l k) < (-32767 : Int)) || decide ((32767 : Int) < Prod.fst (gp l k))) == false) (V.ptr [V.i (Prod.snd (gp l k))])), pc (32 : Nat) (((((decide (Prod.fst (gp l k) < (-32767 : Int)) || decide ((32767 : Int) < Prod.fst (gp l k))) == false) = true → ((decide (Prod.fst (gp l k) < (-32767 : Int)) || decide ((32767 : Int) < Prod.fst (gp l k))) == false) = true) ∧ True) ∧ (((decide (Prod.fst (gp l k) < (-32767 : Int)) || decide ((32767 : Int) < Prod.fst (gp l k))) == false) = true → True)) (V.gd ((decide (Prod.fst (gp l k) < (-32767 : Int)) || decide ((32767 : Int) < Prod.fst (gp l k))) == false) (V.i (Prod.snd (gp l k)))), pc (33 : Nat) (((((decide (Prod.fst (gp l k) < (-32767 : Int)) || decide ((32767 : Int) < Prod.fst (gp l k))) == false) = true → ((decide (Prod.fst (gp l k) < (-32767 : Int)) || decide ((32767 : Int) < Prod.fst (gp l k))) == false) = true) ∧ True ∧ True) ∧ (((decide (Prod.fst (gp l k) < (-32767 : Int)) || decide ((32767 : Int) < Prod.fst (gp l k))) == false) = true → True)) (V.gd ((decide (Prod.fst (gp l k) < (-32767 : Int)) || decide ((32767 : Int) < Prod.fst (gp l k))) == false) (V.b (decide (Prod.snd (gp l k) < (-32767 : Int))))), pc (34 : Nat) (True ∧ ((decide (Prod.fst (gp l k) < (-32767 : Int)) || decide ((32767 : Int) < Prod.fst (gp l k))) = false → ((decide (Prod.fst (gp l k) < (-32767 : Int)) || decide ((32767 : Int) < Prod.fst (gp l k))) == false) = true)) (V.b (decide (Prod.fst (gp l k) < (-32767 : Int)) || decide ((32767 : Int) < Prod.fst (gp l k)) || decide (Prod.snd (gp l k) < (-32767 : Int)))), pv (35 : Nat) (V.b (decide (Prod.fst (gp l k) < (-32767 : Int)) || decide ((32767 : Int) < Prod.fst (gp l k)) || decide (Prod.snd (gp l k) < (-32767 : Int)))), pc (36 : Nat) ((True ∧ True) ∧ (((decide (Prod.fst (gp l k) < (-32767 : Int)) || decide ((32767 : Int) < Prod.fst (gp l k)) || decide (Prod.snd (gp l k) < (-32767 : Int))) == false) = true → True)) (V.gd ((decide (Prod.fst (gp l k) < (-32767 : Int)) || decide ((32767 : Int) < Prod.fst (gp l k)) || decide (Prod.snd (gp l k) < (-32767 : Int))) == false) (V.sl (2 : Nat) (List.length l) fun (k : Nat) => [V.i (Prod.fst (gp l k)), V.i (Prod.snd (gp l k))])), pc (37 : Nat) ((True ∧ True) ∧ (((decide (Prod.fst (gp l k) < (-32767 : Int)) || decide ((32767 : Int) < Prod.fst (gp l k)) || decide (Prod.snd (gp l k) < (-32767 : Int))) == false) = true → True)) (V.gd ((decide (Prod.fst (gp l k) < (-32767 : Int)) || decide ((32767 : Int) < Prod.fst (gp l k)) || decide (Prod.snd (gp l k) < (-32767 : Int))) == false) (V.i (↑k : Int))), pc (38 : Nat) (((((decide (Prod.fst (gp l k) < (-32767 : Int)) || decide ((32767 : Int) < Prod.fst (gp l k)) || decide (Prod.snd (gp l k) < (-32767 : Int))) == false) = true → ((decide (Prod.fst (gp l k) < (-32767 : Int)) || decide ((32767 : Int) < Prod.fst (gp l k)) || decide (Prod.snd (gp l k) < (-32767 : Int))) == false) = true) ∧ (((decide (Prod.fst (gp l k) < (-32767 : Int)) || decide ((32767 : Int) < Prod.fst (gp l k)) || decide (Prod.snd (gp l k) < (-32767 : Int))) == false) = true → ((decide (Prod.fst (gp l k) < (-32767 : Int)) || decide ((32767 : Int) < Prod.fst (gp l k)) || decide (Prod.snd (gp l k) < (-32767 : Int))) == false) = true) ∧ True) ∧ (((decide (Prod.fst (gp l k) < (-32767 : Int)) || decide ((32767 : Int) < Prod.fst (gp l k)) || decide (Prod.snd (gp l k) < (-32767 : Int))) == false) = true → (0 : Int) ≤ (↑k : Int) ∧ (↑k : Int) < (↑(List.length l) : Int))) (V.gd ((decide (Prod.fst (gp l k) < (-32767 : Int)) || decide ((32767 : Int) < Prod.fst (gp l k)) || decide (Prod.snd (gp l k) < (-32767 : Int))) == false) (V.ptr [V.i (Prod.fst (gp l k)), V.i (Prod.snd (gp l k))])), pc (39 : Nat) (((((decide (Prod.fst (gp l k) < (-32767 : Int)) || decide ((32767 : Int) < Prod.fst (gp l k)) || decide (Prod.snd (gp l k) < (-32767 : Int))) == false) = true → ((decide (Prod.fst (gp l k) < (-32767 : Int)) || decide ((32767 : Int) < Prod.fst (gp l k)) || decide (Prod.snd (gp l k) < (-32767 : Int))) == false) = true) ∧ True) ∧ (((decide (Prod.fst (gp l k) < (-32767 : Int)) || decide ((32767 : Int) < Prod.fst (gp l k)) || decide (Prod.snd (gp l k) < (-32767 : Int))) == false) = true → True)) (V.gd ((decide (Prod.fst (gp l k) < (-32767 : Int)) || decide ((32767 : Int) < Prod.fst (gp l k)) || decide (Prod.snd (gp l k) < (-32767 : Int))) == false) (V.ptr [V.i (Prod.snd (gp l k))])), pc (40 : Nat) (((((decide (Prod.fst (gp l k) < (-32767 : Int)) || decide ((32767 : Int) < Prod.fst (gp l k)) || decide (Prod.snd (gp l k) < (-32767 : Int))) == false) = true → ((decide (Prod.fst (gp l k) < (-32767 : Int)) || decide ((32767 : Int) < Prod.fst (gp l k)) || decide (Prod.snd (gp l k) < (-32767 : Int))) == false) = true) ∧ True) ∧ (((decide (Prod.fst (gp l k) < (-32767 : Int)) || decide ((32767 : Int) < Prod.fst (gp l k)) || decide (Prod.snd (gp l k) < (-32767 : Int))) == false) = true → True)) (V.gd ((decide (Prod.fst (gp l k) < (-32767 : Int)) || decide ((32767 : Int) < Prod.fst (gp l k)) || decide (Prod.snd (gp l k) < (-32767 : Int))) == false) (V.i (Prod.snd (gp l k)))), pc (41 : Nat) (((((decide (Prod.fst (gp l k) < (-32767 : Int)) || decide ((32767 : Int) < Prod.fst (gp l k)) || decide (Prod.snd (gp l k) < (-32767 : Int))) == false) = true → ((decide (Prod.fst (gp l k) < (-32767 : Int)) || decide ((32767 : Int) < Prod.fst (gp l k)) || decide (Prod.snd (gp l k) < (-32767 : Int))) == false) = true) ∧ True ∧ True) ∧ (((decide (Prod.fst (gp l k) < (-32767 : Int)) || decide ((32767 : Int) < Prod.fst (gp l k)) || decide (Prod.snd (gp l k) < (-32767 : Int))) == false) = true → True)) (V.gd ((decide (Prod.fst (gp l k) < (-32767 : Int)) || decide ((32767 : Int) < Prod.fst (gp l k)) || decide (Prod.snd (gp l k) < (-32767 : Int))) == false) (V.b (decide ((32767 : Int) < Prod.snd (gp l k))))), pc (42 : Nat) (True ∧ ((decide (Prod.fst (gp l k) < (-32767 : Int)) || decide ((32767 : Int) < Prod.fst (gp l k)) || decide (Prod.snd (gp l k) < (-32767 : Int))) = false → ((decide (Prod.fst (gp l k) < (-32767 : Int)) || decide ((32767 : Int) < Prod.fst (gp l k)) || decide (Prod.snd (gp l k) < (-32767 : Int))) == false) = true)) (V.b (decide (Prod.fst (gp l k) < (-32767 : Int)) || decide ((32767 : Int) < Prod.fst (gp l k)) || decide (Prod.snd (gp l k) < (-32767 : Int)) || decide ((32767 : Int) < Prod.snd (gp l k))))] (by kernel_rfl) (by kernel_rfl) ⟨(by omega), ⟨⟨True.intro, True.intro⟩, (fun _ => True.intro)⟩, ⟨⟨True.intro, True.intro⟩, (fun _ => True.intro)⟩, ⟨⟨(by (exact fun h => h)), ⟨(by (exact fun h => h)), True.intro⟩⟩, (by (intro hg; simp at hg; omega))⟩, ⟨⟨(by (exact fun h => h)), True.intro⟩, (fun _ => True.intro)⟩, ⟨⟨(by (exact fun h => h)), True.intro⟩, (fun _ => True.intro)⟩, ⟨⟨(by (exact fun h => h)), ⟨True.intro, True.intro⟩⟩, (fun _ => True.intro)⟩, ⟨True.intro, (by (intro h; rw [h]; rfl))⟩, ⟨⟨True.intro, True.intro⟩, (fun _ => True.intro)⟩, ⟨⟨True.intro, True.intro⟩, (fun _ => True.intro)⟩, ⟨⟨(by (exact fun h => h)), ⟨(by (exact fun h => h)), True.intro⟩⟩, (by (intro hg; simp at hg; omega))⟩, ⟨⟨(by (exact fun h => h)), True.intro⟩, (fun _ => True.intro)⟩, ⟨⟨(by (exact fun h => h)), True.intro⟩, (fun _ => True.intro)⟩, ⟨⟨(by (exact fun h => h)), ⟨True.intro, True.intro⟩⟩, (fun _ => True.intro)⟩, ⟨True.intro, (by (intro h; rw [h]; rfl))⟩, ⟨⟨True.intro, True.intro⟩, (fun _ => True.intro)⟩, ⟨⟨True.intro, True.intro⟩, (fun _ => True.intro)⟩, ⟨⟨(by (exact fun h => h)), ⟨(by (exact fun h => h)), True.intro⟩⟩, (by (intro hg; simp at hg; omega))⟩, ⟨⟨(by (exact fun h => h)), True.intro⟩, (fun _ => True.intro)⟩, ⟨⟨(by (exact fun h => h)), True.intro⟩, (fun _ => True.intro)⟩, ⟨⟨(by (exact fun h => h)), ⟨True.intro, True.intro⟩⟩, (fun _ => True.intro)⟩, ⟨True.intro, (by (intro h; rw [h]; rfl))⟩, True.intro⟩ ?_
    refine aops_nil ?_
    refine xt_n ?_
    refine hK _ ?_
    clear hK K
    refine w_cond (t := decide (Prod.fst (gp l k) < (-32767 : Int)) || decide ((32767 : Int) < Prod.fst (gp l k)) || decide (Prod.snd (gp l k) < (-32767 : Int)) || decide ((32767 : Int) < Prod.snd (gp l k))) (by kernel_rfl) (fun c3 => ?_) (fun c3 => ?_)
    · have h3 : loudB (gp l k) 32767 = true := by simp [loudB, bey] at c3 ⊢; omega
      refine aw_seq_k fun K hK => ?_
      refine w_region (n' := 4) (by kernel_rfl) (by kernel_rfl) ?_
      refine aops_n hTT (M := []) (n := 1) [pv (2 : Nat) (V.i (3 : Int))] (by kernel_rfl) (by kernel_rfl) True.intro ?_
      refine aops_nil ?_
      refine xt_n ?_
      refine hK _ ?_
      clear hK K
      refine aw_ret ?_
      refine xb_r ?_
      refine xt_r ?_
      refine xt_r ?_
      refine xb_r ?_
      refine xt_r ?_
      rw [show progE l = 3 by unfold progE; rw [if_neg (by omega), if_pos (any_gp.2 ⟨k, c2, h3⟩)]]
      refine ret_pure (v' := V.i (3 : Int)) (.inr rfl) (by kernel_rfl) (by kernel_rfl) (by kernel_rfl)
    · have h3 : loudB (gp l k) 32767 = false := by simp [loudB, bey] at c3 ⊢; omega
      refine aw_skip ?_
      refine xb_n ?_
      refine xt_n ?_
      refine hK _ ?_
      clear hK K
      refine w_region (n' := 4) (by kernel_rfl) (by kernel_rfl) ?_
      refine aops_n hTT (M := []) (n := 3) [pv (11 : Nat) (V.i (↑k : Int)), pc (12 : Nat) ((-9223372036854775808 : Int) ≤ (↑k : Int) + (1 : Int) ∧ (↑k : Int) + (1 : Int) ≤ (9223372036854775807 : Int)) (V.i ((↑k : Int) + (1 : Int))), pv (3 : Nat) (V.i ((↑k : Int) + (1 : Int)))] (by kernel_rfl) (by kernel_rfl) ⟨(by omega), True.intro⟩ ?_
      refine aops_nil ?_
      refine xt_n ?_
      refine ⟨k + 1, ⟨by omega, fun j hj => ?_⟩, by refine le_ren [] (.cons (by kernel_rfl) (.cons (by kernel_rfl) .nil)) .nil (by kernel_rfl) (by kernel_rfl), by omega⟩
      by_cases h : j < k
      · exact hb j h
      · obtain rfl : j = k := by omega
        exact h3
  · simp at c2
    refine aw_exit ?_
    refine xt_x ?_
    refine xt_x ?_
    refine xb_same ?_
    refine xt_n ?_
    clear hK K
    refine hK _ ?_
    clear hK K
    refine aw_seq_k fun K hK => ?_
    refine w_region (n' := 3) (by kernel_rfl) (by kernel_rfl) ?_
    refine aops_n hTT (M := []) (n := 1) [pv (2 : Nat) (V.i (0 : Int))] (by kernel_rfl) (by kernel_rfl) True.intro ?_
    refine aops_nil ?_
    refine xt_n ?_
    refine hK _ ?_
    clear hK K
    refine aw_ret ?_
    rw [progE_ok.2 ⟨by omega, fun k hk => loudB_no.1 (hb k (by omega))⟩]
    refine ret_pure (v' := V.i (0 : Int)) (.inr rfl) (by kernel_rfl) (by kernel_rfl) (by kernel_rfl)
set_option maxRecDepth 100000 in
theorem need_ac (p : Pt) (c : Int) (h1 : (-32767 ≤ p.1 ∧ p.1 ≤ 32767) ∧ (-32767 ≤ p.2 ∧ p.2 ≤ 32767)) (hc : 1 ≤ c ∧ c ≤ 32767) : AC Try.prog 71 [.agg [.i p.1, .i p.2], .i c] (.i (needI p c)) [] := by
  have hb := amtS_bd h1
  have ha : amtS p = max (max (max p.1 (-p.1)) p.2) (-p.2) := rfl
  refine ac_intro hTT hMX (fn := Try.f71) (N := _) ⟨Try.func71, rfl, Try.ntmps71, by kernel_rfl⟩ (by simp) fun C hC hF => ?_
  refine aw_seq_k fun K hK => ?_
  refine w_region (n' := 2) (by kernel_rfl) (by kernel_rfl) ?_
  refine aops_n hTT (M := []) (n := 2) [pv (2 : Nat) (V.ptr [V.i (Prod.fst p), V.i (Prod.snd p)]), pv (4 : Nat) (V.i (0 : Int))] (by kernel_rfl) (by kernel_rfl) True.intro ?_
  refine aops_nil ?_
  refine xt_n ?_
  refine hK _ ?_
  clear hK K
  refine aw_seq_k fun K hK => ?_
  refine w_region (n' := 3) (by kernel_rfl) (by kernel_rfl) ?_
  refine aops_n hTT (M := []) (n := 12) [pv (6 : Nat) (V.ptr [V.i (Prod.fst p), V.i (Prod.snd p)]), pv (7 : Nat) (V.i (Prod.fst p)), pv (8 : Nat) (V.ptr [V.i (Prod.fst p), V.i (Prod.snd p)]), pv (9 : Nat) (V.i (Prod.fst p)), pc (10 : Nat) ((-9223372036854775808 : Int) ≤ -Prod.fst p ∧ -Prod.fst p ≤ (9223372036854775807 : Int)) (V.i (-Prod.fst p)), pv (11 : Nat) (V.ptr [V.i (Prod.snd p)]), pv (12 : Nat) (V.i (Prod.snd p)), pv (13 : Nat) (V.ptr [V.i (Prod.snd p)]), pv (14 : Nat) (V.i (Prod.snd p)), pc (15 : Nat) ((-9223372036854775808 : Int) ≤ -Prod.snd p ∧ -Prod.snd p ≤ (9223372036854775807 : Int)) (V.i (-Prod.snd p)), pv (16 : Nat) (V.i (max (max (max (Prod.fst p) (-Prod.fst p)) (Prod.snd p)) (-Prod.snd p))), pv (5 : Nat) (V.i (max (max (max (Prod.fst p) (-Prod.fst p)) (Prod.snd p)) (-Prod.snd p)))] (by kernel_rfl) (by kernel_rfl) ⟨(by omega), (by omega), True.intro⟩ ?_
  refine aops_nil ?_
  refine xt_n ?_
  refine hK _ ?_
  clear hK K
  refine aw_seq_k fun K hK => ?_
  refine aw_seq_k fun K hK => ?_
  refine w_region (n' := 4) (by kernel_rfl) (by kernel_rfl) ?_
  refine aops_n hTT (M := []) (n := 2) [pv (17 : Nat) (V.i (max (max (max (Prod.fst p) (-Prod.fst p)) (Prod.snd p)) (-Prod.snd p))), pv (18 : Nat) (V.b (decide (max (max (max (Prod.fst p) (-Prod.fst p)) (Prod.snd p)) (-Prod.snd p) = (0 : Int))))] (by kernel_rfl) (by kernel_rfl) True.intro ?_
  refine aops_nil ?_
  refine xt_n ?_
  refine hK _ ?_
  clear hK K
  refine w_cond (t := decide (max (max (max (Prod.fst p) (-Prod.fst p)) (Prod.snd p)) (-Prod.snd p) = (0 : Int))) (by kernel_rfl) (fun c1 => ?_) (fun c1 => ?_)
  · have h0 : amtS p = 0 := by rw [ha]; simp at c1; omega
    refine aw_seq_k fun K hK => ?_
    refine w_region (n' := 5) (by kernel_rfl) (by kernel_rfl) ?_
    refine aops_n hTT (M := []) (n := 1) [pv (4 : Nat) (V.i (256 : Int))] (by kernel_rfl) (by kernel_rfl) True.intro ?_
    refine aops_nil ?_
    refine xt_n ?_
    refine hK _ ?_
    clear hK K
    refine aw_ret ?_
    refine xt_r ?_
    rw [show needI p c = 256 by unfold needI; rw [if_pos h0]]
    refine ret_pure (v' := V.i (256 : Int)) (.inr rfl) (by kernel_rfl) (by kernel_rfl) (by kernel_rfl)
  · have h0 : ¬ amtS p = 0 := by rw [ha]; simp at c1; omega
    rw [ha] at hb h0
    refine aw_skip ?_
    refine xt_n ?_
    refine hK _ ?_
    clear hK K
    refine aw_seq_k fun K hK => ?_
    refine w_region (n' := 5) (by kernel_rfl) (by kernel_rfl) ?_
    refine aops_n hTT (M := []) (n := 8) [pv (19 : Nat) (V.i c), pc (20 : Nat) ((-9223372036854775808 : Int) ≤ c + (1 : Int) ∧ c + (1 : Int) ≤ (9223372036854775807 : Int)) (V.i (c + (1 : Int))), pc (21 : Nat) ((-9223372036854775808 : Int) ≤ (256 : Int) * (c + (1 : Int)) ∧ (256 : Int) * (c + (1 : Int)) ≤ (9223372036854775807 : Int)) (V.i ((256 : Int) * (c + (1 : Int)))), pc (22 : Nat) ((-9223372036854775808 : Int) ≤ (256 : Int) * (c + (1 : Int)) - (1 : Int) ∧ (256 : Int) * (c + (1 : Int)) - (1 : Int) ≤ (9223372036854775807 : Int)) (V.i ((256 : Int) * (c + (1 : Int)) - (1 : Int))), pv (23 : Nat) (V.i (max (max (max (Prod.fst p) (-Prod.fst p)) (Prod.snd p)) (-Prod.snd p))), pc (24 : Nat) ((0 : Int) < max (max (max (Prod.fst p) (-Prod.fst p)) (Prod.snd p)) (-Prod.snd p) ∧ (-9223372036854775808 : Int) ≤ (256 : Int) * (c + (1 : Int)) - (1 : Int) ∧ (256 : Int) * (c + (1 : Int)) - (1 : Int) ≤ (9223372036854775807 : Int)) (V.i (Int.tdiv ((256 : Int) * (c + (1 : Int)) - (1 : Int)) (max (max (max (Prod.fst p) (-Prod.fst p)) (Prod.snd p)) (-Prod.snd p)))), pv (25 : Nat) (V.i (min (256 : Int) (Int.tdiv ((256 : Int) * (c + (1 : Int)) - (1 : Int)) (max (max (max (Prod.fst p) (-Prod.fst p)) (Prod.snd p)) (-Prod.snd p))))), pv (4 : Nat) (V.i (min (256 : Int) (Int.tdiv ((256 : Int) * (c + (1 : Int)) - (1 : Int)) (max (max (max (Prod.fst p) (-Prod.fst p)) (Prod.snd p)) (-Prod.snd p)))))] (by kernel_rfl) (by kernel_rfl) ⟨(by omega), (by omega), (by omega), ⟨(by omega), (by omega)⟩, True.intro⟩ ?_
    refine aops_nil ?_
    refine xt_n ?_
    refine hK _ ?_
    clear hK K
    refine aw_ret ?_
    rw [show needI p c = min 256 ((256 * (c + 1) - 1).tdiv (max (max (max p.1 (-p.1)) p.2) (-p.2))) by unfold needI; rw [ha, if_neg h0, Int.tdiv_eq_ediv_of_nonneg (by omega)]]
    refine ret_pure (v' := V.i (min (256 : Int) (Int.tdiv ((256 : Int) * (c + (1 : Int)) - (1 : Int)) (max (max (max (Prod.fst p) (-Prod.fst p)) (Prod.snd p)) (-Prod.snd p))))) (.inr rfl) (by kernel_rfl) (by kernel_rfl) (by kernel_rfl)
theorem refAbs_ac (n : Int) (hn : -4611686018427387904 ≤ n ∧ n ≤ 4611686018427387904) : AC Try.prog 25 [.i n] (.i (absI n)) [] := by
  refine ac_intro hTT hMX (fn := Try.f25) (N := _) ⟨Try.func25, rfl, Try.ntmps25, by kernel_rfl⟩ (by simp) fun C hC hF => ?_
  refine aw_seq_k fun K hK => ?_
  refine w_region (n' := 2) (by kernel_rfl) (by kernel_rfl) ?_
  refine aops_n hTT (M := []) (n := 1) [pv (2 : Nat) (V.i (0 : Int))] (by kernel_rfl) (by kernel_rfl) True.intro ?_
  refine aops_nil ?_
  refine xt_n ?_
  refine hK _ ?_
  clear hK K
  refine aw_seq_k fun K hK => ?_
  refine w_region (n' := 3) (by kernel_rfl) (by kernel_rfl) ?_
  refine aops_n hTT (M := []) (n := 5) [pv (3 : Nat) (V.i n), pv (4 : Nat) (V.i n), pc (5 : Nat) ((-9223372036854775808 : Int) ≤ -n ∧ -n ≤ (9223372036854775807 : Int)) (V.i (-n)), pv (6 : Nat) (V.i (max n (-n))), pv (2 : Nat) (V.i (max n (-n)))] (by kernel_rfl) (by kernel_rfl) ⟨(by omega), True.intro⟩ ?_
  refine aops_nil ?_
  refine xt_n ?_
  refine hK _ ?_
  clear hK K
  refine aw_ret ?_
  refine ret_pure (v' := V.i (max n (-n))) (.inr rfl) (by kernel_rfl) (by kernel_rfl) (by kernel_rfl)
theorem with_bd {n g : Int} (hn : -32767 ≤ n ∧ n ≤ 32767) (hg : 0 ≤ g ∧ g ≤ 256) : (-8388352 ≤ n * g ∧ n * g ≤ 8388352) ∧ -32767 ≤ withI n g ∧ withI n g ≤ 32767 := by
  have h1 := mul_bd (a := n) (m := 32767) (b := g) (n := 256) hn ⟨by omega, hg.2⟩
  refine ⟨by omega, ?_⟩
  have h2 := withI_abs (n := n) hg.1
  have h3 : absI n * g ≤ 32767 * 256 := Int.mul_le_mul (by unfold absI; omega) hg.2 hg.1 (by decide)
  have h4 : absI (withI n g) ≤ 32767 := by rw [h2]; omega
  unfold absI at h4
  omega
theorem refwith_ac (n g : Int) (hn : -32767 ≤ n ∧ n ≤ 32767) (hg : 0 ≤ g ∧ g ≤ 256) : AC Try.prog 80 [.i n, .i g] (.i (withI n g)) [] := by
  have h := with_bd hn hg
  refine ac_intro hTT hMX (fn := Try.f80) (N := _) ⟨Try.func80, rfl, Try.ntmps80, by kernel_rfl⟩ (by simp) fun C hC hF => ?_
  refine aw_seq_k fun K hK => ?_
  refine w_region (n' := 2) (by kernel_rfl) (by kernel_rfl) ?_
  refine aops_n hTT (M := []) (n := 1) [pv (4 : Nat) (V.i (0 : Int))] (by kernel_rfl) (by kernel_rfl) True.intro ?_
  refine aops_nil ?_
  refine xt_n ?_
  refine hK _ ?_
  clear hK K
  refine aw_seq_k fun K hK => ?_
  refine w_region (n' := 3) (by kernel_rfl) (by kernel_rfl) ?_
  refine aops_n hTT (M := []) (n := 5) [pv (5 : Nat) (V.i n), pv (6 : Nat) (V.i g), pc (7 : Nat) ((-9223372036854775808 : Int) ≤ n * g ∧ n * g ≤ (9223372036854775807 : Int)) (V.i (n * g)), pc (8 : Nat) ((0 : Int) < (256 : Int) ∧ (-9223372036854775808 : Int) ≤ n * g ∧ n * g ≤ (9223372036854775807 : Int)) (V.i (Int.tdiv (n * g) (256 : Int))), pv (4 : Nat) (V.i (Int.tdiv (n * g) (256 : Int)))] (by kernel_rfl) (by kernel_rfl) ⟨(by omega), ⟨(by omega), (by omega)⟩, True.intro⟩ ?_
  refine aops_nil ?_
  refine xt_n ?_
  refine hK _ ?_
  clear hK K
  refine aw_ret ?_
  refine ret_pure (v' := V.i (Int.tdiv (n * g) (256 : Int))) (.inr rfl) (by kernel_rfl) (by kernel_rfl) (by kernel_rfl)
set_option maxRecDepth 100000 in
theorem refNeed_ac (p : Pt) (c : Int) (h1 : (-32767 ≤ p.1 ∧ p.1 ≤ 32767) ∧ (-32767 ≤ p.2 ∧ p.2 ≤ 32767)) (hc : 1 ≤ c ∧ c ≤ 32767) : AC Try.prog 78 [.agg [.i p.1, .i p.2], .i c] (.i (needI p c)) [] := by
  have hb := amtS_bd h1
  have hn := needI_bd hc.1 hb.1
  refine ac_intro hTT hMX (fn := Try.f78) (N := _) ⟨Try.func78, rfl, Try.ntmps78, by kernel_rfl⟩ (by simp) fun C hC hF => ?_
  refine aw_seq_k fun K hK => ?_
  refine w_region (n' := 2) (by kernel_rfl) (by kernel_rfl) ?_
  refine aops_n hTT (M := []) (n := 2) [pv (2 : Nat) (V.ptr [V.i (Prod.fst p), V.i (Prod.snd p)]), pv (4 : Nat) (V.i (0 : Int))] (by kernel_rfl) (by kernel_rfl) True.intro ?_
  refine aops_nil ?_
  refine xt_n ?_
  refine hK _ ?_
  clear hK K
  refine aw_seq_k fun K hK => ?_
  refine w_region (n' := 3) (by kernel_rfl) (by kernel_rfl) ?_
  refine aops_n hTT (M := []) (n := 1) [pv (5 : Nat) (V.i (256 : Int))] (by kernel_rfl) (by kernel_rfl) True.intro ?_
  refine aops_nil ?_
  refine xt_n ?_
  refine hK _ ?_
  clear hK K
  refine aw_seq_k fun K hK => ?_
  refine aw_block ?_
  refine w_loop (ι := Int) (fun g => [(1, .i c), (2, .ptr [.i p.1, .i p.2]), (5, .i g)]) (fun _ => []) (fun g => needI p c ≤ g ∧ g ≤ 256) (fun g => g.toNat) 256 (by omega) ?_ ?_
  · refine le_ren [] (.cons (by kernel_rfl) (.cons (by kernel_rfl) (.cons (by kernel_rfl) .nil))) .nil (by kernel_rfl) (by kernel_rfl)
  intro g hg
  have w1 := with_bd h1.1 (g := g) (by omega)
  have w2 := with_bd h1.2 (g := g) (by omega)
  have hi := needI_iff (p := p) (g := g) hc.1 hb.1 (by omega)
  refine aw_seq_k fun K hK => ?_
  refine aw_seq_k fun K hK => ?_
  refine w_region (n' := 2) (by kernel_rfl) (by kernel_rfl) ?_
  refine aops_n hTT (M := []) (n := 3) [pv (6 : Nat) (V.ptr [V.i (Prod.fst p), V.i (Prod.snd p)]), pv (7 : Nat) (V.i (Prod.fst p)), pv (8 : Nat) (V.i g)] (by kernel_rfl) (by kernel_rfl) True.intro ?_
  refine e_call (first := []) (caps := []) (refwith_ac p.1 g h1.1 (by omega)) (by kernel_rfl) (by kernel_rfl) (by kernel_rfl) (by kernel_rfl) (by kernel_rfl) ?_
  skip
  refine e_call (first := []) (caps := []) (refAbs_ac (withI p.1 g) (by omega)) (by kernel_rfl) (by kernel_rfl) (by kernel_rfl) (by kernel_rfl) (by kernel_rfl) ?_
  refine aops_n hTT (M := []) (n := 6) [pv (11 : Nat) (V.i c), pv (12 : Nat) (V.b (decide (c < absI (withI (Prod.fst p) g)))), pv (13 : Nat) (V.b (decide (c < absI (withI (Prod.fst p) g)))), pc (14 : Nat) ((True ∧ True) ∧ ((decide (c < absI (withI (Prod.fst p) g)) == false) = true → True)) (V.gd (decide (c < absI (withI (Prod.fst p) g)) == false) (V.ptr [V.i (Prod.snd p)])), pc (15 : Nat) ((((decide (c < absI (withI (Prod.fst p) g)) == false) = true → (decide (c < absI (withI (Prod.fst p) g)) == false) = true) ∧ True) ∧ ((decide (c < absI (withI (Prod.fst p) g)) == false) = true → True)) (V.gd (decide (c < absI (withI (Prod.fst p) g)) == false) (V.i (Prod.snd p))), pc (16 : Nat) ((True ∧ True) ∧ ((decide (c < absI (withI (Prod.fst p) g)) == false) = true → True)) (V.gd (decide (c < absI (withI (Prod.fst p) g)) == false) (V.i g))] (by kernel_rfl) (by kernel_rfl) ⟨⟨⟨True.intro, True.intro⟩, (fun _ => True.intro)⟩, ⟨⟨(by (exact fun h => h)), True.intro⟩, (fun _ => True.intro)⟩, ⟨⟨True.intro, True.intro⟩, (fun _ => True.intro)⟩, True.intro⟩ ?_
  refine e_callG 2 (g := decide (c < absI (withI (Prod.fst p) g)) == false) (first := []) (caps := []) (by kernel_rfl) (fun h => refwith_ac p.2 g h1.2 (by omega)) (by kernel_rfl) (by kernel_rfl) (by kernel_rfl) (by kernel_rfl) (by kernel_rfl) (by kernel_rfl) ?_
  skip
  refine e_callG 1 (g := decide (c < absI (withI (Prod.fst p) g)) == false) (first := []) (caps := []) (by kernel_rfl) (fun h => refAbs_ac (withI p.2 g) (by omega)) (by kernel_rfl) (by kernel_rfl) (by kernel_rfl) (by kernel_rfl) (by kernel_rfl) (by kernel_rfl) ?_
  refine aops_n hTT (M := []) (n := 3) [pc (19 : Nat) ((True ∧ True) ∧ ((decide (c < absI (withI (Prod.fst p) g)) == false) = true → True)) (V.gd (decide (c < absI (withI (Prod.fst p) g)) == false) (V.i c)), pc (20 : Nat) ((((decide (c < absI (withI (Prod.fst p) g)) == false) = true → (decide (c < absI (withI (Prod.fst p) g)) == false) = true) ∧ ((decide (c < absI (withI (Prod.fst p) g)) == false) = true → (decide (c < absI (withI (Prod.fst p) g)) == false) = true) ∧ True) ∧ ((decide (c < absI (withI (Prod.fst p) g)) == false) = true → True)) (V.gd (decide (c < absI (withI (Prod.fst p) g)) == false) (V.b (decide (c < absI (withI (Prod.snd p) g))))), pc (21 : Nat) (True ∧ (decide (c < absI (withI (Prod.fst p) g)) = false → (decide (c < absI (withI (Prod.fst p) g)) == false) = true)) (V.b (decide (c < absI (withI (Prod.fst p) g)) || decide (c < absI (withI (Prod.snd p) g))))] (by kernel_rfl) (by kernel_rfl) ⟨⟨⟨True.intro, True.intro⟩, (fun _ => True.intro)⟩, ⟨⟨(by (exact fun h => h)), ⟨(by (exact fun h => h)), True.intro⟩⟩, (fun _ => True.intro)⟩, ⟨True.intro, (by (intro h; rw [h]; rfl))⟩, True.intro⟩ ?_
  refine aops_nil ?_
  refine xt_n ?_
  refine hK _ ?_
  clear hK K
  refine w_cond (t := decide (c < absI (withI (Prod.fst p) g)) || decide (c < absI (withI (Prod.snd p) g))) (by kernel_rfl) (fun c1 => ?_) (fun c1 => ?_)
  · have hok : okG p c g = false := by
      unfold okG
      rw [show (decide (c < absI (withI p.1 g)) || decide (c < absI (withI p.2 g))) = true from c1]; rfl
    have hlt : ¬ g ≤ needI p c := fun h => by rw [hi.2 h] at hok; cases hok
    refine aw_skip ?_
    refine xt_n ?_
    refine hK _ ?_
    clear hK K
    refine aw_block ?_
    refine w_region (n' := 3) (by kernel_rfl) (by kernel_rfl) ?_
    refine aops_n hTT (M := []) (n := 3) [pv (22 : Nat) (V.i g), pc (23 : Nat) ((-9223372036854775808 : Int) ≤ g - (1 : Int) ∧ g - (1 : Int) ≤ (9223372036854775807 : Int)) (V.i (g - (1 : Int))), pv (5 : Nat) (V.i (g - (1 : Int)))] (by kernel_rfl) (by kernel_rfl) ⟨(by omega), True.intro⟩ ?_
    refine aops_nil ?_
    refine xb_n ?_
    refine xt_n ?_
    exact ⟨g - 1, by omega, by refine le_ren [] (.cons (by kernel_rfl) (.cons (by kernel_rfl) (.cons (by kernel_rfl) .nil))) .nil (by kernel_rfl) (by kernel_rfl), by omega⟩
  · have hok : okG p c g = true := by
      unfold okG
      rw [show (decide (c < absI (withI p.1 g)) || decide (c < absI (withI p.2 g))) = false from c1]; rfl
    have he : g = needI p c := by have := hi.1 hok; omega
    refine aw_exit ?_
    refine xt_x ?_
    refine xt_x ?_
    refine xb_same ?_
    refine xt_n ?_
    clear hK K
    refine hK _ ?_
    clear hK K
    refine aw_seq_k fun K hK => ?_
    refine w_region (n' := 3) (by kernel_rfl) (by kernel_rfl) ?_
    refine aops_n hTT (M := []) (n := 2) [pv (24 : Nat) (V.i g), pv (4 : Nat) (V.i g)] (by kernel_rfl) (by kernel_rfl) True.intro ?_
    refine aops_nil ?_
    refine xt_n ?_
    refine hK _ ?_
    clear hK K
    refine aw_ret ?_
    rw [he]
    refine ret_pure (v' := V.i (needI p c)) (.inr rfl) (by kernel_rfl) (by kernel_rfl) (by kernel_rfl)
end Go.Proofs.Ytblipieipldanaa
