/-
  Grooves: points, samples, and the rules at one point: the walks of both copies. Conditions: told in each theorem.
-/
import Derived.Test.YtlfaaddoemcokaaPAb17
import Derived.Test.YtlfaaddoemcokaaAbs31
import Derived.Test.YtlfaaddoemcokaaAbs29
namespace Go.Proofs.Ytlfaaddoemcokaa
open Go.Ab Go.RowKit Go.Dw Go.Shelf

def bigL' : Nat := 4611686018427387904
def gE (p : Pt) : Bool := betB p.1 (-4194304) 4194304 && betB p.2 (-4194304) 4194304
def sE (p : Pt) : Bool := betB p.1 (-32767) 32767 && betB p.2 (-32767) 32767
def gChk (l : List Pt) : Int := if 4096 < l.length then 6 else if l.all gE then 0 else 2
def sChk (l : List Pt) : Int := if 4096 < l.length then 6 else if l.all sE then 0 else 2
theorem gE_iff {p : Pt} : gE p = true ↔ (-4194304 ≤ p.1 ∧ p.1 ≤ 4194304) ∧ -4194304 ≤ p.2 ∧ p.2 ≤ 4194304 := by simp [gE, betB]
theorem sE_iff {p : Pt} : sE p = true ↔ (-32767 ≤ p.1 ∧ p.1 ≤ 32767) ∧ -32767 ≤ p.2 ∧ p.2 ≤ 32767 := by simp [sE, betB]
theorem all_gp {l : List Pt} {f : Pt → Bool} : l.all f = true ↔ ∀ k, k < l.length → f (gp l k) = true := by
  rw [List.all_eq_true]
  constructor
  · intro h k hk
    have : gp l k = l[k] := by simp [gp, List.getD_eq_getElem?_getD, List.getElem?_eq_getElem hk]
    rw [this]; exact h _ (List.getElem_mem hk)
  · intro h x hx
    obtain ⟨k, hk, rfl⟩ := List.getElem_of_mem hx
    have : gp l k = l[k] := by simp [gp, List.getD_eq_getElem?_getD, List.getElem?_eq_getElem hk]
    rw [← this]; exact h k hk
theorem gChk_many {l : List Pt} (h : 4096 < l.length) : gChk l = 6 := by rw [gChk, if_pos h]
theorem gChk_bad {l : List Pt} {k : Nat} (h : ¬ 4096 < l.length) (hk : k < l.length) (hb : gE (gp l k) = false) : gChk l = 2 := by
  rw [gChk, if_neg h, if_neg]
  intro ha
  rw [all_gp.1 ha k hk] at hb
  cases hb
theorem gChk_good {l : List Pt} (h : ¬ 4096 < l.length) (hb : ∀ k, k < l.length → gE (gp l k) = true) : gChk l = 0 := by rw [gChk, if_neg h, if_pos (all_gp.2 hb)]
theorem gChk_ok {l : List Pt} : gChk l = 0 ↔ l.length ≤ 4096 ∧ ∀ k, k < l.length → gE (gp l k) = true := by
  constructor
  · intro h
    unfold gChk at h
    split at h
    · cases h
    · split at h
      · rename_i h1 h2; exact ⟨by omega, all_gp.1 h2⟩
      · cases h
  · rintro ⟨h1, h2⟩; exact gChk_good (by omega) h2
theorem sChk_many {l : List Pt} (h : 4096 < l.length) : sChk l = 6 := by rw [sChk, if_pos h]
theorem sChk_bad {l : List Pt} {k : Nat} (h : ¬ 4096 < l.length) (hk : k < l.length) (hb : sE (gp l k) = false) : sChk l = 2 := by
  rw [sChk, if_neg h, if_neg]
  intro ha
  rw [all_gp.1 ha k hk] at hb
  cases hb
theorem sChk_good {l : List Pt} (h : ¬ 4096 < l.length) (hb : ∀ k, k < l.length → sE (gp l k) = true) : sChk l = 0 := by rw [sChk, if_neg h, if_pos (all_gp.2 hb)]
theorem sChk_ok {l : List Pt} : sChk l = 0 ↔ l.length ≤ 4096 ∧ ∀ k, k < l.length → sE (gp l k) = true := by
  constructor
  · intro h
    unfold sChk at h
    split at h
    · cases h
    · split at h
      · rename_i h1 h2; exact ⟨by omega, all_gp.1 h2⟩
      · cases h
  · rintro ⟨h1, h2⟩; exact sChk_good (by omega) h2

set_option maxRecDepth 100000 in
theorem gEdged_ac (p : Pt) : AC Try.prog 84 [.agg [.i p.1, .i p.2]] (.b (gE p)) [] := by
  refine ac_intro hTT hMX (fn := Try.f84) (N := _) ⟨Try.func84, rfl, Try.ntmps84, by kernel_rfl⟩ (by simp) fun C hC hF => ?_
  refine aw_seq_k fun K hK => ?_
  refine w_region (n' := 2) (by kernel_rfl) (by kernel_rfl) ?_
  refine aops_n hTT (M := []) (n := 2) [pv (1 : Nat) (V.ptr [V.i (Prod.fst p), V.i (Prod.snd p)]), pv (2 : Nat) (V.b false)] (by kernel_rfl) (by kernel_rfl) True.intro ?_
  refine aops_nil ?_
  refine xt_n ?_
  refine hK _ ?_
  clear hK K
  refine aw_seq_k fun K hK => ?_
  refine w_region (n' := 3) (by kernel_rfl) (by kernel_rfl) ?_
  refine aops_n hTT (M := []) (n := 2) [pv (3 : Nat) (V.ptr [V.i (Prod.fst p), V.i (Prod.snd p)]), pv (4 : Nat) (V.i (Prod.fst p))] (by kernel_rfl) (by kernel_rfl) True.intro ?_
  refine e_call (first := []) (caps := []) (between_ac p.1 (-4194304) 4194304) (by kernel_rfl) (by kernel_rfl) (by kernel_rfl) (by kernel_rfl) (by kernel_rfl) ?_
  refine aops_n hTT (M := []) (n := 3) [pv (6 : Nat) (V.b (betB (Prod.fst p) (-4194304 : Int) (4194304 : Int))), pc (7 : Nat) ((True ∧ True) ∧ ((betB (Prod.fst p) (-4194304 : Int) (4194304 : Int) == true) = true → True)) (V.gd (betB (Prod.fst p) (-4194304 : Int) (4194304 : Int) == true) (V.ptr [V.i (Prod.snd p)])), pc (8 : Nat) ((((betB (Prod.fst p) (-4194304 : Int) (4194304 : Int) == true) = true → (betB (Prod.fst p) (-4194304 : Int) (4194304 : Int) == true) = true) ∧ True) ∧ ((betB (Prod.fst p) (-4194304 : Int) (4194304 : Int) == true) = true → True)) (V.gd (betB (Prod.fst p) (-4194304 : Int) (4194304 : Int) == true) (V.i (Prod.snd p)))] (by kernel_rfl) (by kernel_rfl) ⟨⟨⟨True.intro, True.intro⟩, (fun _ => True.intro)⟩, ⟨⟨(by (exact fun h => h)), True.intro⟩, (fun _ => True.intro)⟩, True.intro⟩ ?_
  refine e_callG 1 (g := betB (Prod.fst p) (-4194304 : Int) (4194304 : Int) == true) (first := []) (caps := []) (by kernel_rfl) (fun h => between_ac p.2 (-4194304) 4194304) (by kernel_rfl) (by kernel_rfl) (by kernel_rfl) (by kernel_rfl) (by kernel_rfl) (by kernel_rfl) ?_
  refine aops_n hTT (M := []) (n := 2) [pc (10 : Nat) ((betB (Prod.fst p) (-4194304 : Int) (4194304 : Int) = true → (betB (Prod.fst p) (-4194304 : Int) (4194304 : Int) == true) = true) ∧ True) (V.b (betB (Prod.fst p) (-4194304 : Int) (4194304 : Int) && betB (Prod.snd p) (-4194304 : Int) (4194304 : Int))), pv (2 : Nat) (V.b (betB (Prod.fst p) (-4194304 : Int) (4194304 : Int) && betB (Prod.snd p) (-4194304 : Int) (4194304 : Int)))] (by kernel_rfl) (by kernel_rfl) ⟨⟨(by (intro h; rw [h]; rfl)), True.intro⟩, True.intro⟩ ?_
  refine aops_nil ?_
  refine xt_n ?_
  refine hK _ ?_
  clear hK K
  refine aw_ret ?_
  refine ret_pure (v' := V.b (betB (Prod.fst p) (-4194304 : Int) (4194304 : Int) && betB (Prod.snd p) (-4194304 : Int) (4194304 : Int))) (.inr rfl) (by kernel_rfl) (by kernel_rfl) (by kernel_rfl)
set_option maxRecDepth 100000 in
theorem gEdge_ac (p : Pt) : AC Try.prog 67 [.agg [.i p.1, .i p.2]] (.b (gE p)) [] := by
  refine ac_intro hTT hMX (fn := Try.f67) (N := _) ⟨Try.func67, rfl, Try.ntmps67, by kernel_rfl⟩ (by simp) fun C hC hF => ?_
  refine aw_seq_k fun K hK => ?_
  refine w_region (n' := 2) (by kernel_rfl) (by kernel_rfl) ?_
  refine aops_n hTT (M := []) (n := 2) [pv (1 : Nat) (V.ptr [V.i (Prod.fst p), V.i (Prod.snd p)]), pv (2 : Nat) (V.b false)] (by kernel_rfl) (by kernel_rfl) True.intro ?_
  refine aops_nil ?_
  refine xt_n ?_
  refine hK _ ?_
  clear hK K
  refine aw_seq_k fun K hK => ?_
  refine w_region (n' := 3) (by kernel_rfl) (by kernel_rfl) ?_
  refine aops_n hTT (M := []) (n := 2) [pv (3 : Nat) (V.ptr [V.i (Prod.fst p), V.i (Prod.snd p)]), pv (4 : Nat) (V.i (Prod.fst p))] (by kernel_rfl) (by kernel_rfl) True.intro ?_
  refine e_call (first := []) (caps := []) (within3_ac p.1 (-4194304) 4194304) (by kernel_rfl) (by kernel_rfl) (by kernel_rfl) (by kernel_rfl) (by kernel_rfl) ?_
  refine aops_n hTT (M := []) (n := 3) [pv (6 : Nat) (V.b (betB (Prod.fst p) (-4194304 : Int) (4194304 : Int))), pc (7 : Nat) ((True ∧ True) ∧ ((betB (Prod.fst p) (-4194304 : Int) (4194304 : Int) == true) = true → True)) (V.gd (betB (Prod.fst p) (-4194304 : Int) (4194304 : Int) == true) (V.ptr [V.i (Prod.snd p)])), pc (8 : Nat) ((((betB (Prod.fst p) (-4194304 : Int) (4194304 : Int) == true) = true → (betB (Prod.fst p) (-4194304 : Int) (4194304 : Int) == true) = true) ∧ True) ∧ ((betB (Prod.fst p) (-4194304 : Int) (4194304 : Int) == true) = true → True)) (V.gd (betB (Prod.fst p) (-4194304 : Int) (4194304 : Int) == true) (V.i (Prod.snd p)))] (by kernel_rfl) (by kernel_rfl) ⟨⟨⟨True.intro, True.intro⟩, (fun _ => True.intro)⟩, ⟨⟨(by (exact fun h => h)), True.intro⟩, (fun _ => True.intro)⟩, True.intro⟩ ?_
  refine e_callG 1 (g := betB (Prod.fst p) (-4194304 : Int) (4194304 : Int) == true) (first := []) (caps := []) (by kernel_rfl) (fun h => within3_ac p.2 (-4194304) 4194304) (by kernel_rfl) (by kernel_rfl) (by kernel_rfl) (by kernel_rfl) (by kernel_rfl) (by kernel_rfl) ?_
  refine aops_n hTT (M := []) (n := 2) [pc (10 : Nat) ((betB (Prod.fst p) (-4194304 : Int) (4194304 : Int) = true → (betB (Prod.fst p) (-4194304 : Int) (4194304 : Int) == true) = true) ∧ True) (V.b (betB (Prod.fst p) (-4194304 : Int) (4194304 : Int) && betB (Prod.snd p) (-4194304 : Int) (4194304 : Int))), pv (2 : Nat) (V.b (betB (Prod.fst p) (-4194304 : Int) (4194304 : Int) && betB (Prod.snd p) (-4194304 : Int) (4194304 : Int)))] (by kernel_rfl) (by kernel_rfl) ⟨⟨(by (intro h; rw [h]; rfl)), True.intro⟩, True.intro⟩ ?_
  refine aops_nil ?_
  refine xt_n ?_
  refine hK _ ?_
  clear hK K
  refine aw_ret ?_
  refine ret_pure (v' := V.b (betB (Prod.fst p) (-4194304 : Int) (4194304 : Int) && betB (Prod.snd p) (-4194304 : Int) (4194304 : Int))) (.inr rfl) (by kernel_rfl) (by kernel_rfl) (by kernel_rfl)
set_option maxRecDepth 100000 in
theorem tBetween_ac (x lo hi : Int) : AC Try.prog 109 [.i x, .i lo, .i hi] (.b (betB x lo hi)) [] := by
  refine ac_intro hTT hMX (fn := Try.f109) (N := _) ⟨Try.func109, rfl, Try.ntmps109, by kernel_rfl⟩ (by simp) fun C hC hF => ?_
  refine aw_seq_k fun K hK => ?_
  refine w_region (n' := 2) (by kernel_rfl) (by kernel_rfl) ?_
  refine aops_n hTT (M := []) (n := 1) [pv (6 : Nat) (V.b false)] (by kernel_rfl) (by kernel_rfl) True.intro ?_
  refine aops_nil ?_
  refine xt_n ?_
  refine hK _ ?_
  clear hK K
  refine aw_seq_k fun K hK => ?_
  refine w_region (n' := 3) (by kernel_rfl) (by kernel_rfl) ?_
  refine aops_n hTT (M := []) (n := 9) [pv (7 : Nat) (V.i x), pv (8 : Nat) (V.i lo), pv (9 : Nat) (V.b (decide (lo ≤ x))), pv (10 : Nat) (V.b (decide (lo ≤ x))), pc (11 : Nat) ((True ∧ True) ∧ ((decide (lo ≤ x) == true) = true → True)) (V.gd (decide (lo ≤ x) == true) (V.i x)), pc (12 : Nat) ((True ∧ True) ∧ ((decide (lo ≤ x) == true) = true → True)) (V.gd (decide (lo ≤ x) == true) (V.i hi)), pc (13 : Nat) ((((decide (lo ≤ x) == true) = true → (decide (lo ≤ x) == true) = true) ∧ ((decide (lo ≤ x) == true) = true → (decide (lo ≤ x) == true) = true) ∧ True) ∧ ((decide (lo ≤ x) == true) = true → True)) (V.gd (decide (lo ≤ x) == true) (V.b (decide (x ≤ hi)))), pc (14 : Nat) ((decide (lo ≤ x) = true → (decide (lo ≤ x) == true) = true) ∧ True) (V.b (decide (lo ≤ x) && decide (x ≤ hi))), pv (6 : Nat) (V.b (decide (lo ≤ x) && decide (x ≤ hi)))] (by kernel_rfl) (by kernel_rfl) ⟨⟨⟨True.intro, True.intro⟩, (fun _ => True.intro)⟩, ⟨⟨True.intro, True.intro⟩, (fun _ => True.intro)⟩, ⟨⟨(by (exact fun h => h)), ⟨(by (exact fun h => h)), True.intro⟩⟩, (fun _ => True.intro)⟩, ⟨(by (intro h; rw [h]; rfl)), True.intro⟩, True.intro⟩ ?_
  refine aops_nil ?_
  refine xt_n ?_
  refine hK _ ?_
  clear hK K
  refine aw_ret ?_
  refine ret_pure (v' := V.b (decide (lo ≤ x) && decide (x ≤ hi))) (.inr rfl) (by kernel_rfl) (by kernel_rfl) (by kernel_rfl)
set_option maxRecDepth 100000 in
theorem tValid_ac (p : Pt) : AC Try.prog 108 [.agg [.i p.1, .i p.2]] (.b (sE p)) [] := by
  refine ac_intro hTT hMX (fn := Try.f108) (N := _) ⟨Try.func108, rfl, Try.ntmps108, by kernel_rfl⟩ (by simp) fun C hC hF => ?_
  refine aw_seq_k fun K hK => ?_
  refine w_region (n' := 2) (by kernel_rfl) (by kernel_rfl) ?_
  refine aops_n hTT (M := []) (n := 2) [pv (1 : Nat) (V.ptr [V.i (Prod.fst p), V.i (Prod.snd p)]), pv (2 : Nat) (V.b false)] (by kernel_rfl) (by kernel_rfl) True.intro ?_
  refine aops_nil ?_
  refine xt_n ?_
  refine hK _ ?_
  clear hK K
  refine aw_seq_k fun K hK => ?_
  refine w_region (n' := 3) (by kernel_rfl) (by kernel_rfl) ?_
  refine aops_n hTT (M := []) (n := 2) [pv (3 : Nat) (V.ptr [V.i (Prod.fst p), V.i (Prod.snd p)]), pv (4 : Nat) (V.i (Prod.fst p))] (by kernel_rfl) (by kernel_rfl) True.intro ?_
  refine e_call (first := []) (caps := []) (tBetween_ac p.1 (-32767) 32767) (by kernel_rfl) (by kernel_rfl) (by kernel_rfl) (by kernel_rfl) (by kernel_rfl) ?_
  refine aops_n hTT (M := []) (n := 3) [pv (6 : Nat) (V.b (betB (Prod.fst p) (-32767 : Int) (32767 : Int))), pc (7 : Nat) ((True ∧ True) ∧ ((betB (Prod.fst p) (-32767 : Int) (32767 : Int) == true) = true → True)) (V.gd (betB (Prod.fst p) (-32767 : Int) (32767 : Int) == true) (V.ptr [V.i (Prod.snd p)])), pc (8 : Nat) ((((betB (Prod.fst p) (-32767 : Int) (32767 : Int) == true) = true → (betB (Prod.fst p) (-32767 : Int) (32767 : Int) == true) = true) ∧ True) ∧ ((betB (Prod.fst p) (-32767 : Int) (32767 : Int) == true) = true → True)) (V.gd (betB (Prod.fst p) (-32767 : Int) (32767 : Int) == true) (V.i (Prod.snd p)))] (by kernel_rfl) (by kernel_rfl) ⟨⟨⟨True.intro, True.intro⟩, (fun _ => True.intro)⟩, ⟨⟨(by (exact fun h => h)), True.intro⟩, (fun _ => True.intro)⟩, True.intro⟩ ?_
  refine e_callG 1 (g := betB (Prod.fst p) (-32767 : Int) (32767 : Int) == true) (first := []) (caps := []) (by kernel_rfl) (fun h => tBetween_ac p.2 (-32767) 32767) (by kernel_rfl) (by kernel_rfl) (by kernel_rfl) (by kernel_rfl) (by kernel_rfl) (by kernel_rfl) ?_
  refine aops_n hTT (M := []) (n := 2) [pc (10 : Nat) ((betB (Prod.fst p) (-32767 : Int) (32767 : Int) = true → (betB (Prod.fst p) (-32767 : Int) (32767 : Int) == true) = true) ∧ True) (V.b (betB (Prod.fst p) (-32767 : Int) (32767 : Int) && betB (Prod.snd p) (-32767 : Int) (32767 : Int))), pv (2 : Nat) (V.b (betB (Prod.fst p) (-32767 : Int) (32767 : Int) && betB (Prod.snd p) (-32767 : Int) (32767 : Int)))] (by kernel_rfl) (by kernel_rfl) ⟨⟨(by (intro h; rw [h]; rfl)), True.intro⟩, True.intro⟩ ?_
  refine aops_nil ?_
  refine xt_n ?_
  refine hK _ ?_
  clear hK K
  refine aw_ret ?_
  refine ret_pure (v' := V.b (betB (Prod.fst p) (-32767 : Int) (32767 : Int) && betB (Prod.snd p) (-32767 : Int) (32767 : Int))) (.inr rfl) (by kernel_rfl) (by kernel_rfl) (by kernel_rfl)
set_option maxRecDepth 100000 in
theorem gCheckPoints_ac (l : List Pt) (hl : l.length ≤ 4611686018427387904) : AC Try.prog 60 [V.pts l] (.i (gChk l)) [] := by
  refine ac_intro hTT hMX (fn := Try.f60) (N := _) ⟨Try.func60, rfl, Try.ntmps60, by kernel_rfl⟩ (by simp) fun C hC hF => ?_
  refine aw_seq_k fun K hK => ?_
  refine w_region (n' := 2) (by kernel_rfl) (by kernel_rfl) ?_
  refine aops_n hTT (M := []) (n := 1) [pv (2 : Nat) (V.i (0 : Int))] (by kernel_rfl) (by kernel_rfl) True.intro ?_
  refine aops_nil ?_
  refine xt_n ?_
  refine hK _ ?_
  clear hK K
  refine aw_seq_k fun K hK => ?_
  refine aw_seq_k fun K hK => ?_
  refine w_region (n' := 3) (by kernel_rfl) (by kernel_rfl) ?_
  refine aops_n hTT (M := []) (n := 3) [pv (5 : Nat) (V.sl (2 : Nat) (List.length l) fun (k : Nat) => [V.i (Prod.fst (gp l k)), V.i (Prod.snd (gp l k))]), pv (6 : Nat) (V.i (↑(List.length l) : Int)), pv (7 : Nat) (V.b (decide ((4096 : Int) < (↑(List.length l) : Int))))] (by kernel_rfl) (by kernel_rfl) True.intro ?_
  refine aops_nil ?_
  refine xt_n ?_
  refine hK _ ?_
  clear hK K
  refine w_cond (t := decide ((4096 : Int) < (↑(List.length l) : Int))) (by kernel_rfl) (fun c1 => ?_) (fun c1 => ?_)
  · simp at c1
    refine aw_seq_k fun K hK => ?_
    refine w_region (n' := 4) (by kernel_rfl) (by kernel_rfl) ?_
    refine aops_n hTT (M := []) (n := 1) [pv (2 : Nat) (V.i (6 : Int))] (by kernel_rfl) (by kernel_rfl) True.intro ?_
    refine aops_nil ?_
    refine xt_n ?_
    refine hK _ ?_
    clear hK K
    refine aw_ret ?_
    refine xt_r ?_
    rw [gChk_many (by omega)]
    refine ret_pure (v' := V.i (6 : Int)) (.inr rfl) (by kernel_rfl) (by kernel_rfl) (by kernel_rfl)
  simp at c1
  refine aw_skip ?_
  refine xt_n ?_
  refine hK _ ?_
  clear hK K
  refine aw_seq_k fun K hK => ?_
  refine aw_seq_k fun K hK => ?_
  refine w_region (n' := 4) (by kernel_rfl) (by kernel_rfl) ?_
  refine aops_n hTT (M := []) (n := 3) [pv (8 : Nat) (V.sl (2 : Nat) (List.length l) fun (k : Nat) => [V.i (Prod.fst (gp l k)), V.i (Prod.snd (gp l k))]), pv (9 : Nat) (V.i (↑(List.length l) : Int)), pv (10 : Nat) (V.i (0 : Int))] (by kernel_rfl) (by kernel_rfl) True.intro ?_
  refine aops_nil ?_
  refine xt_n ?_
  refine hK _ ?_
  clear hK K
  refine aw_block ?_
  refine w_loop (ι := Nat) (fun k => [(8, V.pts l), (9, .i l.length), (10, .i k)]) (fun _ => []) (fun k => k ≤ l.length ∧ ∀ j, j < k → gE (gp l j) = true) (fun k => l.length - k) 0 ⟨Nat.zero_le _, fun j hj => by omega⟩ ?_ ?_
  · refine le_ren [] (.cons (by kernel_rfl) (.cons (by kernel_rfl) (.cons (by kernel_rfl) .nil))) .nil (by kernel_rfl) (by kernel_rfl)
  rintro k ⟨hk, hj⟩
  refine aw_seq_k fun K hK => ?_
  refine w_region (n' := 2) (by kernel_rfl) (by kernel_rfl) ?_
  refine aops_n hTT (M := []) (n := 1) [pv (11 : Nat) (V.b (decide ((↑k : Int) < (↑(List.length l) : Int))))] (by kernel_rfl) (by kernel_rfl) True.intro ?_
  refine aops_nil ?_
  refine xt_n ?_
  refine hK _ ?_
  clear hK K
  refine aw_seq_k fun K hK => ?_
  refine w_cond (t := decide ((↑k : Int) < (↑(List.length l) : Int))) (by kernel_rfl) (fun c2 => ?_) (fun c2 => ?_)
  · simp at c2
    refine aw_skip ?_
    refine xt_n ?_
    refine hK _ ?_
    clear hK K
    refine aw_seq_k fun K hK => ?_
    refine aw_block ?_
    refine aw_seq_k fun K hK => ?_
    refine w_region (n' := 3) (by kernel_rfl) (by kernel_rfl) ?_
    refine aops_n hTT (M := []) (n := 4) [pc (12 : Nat) ((0 : Int) ≤ (↑k : Int) ∧ (↑k : Int) < (↑(List.length l) : Int)) (V.ptr [V.i (Prod.fst (gp l k)), V.i (Prod.snd (gp l k))]), pv (13 : Nat) (V.agg [V.i (Prod.fst (gp l k)), V.i (Prod.snd (gp l k))]), pn (4 : Nat) (V.ref (200004 : Nat) (0 : Nat)) (200004 : Nat) (Ob.box (29 : Nat) [V.i (0 : Int), V.i (0 : Int)]), pw ((0 : Nat) + (2 : Nat) ≤ (2 : Nat)) (200004 : Nat) (Ob.box (29 : Nat) [V.i (Prod.fst (gp l k)), V.i (Prod.snd (gp l k))])] (by kernel_rfl) (by kernel_rfl) ⟨(by omega), (by omega), True.intro⟩ ?_
    refine aops_nil ?_
    refine xt_n ?_
    refine hK _ ?_
    clear hK K
    refine aw_seq_k fun K hK => ?_
    refine w_region (n' := 4) (by kernel_rfl) (by kernel_rfl) ?_
    refine aops_n hTT (M := []) (n := 1) [pc (14 : Nat) ((0 : Nat) ≤ (2 : Nat)) (V.agg [V.i (Prod.fst (gp l k)), V.i (Prod.snd (gp l k))])] (by kernel_rfl) (by kernel_rfl) ⟨(by omega), True.intro⟩ ?_
    refine e_call (first := []) (caps := []) (gEdged_ac (gp l k)) (by kernel_rfl) (by kernel_rfl) (by kernel_rfl) (by kernel_rfl) (by kernel_rfl) ?_
    refine aops_n hTT (M := []) (n := 1) [pv (16 : Nat) (V.b !gE (gp l k))] (by kernel_rfl) (by kernel_rfl) True.intro ?_
    refine aops_nil ?_
    refine xt_n ?_
    refine hK _ ?_
    clear hK K
    refine w_cond (t := !gE (gp l k)) (by kernel_rfl) (fun c3 => ?_) (fun c3 => ?_)
    · refine aw_seq_k fun K hK => ?_
      refine w_region (n' := 5) (by kernel_rfl) (by kernel_rfl) ?_
      refine aops_n hTT (M := []) (n := 1) [pv (2 : Nat) (V.i (2 : Int))] (by kernel_rfl) (by kernel_rfl) True.intro ?_
      refine aops_nil ?_
      refine xt_n ?_
      refine hK _ ?_
      clear hK K
      refine aw_ret ?_
      refine xb_r ?_
      refine xt_r ?_
      refine xt_r ?_
      refine xb_r ?_
      refine xt_r ?_
      rw [gChk_bad (by omega) (by omega) (by simpa using c3)]
      refine ret_pure (v' := V.i (2 : Int)) (.inr rfl) (by kernel_rfl) (by kernel_rfl) (by kernel_rfl)
    refine aw_skip ?_
    refine xb_n ?_
    refine xt_n ?_
    refine hK _ ?_
    clear hK K
    refine w_region (n' := 5) (by kernel_rfl) (by kernel_rfl) ?_
    refine aops_n hTT (M := []) (n := 2) [pc (17 : Nat) ((-9223372036854775808 : Int) ≤ (↑k : Int) + (1 : Int) ∧ (↑k : Int) + (1 : Int) ≤ (9223372036854775807 : Int)) (V.i ((↑k : Int) + (1 : Int))), pv (10 : Nat) (V.i ((↑k : Int) + (1 : Int)))] (by kernel_rfl) (by kernel_rfl) ⟨(by omega), True.intro⟩ ?_
    refine aops_nil ?_
    refine xt_n ?_
    refine ⟨k + 1, ⟨by omega, fun i hi => ?_⟩, by refine le_ren [] (.cons (by kernel_rfl) (.cons (by kernel_rfl) (.cons (by kernel_rfl) .nil))) .nil (by kernel_rfl) (by kernel_rfl), by omega⟩
    by_cases he : i = k
    · subst he; simpa using c3
    · exact hj i (by omega)
  · simp at c2
    refine aw_exit ?_
    refine xt_x ?_
    refine xt_x ?_
    refine xb_same ?_
    refine xt_n ?_
    clear hK K
    refine hK _ ?_
    clear hK K
    refine aw_seq_k fun K hK => ?_
    refine w_region (n' := 3) (by kernel_rfl) (by kernel_rfl) ?_
    refine aops_n hTT (M := []) (n := 1) [pv (2 : Nat) (V.i (0 : Int))] (by kernel_rfl) (by kernel_rfl) True.intro ?_
    refine aops_nil ?_
    refine xt_n ?_
    refine hK _ ?_
    clear hK K
    refine aw_ret ?_
    rw [gChk_good (by omega) fun i hi => hj i (by omega)]
    refine ret_pure (v' := V.i (0 : Int)) (.inr rfl) (by kernel_rfl) (by kernel_rfl) (by kernel_rfl)
set_option maxRecDepth 100000 in
theorem refCheckPoints_ac (l : List Pt) (hl : l.length ≤ 4611686018427387904) : AC Try.prog 28 [V.pts l] (.i (gChk l)) [] := by
  refine ac_intro hTT hMX (fn := Try.f28) (N := _) ⟨Try.func28, rfl, Try.ntmps28, by kernel_rfl⟩ (by simp) fun C hC hF => ?_
  refine aw_seq_k fun K hK => ?_
  refine w_region (n' := 2) (by kernel_rfl) (by kernel_rfl) ?_
  refine aops_n hTT (M := []) (n := 1) [pv (2 : Nat) (V.i (0 : Int))] (by kernel_rfl) (by kernel_rfl) True.intro ?_
  refine aops_nil ?_
  refine xt_n ?_
  refine hK _ ?_
  clear hK K
  refine aw_seq_k fun K hK => ?_
  refine aw_seq_k fun K hK => ?_
  refine w_region (n' := 3) (by kernel_rfl) (by kernel_rfl) ?_
  refine aops_n hTT (M := []) (n := 3) [pv (4 : Nat) (V.sl (2 : Nat) (List.length l) fun (k : Nat) => [V.i (Prod.fst (gp l k)), V.i (Prod.snd (gp l k))]), pv (5 : Nat) (V.i (↑(List.length l) : Int)), pv (6 : Nat) (V.b (decide ((4096 : Int) < (↑(List.length l) : Int))))] (by kernel_rfl) (by kernel_rfl) True.intro ?_
  refine aops_nil ?_
  refine xt_n ?_
  refine hK _ ?_
  clear hK K
  refine w_cond (t := decide ((4096 : Int) < (↑(List.length l) : Int))) (by kernel_rfl) (fun c1 => ?_) (fun c1 => ?_)
  · simp at c1
    refine aw_seq_k fun K hK => ?_
    refine w_region (n' := 4) (by kernel_rfl) (by kernel_rfl) ?_
    refine aops_n hTT (M := []) (n := 1) [pv (2 : Nat) (V.i (6 : Int))] (by kernel_rfl) (by kernel_rfl) True.intro ?_
    refine aops_nil ?_
    refine xt_n ?_
    refine hK _ ?_
    clear hK K
    refine aw_ret ?_
    refine xt_r ?_
    rw [gChk_many (by omega)]
    refine ret_pure (v' := V.i (6 : Int)) (.inr rfl) (by kernel_rfl) (by kernel_rfl) (by kernel_rfl)
  simp at c1
  refine aw_skip ?_
  refine xt_n ?_
  refine hK _ ?_
  clear hK K
  refine aw_seq_k fun K hK => ?_
  refine aw_seq_k fun K hK => ?_
  refine w_region (n' := 4) (by kernel_rfl) (by kernel_rfl) ?_
  refine aops_n hTT (M := []) (n := 1) [pv (3 : Nat) (V.i (0 : Int))] (by kernel_rfl) (by kernel_rfl) True.intro ?_
  refine aops_nil ?_
  refine xt_n ?_
  refine hK _ ?_
  clear hK K
  refine aw_block ?_
  refine w_loop (ι := Nat) (fun k => [(0, V.pts l), (3, .i k)]) (fun _ => []) (fun k => k ≤ l.length ∧ ∀ j, j < k → gE (gp l j) = true) (fun k => l.length - k) 0 ⟨Nat.zero_le _, fun j hj => by omega⟩ ?_ ?_
  · refine le_ren [] (.cons (by kernel_rfl) (.cons (by kernel_rfl) .nil)) .nil (by kernel_rfl) (by kernel_rfl)
  rintro k ⟨hk, hj⟩
  refine aw_seq_k fun K hK => ?_
  refine aw_seq_k fun K hK => ?_
  refine w_region (n' := 2) (by kernel_rfl) (by kernel_rfl) ?_
  refine aops_n hTT (M := []) (n := 4) [pv (7 : Nat) (V.i (↑k : Int)), pv (8 : Nat) (V.sl (2 : Nat) (List.length l) fun (k : Nat) => [V.i (Prod.fst (gp l k)), V.i (Prod.snd (gp l k))]), pv (9 : Nat) (V.i (↑(List.length l) : Int)), pv (10 : Nat) (V.b (decide ((↑k : Int) < (↑(List.length l) : Int))))] (by kernel_rfl) (by kernel_rfl) True.intro ?_
  refine aops_nil ?_
  refine xt_n ?_
  refine hK _ ?_
  clear hK K
  refine w_cond (t := decide ((↑k : Int) < (↑(List.length l) : Int))) (by kernel_rfl) (fun c2 => ?_) (fun c2 => ?_)
  · simp at c2
    refine aw_skip ?_
    refine xt_n ?_
    refine hK _ ?_
    clear hK K
    refine aw_seq_k fun K hK => ?_
    refine aw_block ?_
    refine aw_seq_k fun K hK => ?_
    refine w_region (n' := 3) (by kernel_rfl) (by kernel_rfl) ?_
    refine aops_n hTT (M := []) (n := 4) [pv (13 : Nat) (V.sl (2 : Nat) (List.length l) fun (k : Nat) => [V.i (Prod.fst (gp l k)), V.i (Prod.snd (gp l k))]), pv (14 : Nat) (V.i (↑k : Int)), pc (15 : Nat) ((0 : Int) ≤ (↑k : Int) ∧ (↑k : Int) < (↑(List.length l) : Int)) (V.ptr [V.i (Prod.fst (gp l k)), V.i (Prod.snd (gp l k))]), pv (16 : Nat) (V.agg [V.i (Prod.fst (gp l k)), V.i (Prod.snd (gp l k))])] (by kernel_rfl) (by kernel_rfl) ⟨(by omega), True.intro⟩ ?_
    refine e_call (first := []) (caps := []) (gEdge_ac (gp l k)) (by kernel_rfl) (by kernel_rfl) (by kernel_rfl) (by kernel_rfl) (by kernel_rfl) ?_
    refine aops_n hTT (M := []) (n := 1) [pv (18 : Nat) (V.b !gE (gp l k))] (by kernel_rfl) (by kernel_rfl) True.intro ?_
    refine aops_nil ?_
    refine xt_n ?_
    refine hK _ ?_
    clear hK K
    refine w_cond (t := !gE (gp l k)) (by kernel_rfl) (fun c3 => ?_) (fun c3 => ?_)
    · refine aw_seq_k fun K hK => ?_
      refine w_region (n' := 4) (by kernel_rfl) (by kernel_rfl) ?_
      refine aops_n hTT (M := []) (n := 1) [pv (2 : Nat) (V.i (2 : Int))] (by kernel_rfl) (by kernel_rfl) True.intro ?_
      refine aops_nil ?_
      refine xt_n ?_
      refine hK _ ?_
      clear hK K
      refine aw_ret ?_
      refine xb_r ?_
      refine xt_r ?_
      refine xt_r ?_
      refine xb_r ?_
      refine xt_r ?_
      rw [gChk_bad (by omega) (by omega) (by simpa using c3)]
      refine ret_pure (v' := V.i (2 : Int)) (.inr rfl) (by kernel_rfl) (by kernel_rfl) (by kernel_rfl)
    refine aw_skip ?_
    refine xb_n ?_
    refine xt_n ?_
    refine hK _ ?_
    clear hK K
    refine w_region (n' := 4) (by kernel_rfl) (by kernel_rfl) ?_
    refine aops_n hTT (M := []) (n := 3) [pv (11 : Nat) (V.i (↑k : Int)), pc (12 : Nat) ((-9223372036854775808 : Int) ≤ (↑k : Int) + (1 : Int) ∧ (↑k : Int) + (1 : Int) ≤ (9223372036854775807 : Int)) (V.i ((↑k : Int) + (1 : Int))), pv (3 : Nat) (V.i ((↑k : Int) + (1 : Int)))] (by kernel_rfl) (by kernel_rfl) ⟨(by omega), True.intro⟩ ?_
    refine aops_nil ?_
    refine xt_n ?_
    refine ⟨k + 1, ⟨by omega, fun i hi => ?_⟩, by refine le_ren [] (.cons (by kernel_rfl) (.cons (by kernel_rfl) .nil)) .nil (by kernel_rfl) (by kernel_rfl), by omega⟩
    by_cases he : i = k
    · subst he; simpa using c3
    · exact hj i (by omega)
  · simp at c2
    refine aw_exit ?_
    refine xt_x ?_
    refine xt_x ?_
    refine xb_same ?_
    refine xt_n ?_
    clear hK K
    refine hK _ ?_
    clear hK K
    refine aw_seq_k fun K hK => ?_
    refine w_region (n' := 3) (by kernel_rfl) (by kernel_rfl) ?_
    refine aops_n hTT (M := []) (n := 1) [pv (2 : Nat) (V.i (0 : Int))] (by kernel_rfl) (by kernel_rfl) True.intro ?_
    refine aops_nil ?_
    refine xt_n ?_
    refine hK _ ?_
    clear hK K
    refine aw_ret ?_
    rw [gChk_good (by omega) fun i hi => hj i (by omega)]
    refine ret_pure (v' := V.i (0 : Int)) (.inr rfl) (by kernel_rfl) (by kernel_rfl) (by kernel_rfl)
set_option maxRecDepth 100000 in
theorem tCheckSamples_ac (l : List Pt) (hl : l.length ≤ 4611686018427387904) : AC Try.prog 89 [V.pts l] (.i (sChk l)) [] := by
  refine ac_intro hTT hMX (fn := Try.f89) (N := _) ⟨Try.func89, rfl, Try.ntmps89, by kernel_rfl⟩ (by simp) fun C hC hF => ?_
  refine aw_seq_k fun K hK => ?_
  refine w_region (n' := 2) (by kernel_rfl) (by kernel_rfl) ?_
  refine aops_n hTT (M := []) (n := 1) [pv (2 : Nat) (V.i (0 : Int))] (by kernel_rfl) (by kernel_rfl) True.intro ?_
  refine aops_nil ?_
  refine xt_n ?_
  refine hK _ ?_
  clear hK K
  refine aw_seq_k fun K hK => ?_
  refine aw_seq_k fun K hK => ?_
  refine w_region (n' := 3) (by kernel_rfl) (by kernel_rfl) ?_
  refine aops_n hTT (M := []) (n := 3) [pv (5 : Nat) (V.sl (2 : Nat) (List.length l) fun (k : Nat) => [V.i (Prod.fst (gp l k)), V.i (Prod.snd (gp l k))]), pv (6 : Nat) (V.i (↑(List.length l) : Int)), pv (7 : Nat) (V.b (decide ((4096 : Int) < (↑(List.length l) : Int))))] (by kernel_rfl) (by kernel_rfl) True.intro ?_
  refine aops_nil ?_
  refine xt_n ?_
  refine hK _ ?_
  clear hK K
  refine w_cond (t := decide ((4096 : Int) < (↑(List.length l) : Int))) (by kernel_rfl) (fun c1 => ?_) (fun c1 => ?_)
  · simp at c1
    refine aw_seq_k fun K hK => ?_
    refine w_region (n' := 4) (by kernel_rfl) (by kernel_rfl) ?_
    refine aops_n hTT (M := []) (n := 1) [pv (2 : Nat) (V.i (6 : Int))] (by kernel_rfl) (by kernel_rfl) True.intro ?_
    refine aops_nil ?_
    refine xt_n ?_
    refine hK _ ?_
    clear hK K
    refine aw_ret ?_
    refine xt_r ?_
    rw [sChk_many (by omega)]
    refine ret_pure (v' := V.i (6 : Int)) (.inr rfl) (by kernel_rfl) (by kernel_rfl) (by kernel_rfl)
  simp at c1
  refine aw_skip ?_
  refine xt_n ?_
  refine hK _ ?_
  clear hK K
  refine aw_seq_k fun K hK => ?_
  refine aw_seq_k fun K hK => ?_
  refine w_region (n' := 4) (by kernel_rfl) (by kernel_rfl) ?_
  refine aops_n hTT (M := []) (n := 3) [pv (8 : Nat) (V.sl (2 : Nat) (List.length l) fun (k : Nat) => [V.i (Prod.fst (gp l k)), V.i (Prod.snd (gp l k))]), pv (9 : Nat) (V.i (↑(List.length l) : Int)), pv (10 : Nat) (V.i (0 : Int))] (by kernel_rfl) (by kernel_rfl) True.intro ?_
  refine aops_nil ?_
  refine xt_n ?_
  refine hK _ ?_
  clear hK K
  refine aw_block ?_
  refine w_loop (ι := Nat) (fun k => [(8, V.pts l), (9, .i l.length), (10, .i k)]) (fun _ => []) (fun k => k ≤ l.length ∧ ∀ j, j < k → sE (gp l j) = true) (fun k => l.length - k) 0 ⟨Nat.zero_le _, fun j hj => by omega⟩ ?_ ?_
  · refine le_ren [] (.cons (by kernel_rfl) (.cons (by kernel_rfl) (.cons (by kernel_rfl) .nil))) .nil (by kernel_rfl) (by kernel_rfl)
  rintro k ⟨hk, hj⟩
  refine aw_seq_k fun K hK => ?_
  refine w_region (n' := 2) (by kernel_rfl) (by kernel_rfl) ?_
  refine aops_n hTT (M := []) (n := 1) [pv (11 : Nat) (V.b (decide ((↑k : Int) < (↑(List.length l) : Int))))] (by kernel_rfl) (by kernel_rfl) True.intro ?_
  refine aops_nil ?_
  refine xt_n ?_
  refine hK _ ?_
  clear hK K
  refine aw_seq_k fun K hK => ?_
  refine w_cond (t := decide ((↑k : Int) < (↑(List.length l) : Int))) (by kernel_rfl) (fun c2 => ?_) (fun c2 => ?_)
  · simp at c2
    refine aw_skip ?_
    refine xt_n ?_
    refine hK _ ?_
    clear hK K
    refine aw_seq_k fun K hK => ?_
    refine aw_block ?_
    refine aw_seq_k fun K hK => ?_
    refine w_region (n' := 3) (by kernel_rfl) (by kernel_rfl) ?_
    refine aops_n hTT (M := []) (n := 4) [pc (12 : Nat) ((0 : Int) ≤ (↑k : Int) ∧ (↑k : Int) < (↑(List.length l) : Int)) (V.ptr [V.i (Prod.fst (gp l k)), V.i (Prod.snd (gp l k))]), pv (13 : Nat) (V.agg [V.i (Prod.fst (gp l k)), V.i (Prod.snd (gp l k))]), pn (4 : Nat) (V.ref (200004 : Nat) (0 : Nat)) (200004 : Nat) (Ob.box (87 : Nat) [V.i (0 : Int), V.i (0 : Int)]), pw ((0 : Nat) + (2 : Nat) ≤ (2 : Nat)) (200004 : Nat) (Ob.box (87 : Nat) [V.i (Prod.fst (gp l k)), V.i (Prod.snd (gp l k))])] (by kernel_rfl) (by kernel_rfl) ⟨(by omega), (by omega), True.intro⟩ ?_
    refine aops_nil ?_
    refine xt_n ?_
    refine hK _ ?_
    clear hK K
    refine aw_seq_k fun K hK => ?_
    refine w_region (n' := 4) (by kernel_rfl) (by kernel_rfl) ?_
    refine aops_n hTT (M := []) (n := 1) [pc (14 : Nat) ((0 : Nat) ≤ (2 : Nat)) (V.agg [V.i (Prod.fst (gp l k)), V.i (Prod.snd (gp l k))])] (by kernel_rfl) (by kernel_rfl) ⟨(by omega), True.intro⟩ ?_
    refine e_call (first := []) (caps := []) (tValid_ac (gp l k)) (by kernel_rfl) (by kernel_rfl) (by kernel_rfl) (by kernel_rfl) (by kernel_rfl) ?_
    refine aops_n hTT (M := []) (n := 1) [pv (16 : Nat) (V.b !sE (gp l k))] (by kernel_rfl) (by kernel_rfl) True.intro ?_
    refine aops_nil ?_
    refine xt_n ?_
    refine hK _ ?_
    clear hK K
    refine w_cond (t := !sE (gp l k)) (by kernel_rfl) (fun c3 => ?_) (fun c3 => ?_)
    · refine aw_seq_k fun K hK => ?_
      refine w_region (n' := 5) (by kernel_rfl) (by kernel_rfl) ?_
      refine aops_n hTT (M := []) (n := 1) [pv (2 : Nat) (V.i (2 : Int))] (by kernel_rfl) (by kernel_rfl) True.intro ?_
      refine aops_nil ?_
      refine xt_n ?_
      refine hK _ ?_
      clear hK K
      refine aw_ret ?_
      refine xb_r ?_
      refine xt_r ?_
      refine xt_r ?_
      refine xb_r ?_
      refine xt_r ?_
      rw [sChk_bad (by omega) (by omega) (by simpa using c3)]
      refine ret_pure (v' := V.i (2 : Int)) (.inr rfl) (by kernel_rfl) (by kernel_rfl) (by kernel_rfl)
    refine aw_skip ?_
    refine xb_n ?_
    refine xt_n ?_
    refine hK _ ?_
    clear hK K
    refine w_region (n' := 5) (by kernel_rfl) (by kernel_rfl) ?_
    refine aops_n hTT (M := []) (n := 2) [pc (17 : Nat) ((-9223372036854775808 : Int) ≤ (↑k : Int) + (1 : Int) ∧ (↑k : Int) + (1 : Int) ≤ (9223372036854775807 : Int)) (V.i ((↑k : Int) + (1 : Int))), pv (10 : Nat) (V.i ((↑k : Int) + (1 : Int)))] (by kernel_rfl) (by kernel_rfl) ⟨(by omega), True.intro⟩ ?_
    refine aops_nil ?_
    refine xt_n ?_
    refine ⟨k + 1, ⟨by omega, fun i hi => ?_⟩, by refine le_ren [] (.cons (by kernel_rfl) (.cons (by kernel_rfl) (.cons (by kernel_rfl) .nil))) .nil (by kernel_rfl) (by kernel_rfl), by omega⟩
    by_cases he : i = k
    · subst he; simpa using c3
    · exact hj i (by omega)
  · simp at c2
    refine aw_exit ?_
    refine xt_x ?_
    refine xt_x ?_
    refine xb_same ?_
    refine xt_n ?_
    clear hK K
    refine hK _ ?_
    clear hK K
    refine aw_seq_k fun K hK => ?_
    refine w_region (n' := 3) (by kernel_rfl) (by kernel_rfl) ?_
    refine aops_n hTT (M := []) (n := 1) [pv (2 : Nat) (V.i (0 : Int))] (by kernel_rfl) (by kernel_rfl) True.intro ?_
    refine aops_nil ?_
    refine xt_n ?_
    refine hK _ ?_
    clear hK K
    refine aw_ret ?_
    rw [sChk_good (by omega) fun i hi => hj i (by omega)]
    refine ret_pure (v' := V.i (0 : Int)) (.inr rfl) (by kernel_rfl) (by kernel_rfl) (by kernel_rfl)
def wrapAmt (n : Int) : Int := max n (IntKind.i64.wrap (0 - n))
theorem wrapAmt_le {n m : Int} (h : inR .i64 n) (hm : 0 ≤ m ∧ m ≤ 4611686018427387904) (h2 : -1099511627776 < n) : wrapAmt n ≤ m ↔ -m ≤ n ∧ n ≤ m := by
  simp only [inR] at h
  have : IntKind.i64.wrap (0 - n) = -n := by
    rw [inR_wrap (k := .i64) (by simp only [inR]; omega)]; omega
  rw [wrapAmt, this]
  omega
def gAmt (n : Int) : Int := max n (-n)
theorem gAmt_eq {n : Int} (h : -4611686018427387904 ≤ n ∧ n ≤ 4611686018427387904) : wrapAmt n = gAmt n := by
  have : IntKind.i64.wrap (0 - n) = -n := by
    rw [inR_wrap (k := .i64) (by simp only [inR]; omega)]; omega
  rw [wrapAmt, this, gAmt]
set_option maxRecDepth 100000 in
theorem gAmount_ac (n : Int) (h : -4611686018427387904 ≤ n ∧ n ≤ 4611686018427387904) : AC Try.prog 88 [.i n] (.i (gAmt n)) [] := by
  refine ac_intro hTT hMX (fn := Try.f88) (N := _) ⟨Try.func88, rfl, Try.ntmps88, by kernel_rfl⟩ (by simp) fun C hC hF => ?_
  refine aw_seq_k fun K hK => ?_
  refine w_region (n' := 2) (by kernel_rfl) (by kernel_rfl) ?_
  refine aops_n hTT (M := []) (n := 1) [pv (2 : Nat) (V.i (0 : Int))] (by kernel_rfl) (by kernel_rfl) True.intro ?_
  refine aops_nil ?_
  refine xt_n ?_
  refine hK _ ?_
  clear hK K
  refine aw_seq_k fun K hK => ?_
  refine w_region (n' := 3) (by kernel_rfl) (by kernel_rfl) ?_
  refine aops_n hTT (M := []) (n := 5) [pv (3 : Nat) (V.i n), pv (4 : Nat) (V.i n), pc (5 : Nat) ((-9223372036854775808 : Int) ≤ -n ∧ -n ≤ (9223372036854775807 : Int)) (V.i (-n)), pv (6 : Nat) (V.i (max n (-n))), pv (2 : Nat) (V.i (max n (-n)))] (by kernel_rfl) (by kernel_rfl) ⟨(by omega), True.intro⟩ ?_
  refine aops_nil ?_
  refine xt_n ?_
  refine hK _ ?_
  clear hK K
  refine aw_ret ?_
  refine ret_pure (v' := V.i (max n (-n))) (.inr rfl) (by kernel_rfl) (by kernel_rfl) (by kernel_rfl)
end Go.Proofs.Ytlfaaddoemcokaa
