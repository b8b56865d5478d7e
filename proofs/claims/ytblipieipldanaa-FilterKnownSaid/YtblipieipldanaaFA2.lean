/-
  Curves and chains that are valid: both copies. Condition: as many elements as a slice can have.
-/
import Derived.Test.YtblipieipldanaaFA1
namespace Go.Proofs.Ytblipieipldanaa
open Go.Ab Go.RowKit Go.Dw Go.Shelf

abbrev V.cv (c : Cv) : V := .agg [V.ints c.feed, V.ints c.back, V.i c.share]
def cv0 : Cv := ⟨[], [], 0⟩
def gc (l : List Cv) (k : Nat) : Cv := l.getD k cv0
theorem gc_eq {l : List Cv} {k : Nat} (h : k < l.length) : gc l k = l[k] := by simp [gc, h]
def V.cvs (l : List Cv) : V := .sl 3 l.length fun k => [V.ints (gc l k).feed, V.ints (gc l k).back, V.i (gc l k).share]
def cvL (c : Cv) : Prop := c.feed.length ≤ bigL ∧ c.back.length ≤ bigL
theorem cvE_many {c : Cv} (h : 8 < c.feed.length ∨ 8 < c.back.length) : cvE c = 6 := by unfold cvE; rw [if_pos (by omega)]
theorem cvE_few {c : Cv} (h1 : c.feed.length ≤ 8) (h2 : c.back.length ≤ 8) : cvE c = if (c.feed.any fun n => bey n 4096) || (c.back.any fun n => bey n 4096) || decide (c.share < 1) || decide (4096 < c.share) then 2 else 0 := by
  unfold cvE; rw [if_neg (by omega)]
set_option maxRecDepth 100000 in
theorem CheckCurve_ac (c : Cv) (hl : cvL c) : AC Try.prog 44 [V.cv c] (.i (cvE c)) [] := by
  obtain ⟨hl1, hl2⟩ := hl
  refine ac_intro hTT hMX (fn := Try.f44) (N := _) ⟨Try.func44, rfl, Try.ntmps44, by kernel_rfl⟩ (by simp) fun C hC hF => ?_
  refine aw_seq_k fun K hK => ?_
  refine w_region (n' := 2) (by kernel_rfl) (by kernel_rfl) ?_
  refine aops_n hTT (M := []) (n := 2) [pv (1 : Nat) (V.ptr [V.sl (1 : Nat) (List.length (Cv.feed c)) fun (k : Nat) => [V.i (gi (Cv.feed c) k)], V.sl (1 : Nat) (List.length (Cv.back c)) fun (k : Nat) => [V.i (gi (Cv.back c) k)], V.i (Cv.share c)]), pv (2 : Nat) (V.i (0 : Int))] (by kernel_rfl) (by kernel_rfl) True.intro ?_
  refine aops_nil ?_
  refine xt_n ?_
  refine hK _ ?_
  clear hK K
  refine aw_seq_k fun K hK => ?_
  refine aw_block ?_
  refine aw_seq_k fun K hK => ?_
  refine w_region (n' := 3) (by kernel_rfl) (by kernel_rfl) ?_
  refine aops_n hTT (M := []) (n := 9) [pv (4 : Nat) (V.ptr [V.sl (1 : Nat) (List.length (Cv.feed c)) fun (k : Nat) => [V.i (gi (Cv.feed c) k)], V.sl (1 : Nat) (List.length (Cv.back c)) fun (k : Nat) => [V.i (gi (Cv.back c) k)], V.i (Cv.share c)]), pv (5 : Nat) (V.sl (1 : Nat) (List.length (Cv.feed c)) fun (k : Nat) => [V.i (gi (Cv.feed c) k)]), pv (6 : Nat) (V.i (↑(List.length (Cv.feed c)) : Int)), pv (7 : Nat) (V.ptr [V.sl (1 : Nat) (List.length (Cv.back c)) fun (k : Nat) => [V.i (gi (Cv.back c) k)], V.i (Cv.share c)]), pv (8 : Nat) (V.sl (1 : Nat) (List.length (Cv.back c)) fun (k : Nat) => [V.i (gi (Cv.back c) k)]), pv (9 : Nat) (V.i (↑(List.length (Cv.back c)) : Int)), pv (10 : Nat) (V.i (max (↑(List.length (Cv.feed c)) : Int) (↑(List.length (Cv.back c)) : Int))), pv (11 : Nat) (V.b (decide ((8 : Int) < max (↑(List.length (Cv.feed c)) : Int) (↑(List.length (Cv.back c)) : Int)))), pv (3 : Nat) (V.b (decide ((8 : Int) < max (↑(List.length (Cv.feed c)) : Int) (↑(List.length (Cv.back c)) : Int))))] (by kernel_rfl) (by kernel_rfl) True.intro ?_
  refine aops_nil ?_
  refine xt_n ?_
  refine hK _ ?_
  clear hK K
  refine w_cond (t := decide ((8 : Int) < max (↑(List.length (Cv.feed c)) : Int) (↑(List.length (Cv.back c)) : Int))) (by kernel_rfl) (fun c1 => ?_) (fun c1 => ?_)
  · simp at c1
    refine aw_seq_k fun K hK => ?_
    refine w_region (n' := 4) (by kernel_rfl) (by kernel_rfl) ?_
    refine aops_n hTT (M := []) (n := 1) [pv (2 : Nat) (V.i (6 : Int))] (by kernel_rfl) (by kernel_rfl) True.intro ?_
    refine aops_nil ?_
    refine xt_n ?_
    refine hK _ ?_
    clear hK K
    refine aw_ret ?_
    refine xb_r ?_
    refine xt_r ?_
    rw [cvE_many (by omega)]
    refine ret_pure (v' := V.i (6 : Int)) (.inr rfl) (by kernel_rfl) (by kernel_rfl) (by kernel_rfl)
  · simp at c1
    refine aw_seq_k fun K hK => ?_
    refine w_region (n' := 4) (by kernel_rfl) (by kernel_rfl) ?_
    refine aops_n hTT (M := []) (n := 2) [pv (13 : Nat) (V.ptr [V.sl (1 : Nat) (List.length (Cv.feed c)) fun (k : Nat) => [V.i (gi (Cv.feed c) k)], V.sl (1 : Nat) (List.length (Cv.back c)) fun (k : Nat) => [V.i (gi (Cv.back c) k)], V.i (Cv.share c)]), pv (14 : Nat) (V.sl (1 : Nat) (List.length (Cv.feed c)) fun (k : Nat) => [V.i (gi (Cv.feed c) k)])] (by kernel_rfl) (by kernel_rfl) True.intro ?_
    refine e_call (first := []) (caps := []) (anyBeyond_ac c.feed 4096 hl1 (by decide)) (by kernel_rfl) (by kernel_rfl) (by kernel_rfl) (by kernel_rfl) (by kernel_rfl) ?_
    refine aops_n hTT (M := []) (n := 3) [pv (16 : Nat) (V.b (List.any (Cv.feed c) fun (n : Int) => bey n (4096 : Int))), pc (17 : Nat) ((True ∧ True) ∧ (((List.any (Cv.feed c) fun (n : Int) => bey n (4096 : Int)) == false) = true → True)) (V.gd ((List.any (Cv.feed c) fun (n : Int) => bey n (4096 : Int)) == false) (V.ptr [V.sl (1 : Nat) (List.length (Cv.back c)) fun (k : Nat) => [V.i (gi (Cv.back c) k)], V.i (Cv.share c)])), pc (18 : Nat) (((((List.any (Cv.feed c) fun (n : Int) => bey n (4096 : Int)) == false) = true → ((List.any (Cv.feed c) fun (n : Int) => bey n (4096 : Int)) == false) = true) ∧ True) ∧ (((List.any (Cv.feed c) fun (n : Int) => bey n (4096 : Int)) == false) = true → True)) (V.gd ((List.any (Cv.feed c) fun (n : Int) => bey n (4096 : Int)) == false) (V.sl (1 : Nat) (List.length (Cv.back c)) fun (k : Nat) => [V.i (gi (Cv.back c) k)]))] (by kernel_rfl) (by kernel_rfl) ⟨⟨⟨True.intro, True.intro⟩, (fun _ => True.intro)⟩, ⟨⟨(by (exact fun h => h)), True.intro⟩, (fun _ => True.intro)⟩, True.intro⟩ ?_
    refine e_callG 1 (g := (List.any (Cv.feed c) fun (n : Int) => bey n (4096 : Int)) == false) (first := []) (caps := []) (by kernel_rfl) (fun h => anyBeyond_ac c.back 4096 hl2 (by decide)) (by kernel_rfl) (by kernel_rfl) (by kernel_rfl) (by kernel_rfl) (by kernel_rfl) (by kernel_rfl) ?_
    refine aops_n hTT (M := []) (n := 12) [pc (20 : Nat) (True ∧ ((List.any (Cv.feed c) fun (n : Int) => bey n (4096 : Int)) = false → ((List.any (Cv.feed c) fun (n : Int) => bey n (4096 : Int)) == false) = true)) (V.b ((List.any (Cv.feed c) fun (n : Int) => bey n (4096 : Int)) || List.any (Cv.back c) fun (n : Int) => bey n (4096 : Int))), pv (21 : Nat) (V.b ((List.any (Cv.feed c) fun (n : Int) => bey n (4096 : Int)) || List.any (Cv.back c) fun (n : Int) => bey n (4096 : Int))), pc (22 : Nat) ((True ∧ True) ∧ ((((List.any (Cv.feed c) fun (n : Int) => bey n (4096 : Int)) || List.any (Cv.back c) fun (n : Int) => bey n (4096 : Int)) == false) = true → True)) (V.gd (((List.any (Cv.feed c) fun (n : Int) => bey n (4096 : Int)) || List.any (Cv.back c) fun (n : Int) => bey n (4096 : Int)) == false) (V.ptr [V.i (Cv.share c)])), pc (23 : Nat) ((((((List.any (Cv.feed c) fun (n : Int) => bey n (4096 : Int)) || List.any (Cv.back c) fun (n : Int) => bey n (4096 : Int)) == false) = true → (((List.any (Cv.feed c) fun (n : Int) => bey n (4096 : Int)) || List.any (Cv.back c) fun (n : Int) => bey n (4096 : Int)) == false) = true) ∧ True) ∧ ((((List.any (Cv.feed c) fun (n : Int) => bey n (4096 : Int)) || List.any (Cv.back c) fun (n : Int) => bey n (4096 : Int)) == false) = true → True)) (V.gd (((List.any (Cv.feed c) fun (n : Int) => bey n (4096 : Int)) || List.any (Cv.back c) fun (n : Int) => bey n (4096 : Int)) == false) (V.i (Cv.share c))), pc (24 : Nat) ((((((List.any (Cv.feed c) fun (n : Int) => bey n (4096 : Int)) || List.any (Cv.back c) fun (n : Int) => bey n (4096 : Int)) == false) = true → (((List.any (Cv.feed c) fun (n : Int) => bey n (4096 : Int)) || List.any (Cv.back c) fun (n : Int) => bey n (4096 : Int)) == false) = true) ∧ True ∧ True) ∧ ((((List.any (Cv.feed c) fun (n : Int) => bey n (4096 : Int)) || List.any (Cv.back c) fun (n : Int) => bey n (4096 : Int)) == false) = true → True)) (V.gd (((List.any (Cv.feed c) fun (n : Int) => bey n (4096 : Int)) || List.any (Cv.back c) fun (n : Int) => bey n (4096 : Int)) == false) (V.b (decide (Cv.share c < (1 : Int))))), pc (25 : Nat) (True ∧ (((List.any (Cv.feed c) fun (n : Int) => bey n (4096 : Int)) || List.any (Cv.back c) fun (n : Int) => bey n (4096 : Int)) = false → (((List.any (Cv.feed c) fun (n : Int) => bey n (4096 : Int)) || List.any (Cv.back c) fun (n : Int) => bey n (4096 : Int)) == false) = true)) (V.b (((List.any (Cv.feed c) fun (n : Int) => bey n (4096 : Int)) || List.any (Cv.back c) fun (n : Int) => bey n (4096 : Int)) || decide (Cv.share c < (1 : Int)))), pv (26 : Nat) (V.b (((List.any (Cv.feed c) fun (n : Int) => bey n (4096 : Int)) || List.any (Cv.back c) fun (n : Int) => bey n (4096 : Int)) || decide (Cv.share c < (1 : Int)))), pc (27 : Nat) ((True ∧ True) ∧ (((((List.any (Cv.feed c) fun (n : Int) => bey n (4096 : Int)) || List.any (Cv.back c) fun (n : Int) => bey n (4096 : Int)) || decide (Cv.share c < (1 : Int))) == false) = true → True)) (V.gd ((((List.any (Cv.feed c) fun (n : Int) => bey n (4096 : Int)) || List.any (Cv.back c) fun (n : Int) => bey n (4096 : Int)) || decide (Cv.share c < (1 : Int))) == false) (V.ptr [V.i (Cv.share c)])), pc (28 : Nat) (((((((List.any (Cv.feed c) fun (n : Int) => bey n (4096 : Int)) || List.any (Cv.back c) fun (n : Int) => bey n (4096 : Int)) || decide (Cv.share c < (1 : Int))) == false) = true → ((((List.any (Cv.feed c) fun (n : Int) => bey n (4096 : Int)) || List.any (Cv.back c) fun (n : Int) => bey n (4096 : Int)) || decide (Cv.share c < (1 : Int))) == false) = true) ∧ True) ∧ (((((List.any (Cv.feed c) fun (n : Int) => bey n (4096 : Int)) || List.any (Cv.back c) fun (n : Int) => bey n (4096 : Int)) || decide (Cv.share c < (1 : Int))) == false) = true → True)) (V.gd ((((List.any (Cv.feed c) fun (n : Int) => bey n (4096 : Int)) || List.any (Cv.back c) fun (n : Int) => bey n (4096 : Int)) || decide (Cv.share c < (1 : Int))) == false) (V.i (Cv.share c))), pc (29 : Nat) (((((((List.any (Cv.feed c) fun (n : Int) => bey n (4096 : Int)) || List.any (Cv.back c) fun (n : Int) => bey n (4096 : Int)) || decide (Cv.share c < (1 : Int))) == false) = true → ((((List.any (Cv.feed c) fun (n : Int) => bey n (4096 : Int)) || List.any (Cv.back c) fun (n : Int) => bey n (4096 : Int)) || decide (Cv.share c < (1 : Int))) == false) = true) ∧ True ∧ True) ∧ (((((List.any (Cv.feed c) fun (n : Int) => bey n (4096 : Int)) || List.any (Cv.back c) fun (n : Int) => bey n (4096 : Int)) || decide (Cv.share c < (1 : Int))) == false) = true → True)) (V.gd ((((List.any (Cv.feed c) fun (n : Int) => bey n (4096 : Int)) || List.any (Cv.back c) fun (n : Int) => bey n (4096 : Int)) || decide (Cv.share c < (1 : Int))) == false) (V.b (decide ((4096 : Int) < Cv.share c)))), pc (30 : Nat) (True ∧ ((((List.any (Cv.feed c) fun (n : Int) => bey n (4096 : Int)) || List.any (Cv.back c) fun (n : Int) => bey n (4096 : Int)) || decide (Cv.share c < (1 : Int))) = false → ((((List.any (Cv.feed c) fun (n : Int) => bey n (4096 : Int)) || List.any (Cv.back c) fun (n : Int) => bey n (4096 : Int)) || decide (Cv.share c < (1 : Int))) == false) = true)) (V.b (((List.any (Cv.feed c) fun (n : Int) => bey n (4096 : Int)) || List.any (Cv.back c) fun (n : Int) => bey n (4096 : Int)) || decide (Cv.share c < (1 : Int)) || decide ((4096 : Int) < Cv.share c))), pv (12 : Nat) (V.b (((List.any (Cv.feed c) fun (n : Int) => bey n (4096 : Int)) || List.any (Cv.back c) fun (n : Int) => bey n (4096 : Int)) || decide (Cv.share c < (1 : Int)) || decide ((4096 : Int) < Cv.share c)))] (by kernel_rfl) (by kernel_rfl) ⟨⟨True.intro, (by (intro h; rw [h]; rfl))⟩, ⟨⟨True.intro, True.intro⟩, (fun _ => True.intro)⟩, ⟨⟨(by (exact fun h => h)), True.intro⟩, (fun _ => True.intro)⟩, ⟨⟨(by (exact fun h => h)), ⟨True.intro, True.intro⟩⟩, (fun _ => True.intro)⟩, ⟨True.intro, (by (intro h; rw [h]; rfl))⟩, ⟨⟨True.intro, True.intro⟩, (fun _ => True.intro)⟩, ⟨⟨(by (exact fun h => h)), True.intro⟩, (fun _ => True.intro)⟩, ⟨⟨(by (exact fun h => h)), ⟨True.intro, True.intro⟩⟩, (fun _ => True.intro)⟩, ⟨True.intro, (by (intro h; rw [h]; rfl))⟩, True.intro⟩ ?_
    refine aops_nil ?_
    refine xt_n ?_
    refine hK _ ?_
    clear hK K
    refine w_cond (t := ((List.any (Cv.feed c) fun (n : Int) => bey n (4096 : Int)) || List.any (Cv.back c) fun (n : Int) => bey n (4096 : Int)) || decide (Cv.share c < (1 : Int)) || decide ((4096 : Int) < Cv.share c)) (by kernel_rfl) (fun c2 => ?_) (fun c2 => ?_)
    · refine aw_seq_k fun K hK => ?_
      refine w_region (n' := 5) (by kernel_rfl) (by kernel_rfl) ?_
      refine aops_n hTT (M := []) (n := 1) [pv (2 : Nat) (V.i (2 : Int))] (by kernel_rfl) (by kernel_rfl) True.intro ?_
      refine aops_nil ?_
      refine xt_n ?_
      refine hK _ ?_
      clear hK K
      refine aw_ret ?_
      refine xb_r ?_
      refine xt_r ?_
      rw [cvE_few (by omega) (by omega), if_pos c2]
      refine ret_pure (v' := V.i (2 : Int)) (.inr rfl) (by kernel_rfl) (by kernel_rfl) (by kernel_rfl)
    · refine aw_skip ?_
      refine xb_n ?_
      refine xt_n ?_
      refine hK _ ?_
      clear hK K
      refine aw_seq_k fun K hK => ?_
      refine w_region (n' := 5) (by kernel_rfl) (by kernel_rfl) ?_
      refine aops_n hTT (M := []) (n := 1) [pv (2 : Nat) (V.i (0 : Int))] (by kernel_rfl) (by kernel_rfl) True.intro ?_
      refine aops_nil ?_
      refine xt_n ?_
      refine hK _ ?_
      clear hK K
      refine aw_ret ?_
      rw [cvE_few (by omega) (by omega), if_neg (by rw [c2]; decide)]
      refine ret_pure (v' := V.i (0 : Int)) (.inr rfl) (by kernel_rfl) (by kernel_rfl) (by kernel_rfl)
/-- a valid chain -/
def fChE (l : List Cv) : Int := if 8 < l.length then 6 else match l.find? fun c => decide (cvE c ≠ 0) with | some c => cvE c | none => 0
theorem fChE_first {l : List Cv} (h8 : l.length ≤ 8) {k : Nat} (hk : k < l.length) (h : cvE (gc l k) ≠ 0) (hj : ∀ j, j < k → cvE (gc l j) = 0) : fChE l = cvE (gc l k) := by
  have : l.find? (fun c => decide (cvE c ≠ 0)) = some (gc l k) := by
    rw [gc_eq hk] at h ⊢
    rw [List.find?_eq_some_iff_getElem]
    refine ⟨by simpa using h, k, hk, rfl, fun j hjk => ?_⟩
    have := hj j hjk
    rw [gc_eq (by omega)] at this
    simp [this]
  unfold fChE
  rw [if_neg (by omega), this]
theorem fChE_ok {l : List Cv} : fChE l = 0 ↔ l.length ≤ 8 ∧ ∀ k, k < l.length → cvE (gc l k) = 0 := by
  constructor
  · intro h
    have h8 : l.length ≤ 8 := by
      unfold fChE at h
      split at h
      · cases h
      · omega
    refine ⟨h8, fun k hk => ?_⟩
    by_cases hc : ∃ k, k < l.length ∧ cvE (gc l k) ≠ 0
    · obtain ⟨j, ⟨h1, h2⟩, h3⟩ := least _ hc
      rw [fChE_first h8 h1 h2 fun i hi => by
        by_cases h0 : cvE (gc l i) = 0
        · exact h0
        · have := h3 i ⟨by omega, h0⟩; omega] at h
      exact absurd h h2
    · by_cases h0 : cvE (gc l k) = 0
      · exact h0
      · exact absurd ⟨k, hk, h0⟩ hc
  · rintro ⟨h8, h⟩
    have : l.find? (fun c => decide (cvE c ≠ 0)) = none := by
      rw [List.find?_eq_none]
      intro x hx
      obtain ⟨k, hk, rfl⟩ := List.getElem_of_mem hx
      have := h k hk
      rw [gc_eq hk] at this
      simp [this]
    unfold fChE
    rw [if_neg (by omega), this]
def cvsL (l : List Cv) : Prop := l.length ≤ bigL ∧ ∀ k, k < l.length → cvL (gc l k)
set_option maxRecDepth 100000 in
theorem checkChain_ac (l : List Cv) (hl : cvsL l) : AC Try.prog 75 [V.cvs l] (.i (fChE l)) [] := by
  obtain ⟨hl1, hl2⟩ := hl
  unfold bigL at hl1
  refine ac_intro hTT hMX (fn := Try.f75) (N := _) ⟨Try.func75, rfl, Try.ntmps75, by kernel_rfl⟩ (by simp) fun C hC hF => ?_
  refine aw_seq_k fun K hK => ?_
  refine w_region (n' := 2) (by kernel_rfl) (by kernel_rfl) ?_
  refine aops_n hTT (M := []) (n := 1) [pv (2 : Nat) (V.i (0 : Int))] (by kernel_rfl) (by kernel_rfl) True.intro ?_
  refine aops_nil ?_
  refine xt_n ?_
  refine hK _ ?_
  clear hK K
  refine aw_seq_k fun K hK => ?_
  refine aw_seq_k fun K hK => ?_
  refine w_region (n' := 3) (by kernel_rfl) (by kernel_rfl) ?_
  refine aops_n hTT (M := []) (n := 3) [pv (6 : Nat) (V.sl (3 : Nat) (List.length l) fun (k : Nat) => [V.ints (Cv.feed (gc l k)), V.ints (Cv.back (gc l k)), V.i (Cv.share (gc l k))]), pv (7 : Nat) (V.i (↑(List.length l) : Int)), pv (8 : Nat) (V.b (decide ((8 : Int) < (↑(List.length l) : Int))))] (by kernel_rfl) (by kernel_rfl) True.intro ?_
  refine aops_nil ?_
  refine xt_n ?_
  refine hK _ ?_
  clear hK K
  refine w_cond (t := decide ((8 : Int) < (↑(List.length l) : Int))) (by kernel_rfl) (fun c1 => ?_) (fun c1 => ?_)
  · simp at c1
    refine aw_seq_k fun K hK => ?_
    refine w_region (n' := 4) (by kernel_rfl) (by kernel_rfl) ?_
    refine aops_n hTT (M := []) (n := 1) [pv (2 : Nat) (V.i (6 : Int))] (by kernel_rfl) (by kernel_rfl) True.intro ?_
    refine aops_nil ?_
    refine xt_n ?_
    refine hK _ ?_
    clear hK K
    refine aw_ret ?_
    refine xt_r ?_
    rw [show fChE l = 6 by unfold fChE; rw [if_pos (by omega)]]
    refine ret_pure (v' := V.i (6 : Int)) (.inr rfl) (by kernel_rfl) (by kernel_rfl) (by kernel_rfl)
  simp at c1
  refine aw_skip ?_
  refine xt_n ?_
  refine hK _ ?_
  clear hK K
  refine aw_seq_k fun K hK => ?_
  refine aw_seq_k fun K hK => ?_
  refine w_region (n' := 4) (by kernel_rfl) (by kernel_rfl) ?_
  refine aops_n hTT (M := []) (n := 3) [pv (9 : Nat) (V.sl (3 : Nat) (List.length l) fun (k : Nat) => [V.ints (Cv.feed (gc l k)), V.ints (Cv.back (gc l k)), V.i (Cv.share (gc l k))]), pv (10 : Nat) (V.i (↑(List.length l) : Int)), pv (11 : Nat) (V.i (0 : Int))] (by kernel_rfl) (by kernel_rfl) True.intro ?_
  refine aops_nil ?_
  refine xt_n ?_
  refine hK _ ?_
  clear hK K
  refine aw_block ?_
  refine w_loop (ι := Nat) (fun k => [(9, V.cvs l), (10, .i l.length), (11, .i k)]) (fun _ => []) (fun k => k ≤ l.length ∧ ∀ j, j < k → cvE (gc l j) = 0) (fun k => l.length - k) 0 ⟨Nat.zero_le _, fun j hj => by omega⟩ ?_ ?_
  · refine le_ren [] (.cons (by kernel_rfl) (.cons (by kernel_rfl) (.cons (by kernel_rfl) .nil))) .nil (by kernel_rfl) (by kernel_rfl)
  rintro k ⟨hk, hb⟩
  refine aw_seq_k fun K hK => ?_
  refine w_region (n' := 2) (by kernel_rfl) (by kernel_rfl) ?_
  refine aops_n hTT (M := []) (n := 1) [pv (12 : Nat) (V.b (decide ((↑k : Int) < (↑(List.length l) : Int))))] (by kernel_rfl) (by kernel_rfl) True.intro ?_
  refine aops_nil ?_
  refine xt_n ?_
  refine hK _ ?_
  clear hK K
  refine aw_seq_k fun K hK => ?_
  refine w_cond (t := decide ((↑k : Int) < (↑(List.length l) : Int))) (by kernel_rfl) (fun c2 => ?_) (fun c2 => ?_)
  · simp at c2
    refine aw_skip ?_
    refine xt_n ?_
    refine hK _ ?_
    clear hK K
    refine aw_seq_k fun K hK => ?_
    refine aw_block ?_
    refine aw_seq_k fun K hK => ?_
    refine w_region (n' := 3) (by kernel_rfl) (by kernel_rfl) ?_
    refine aops_n hTT (M := []) (n := 4) [pc (13 : Nat) ((0 : Int) ≤ (↑k : Int) ∧ (↑k : Int) < (↑(List.length l) : Int)) (V.ptr [V.sl (1 : Nat) (List.length (Cv.feed (gc l k))) fun (k_1 : Nat) => [V.i (gi (Cv.feed (gc l k)) k_1)], V.sl (1 : Nat) (List.length (Cv.back (gc l k))) fun (k_1 : Nat) => [V.i (gi (Cv.back (gc l k)) k_1)], V.i (Cv.share (gc l k))]), pv (14 : Nat) (V.agg [V.sl (1 : Nat) (List.length (Cv.feed (gc l k))) fun (k_1 : Nat) => [V.i (gi (Cv.feed (gc l k)) k_1)], V.sl (1 : Nat) (List.length (Cv.back (gc l k))) fun (k_1 : Nat) => [V.i (gi (Cv.back (gc l k)) k_1)], V.i (Cv.share (gc l k))]), pn (4 : Nat) (V.ref (200004 : Nat) (0 : Nat)) (200004 : Nat) (Ob.box (24 : Nat) [V.nil, V.nil, V.i (0 : Int)]), pw ((0 : Nat) + (3 : Nat) ≤ (3 : Nat)) (200004 : Nat) (Ob.box (24 : Nat) [V.sl (1 : Nat) (List.length (Cv.feed (gc l k))) fun (k_1 : Nat) => [V.i (gi (Cv.feed (gc l k)) k_1)], V.sl (1 : Nat) (List.length (Cv.back (gc l k))) fun (k_1 : Nat) => [V.i (gi (Cv.back (gc l k)) k_1)], V.i (Cv.share (gc l k))])] (by kernel_rfl) (by kernel_rfl) ⟨(by omega), (by omega), True.intro⟩ ?_
    refine aops_nil ?_
    refine xt_n ?_
    refine hK _ ?_
    clear hK K
    refine aw_seq_k fun K hK => ?_
    refine w_region (n' := 4) (by kernel_rfl) (by kernel_rfl) ?_
    refine aops_n hTT (M := []) (n := 1) [pc (15 : Nat) ((0 : Nat) ≤ (3 : Nat)) (V.agg [V.sl (1 : Nat) (List.length (Cv.feed (gc l k))) fun (k_1 : Nat) => [V.i (gi (Cv.feed (gc l k)) k_1)], V.sl (1 : Nat) (List.length (Cv.back (gc l k))) fun (k_1 : Nat) => [V.i (gi (Cv.back (gc l k)) k_1)], V.i (Cv.share (gc l k))])] (by kernel_rfl) (by kernel_rfl) ⟨(by omega), True.intro⟩ ?_
    refine e_call (first := []) (caps := []) (CheckCurve_ac (gc l k) (hl2 k c2)) (by kernel_rfl) (by kernel_rfl) (by kernel_rfl) (by kernel_rfl) (by kernel_rfl) ?_
    refine aops_n hTT (M := []) (n := 1) [pv (5 : Nat) (V.i (cvE (gc l k)))] (by kernel_rfl) (by kernel_rfl) True.intro ?_
    refine aops_nil ?_
    refine xt_n ?_
    refine hK _ ?_
    clear hK K
    refine aw_seq_k fun K hK => ?_
    refine w_region (n' := 5) (by kernel_rfl) (by kernel_rfl) ?_
    refine aops_n hTT (M := []) (n := 2) [pv (17 : Nat) (V.i (cvE (gc l k))), pv (18 : Nat) (V.b !decide (cvE (gc l k) = (0 : Int)))] (by kernel_rfl) (by kernel_rfl) True.intro ?_
    refine aops_nil ?_
    refine xt_n ?_
    refine hK _ ?_
    clear hK K
    refine w_cond (t := !decide (cvE (gc l k) = (0 : Int))) (by kernel_rfl) (fun c3 => ?_) (fun c3 => ?_)
    · simp at c3
      refine aw_seq_k fun K hK => ?_
      refine w_region (n' := 6) (by kernel_rfl) (by kernel_rfl) ?_
      refine aops_n hTT (M := []) (n := 2) [pv (19 : Nat) (V.i (cvE (gc l k))), pv (2 : Nat) (V.i (cvE (gc l k)))] (by kernel_rfl) (by kernel_rfl) True.intro ?_
      refine aops_nil ?_
      refine xt_n ?_
      refine hK _ ?_
      clear hK K
      refine aw_ret ?_
      refine xb_r ?_
      refine xt_r ?_
      refine xt_r ?_
      refine xb_r ?_
      refine xt_r ?_
      rw [fChE_first (by omega) c2 c3 hb]
      refine ret_pure (v' := V.i (cvE (gc l k))) (.inr rfl) (by kernel_rfl) (by kernel_rfl) (by kernel_rfl)
    · simp at c3
      refine aw_skip ?_
      refine xb_n ?_
      refine xt_n ?_
      refine hK _ ?_
      clear hK K
      refine w_region (n' := 6) (by kernel_rfl) (by kernel_rfl) ?_
      refine aops_n hTT (M := []) (n := 2) [pc (20 : Nat) ((-9223372036854775808 : Int) ≤ (↑k : Int) + (1 : Int) ∧ (↑k : Int) + (1 : Int) ≤ (9223372036854775807 : Int)) (V.i ((↑k : Int) + (1 : Int))), pv (11 : Nat) (V.i ((↑k : Int) + (1 : Int)))] (by kernel_rfl) (by kernel_rfl) ⟨(by omega), True.intro⟩ ?_
      refine aops_nil ?_
      refine xt_n ?_
      refine ⟨k + 1, ⟨by omega, fun j hj => ?_⟩, by refine le_ren [] (.cons (by kernel_rfl) (.cons (by kernel_rfl) (.cons (by kernel_rfl) .nil))) .nil (by kernel_rfl) (by kernel_rfl), by omega⟩
      by_cases h : j < k
      · exact hb j h
      · obtain rfl : j = k := by omega
        exact c3
  · simp at c2
    refine aw_exit ?_
    refine xt_x ?_
    refine xt_x ?_
    refine xb_same ?_
    refine xt_n ?_
    clear hK K
    refine hK _ ?_
    clear hK K
    refine aw_seq_k fun K hK => ?_
    refine w_region (n' := 3) (by kernel_rfl) (by kernel_rfl) ?_
    refine aops_n hTT (M := []) (n := 1) [pv (2 : Nat) (V.i (0 : Int))] (by kernel_rfl) (by kernel_rfl) True.intro ?_
    refine aops_nil ?_
    refine xt_n ?_
    refine hK _ ?_
    clear hK K
    refine aw_ret ?_
    rw [fChE_ok.2 ⟨by omega, fun k hk => hb k (by omega)⟩]
    refine ret_pure (v' := V.i (0 : Int)) (.inr rfl) (by kernel_rfl) (by kernel_rfl) (by kernel_rfl)
end Go.Proofs.Ytblipieipldanaa
