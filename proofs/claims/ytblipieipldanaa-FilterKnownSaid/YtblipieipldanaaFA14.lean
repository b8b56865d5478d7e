/-
  Programmes that are equal; what the laws of gains ask ahead. Condition: as many elements as a slice can have.
-/
import Derived.Test.YtblipieipldanaaFA13
namespace Go.Proofs.Ytblipieipldanaa
open Go.Ab Go.RowKit Go.Dw Go.Shelf

theorem ext_gp {l m : List Pt} (h : l.length = m.length) (hk : ∀ k, k < l.length → gp l k = gp m k) : l = m := by
  refine List.ext_getElem h fun k h1 h2 => ?_
  have := hk k h1
  rwa [gp_eq h1, gp_eq h2] at this
set_option maxRecDepth 100000 in
theorem refSamePrograms_ac (a b : List Pt) (ha : a.length ≤ bigL) (hb : b.length ≤ bigL) : AC Try.prog 41 [V.pts a, V.pts b] (.b (decide (a = b))) [] := by
  unfold bigL at ha hb
  refine ac_intro hTT hMX (fn := Try.f41) (N := _) ⟨Try.func41, rfl, Try.ntmps41, by kernel_rfl⟩ (by simp) fun C hC hF => ?_
  refine aw_seq_k fun K hK => ?_
  refine w_region (n' := 2) (by kernel_rfl) (by kernel_rfl) ?_
  refine aops_n hTT (M := []) (n := 1) [pv (4 : Nat) (V.b false)] (by kernel_rfl) (by kernel_rfl) True.intro ?_
  refine aops_nil ?_
  refine xt_n ?_
  refine hK _ ?_
  clear hK K
  refine aw_seq_k fun K hK => ?_
  refine aw_seq_k fun K hK => ?_
  refine w_region (n' := 3) (by kernel_rfl) (by kernel_rfl) ?_
  refine aops_n hTT (M := []) (n := 5) [pv (6 : Nat) (V.sl (2 : Nat) (List.length a) fun (k : Nat) => [V.i (Prod.fst (gp a k)), V.i (Prod.snd (gp a k))]), pv (7 : Nat) (V.i (↑(List.length a) : Int)), pv (8 : Nat) (V.sl (2 : Nat) (List.length b) fun (k : Nat) => [V.i (Prod.fst (gp b k)), V.i (Prod.snd (gp b k))]), pv (9 : Nat) (V.i (↑(List.length b) : Int)), pv (10 : Nat) (V.b !decide ((↑(List.length a) : Int) = (↑(List.length b) : Int)))] (by kernel_rfl) (by kernel_rfl) True.intro ?_
  refine aops_nil ?_
  refine xt_n ?_
  refine hK _ ?_
  clear hK K
  refine w_cond (t := !decide ((↑(List.length a) : Int) = (↑(List.length b) : Int))) (by kernel_rfl) (fun c1 => ?_) (fun c1 => ?_)
  · simp at c1
    refine aw_seq_k fun K hK => ?_
    refine w_region (n' := 4) (by kernel_rfl) (by kernel_rfl) ?_
    refine aops_n hTT (M := []) (n := 1) [pv (4 : Nat) (V.b false)] (by kernel_rfl) (by kernel_rfl) True.intro ?_
    refine aops_nil ?_
    refine xt_n ?_
    refine hK _ ?_
    clear hK K
    refine aw_ret ?_
    refine xt_r ?_
    rw [show decide (a = b) = false by simp; rintro rfl; omega]
    refine ret_pure (v' := V.b false) (.inr rfl) (by kernel_rfl) (by kernel_rfl) (by kernel_rfl)
  simp at c1
  refine aw_skip ?_
  refine xt_n ?_
  refine hK _ ?_
  clear hK K
  refine aw_seq_k fun K hK => ?_
  refine aw_seq_k fun K hK => ?_
  refine w_region (n' := 4) (by kernel_rfl) (by kernel_rfl) ?_
  refine aops_n hTT (M := []) (n := 1) [pv (5 : Nat) (V.i (0 : Int))] (by kernel_rfl) (by kernel_rfl) True.intro ?_
  refine aops_nil ?_
  refine xt_n ?_
  refine hK _ ?_
  clear hK K
  refine aw_block ?_
  refine w_loop (ι := Nat) (fun k => [(0, V.pts a), (1, V.pts b), (5, .i k)]) (fun _ => []) (fun k => k ≤ a.length ∧ ∀ j, j < k → gp a j = gp b j) (fun k => a.length - k) 0 ⟨Nat.zero_le _, fun j hj => by omega⟩ ?_ ?_
  · refine le_ren [] (.cons (by kernel_rfl) (.cons (by kernel_rfl) (.cons (by kernel_rfl) .nil))) .nil (by kernel_rfl) (by kernel_rfl)
  rintro k ⟨hk, hj⟩
  refine aw_seq_k fun K hK => ?_
  refine aw_seq_k fun K hK => ?_
  refine w_region (n' := 2) (by kernel_rfl) (by kernel_rfl) ?_
  refine aops_n hTT (M := []) (n := 4) [pv (11 : Nat) (V.i (↑k : Int)), pv (12 : Nat) (V.sl (2 : Nat) (List.length a) fun (k : Nat) => [V.i (Prod.fst (gp a k)), V.i (Prod.snd (gp a k))]), pv (13 : Nat) (V.i (↑(List.length a) : Int)), pv (14 : Nat) (V.b (decide ((↑k : Int) < (↑(List.length a) : Int))))] (by kernel_rfl) (by kernel_rfl) True.intro ?_
  refine aops_nil ?_
  refine xt_n ?_
  refine hK _ ?_
  clear hK K
  refine w_cond (t := decide ((↑k : Int) < (↑(List.length a) : Int))) (by kernel_rfl) (fun c2 => ?_) (fun c2 => ?_)
  · simp at c2
    refine aw_skip ?_
    refine xt_n ?_
    refine hK _ ?_
    clear hK K
    refine aw_seq_k fun K hK => ?_
    refine aw_block ?_
    refine aw_seq_k fun K hK => ?_
    refine w_regionD (n' := 3) (by kernel_rfl) (by kernel_rfl) ?_
    refine aops_n hTT (M := []) (n := 9) [pv (17 : Nat) (V.sl (2 : Nat) (List.length a) fun (k : Nat) => [V.i (Prod.fst (gp a k)), V.i (Prod.snd (gp a k))]), pv (18 : Nat) (V.i (↑k : Int)), pc (19 : Nat) ((0 : Int) ≤ (↑k : Int) ∧ (↑k : Int) < (↑(List.length a) : Int)) (V.ptr [V.i (Prod.fst (gp a k)), V.i (Prod.snd (gp a k))]), pv (20 : Nat) (V.agg [V.i (Prod.fst (gp a k)), V.i (Prod.snd (gp a k))]), pv (21 : Nat) (V.sl (2 : Nat) (List.length b) fun (k : Nat) => [V.i (Prod.fst (gp b k)), V.i (Prod.snd (gp b k))]), pv (22 : Nat) (V.i (↑k : Int)), pc (23 : Nat) ((0 : Int) ≤ (↑k : Int) ∧ (↑k : Int) < (↑(List.length b) : Int)) (V.ptr [V.i (Prod.fst (gp b k)), V.i (Prod.snd (gp b k))]), pv (24 : Nat) (V.agg [V.i (Prod.fst (gp b k)), V.i (Prod.snd (gp b k))]), pv (25 : Nat) (V.b !(decide (Prod.fst (gp a k) = Prod.fst (gp b k)) && (decide (Prod.snd (gp a k) = Prod.snd (gp b k)) && true)))] (by kernel_rfl) (by kernel_rfl) ⟨(by omega), (by omega), True.intro⟩ ?_
    refine aops_nil ⟨by kernel_rfl, ?_⟩
    refine xt_n ?_
    refine hK _ ?_
    clear hK K
    refine w_cond (t := !(decide (Prod.fst (gp a k) = Prod.fst (gp b k)) && (decide (Prod.snd (gp a k) = Prod.snd (gp b k)) && true))) (by kernel_rfl) (fun c3 => ?_) (fun c3 => ?_)
    · simp at c3
      refine aw_seq_k fun K hK => ?_
      refine w_region (n' := 4) (by kernel_rfl) (by kernel_rfl) ?_
      refine aops_n hTT (M := []) (n := 1) [pv (4 : Nat) (V.b false)] (by kernel_rfl) (by kernel_rfl) True.intro ?_
      refine aops_nil ?_
      refine xt_n ?_
      refine hK _ ?_
      clear hK K
      refine aw_ret ?_
      refine xb_r ?_
      refine xt_r ?_
      refine xt_r ?_
      refine xb_r ?_
      refine xt_r ?_
      rw [show decide (a = b) = false by simp; rintro rfl; simp at c3]
      refine ret_pure (v' := V.b false) (.inr rfl) (by kernel_rfl) (by kernel_rfl) (by kernel_rfl)
    · simp at c3
      refine aw_skip ?_
      refine xb_n ?_
      refine xt_n ?_
      refine hK _ ?_
      clear hK K
      refine w_region (n' := 4) (by kernel_rfl) (by kernel_rfl) ?_
      refine aops_n hTT (M := []) (n := 3) [pv (15 : Nat) (V.i (↑k : Int)), pc (16 : Nat) ((-9223372036854775808 : Int) ≤ (↑k : Int) + (1 : Int) ∧ (↑k : Int) + (1 : Int) ≤ (9223372036854775807 : Int)) (V.i ((↑k : Int) + (1 : Int))), pv (5 : Nat) (V.i ((↑k : Int) + (1 : Int)))] (by kernel_rfl) (by kernel_rfl) ⟨(by omega), True.intro⟩ ?_
      refine aops_nil ?_
      refine xt_n ?_
      refine ⟨k + 1, ⟨by omega, fun j hjk => ?_⟩, by refine le_ren [] (.cons (by kernel_rfl) (.cons (by kernel_rfl) (.cons (by kernel_rfl) .nil))) .nil (by kernel_rfl) (by kernel_rfl), by omega⟩
      by_cases h : j < k
      · exact hj j h
      · obtain rfl : j = k := by omega
        exact Prod.ext c3.1 c3.2
  · simp at c2
    refine aw_exit ?_
    refine xt_x ?_
    refine xt_x ?_
    refine xb_same ?_
    refine xt_n ?_
    clear hK K
    refine hK _ ?_
    clear hK K
    refine aw_seq_k fun K hK => ?_
    refine w_region (n' := 3) (by kernel_rfl) (by kernel_rfl) ?_
    refine aops_n hTT (M := []) (n := 1) [pv (4 : Nat) (V.b true)] (by kernel_rfl) (by kernel_rfl) True.intro ?_
    refine aops_nil ?_
    refine xt_n ?_
    refine hK _ ?_
    clear hK K
    refine aw_ret ?_
    rw [show decide (a = b) = true by simp; exact ext_gp (by omega) fun k hk => hj k (by omega)]
    refine ret_pure (v' := V.b true) (.inr rfl) (by kernel_rfl) (by kernel_rfl) (by kernel_rfl)
/-- needs, or nothing -/
def needR (p : List Pt) (c : Int) : List Int := if needE p c = 0 then needL p c else []
theorem needR_big {p : List Pt} {c : Int} (hl : p.length ≤ bigL) : (needR p c).length ≤ bigL := by
  unfold needR
  split
  · rw [needL_len]; exact hl
  · exact Nat.zero_le _
theorem limR_big {p : List Pt} {c s : Int} (hl : p.length ≤ bigL) : (limR p c s).length ≤ bigL := by
  unfold limR
  split
  · rw [limL_len]; exact hl
  · exact Nat.zero_le _
end Go.Proofs.Ytblipieipldanaa
