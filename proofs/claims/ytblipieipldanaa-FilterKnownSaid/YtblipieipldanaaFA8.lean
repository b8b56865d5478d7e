/-
  The reference's curves and chains; lists that are equal; what the laws ask ahead. Condition: as many elements as a slice can have.
-/
import Derived.Test.YtblipieipldanaaFA7
import Derived.Test.YtblipieipldanaaAbs27
namespace Go.Proofs.Ytblipieipldanaa
open Go.Ab Go.RowKit Go.Dw Go.Shelf

set_option maxRecDepth 100000 in
theorem refSame_ac (a b : List Int) (ha : a.length ≤ bigL) (hb : b.length ≤ bigL) : AC Try.prog 26 [V.ints a, V.ints b] (.b (decide (a = b))) [] := by
  unfold bigL at ha hb
  refine ac_intro hTT hMX (fn := Try.f26) (N := _) ⟨Try.func26, rfl, Try.ntmps26, by kernel_rfl⟩ (by simp) fun C hC hF => ?_
  refine aw_seq_k fun K hK => ?_
  refine w_region (n' := 2) (by kernel_rfl) (by kernel_rfl) ?_
  refine aops_n hTT (M := []) (n := 1) [pv (4 : Nat) (V.b false)] (by kernel_rfl) (by kernel_rfl) True.intro ?_
  refine aops_nil ?_
  refine xt_n ?_
  refine hK _ ?_
  clear hK K
  refine aw_seq_k fun K hK => ?_
  refine aw_seq_k fun K hK => ?_
  refine w_region (n' := 3) (by kernel_rfl) (by kernel_rfl) ?_
  refine aops_n hTT (M := []) (n := 5) [pv (6 : Nat) (V.sl (1 : Nat) (List.length a) fun (k : Nat) => [V.i (gi a k)]), pv (7 : Nat) (V.i (↑(List.length a) : Int)), pv (8 : Nat) (V.sl (1 : Nat) (List.length b) fun (k : Nat) => [V.i (gi b k)]), pv (9 : Nat) (V.i (↑(List.length b) : Int)), pv (10 : Nat) (V.b !decide ((↑(List.length a) : Int) = (↑(List.length b) : Int)))] (by kernel_rfl) (by kernel_rfl) True.intro ?_
  refine aops_nil ?_
  refine xt_n ?_
  refine hK _ ?_
  clear hK K
  refine w_cond (t := !decide ((↑(List.length a) : Int) = (↑(List.length b) : Int))) (by kernel_rfl) (fun c1 => ?_) (fun c1 => ?_)
  · simp at c1
    refine aw_seq_k fun K hK => ?_
    refine w_region (n' := 4) (by kernel_rfl) (by kernel_rfl) ?_
    refine aops_n hTT (M := []) (n := 1) [pv (4 : Nat) (V.b false)] (by kernel_rfl) (by kernel_rfl) True.intro ?_
    refine aops_nil ?_
    refine xt_n ?_
    refine hK _ ?_
    clear hK K
    refine aw_ret ?_
    refine xt_r ?_
    rw [show decide (a = b) = false by simp; rintro rfl; omega]
    refine ret_pure (v' := V.b false) (.inr rfl) (by kernel_rfl) (by kernel_rfl) (by kernel_rfl)
  simp at c1
  refine aw_skip ?_
  refine xt_n ?_
  refine hK _ ?_
  clear hK K
  refine aw_seq_k fun K hK => ?_
  refine aw_seq_k fun K hK => ?_
  refine w_region (n' := 4) (by kernel_rfl) (by kernel_rfl) ?_
  refine aops_n hTT (M := []) (n := 1) [pv (5 : Nat) (V.i (0 : Int))] (by kernel_rfl) (by kernel_rfl) True.intro ?_
  refine aops_nil ?_
  refine xt_n ?_
  refine hK _ ?_
  clear hK K
  refine aw_block ?_
  refine w_loop (ι := Nat) (fun k => [(0, V.ints a), (1, V.ints b), (5, .i k)]) (fun _ => []) (fun k => k ≤ a.length ∧ ∀ j, j < k → gi a j = gi b j) (fun k => a.length - k) 0 ⟨Nat.zero_le _, fun j hj => by omega⟩ ?_ ?_
  · refine le_ren [] (.cons (by kernel_rfl) (.cons (by kernel_rfl) (.cons (by kernel_rfl) .nil))) .nil (by kernel_rfl) (by kernel_rfl)
  rintro k ⟨hk, hj⟩
  refine aw_seq_k fun K hK => ?_
  refine aw_seq_k fun K hK => ?_
  refine w_region (n' := 2) (by kernel_rfl) (by kernel_rfl) ?_
  refine aops_n hTT (M := []) (n := 4) [pv (11 : Nat) (V.i (↑k : Int)), pv (12 : Nat) (V.sl (1 : Nat) (List.length a) fun (k : Nat) => [V.i (gi a k)]), pv (13 : Nat) (V.i (↑(List.length a) : Int)), pv (14 : Nat) (V.b (decide ((↑k : Int) < (↑(List.length a) : Int))))] (by kernel_rfl) (by kernel_rfl) True.intro ?_
  refine aops_nil ?_
  refine xt_n ?_
  refine hK _ ?_
  clear hK K
  refine w_cond (t := decide ((↑k : Int) < (↑(List.length a) : Int))) (by kernel_rfl) (fun c2 => ?_) (fun c2 => ?_)
  · simp at c2
    refine aw_skip ?_
    refine xt_n ?_
    refine hK _ ?_
    clear hK K
    refine aw_seq_k fun K hK => ?_
    refine aw_block ?_
    refine aw_seq_k fun K hK => ?_
    refine w_regionD (n' := 3) (by kernel_rfl) (by kernel_rfl) ?_
    refine aops_n hTT (M := []) (n := 9) [pv (17 : Nat) (V.sl (1 : Nat) (List.length a) fun (k : Nat) => [V.i (gi a k)]), pv (18 : Nat) (V.i (↑k : Int)), pc (19 : Nat) ((0 : Int) ≤ (↑k : Int) ∧ (↑k : Int) < (↑(List.length a) : Int)) (V.ptr [V.i (gi a k)]), pv (20 : Nat) (V.i (gi a k)), pv (21 : Nat) (V.sl (1 : Nat) (List.length b) fun (k : Nat) => [V.i (gi b k)]), pv (22 : Nat) (V.i (↑k : Int)), pc (23 : Nat) ((0 : Int) ≤ (↑k : Int) ∧ (↑k : Int) < (↑(List.length b) : Int)) (V.ptr [V.i (gi b k)]), pv (24 : Nat) (V.i (gi b k)), pv (25 : Nat) (V.b !decide (gi a k = gi b k))] (by kernel_rfl) (by kernel_rfl) ⟨(by omega), (by omega), True.intro⟩ ?_
    refine aops_nil ⟨by kernel_rfl, ?_⟩
    refine xt_n ?_
    refine hK _ ?_
    clear hK K
    refine w_cond (t := !decide (gi a k = gi b k)) (by kernel_rfl) (fun c3 => ?_) (fun c3 => ?_)
    · simp at c3
      refine aw_seq_k fun K hK => ?_
      refine w_region (n' := 4) (by kernel_rfl) (by kernel_rfl) ?_
      refine aops_n hTT (M := []) (n := 1) [pv (4 : Nat) (V.b false)] (by kernel_rfl) (by kernel_rfl) True.intro ?_
      refine aops_nil ?_
      refine xt_n ?_
      refine hK _ ?_
      clear hK K
      refine aw_ret ?_
      refine xb_r ?_
      refine xt_r ?_
      refine xt_r ?_
      refine xb_r ?_
      refine xt_r ?_
      rw [show decide (a = b) = false by simp; rintro rfl; exact c3 rfl]
      refine ret_pure (v' := V.b false) (.inr rfl) (by kernel_rfl) (by kernel_rfl) (by kernel_rfl)
    · simp at c3
      refine aw_skip ?_
      refine xb_n ?_
      refine xt_n ?_
      refine hK _ ?_
      clear hK K
      refine w_region (n' := 4) (by kernel_rfl) (by kernel_rfl) ?_
      refine aops_n hTT (M := []) (n := 3) [pv (15 : Nat) (V.i (↑k : Int)), pc (16 : Nat) ((-9223372036854775808 : Int) ≤ (↑k : Int) + (1 : Int) ∧ (↑k : Int) + (1 : Int) ≤ (9223372036854775807 : Int)) (V.i ((↑k : Int) + (1 : Int))), pv (5 : Nat) (V.i ((↑k : Int) + (1 : Int)))] (by kernel_rfl) (by kernel_rfl) ⟨(by omega), True.intro⟩ ?_
      refine aops_nil ?_
      refine xt_n ?_
      refine ⟨k + 1, ⟨by omega, fun j hjk => ?_⟩, by refine le_ren [] (.cons (by kernel_rfl) (.cons (by kernel_rfl) (.cons (by kernel_rfl) .nil))) .nil (by kernel_rfl) (by kernel_rfl), by omega⟩
      by_cases h : j < k
      · exact hj j h
      · obtain rfl : j = k := by omega
        exact c3
  · simp at c2
    refine aw_exit ?_
    refine xt_x ?_
    refine xt_x ?_
    refine xb_same ?_
    refine xt_n ?_
    clear hK K
    refine hK _ ?_
    clear hK K
    refine aw_seq_k fun K hK => ?_
    refine w_region (n' := 3) (by kernel_rfl) (by kernel_rfl) ?_
    refine aops_n hTT (M := []) (n := 1) [pv (4 : Nat) (V.b true)] (by kernel_rfl) (by kernel_rfl) True.intro ?_
    refine aops_nil ?_
    refine xt_n ?_
    refine hK _ ?_
    clear hK K
    refine aw_ret ?_
    rw [show decide (a = b) = true by simp; exact ext_gi (by omega) fun k hk => hj k (by omega)]
    refine ret_pure (v' := V.b true) (.inr rfl) (by kernel_rfl) (by kernel_rfl) (by kernel_rfl)
set_option maxRecDepth 100000 in
theorem fLong_ac (n m : Int) : AC Try.prog 28 [.i n, .i m] (.b ((decide (m < n) && decide (n ≤ 4096)) || decide (4116 < n))) [] := by
  refine ac_intro hTT hMX (fn := Try.f28) (N := _) ⟨Try.func28, rfl, Try.ntmps28, by kernel_rfl⟩ (by simp) fun C hC hF => ?_
  refine aw_seq_k fun K hK => ?_
  refine w_region (n' := 2) (by kernel_rfl) (by kernel_rfl) ?_
  refine aops_n hTT (M := []) (n := 1) [pv (4 : Nat) (V.b false)] (by kernel_rfl) (by kernel_rfl) True.intro ?_
  refine aops_nil ?_
  refine xt_n ?_
  refine hK _ ?_
  clear hK K
  refine aw_seq_k fun K hK => ?_
  refine w_region (n' := 3) (by kernel_rfl) (by kernel_rfl) ?_
  refine aops_n hTT (M := []) (n := 12) [pv (5 : Nat) (V.i n), pv (6 : Nat) (V.i m), pv (7 : Nat) (V.b (decide (m < n))), pv (8 : Nat) (V.b (decide (m < n))), pc (9 : Nat) ((True ∧ True) ∧ ((decide (m < n) == true) = true → True)) (V.gd (decide (m < n) == true) (V.i n)), pc (10 : Nat) ((((decide (m < n) == true) = true → (decide (m < n) == true) = true) ∧ True ∧ True) ∧ ((decide (m < n) == true) = true → True)) (V.gd (decide (m < n) == true) (V.b (decide (n ≤ (4096 : Int))))), pc (11 : Nat) ((decide (m < n) = true → (decide (m < n) == true) = true) ∧ True) (V.b (decide (m < n) && decide (n ≤ (4096 : Int)))), pv (12 : Nat) (V.b (decide (m < n) && decide (n ≤ (4096 : Int)))), pc (13 : Nat) ((True ∧ True) ∧ (((decide (m < n) && decide (n ≤ (4096 : Int))) == false) = true → True)) (V.gd ((decide (m < n) && decide (n ≤ (4096 : Int))) == false) (V.i n)), pc (14 : Nat) (((((decide (m < n) && decide (n ≤ (4096 : Int))) == false) = true → ((decide (m < n) && decide (n ≤ (4096 : Int))) == false) = true) ∧ True ∧ True) ∧ (((decide (m < n) && decide (n ≤ (4096 : Int))) == false) = true → True)) (V.gd ((decide (m < n) && decide (n ≤ (4096 : Int))) == false) (V.b (decide ((4116 : Int) < n)))), pc (15 : Nat) (True ∧ ((decide (m < n) && decide (n ≤ (4096 : Int))) = false → ((decide (m < n) && decide (n ≤ (4096 : Int))) == false) = true)) (V.b (decide (m < n) && decide (n ≤ (4096 : Int)) || decide ((4116 : Int) < n))), pv (4 : Nat) (V.b (decide (m < n) && decide (n ≤ (4096 : Int)) || decide ((4116 : Int) < n)))] (by kernel_rfl) (by kernel_rfl) ⟨⟨⟨True.intro, True.intro⟩, (fun _ => True.intro)⟩, ⟨⟨(by (exact fun h => h)), ⟨True.intro, True.intro⟩⟩, (fun _ => True.intro)⟩, ⟨(by (intro h; rw [h]; rfl)), True.intro⟩, ⟨⟨True.intro, True.intro⟩, (fun _ => True.intro)⟩, ⟨⟨(by (exact fun h => h)), ⟨True.intro, True.intro⟩⟩, (fun _ => True.intro)⟩, ⟨True.intro, (by (intro h; rw [h]; rfl))⟩, True.intro⟩ ?_
  refine aops_nil ?_
  refine xt_n ?_
  refine hK _ ?_
  clear hK K
  refine aw_ret ?_
  refine ret_pure (v' := V.b (decide (m < n) && decide (n ≤ (4096 : Int)) || decide ((4116 : Int) < n))) (.inr rfl) (by kernel_rfl) (by kernel_rfl) (by kernel_rfl)
end Go.Proofs.Ytblipieipldanaa
