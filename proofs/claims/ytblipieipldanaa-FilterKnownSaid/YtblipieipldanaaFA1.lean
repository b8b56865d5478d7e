/-
  Curves and signals that are valid: both copies. Condition: as many elements as a slice can have.
-/
import Derived.Test.YtblipieipldanaaFPl2
import Derived.Test.YtblipieipldanaaMC
import Derived.Test.YtblipieipldanaaAbs26
namespace Go.Proofs.Ytblipieipldanaa
open Go.Ab Go.RowKit Go.Dw Go.Shelf

def bigL : Nat := 4611686018427387904
theorem tdiv_ediv (n d : Int) (hd : 1 ≤ d) : n / d = if n.tmod d < 0 then n.tdiv d - 1 else n.tdiv d := by
  have h1 := Int.mul_tdiv_add_tmod n d
  by_cases h0 : 0 ≤ n
  · have h2 : 0 ≤ n.tmod d := Int.tmod_nonneg d h0
    rw [if_neg (by omega), Int.tdiv_eq_ediv_of_nonneg h0]
  · have h2 : n.tmod d ≤ 0 := by
      have h4 := Int.tmod_nonneg (a := -n) d (by omega)
      rw [Int.neg_tmod] at h4
      omega
    have h3 : -d < n.tmod d := by
      have h4 := Int.tmod_lt_of_pos (-n) (b := d) (by omega)
      rw [Int.neg_tmod] at h4
      omega
    split
    · rename_i h
      refine Int.ediv_eq_iff_of_pos (by omega) |>.2 ?_ 
      rw [Int.sub_mul, Int.mul_comm (n.tdiv d) d]
      omega
    · rename_i h
      refine Int.ediv_eq_iff_of_pos (by omega) |>.2 ?_
      rw [Int.mul_comm (n.tdiv d) d]
      omega
theorem down_ac (n d : Int) (hn : -4611686018427387904 ≤ n ∧ n ≤ 4611686018427387904) (hd : 1 ≤ d) : AC Try.prog 99 [.i n, .i d] (.i (n / d)) [] := by
  refine ac_intro hTT hMX (fn := Try.f99) (N := _) ⟨Try.func99, rfl, Try.ntmps99, by kernel_rfl⟩ (by simp) fun C hC hF => ?_
  have hb : -4611686018427387904 ≤ n.tdiv d ∧ n.tdiv d ≤ 4611686018427387904 := by
    by_cases h0 : 0 ≤ n
    · rw [Int.tdiv_eq_ediv_of_nonneg h0]
      have h1 := Int.ediv_nonneg h0 (show 0 ≤ d by omega)
      have h2 := Int.ediv_le_self d h0
      omega
    · have e : n.tdiv d = -((-n) / d) := by
        rw [← Int.tdiv_eq_ediv_of_nonneg (by omega), Int.neg_tdiv]; omega
      have h1 := Int.ediv_nonneg (a := -n) (by omega) (show 0 ≤ d by omega)
      have h2 := Int.ediv_le_self (a := -n) d (by omega)
      omega
  refine aw_seq_k fun K hK => ?_
  refine w_region (n' := 2) (by kernel_rfl) (by kernel_rfl) ?_
  refine aops_n hTT (M := []) (n := 1) [pv (4 : Nat) (V.i (0 : Int))] (by kernel_rfl) (by kernel_rfl) True.intro ?_
  refine aops_nil ?_
  refine xt_n ?_
  refine hK _ ?_
  clear hK K
  refine aw_seq_k fun K hK => ?_
  refine w_region (n' := 3) (by kernel_rfl) (by kernel_rfl) ?_
  refine aops_n hTT (M := []) (n := 4) [pv (6 : Nat) (V.i n), pv (7 : Nat) (V.i d), pc (8 : Nat) ((0 : Int) < d ∧ (-9223372036854775808 : Int) ≤ n ∧ n ≤ (9223372036854775807 : Int)) (V.i (Int.tdiv n d)), pv (5 : Nat) (V.i (Int.tdiv n d))] (by kernel_rfl) (by kernel_rfl) ⟨⟨(by omega), (by omega)⟩, True.intro⟩ ?_
  refine aops_nil ?_
  refine xt_n ?_
  refine hK _ ?_
  clear hK K
  refine aw_seq_k fun K hK => ?_
  refine aw_seq_k fun K hK => ?_
  refine w_region (n' := 4) (by kernel_rfl) (by kernel_rfl) ?_
  refine aops_n hTT (M := []) (n := 4) [pv (9 : Nat) (V.i n), pv (10 : Nat) (V.i d), pc (11 : Nat) (d ≠ (0 : Int)) (V.i (Int.tmod n d)), pv (12 : Nat) (V.b (decide (Int.tmod n d < (0 : Int))))] (by kernel_rfl) (by kernel_rfl) ⟨(by omega), True.intro⟩ ?_
  refine aops_nil ?_
  refine xt_n ?_
  refine hK _ ?_
  clear hK K
  refine w_cond (t := decide (Int.tmod n d < (0 : Int))) (by kernel_rfl) (fun c1 => ?_) (fun c1 => ?_)
  · simp at c1
    refine w_region (n' := 5) (by kernel_rfl) (by kernel_rfl) ?_
    refine aops_n hTT (M := []) (n := 3) [pv (13 : Nat) (V.i (Int.tdiv n d)), pc (14 : Nat) ((-9223372036854775808 : Int) ≤ Int.tdiv n d - (1 : Int) ∧ Int.tdiv n d - (1 : Int) ≤ (9223372036854775807 : Int)) (V.i (Int.tdiv n d - (1 : Int))), pv (5 : Nat) (V.i (Int.tdiv n d - (1 : Int)))] (by kernel_rfl) (by kernel_rfl) ⟨(by omega), True.intro⟩ ?_
    refine aops_nil ?_
    refine xt_n ?_
    refine hK _ ?_
    clear hK K
    refine aw_seq_k fun K hK => ?_
    refine w_region (n' := 6) (by kernel_rfl) (by kernel_rfl) ?_
    refine aops_n hTT (M := []) (n := 2) [pv (15 : Nat) (V.i (Int.tdiv n d - (1 : Int))), pv (4 : Nat) (V.i (Int.tdiv n d - (1 : Int)))] (by kernel_rfl) (by kernel_rfl) True.intro ?_
    refine aops_nil ?_
    refine xt_n ?_
    refine hK _ ?_
    clear hK K
    refine aw_ret ?_
    rw [tdiv_ediv n d hd, if_pos c1]
    refine ret_pure (v' := V.i (Int.tdiv n d - (1 : Int))) (.inr rfl) (by kernel_rfl) (by kernel_rfl) (by kernel_rfl)
  · simp at c1
    refine aw_skip ?_
    refine xt_n ?_
    refine hK _ ?_
    clear hK K
    refine aw_seq_k fun K hK => ?_
    refine w_region (n' := 5) (by kernel_rfl) (by kernel_rfl) ?_
    refine aops_n hTT (M := []) (n := 2) [pv (15 : Nat) (V.i (Int.tdiv n d)), pv (4 : Nat) (V.i (Int.tdiv n d))] (by kernel_rfl) (by kernel_rfl) True.intro ?_
    refine aops_nil ?_
    refine xt_n ?_
    refine hK _ ?_
    clear hK K
    refine aw_ret ?_
    rw [tdiv_ediv n d hd, if_neg (by omega)]
    refine ret_pure (v' := V.i (Int.tdiv n d)) (.inr rfl) (by kernel_rfl) (by kernel_rfl) (by kernel_rfl)
theorem beyond_ac (n m : Int) (hm : 0 ≤ m ∧ m ≤ 4611686018427387904) : AC Try.prog 79 [.i n, .i m] (.b (bey n m)) [] := by
  refine ac_intro hTT hMX (fn := Try.f79) (N := _) ⟨Try.func79, rfl, Try.ntmps79, by kernel_rfl⟩ (by simp) fun C hC hF => ?_
  refine aw_seq_k fun K hK => ?_
  refine w_region (n' := 2) (by kernel_rfl) (by kernel_rfl) ?_
  refine aops_n hTT (M := []) (n := 1) [pv (4 : Nat) (V.b false)] (by kernel_rfl) (by kernel_rfl) True.intro ?_
  refine aops_nil ?_
  refine xt_n ?_
  refine hK _ ?_
  clear hK K
  refine aw_seq_k fun K hK => ?_
  refine w_region (n' := 3) (by kernel_rfl) (by kernel_rfl) ?_
  refine aops_n hTT (M := []) (n := 10) [pv (5 : Nat) (V.i n), pv (6 : Nat) (V.i m), pc (7 : Nat) ((-9223372036854775808 : Int) ≤ -m ∧ -m ≤ (9223372036854775807 : Int)) (V.i (-m)), pv (8 : Nat) (V.b (decide (n < -m))), pv (9 : Nat) (V.b (decide (n < -m))), pc (10 : Nat) ((True ∧ True) ∧ ((decide (n < -m) == false) = true → True)) (V.gd (decide (n < -m) == false) (V.i n)), pc (11 : Nat) ((True ∧ True) ∧ ((decide (n < -m) == false) = true → True)) (V.gd (decide (n < -m) == false) (V.i m)), pc (12 : Nat) ((((decide (n < -m) == false) = true → (decide (n < -m) == false) = true) ∧ ((decide (n < -m) == false) = true → (decide (n < -m) == false) = true) ∧ True) ∧ ((decide (n < -m) == false) = true → True)) (V.gd (decide (n < -m) == false) (V.b (decide (m < n)))), pc (13 : Nat) (True ∧ (decide (n < -m) = false → (decide (n < -m) == false) = true)) (V.b (decide (n < -m) || decide (m < n))), pv (4 : Nat) (V.b (decide (n < -m) || decide (m < n)))] (by kernel_rfl) (by kernel_rfl) ⟨(by omega), ⟨⟨True.intro, True.intro⟩, (fun _ => True.intro)⟩, ⟨⟨True.intro, True.intro⟩, (fun _ => True.intro)⟩, ⟨⟨(by (exact fun h => h)), ⟨(by (exact fun h => h)), True.intro⟩⟩, (fun _ => True.intro)⟩, ⟨True.intro, (by (intro h; rw [h]; rfl))⟩, True.intro⟩ ?_
  refine aops_nil ?_
  refine xt_n ?_
  refine hK _ ?_
  clear hK K
  refine aw_ret ?_
  unfold bey
  refine ret_pure (v' := V.b (decide (n < -m) || decide (m < n))) (.inr rfl) (by kernel_rfl) (by kernel_rfl) (by kernel_rfl)
set_option maxRecDepth 100000 in
theorem anyBeyond1_ac (n m : Int) (hm : 0 ≤ m ∧ m ≤ 4611686018427387904) : AC Try.prog 98 [.i n, .ptr [.i m]] (.b (bey n m)) [] := by
  refine ac_intro hTT hMX (fn := Try.f98) (N := _) ⟨Try.func98, rfl, Try.ntmps98, by kernel_rfl⟩ (by simp) fun C hC hF => ?_
  refine aw_seq_k fun K hK => ?_
  refine w_region (n' := 2) (by kernel_rfl) (by kernel_rfl) ?_
  refine aops_n hTT (M := []) (n := 1) [pv (3 : Nat) (V.b false)] (by kernel_rfl) (by kernel_rfl) True.intro ?_
  refine aops_nil ?_
  refine xt_n ?_
  refine hK _ ?_
  clear hK K
  refine aw_seq_k fun K hK => ?_
  refine w_region (n' := 3) (by kernel_rfl) (by kernel_rfl) ?_
  refine aops_n hTT (M := []) (n := 2) [pv (4 : Nat) (V.i n), pv (5 : Nat) (V.i m)] (by kernel_rfl) (by kernel_rfl) True.intro ?_
  refine e_call (first := []) (caps := []) (beyond_ac n m hm) (by kernel_rfl) (by kernel_rfl) (by kernel_rfl) (by kernel_rfl) (by kernel_rfl) ?_
  refine aops_n hTT (M := []) (n := 1) [pv (3 : Nat) (V.b (bey n m))] (by kernel_rfl) (by kernel_rfl) True.intro ?_
  refine aops_nil ?_
  refine xt_n ?_
  refine hK _ ?_
  clear hK K
  refine aw_ret ?_
  refine ret_pure (v' := V.b (bey n m)) (.inr rfl) (by kernel_rfl) (by kernel_rfl) (by kernel_rfl)
/-- the first element beyond -/
theorem idx_any (l : List Int) (m : Int) : (∃ k, k < l.length ∧ bey (gi l k) m = true ∧ ∀ j, j < k → bey (gi l j) m = false) ∨ ∀ k, k < l.length → bey (gi l k) m = false := by
  by_cases h : ∃ k, k < l.length ∧ bey (gi l k) m = true
  · obtain ⟨k, ⟨h1, h2⟩, h3⟩ := least _ h
    refine .inl ⟨k, h1, h2, fun j hj => ?_⟩
    cases hb : bey (gi l j) m with
    | false => rfl
    | true => have := h3 j ⟨by omega, hb⟩; omega
  · refine .inr fun k hk => ?_
    cases hb : bey (gi l k) m with
    | false => rfl
    | true => exact absurd ⟨k, hk, hb⟩ h
def firstB (l : List Int) (m : Int) : Int := match (List.range l.length).find? fun k => bey (gi l k) m with
  | some k => (k : Int)
  | none => -1
theorem firstB_some {l : List Int} {m : Int} {k : Nat} (hk : k < l.length) (h : bey (gi l k) m = true) (hj : ∀ j, j < k → bey (gi l j) m = false) : firstB l m = k := by
  have : (List.range l.length).find? (fun k => bey (gi l k) m) = some k := by
    rw [List.find?_range_eq_some]
    exact ⟨h, by simpa using hk, fun j hjk => by simp [hj j hjk]⟩
  rw [firstB, this]
theorem firstB_none {l : List Int} {m : Int} (h : ∀ k, k < l.length → bey (gi l k) m = false) : firstB l m = -1 := by
  have : (List.range l.length).find? (fun k => bey (gi l k) m) = none := by
    rw [List.find?_eq_none]
    intro x hx
    simp [h x (by simpa using hx)]
  rw [firstB, this]
theorem any_gi {l : List Int} {m : Int} : (l.any fun n => bey n m) = true ↔ ∃ k, k < l.length ∧ bey (gi l k) m = true := by
  rw [List.any_eq_true]
  constructor
  · rintro ⟨x, hx, h⟩
    obtain ⟨k, hk, rfl⟩ := List.getElem_of_mem hx
    exact ⟨k, hk, by rw [gi_eq hk]; exact h⟩
  · rintro ⟨k, hk, h⟩
    exact ⟨l[k], List.getElem_mem _, by rw [← gi_eq hk]; exact h⟩
theorem firstB_any (l : List Int) (m : Int) : decide (0 ≤ firstB l m) = l.any fun n => bey n m := by
  rcases idx_any l m with ⟨k, hk, h, hj⟩ | h
  · rw [firstB_some hk h hj, any_gi.2 ⟨k, hk, h⟩]; simp
  · rw [firstB_none h]
    cases ha : l.any fun n => bey n m with
    | false => rfl
    | true =>
      obtain ⟨k, hk, hb⟩ := any_gi.1 ha
      rw [h k hk] at hb; cases hb
set_option maxRecDepth 100000 in
theorem indexBeyond_ac (l : List Int) (m : Int) (hl : l.length ≤ bigL) (hm : 0 ≤ m ∧ m ≤ 4611686018427387904) : AC Try.prog 111 [V.ints l, .fn (.func 98) [] [.ptr [.i m]]] (.i (firstB l m)) [] := by
  unfold bigL at hl
  refine ac_intro hTT hMX (fn := Try.f111) (N := _) ⟨Try.func111, rfl, Try.ntmps111, by kernel_rfl⟩ (by simp) fun C hC hF => ?_
  refine aw_seq_k fun K hK => ?_
  refine w_region (n' := 2) (by kernel_rfl) (by kernel_rfl) ?_
  refine aops_n hTT (M := []) (n := 1) [pv (4 : Nat) (V.i (0 : Int))] (by kernel_rfl) (by kernel_rfl) True.intro ?_
  refine aops_nil ?_
  refine xt_n ?_
  refine hK _ ?_
  clear hK K
  refine aw_seq_k fun K hK => ?_
  refine aw_seq_k fun K hK => ?_
  refine w_region (n' := 3) (by kernel_rfl) (by kernel_rfl) ?_
  refine aops_n hTT (M := []) (n := 3) [pv (6 : Nat) (V.sl (1 : Nat) (List.length l) fun (k : Nat) => [V.i (gi l k)]), pv (7 : Nat) (V.i (↑(List.length l) : Int)), pv (8 : Nat) (V.i (0 : Int))] (by kernel_rfl) (by kernel_rfl) True.intro ?_
  refine aops_nil ?_
  refine xt_n ?_
  refine hK _ ?_
  clear hK K
  refine aw_block ?_
  refine w_loop (ι := Nat) (fun k => [(0, V.ints l), (1, .fn (.func 98) [] [.ptr [.i m]]), (7, .i l.length), (8, .i k)]) (fun _ => []) (fun k => k ≤ l.length ∧ ∀ j, j < k → bey (gi l j) m = false) (fun k => l.length - k) 0 ⟨Nat.zero_le _, fun j hj => by omega⟩ ?_ ?_
  · refine le_ren [] (.cons (by kernel_rfl) (.cons (by kernel_rfl) (.cons (by kernel_rfl) (.cons (by kernel_rfl) .nil)))) .nil (by kernel_rfl) (by kernel_rfl)
  rintro k ⟨hk, hb⟩
  refine aw_seq_k fun K hK => ?_
  refine w_region (n' := 2) (by kernel_rfl) (by kernel_rfl) ?_
  refine aops_n hTT (M := []) (n := 1) [pv (9 : Nat) (V.b (decide ((↑k : Int) < (↑(List.length l) : Int))))] (by kernel_rfl) (by kernel_rfl) True.intro ?_
  refine aops_nil ?_
  refine xt_n ?_
  refine hK _ ?_
  clear hK K
  refine aw_seq_k fun K hK => ?_
  refine w_cond (t := decide ((↑k : Int) < (↑(List.length l) : Int))) (by kernel_rfl) (fun c1 => ?_) (fun c1 => ?_)
  · simp at c1
    refine aw_skip ?_
    refine xt_n ?_
    refine hK _ ?_
    clear hK K
    refine aw_seq_k fun K hK => ?_
    refine aw_block ?_
    refine aw_seq_k fun K hK => ?_
    refine w_region (n' := 3) (by kernel_rfl) (by kernel_rfl) ?_
    refine aops_n hTT (M := []) (n := 2) [pv (10 : Nat) (V.i (↑k : Int)), pv (5 : Nat) (V.i (↑k : Int))] (by kernel_rfl) (by kernel_rfl) True.intro ?_
    refine aops_nil ?_
    refine xt_n ?_
    refine hK _ ?_
    clear hK K
    refine aw_seq_k fun K hK => ?_
    refine w_region (n' := 4) (by kernel_rfl) (by kernel_rfl) ?_
    refine aops_n hTT (M := []) (n := 5) [pv (11 : Nat) (V.fn (Fn.func (98 : Nat)) [] [V.ptr [V.i m]]), pv (12 : Nat) (V.sl (1 : Nat) (List.length l) fun (k : Nat) => [V.i (gi l k)]), pv (13 : Nat) (V.i (↑k : Int)), pc (14 : Nat) ((0 : Int) ≤ (↑k : Int) ∧ (↑k : Int) < (↑(List.length l) : Int)) (V.ptr [V.i (gi l k)]), pv (15 : Nat) (V.i (gi l k))] (by kernel_rfl) (by kernel_rfl) ⟨(by omega), True.intro⟩ ?_
    refine e_call (first := []) (caps := [V.ptr [V.i m]]) (anyBeyond1_ac (gi l k) m hm) (by kernel_rfl) (by kernel_rfl) (by kernel_rfl) (by kernel_rfl) (by kernel_rfl) ?_
    refine aops_nil ?_
    refine xt_n ?_
    refine hK _ ?_
    clear hK K
    refine w_cond (t := bey (gi l k) m) (by kernel_rfl) (fun c2 => ?_) (fun c2 => ?_)
    · refine aw_seq_k fun K hK => ?_
      refine w_region (n' := 5) (by kernel_rfl) (by kernel_rfl) ?_
      refine aops_n hTT (M := []) (n := 2) [pv (17 : Nat) (V.i (↑k : Int)), pv (4 : Nat) (V.i (↑k : Int))] (by kernel_rfl) (by kernel_rfl) True.intro ?_
      refine aops_nil ?_
      refine xt_n ?_
      refine hK _ ?_
      clear hK K
      refine aw_ret ?_
      refine xb_r ?_
      refine xt_r ?_
      refine xt_r ?_
      refine xb_r ?_
      refine xt_r ?_
      rw [firstB_some c1 c2 hb]
      refine ret_pure (v' := V.i (↑k : Int)) (.inr rfl) (by kernel_rfl) (by kernel_rfl) (by kernel_rfl)
    · refine aw_skip ?_
      refine xb_n ?_
      refine xt_n ?_
      refine hK _ ?_
      clear hK K
      refine w_region (n' := 5) (by kernel_rfl) (by kernel_rfl) ?_
      refine aops_n hTT (M := []) (n := 2) [pc (18 : Nat) ((-9223372036854775808 : Int) ≤ (↑k : Int) + (1 : Int) ∧ (↑k : Int) + (1 : Int) ≤ (9223372036854775807 : Int)) (V.i ((↑k : Int) + (1 : Int))), pv (8 : Nat) (V.i ((↑k : Int) + (1 : Int)))] (by kernel_rfl) (by kernel_rfl) ⟨(by omega), True.intro⟩ ?_
      refine aops_nil ?_
      refine xt_n ?_
      refine ⟨k + 1, ⟨by omega, fun j hj => ?_⟩, by refine le_ren [] (.cons (by kernel_rfl) (.cons (by kernel_rfl) (.cons (by kernel_rfl) (.cons (by kernel_rfl) .nil)))) .nil (by kernel_rfl) (by kernel_rfl), by omega⟩
      by_cases h : j < k
      · exact hb j h
      · obtain rfl : j = k := by omega
        exact c2
  · simp at c1
    refine aw_exit ?_
    refine xt_x ?_
    refine xt_x ?_
    refine xb_same ?_
    refine xt_n ?_
    clear hK K
    refine hK _ ?_
    clear hK K
    refine aw_seq_k fun K hK => ?_
    refine w_region (n' := 3) (by kernel_rfl) (by kernel_rfl) ?_
    refine aops_n hTT (M := []) (n := 1) [pv (4 : Nat) (V.i (-1 : Int))] (by kernel_rfl) (by kernel_rfl) True.intro ?_
    refine aops_nil ?_
    refine xt_n ?_
    refine hK _ ?_
    clear hK K
    refine aw_ret ?_
    rw [firstB_none fun j hj => hb j (by omega)]
    refine ret_pure (v' := V.i (-1 : Int)) (.inr rfl) (by kernel_rfl) (by kernel_rfl) (by kernel_rfl)
set_option maxRecDepth 100000 in
theorem containsBeyond_ac (l : List Int) (m : Int) (hl : l.length ≤ bigL) (hm : 0 ≤ m ∧ m ≤ 4611686018427387904) : AC Try.prog 97 [V.ints l, .fn (.func 98) [] [.ptr [.i m]]] (.b (l.any fun n => bey n m)) [] := by
  refine ac_intro hTT hMX (fn := Try.f97) (N := _) ⟨Try.func97, rfl, Try.ntmps97, by kernel_rfl⟩ (by simp) fun C hC hF => ?_
  refine aw_seq_k fun K hK => ?_
  refine w_region (n' := 2) (by kernel_rfl) (by kernel_rfl) ?_
  refine aops_n hTT (M := []) (n := 1) [pv (4 : Nat) (V.b false)] (by kernel_rfl) (by kernel_rfl) True.intro ?_
  refine aops_nil ?_
  refine xt_n ?_
  refine hK _ ?_
  clear hK K
  refine aw_seq_k fun K hK => ?_
  refine w_region (n' := 3) (by kernel_rfl) (by kernel_rfl) ?_
  refine aops_n hTT (M := []) (n := 2) [pv (5 : Nat) (V.sl (1 : Nat) (List.length l) fun (k : Nat) => [V.i (gi l k)]), pv (6 : Nat) (V.fn (Fn.func (98 : Nat)) [] [V.ptr [V.i m]])] (by kernel_rfl) (by kernel_rfl) True.intro ?_
  refine e_call (first := []) (caps := []) (indexBeyond_ac l m hl hm) (by kernel_rfl) (by kernel_rfl) (by kernel_rfl) (by kernel_rfl) (by kernel_rfl) ?_
  refine aops_n hTT (M := []) (n := 2) [pv (8 : Nat) (V.b (decide ((0 : Int) ≤ firstB l m))), pv (4 : Nat) (V.b (decide ((0 : Int) ≤ firstB l m)))] (by kernel_rfl) (by kernel_rfl) True.intro ?_
  refine aops_nil ?_
  refine xt_n ?_
  refine hK _ ?_
  clear hK K
  refine aw_ret ?_
  rw [← firstB_any]
  refine ret_pure (v' := V.b (decide ((0 : Int) ≤ firstB l m))) (.inr rfl) (by kernel_rfl) (by kernel_rfl) (by kernel_rfl)
set_option maxRecDepth 100000 in
theorem anyBeyond_ac (l : List Int) (m : Int) (hl : l.length ≤ bigL) (hm : 0 ≤ m ∧ m ≤ 4611686018427387904) : AC Try.prog 73 [V.ints l, .i m] (.b (l.any fun n => bey n m)) [] := by
  refine ac_intro hTT hMX (fn := Try.f73) (N := _) ⟨Try.func73, rfl, Try.ntmps73, by kernel_rfl⟩ (by simp) fun C hC hF => ?_
  refine aw_seq_k fun K hK => ?_
  refine w_region (n' := 2) (by kernel_rfl) (by kernel_rfl) ?_
  refine aops_n hTT (M := []) (n := 2) [pv (3 : Nat) (V.ptr [V.i m]), pv (4 : Nat) (V.b false)] (by kernel_rfl) (by kernel_rfl) True.intro ?_
  refine aops_nil ?_
  refine xt_n ?_
  refine hK _ ?_
  clear hK K
  refine aw_seq_k fun K hK => ?_
  refine w_region (n' := 3) (by kernel_rfl) (by kernel_rfl) ?_
  refine aops_n hTT (M := []) (n := 2) [pv (5 : Nat) (V.sl (1 : Nat) (List.length l) fun (k : Nat) => [V.i (gi l k)]), pv (6 : Nat) (V.fn (Fn.func (98 : Nat)) [] [V.ptr [V.i m]])] (by kernel_rfl) (by kernel_rfl) True.intro ?_
  refine e_call (first := []) (caps := []) (containsBeyond_ac l m hl hm) (by kernel_rfl) (by kernel_rfl) (by kernel_rfl) (by kernel_rfl) (by kernel_rfl) ?_
  refine aops_n hTT (M := []) (n := 1) [pv (4 : Nat) (V.b (List.any l fun (n : Int) => bey n m))] (by kernel_rfl) (by kernel_rfl) True.intro ?_
  refine aops_nil ?_
  refine xt_n ?_
  refine hK _ ?_
  clear hK K
  refine aw_ret ?_
  refine ret_pure (v' := V.b (List.any l fun (n : Int) => bey n m)) (.inr rfl) (by kernel_rfl) (by kernel_rfl) (by kernel_rfl)
/-- a valid signal -/
def sigE (l : List Int) : Int := if 4096 < l.length then 6 else if l.any fun n => bey n 32767 then 3 else 0
theorem sigE_ok {l : List Int} : sigE l = 0 ↔ l.length ≤ 4096 ∧ AllLe 32767 l := by
  unfold sigE
  rw [← any_bey]
  by_cases h : 4096 < l.length
  · rw [if_pos h]; simp; omega
  · rw [if_neg h]
    cases h1 : (l.any fun n => bey n 32767) <;> simp
    omega
set_option maxRecDepth 100000 in
theorem checkSignal_ac (l : List Int) (hl : l.length ≤ bigL) : AC Try.prog 76 [V.ints l] (.i (sigE l)) [] := by
  have hl' := hl
  unfold bigL at hl'
  refine ac_intro hTT hMX (fn := Try.f76) (N := _) ⟨Try.func76, rfl, Try.ntmps76, by kernel_rfl⟩ (by simp) fun C hC hF => ?_
  refine aw_seq_k fun K hK => ?_
  refine w_region (n' := 2) (by kernel_rfl) (by kernel_rfl) ?_
  refine aops_n hTT (M := []) (n := 1) [pv (2 : Nat) (V.i (0 : Int))] (by kernel_rfl) (by kernel_rfl) True.intro ?_
  refine aops_nil ?_
  refine xt_n ?_
  refine hK _ ?_
  clear hK K
  refine aw_seq_k fun K hK => ?_
  refine aw_seq_k fun K hK => ?_
  refine w_region (n' := 3) (by kernel_rfl) (by kernel_rfl) ?_
  refine aops_n hTT (M := []) (n := 3) [pv (3 : Nat) (V.sl (1 : Nat) (List.length l) fun (k : Nat) => [V.i (gi l k)]), pv (4 : Nat) (V.i (↑(List.length l) : Int)), pv (5 : Nat) (V.b (decide ((4096 : Int) < (↑(List.length l) : Int))))] (by kernel_rfl) (by kernel_rfl) True.intro ?_
  refine aops_nil ?_
  refine xt_n ?_
  refine hK _ ?_
  clear hK K
  refine w_cond (t := decide ((4096 : Int) < (↑(List.length l) : Int))) (by kernel_rfl) (fun c1 => ?_) (fun c1 => ?_)
  · simp at c1
    refine aw_seq_k fun K hK => ?_
    refine w_region (n' := 4) (by kernel_rfl) (by kernel_rfl) ?_
    refine aops_n hTT (M := []) (n := 1) [pv (2 : Nat) (V.i (6 : Int))] (by kernel_rfl) (by kernel_rfl) True.intro ?_
    refine aops_nil ?_
    refine xt_n ?_
    refine hK _ ?_
    clear hK K
    refine aw_ret ?_
    refine xt_r ?_
    rw [show sigE l = 6 by unfold sigE; rw [if_pos (by omega)]]
    refine ret_pure (v' := V.i (6 : Int)) (.inr rfl) (by kernel_rfl) (by kernel_rfl) (by kernel_rfl)
  · simp at c1
    refine aw_skip ?_
    refine xt_n ?_
    refine hK _ ?_
    clear hK K
    refine aw_seq_k fun K hK => ?_
    refine aw_seq_k fun K hK => ?_
    refine w_region (n' := 4) (by kernel_rfl) (by kernel_rfl) ?_
    refine aops_n hTT (M := []) (n := 1) [pv (6 : Nat) (V.sl (1 : Nat) (List.length l) fun (k : Nat) => [V.i (gi l k)])] (by kernel_rfl) (by kernel_rfl) True.intro ?_
    refine e_call (first := []) (caps := []) (anyBeyond_ac l 32767 hl (by decide)) (by kernel_rfl) (by kernel_rfl) (by kernel_rfl) (by kernel_rfl) (by kernel_rfl) ?_
    refine aops_nil ?_
    refine xt_n ?_
    refine hK _ ?_
    clear hK K
    refine w_cond (t := List.any l fun (n : Int) => bey n (32767 : Int)) (by kernel_rfl) (fun c2 => ?_) (fun c2 => ?_)
    · refine aw_seq_k fun K hK => ?_
      refine w_region (n' := 5) (by kernel_rfl) (by kernel_rfl) ?_
      refine aops_n hTT (M := []) (n := 1) [pv (2 : Nat) (V.i (3 : Int))] (by kernel_rfl) (by kernel_rfl) True.intro ?_
      refine aops_nil ?_
      refine xt_n ?_
      refine hK _ ?_
      clear hK K
      refine aw_ret ?_
      refine xt_r ?_
      rw [show sigE l = 3 by unfold sigE; rw [if_neg (by omega), if_pos c2]]
      refine ret_pure (v' := V.i (3 : Int)) (.inr rfl) (by kernel_rfl) (by kernel_rfl) (by kernel_rfl)
    · refine aw_skip ?_
      refine xt_n ?_
      refine hK _ ?_
      clear hK K
      refine aw_seq_k fun K hK => ?_
      refine w_region (n' := 5) (by kernel_rfl) (by kernel_rfl) ?_
      refine aops_n hTT (M := []) (n := 1) [pv (2 : Nat) (V.i (0 : Int))] (by kernel_rfl) (by kernel_rfl) True.intro ?_
      refine aops_nil ?_
      refine xt_n ?_
      refine hK _ ?_
      clear hK K
      refine aw_ret ?_
      rw [show sigE l = 0 by unfold sigE; rw [if_neg (by omega), if_neg (by rw [c2]; decide)]]
      refine ret_pure (v' := V.i (0 : Int)) (.inr rfl) (by kernel_rfl) (by kernel_rfl) (by kernel_rfl)
end Go.Proofs.Ytblipieipldanaa
