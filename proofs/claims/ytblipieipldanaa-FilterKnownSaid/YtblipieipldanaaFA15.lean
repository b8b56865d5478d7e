/-
  Bounds and headrooms: both copies. Condition: as many elements as a slice can have.
-/
import Derived.Test.YtblipieipldanaaFA11
namespace Go.Proofs.Ytblipieipldanaa
open Go.Ab Go.RowKit Go.Dw Go.Shelf

def amtL (l : List Int) : Int := amt l l.length
theorem amt_bd {l : List Int} {m : Int} (hm : 0 ≤ m) (h : AllLe m l) : ∀ k : Nat, amt l k ≤ k * m
  | 0 => by simp [amt]
  | k + 1 => by
    have ih := amt_bd hm h k
    have := h.gi hm k
    rw [amt, show ((k + 1 : Nat) : Int) * m = k * m + m by rw [Int.natCast_succ, Int.add_mul, Int.one_mul]]
    omega
theorem amtL_bd {l : List Int} (h : AllLe 4096 l) (hl : l.length ≤ 8) : 0 ≤ amtL l ∧ amtL l ≤ 32768 := by
  refine ⟨amt_nonneg _ _, ?_⟩
  have := amt_bd (by decide) h l.length
  unfold amtL
  omega
set_option maxRecDepth 100000 in
theorem amounts_ac (l : List Int) (h : AllLe 4096 l) (hl : l.length ≤ 8) : AC Try.prog 104 [V.ints l] (.i (amtL l)) [] := by
  refine ac_intro hTT hMX (fn := Try.f104) (N := _) ⟨Try.func104, rfl, Try.ntmps104, by kernel_rfl⟩ (by simp) fun C hC hF => ?_
  refine aw_seq_k fun K hK => ?_
  refine w_region (n' := 2) (by kernel_rfl) (by kernel_rfl) ?_
  refine aops_n hTT (M := []) (n := 1) [pv (2 : Nat) (V.i (0 : Int))] (by kernel_rfl) (by kernel_rfl) True.intro ?_
  refine aops_nil ?_
  refine xt_n ?_
  refine hK _ ?_
  clear hK K
  refine aw_seq_k fun K hK => ?_
  refine w_region (n' := 3) (by kernel_rfl) (by kernel_rfl) ?_
  refine aops_n hTT (M := []) (n := 1) [pv (3 : Nat) (V.i (0 : Int))] (by kernel_rfl) (by kernel_rfl) True.intro ?_
  refine aops_nil ?_
  refine xt_n ?_
  refine hK _ ?_
  clear hK K
  refine aw_seq_k fun K hK => ?_
  refine aw_seq_k fun K hK => ?_
  refine w_region (n' := 4) (by kernel_rfl) (by kernel_rfl) ?_
  refine aops_n hTT (M := []) (n := 3) [pv (6 : Nat) (V.sl (1 : Nat) (List.length l) fun (k : Nat) => [V.i (gi l k)]), pv (7 : Nat) (V.i (↑(List.length l) : Int)), pv (8 : Nat) (V.i (0 : Int))] (by kernel_rfl) (by kernel_rfl) True.intro ?_
  refine aops_nil ?_
  refine xt_n ?_
  refine hK _ ?_
  clear hK K
  refine aw_block ?_
  refine w_loop (ι := Nat) (fun k => [(3, .i (amt l k)), (6, V.ints l), (7, .i l.length), (8, .i k)]) (fun _ => []) (fun k => k ≤ l.length) (fun k => l.length - k) 0 (Nat.zero_le _) ?_ ?_
  · refine le_ren [] (.cons (by kernel_rfl) (.cons (by kernel_rfl) (.cons (by kernel_rfl) (.cons (by kernel_rfl) .nil)))) .nil (by kernel_rfl) (by kernel_rfl)
  intro k hk
  have b1 := amt_bd (by decide) h k
  have b2 := amt_nonneg l k
  have b3 := h.gi (by decide) k
  refine aw_seq_k fun K hK => ?_
  refine w_region (n' := 2) (by kernel_rfl) (by kernel_rfl) ?_
  refine aops_n hTT (M := []) (n := 1) [pv (9 : Nat) (V.b (decide ((↑k : Int) < (↑(List.length l) : Int))))] (by kernel_rfl) (by kernel_rfl) True.intro ?_
  refine aops_nil ?_
  refine xt_n ?_
  refine hK _ ?_
  clear hK K
  refine aw_seq_k fun K hK => ?_
  refine w_cond (t := decide ((↑k : Int) < (↑(List.length l) : Int))) (by kernel_rfl) (fun c1 => ?_) (fun c1 => ?_)
  · simp at c1
    refine aw_skip ?_
    refine xt_n ?_
    refine hK _ ?_
    clear hK K
    refine aw_seq_k fun K hK => ?_
    refine aw_block ?_
    refine aw_seq_k fun K hK => ?_
    refine w_region (n' := 3) (by kernel_rfl) (by kernel_rfl) ?_
    refine aops_n hTT (M := []) (n := 3) [pc (10 : Nat) ((0 : Int) ≤ (↑k : Int) ∧ (↑k : Int) < (↑(List.length l) : Int)) (V.ptr [V.i (gi l k)]), pv (11 : Nat) (V.i (gi l k)), pv (5 : Nat) (V.i (gi l k))] (by kernel_rfl) (by kernel_rfl) ⟨(by omega), True.intro⟩ ?_
    refine aops_nil ?_
    refine xt_n ?_
    refine hK _ ?_
    clear hK K
    refine w_region (n' := 4) (by kernel_rfl) (by kernel_rfl) ?_
    refine aops_n hTT (M := []) (n := 7) [pv (12 : Nat) (V.i (amt l k)), pv (13 : Nat) (V.i (gi l k)), pv (14 : Nat) (V.i (gi l k)), pc (15 : Nat) ((-9223372036854775808 : Int) ≤ -gi l k ∧ -gi l k ≤ (9223372036854775807 : Int)) (V.i (-gi l k)), pv (16 : Nat) (V.i (max (gi l k) (-gi l k))), pc (17 : Nat) ((-9223372036854775808 : Int) ≤ amt l k + max (gi l k) (-gi l k) ∧ amt l k + max (gi l k) (-gi l k) ≤ (9223372036854775807 : Int)) (V.i (amt l k + max (gi l k) (-gi l k))), pv (3 : Nat) (V.i (amt l k + max (gi l k) (-gi l k)))] (by kernel_rfl) (by kernel_rfl) ⟨(by omega), (by omega), True.intro⟩ ?_
    refine aops_nil ?_
    refine xb_n ?_
    refine xt_n ?_
    refine hK _ ?_
    clear hK K
    refine w_region (n' := 5) (by kernel_rfl) (by kernel_rfl) ?_
    refine aops_n hTT (M := []) (n := 2) [pc (18 : Nat) ((-9223372036854775808 : Int) ≤ (↑k : Int) + (1 : Int) ∧ (↑k : Int) + (1 : Int) ≤ (9223372036854775807 : Int)) (V.i ((↑k : Int) + (1 : Int))), pv (8 : Nat) (V.i ((↑k : Int) + (1 : Int)))] (by kernel_rfl) (by kernel_rfl) ⟨(by omega), True.intro⟩ ?_
    refine aops_nil ?_
    refine xt_n ?_
    exact ⟨k + 1, by omega, by refine le_ren [] (.cons (by kernel_rfl) (.cons (by kernel_rfl) (.cons (by kernel_rfl) (.cons (by kernel_rfl) .nil)))) .nil (by kernel_rfl) (by kernel_rfl), by omega⟩
  · simp at c1
    obtain rfl : k = l.length := by omega
    refine aw_exit ?_
    refine xt_x ?_
    refine xt_x ?_
    refine xb_same ?_
    refine xt_n ?_
    clear hK K
    refine hK _ ?_
    clear hK K
    refine aw_seq_k fun K hK => ?_
    refine w_region (n' := 3) (by kernel_rfl) (by kernel_rfl) ?_
    refine aops_n hTT (M := []) (n := 2) [pv (19 : Nat) (V.i (amt l (List.length l))), pv (2 : Nat) (V.i (amt l (List.length l)))] (by kernel_rfl) (by kernel_rfl) True.intro ?_
    refine aops_nil ?_
    refine xt_n ?_
    refine hK _ ?_
    clear hK K
    refine aw_ret ?_
    refine ret_pure (v' := V.i (amt l (List.length l))) (.inr rfl) (by kernel_rfl) (by kernel_rfl) (by kernel_rfl)
def hdE (c : Cv) : Int := if cvE c ≠ 0 then cvE c else if c.share ≤ amtL c.back then 5 else 0
def tmF (c : Cv) : Int := if hdE c = 0 then c.share + amtL c.feed else 0
def tmB (c : Cv) : Int := if hdE c = 0 then c.share - 1 else 0
def tmD (c : Cv) : Int := if hdE c = 0 then c.share - amtL c.back else 0
theorem hdE_1 {c : Cv} (h : ¬ cvE c = 0) : hdE c = cvE c := by rw [hdE, if_pos h]
theorem hdE_2 {c : Cv} (h : cvE c = 0) (h2 : c.share ≤ amtL c.back) : hdE c = 5 := by rw [hdE, if_neg (by simp [h]), if_pos h2]
theorem hdE_3 {c : Cv} (h : cvE c = 0) (h2 : ¬ c.share ≤ amtL c.back) : hdE c = 0 := by rw [hdE, if_neg (by simp [h]), if_neg h2]
theorem hdE_ok {c : Cv} (h : hdE c = 0) : cvOk c ∧ amtL c.back < c.share := by
  by_cases h1 : cvE c = 0
  · by_cases h2 : c.share ≤ amtL c.back
    · rw [hdE_2 h1 h2] at h; cases h
    · exact ⟨cvE_ok.1 h1, by omega⟩
  · rw [hdE_1 h1] at h; exact absurd h h1
theorem cvE_vals (c : Cv) : cvE c = 0 ∨ cvE c = 2 ∨ cvE c = 6 := by
  unfold cvE
  split
  · exact .inr (.inr rfl)
  · split
    · exact .inr (.inl rfl)
    · exact .inl rfl
set_option maxRecDepth 100000 in
theorem tame_ac (c : Cv) (hl : cvL c) : AC Try.prog 87 [V.cv c] (.tup [.i (tmF c), .i (tmB c), .i (tmD c), .i (hdE c)]) [] := by
  refine ac_intro hTT hMX (fn := Try.f87) (N := _) ⟨Try.func87, rfl, Try.ntmps87, by kernel_rfl⟩ (by simp) fun C hC hF => ?_
  refine aw_seq_k fun K hK => ?_
  refine w_region (n' := 2) (by kernel_rfl) (by kernel_rfl) ?_
  refine aops_n hTT (M := []) (n := 5) [pv (1 : Nat) (V.ptr [V.sl (1 : Nat) (List.length (Cv.feed c)) fun (k : Nat) => [V.i (gi (Cv.feed c) k)], V.sl (1 : Nat) (List.length (Cv.back c)) fun (k : Nat) => [V.i (gi (Cv.back c) k)], V.i (Cv.share c)]), pv (2 : Nat) (V.i (0 : Int)), pv (3 : Nat) (V.i (0 : Int)), pv (4 : Nat) (V.i (0 : Int)), pv (5 : Nat) (V.i (0 : Int))] (by kernel_rfl) (by kernel_rfl) True.intro ?_
  refine aops_nil ?_
  refine xt_n ?_
  refine hK _ ?_
  clear hK K
  refine aw_seq_k fun K hK => ?_
  refine aw_seq_k fun K hK => ?_
  refine w_region (n' := 3) (by kernel_rfl) (by kernel_rfl) ?_
  refine aops_n hTT (M := []) (n := 1) [pv (6 : Nat) (V.agg [V.sl (1 : Nat) (List.length (Cv.feed c)) fun (k : Nat) => [V.i (gi (Cv.feed c) k)], V.sl (1 : Nat) (List.length (Cv.back c)) fun (k : Nat) => [V.i (gi (Cv.back c) k)], V.i (Cv.share c)])] (by kernel_rfl) (by kernel_rfl) True.intro ?_
  refine e_call (first := []) (caps := []) (CheckCurve_ac c hl) (by kernel_rfl) (by kernel_rfl) (by kernel_rfl) (by kernel_rfl) (by kernel_rfl) ?_
  refine aops_n hTT (M := []) (n := 1) [pv (5 : Nat) (V.i (cvE c))] (by kernel_rfl) (by kernel_rfl) True.intro ?_
  refine aops_nil ?_
  refine xt_n ?_
  refine hK _ ?_
  clear hK K
  refine aw_seq_k fun K hK => ?_
  refine w_region (n' := 4) (by kernel_rfl) (by kernel_rfl) ?_
  refine aops_n hTT (M := []) (n := 2) [pv (8 : Nat) (V.i (cvE c)), pv (9 : Nat) (V.b !decide (cvE c = (0 : Int)))] (by kernel_rfl) (by kernel_rfl) True.intro ?_
  refine aops_nil ?_
  refine xt_n ?_
  refine hK _ ?_
  clear hK K
  refine w_cond (t := !decide (cvE c = (0 : Int))) (by kernel_rfl) (fun c1 => ?_) (fun c1 => ?_)
  · simp at c1
    have e := hdE_1 c1
    have h0 : ¬ hdE c = 0 := by rw [e]; exact c1
    refine aw_seq_k fun K hK => ?_
    refine w_region (n' := 5) (by kernel_rfl) (by kernel_rfl) ?_
    refine aops_n hTT (M := []) (n := 5) [pv (10 : Nat) (V.i (cvE c)), pv (2 : Nat) (V.i (0 : Int)), pv (3 : Nat) (V.i (0 : Int)), pv (4 : Nat) (V.i (0 : Int)), pv (5 : Nat) (V.i (cvE c))] (by kernel_rfl) (by kernel_rfl) True.intro ?_
    refine aops_nil ?_
    refine xt_n ?_
    refine hK _ ?_
    clear hK K
    refine aw_ret ?_
    refine xt_r ?_
    rw [show tmF c = 0 by rw [tmF, if_neg h0], show tmB c = 0 by rw [tmB, if_neg h0], show tmD c = 0 by rw [tmD, if_neg h0], e]
    refine ret_pure (v' := V.tup [V.i (0 : Int), V.i (0 : Int), V.i (0 : Int), V.i (cvE c)]) (.inr rfl) (by kernel_rfl) (by kernel_rfl) (by kernel_rfl)
  simp at c1
  have hk := cvE_ok.1 c1
  have b1 := amtL_bd hk.2.2.1 hk.1
  have b2 := amtL_bd hk.2.2.2.1 hk.2.1
  have b3 := hk.2.2.2.2
  refine aw_skip ?_
  refine xt_n ?_
  refine hK _ ?_
  clear hK K
  refine aw_seq_k fun K hK => ?_
  refine w_regionD (n' := 5) (by kernel_rfl) (by kernel_rfl) ?_
  refine aops_n hTT (M := []) (n := 4) [pv (11 : Nat) (V.ptr [V.i (Cv.share c)]), pv (12 : Nat) (V.i (Cv.share c)), pv (13 : Nat) (V.ptr [V.sl (1 : Nat) (List.length (Cv.back c)) fun (k : Nat) => [V.i (gi (Cv.back c) k)], V.i (Cv.share c)]), pv (14 : Nat) (V.sl (1 : Nat) (List.length (Cv.back c)) fun (k : Nat) => [V.i (gi (Cv.back c) k)])] (by kernel_rfl) (by kernel_rfl) True.intro ?_
  refine e_call (first := []) (caps := []) (amounts_ac c.back hk.2.2.2.1 hk.2.1) (by kernel_rfl) (by kernel_rfl) (by kernel_rfl) (by kernel_rfl) (by kernel_rfl) ?_
  refine aops_n hTT (M := []) (n := 2) [pc (16 : Nat) ((-9223372036854775808 : Int) ≤ Cv.share c - amtL (Cv.back c) ∧ Cv.share c - amtL (Cv.back c) ≤ (9223372036854775807 : Int)) (V.i (Cv.share c - amtL (Cv.back c))), pv (4 : Nat) (V.i (Cv.share c - amtL (Cv.back c)))] (by kernel_rfl) (by kernel_rfl) ⟨(by omega), True.intro⟩ ?_
  refine aops_nil ⟨by kernel_rfl, ?_⟩
  refine xt_n ?_
  refine hK _ ?_
  clear hK K
  refine aw_seq_k fun K hK => ?_
  refine aw_seq_k fun K hK => ?_
  refine w_region (n' := 6) (by kernel_rfl) (by kernel_rfl) ?_
  refine aops_n hTT (M := []) (n := 2) [pv (17 : Nat) (V.i (Cv.share c - amtL (Cv.back c))), pv (18 : Nat) (V.b (decide (Cv.share c - amtL (Cv.back c) ≤ (0 : Int))))] (by kernel_rfl) (by kernel_rfl) True.intro ?_
  refine aops_nil ?_
  refine xt_n ?_
  refine hK _ ?_
  clear hK K
  refine w_cond (t := decide (Cv.share c - amtL (Cv.back c) ≤ (0 : Int))) (by kernel_rfl) (fun c2 => ?_) (fun c2 => ?_)
  · simp at c2
    have e := hdE_2 c1 (by omega)
    have h0 : ¬ hdE c = 0 := by rw [e]; decide
    refine aw_seq_k fun K hK => ?_
    refine w_region (n' := 7) (by kernel_rfl) (by kernel_rfl) ?_
    refine aops_n hTT (M := []) (n := 4) [pv (2 : Nat) (V.i (0 : Int)), pv (3 : Nat) (V.i (0 : Int)), pv (4 : Nat) (V.i (0 : Int)), pv (5 : Nat) (V.i (5 : Int))] (by kernel_rfl) (by kernel_rfl) True.intro ?_
    refine aops_nil ?_
    refine xt_n ?_
    refine hK _ ?_
    clear hK K
    refine aw_ret ?_
    refine xt_r ?_
    rw [show tmF c = 0 by rw [tmF, if_neg h0], show tmB c = 0 by rw [tmB, if_neg h0], show tmD c = 0 by rw [tmD, if_neg h0], e]
    refine ret_pure (v' := V.tup [V.i (0 : Int), V.i (0 : Int), V.i (0 : Int), V.i (5 : Int)]) (.inr rfl) (by kernel_rfl) (by kernel_rfl) (by kernel_rfl)
  simp at c2
  have e := hdE_3 c1 (by omega)
  refine aw_skip ?_
  refine xt_n ?_
  refine hK _ ?_
  clear hK K
  refine aw_seq_k fun K hK => ?_
  refine w_regionD (n' := 7) (by kernel_rfl) (by kernel_rfl) ?_
  refine aops_n hTT (M := []) (n := 4) [pv (19 : Nat) (V.ptr [V.i (Cv.share c)]), pv (20 : Nat) (V.i (Cv.share c)), pv (21 : Nat) (V.ptr [V.sl (1 : Nat) (List.length (Cv.feed c)) fun (k : Nat) => [V.i (gi (Cv.feed c) k)], V.sl (1 : Nat) (List.length (Cv.back c)) fun (k : Nat) => [V.i (gi (Cv.back c) k)], V.i (Cv.share c)]), pv (22 : Nat) (V.sl (1 : Nat) (List.length (Cv.feed c)) fun (k : Nat) => [V.i (gi (Cv.feed c) k)])] (by kernel_rfl) (by kernel_rfl) True.intro ?_
  refine e_call (first := []) (caps := []) (amounts_ac c.feed hk.2.2.1 hk.1) (by kernel_rfl) (by kernel_rfl) (by kernel_rfl) (by kernel_rfl) (by kernel_rfl) ?_
  refine aops_n hTT (M := []) (n := 9) [pc (24 : Nat) ((-9223372036854775808 : Int) ≤ Cv.share c + amtL (Cv.feed c) ∧ Cv.share c + amtL (Cv.feed c) ≤ (9223372036854775807 : Int)) (V.i (Cv.share c + amtL (Cv.feed c))), pv (25 : Nat) (V.ptr [V.i (Cv.share c)]), pv (26 : Nat) (V.i (Cv.share c)), pc (27 : Nat) ((-9223372036854775808 : Int) ≤ Cv.share c - (1 : Int) ∧ Cv.share c - (1 : Int) ≤ (9223372036854775807 : Int)) (V.i (Cv.share c - (1 : Int))), pv (28 : Nat) (V.i (Cv.share c - amtL (Cv.back c))), pv (2 : Nat) (V.i (Cv.share c + amtL (Cv.feed c))), pv (3 : Nat) (V.i (Cv.share c - (1 : Int))), pv (4 : Nat) (V.i (Cv.share c - amtL (Cv.back c))), pv (5 : Nat) (V.i (0 : Int))] (by kernel_rfl) (by kernel_rfl) ⟨(by omega), (by omega), True.intro⟩ ?_
  refine aops_nil ⟨by kernel_rfl, ?_⟩
  refine xt_n ?_
  refine hK _ ?_
  clear hK K
  refine aw_ret ?_
  rw [show tmF c = c.share + amtL c.feed by rw [tmF, if_pos e], show tmB c = c.share - 1 by rw [tmB, if_pos e], show tmD c = c.share - amtL c.back by rw [tmD, if_pos e], e]
  refine ret_pure (v' := V.tup [V.i (Cv.share c + amtL (Cv.feed c)), V.i (Cv.share c - (1 : Int)), V.i (Cv.share c - amtL (Cv.back c)), V.i (0 : Int)]) (.inr rfl) (by kernel_rfl) (by kernel_rfl) (by kernel_rfl)
def bdE (c : Cv) (m : Int) : Int := if cvE c ≠ 0 then cvE c else if m < 0 ∨ 32767 < m then 3 else hdE c
def bdR (c : Cv) (m : Int) : Int := if bdE c m = 0 then boundI c m else 0
theorem bd_1 {c : Cv} {m : Int} (h : ¬ cvE c = 0) : bdE c m = cvE c ∧ bdR c m = 0 := by
  have e : bdE c m = cvE c := by rw [bdE, if_pos h]
  exact ⟨e, by rw [bdR, if_neg (by rw [e]; exact h)]⟩
theorem bd_2 {c : Cv} {m : Int} (h : cvE c = 0) (h2 : m < 0 ∨ 32767 < m) : bdE c m = 3 ∧ bdR c m = 0 := by
  have e : bdE c m = 3 := by rw [bdE, if_neg (by simp [h]), if_pos h2]
  exact ⟨e, by rw [bdR, if_neg (by rw [e]; decide)]⟩
theorem bd_3 {c : Cv} {m : Int} (h : cvE c = 0) (h2 : 0 ≤ m ∧ m ≤ 32767) (h3 : ¬ hdE c = 0) : bdE c m = 5 ∧ bdR c m = 0 := by
  have e5 : hdE c = 5 := by
    by_cases h4 : c.share ≤ amtL c.back
    · exact hdE_2 h h4
    · exact absurd (hdE_3 h h4) h3
  have e : bdE c m = 5 := by rw [bdE, if_neg (by simp [h]), if_neg (by omega), e5]
  exact ⟨e, by rw [bdR, if_neg (by rw [e]; decide)]⟩
theorem bd_4 {c : Cv} {m : Int} (h2 : 0 ≤ m ∧ m ≤ 32767) (h3 : hdE c = 0) : bdE c m = 0 ∧ bdR c m = boundI c m := by
  have h : cvE c = 0 := cvE_ok.2 (hdE_ok h3).1
  have e : bdE c m = 0 := by rw [bdE, if_neg (by simp [h]), if_neg (by omega), h3]
  exact ⟨e, by rw [bdR, if_pos e]⟩
theorem boundN_bd {c : Cv} {m : Int} (h3 : hdE c = 0) (h2 : 0 ≤ m ∧ m ≤ 32767) : 0 ≤ m * (c.share + amtL c.feed) ∧ m * (c.share + amtL c.feed) ≤ 32767 * 36864 ∧ boundI c m = (m * (c.share + amtL c.feed) + c.share - 1).tdiv (c.share - amtL c.back) ∧ 1 ≤ c.share - amtL c.back := by
  obtain ⟨hk, hd⟩ := hdE_ok h3
  have b1 := amtL_bd hk.2.2.1 hk.1
  have b3 := hk.2.2.2.2
  have h0 : 0 ≤ m * (c.share + amtL c.feed) := Int.mul_nonneg h2.1 (by omega)
  refine ⟨h0, Int.mul_le_mul h2.2 (by omega) (by omega) (by decide), ?_, by omega⟩
  rw [Int.tdiv_eq_ediv_of_nonneg (by omega)]; rfl
theorem tdiv_le (n d : Int) (hn : 0 ≤ n) (hd : 1 ≤ d) : 0 ≤ n.tdiv d ∧ n.tdiv d ≤ n := by
  rw [Int.tdiv_eq_ediv_of_nonneg hn]
  exact ⟨Int.ediv_nonneg hn (by omega), Int.ediv_le_self d hn⟩
set_option maxRecDepth 100000 in
theorem Bound_ac (c : Cv) (m : Int) (hl : cvL c) : AC Try.prog 61 [V.cv c, .i m] (.tup [.i (bdR c m), .i (bdE c m)]) [] := by
  have T := tame_ac c hl
  refine ac_intro hTT hMX (fn := Try.f61) (N := _) ⟨Try.func61, rfl, Try.ntmps61, by kernel_rfl⟩ (by simp) fun C hC hF => ?_
  by_cases h : cvE c = 0
  · by_cases h3 : hdE c = 0
    · rw [h3, show tmF c = c.share + amtL c.feed by rw [tmF, if_pos h3], show tmB c = c.share - 1 by rw [tmB, if_pos h3], show tmD c = c.share - amtL c.back by rw [tmD, if_pos h3]] at T
      refine aw_seq_k fun K hK => ?_
      refine w_region (n' := 2) (by kernel_rfl) (by kernel_rfl) ?_
      refine aops_n hTT (M := []) (n := 3) [pv (2 : Nat) (V.ptr [V.sl (1 : Nat) (List.length (Cv.feed c)) fun (k : Nat) => [V.i (gi (Cv.feed c) k)], V.sl (1 : Nat) (List.length (Cv.back c)) fun (k : Nat) => [V.i (gi (Cv.back c) k)], V.i (Cv.share c)]), pv (4 : Nat) (V.i (0 : Int)), pv (5 : Nat) (V.i (0 : Int))] (by kernel_rfl) (by kernel_rfl) True.intro ?_
      refine aops_nil ?_
      refine xt_n ?_
      refine hK _ ?_
      clear hK K
      refine aw_seq_k fun K hK => ?_
      refine w_region (n' := 3) (by kernel_rfl) (by kernel_rfl) ?_
      refine aops_n hTT (M := []) (n := 1) [pv (11 : Nat) (V.agg [V.sl (1 : Nat) (List.length (Cv.feed c)) fun (k : Nat) => [V.i (gi (Cv.feed c) k)], V.sl (1 : Nat) (List.length (Cv.back c)) fun (k : Nat) => [V.i (gi (Cv.back c) k)], V.i (Cv.share c)])] (by kernel_rfl) (by kernel_rfl) True.intro ?_
      refine e_call (first := []) (caps := []) (T) (by kernel_rfl) (by kernel_rfl) (by kernel_rfl) (by kernel_rfl) (by kernel_rfl) ?_
      refine aops_n hTT (M := []) (n := 9) [pv (10 : Nat) (V.tup [V.i (Cv.share c + amtL (Cv.feed c)), V.i (Cv.share c - (1 : Int)), V.i (Cv.share c - amtL (Cv.back c)), V.i (0 : Int)]), pv (13 : Nat) (V.i (Cv.share c + amtL (Cv.feed c))), pv (14 : Nat) (V.i (Cv.share c - (1 : Int))), pv (15 : Nat) (V.i (Cv.share c - amtL (Cv.back c))), pv (16 : Nat) (V.i (0 : Int)), pv (6 : Nat) (V.i (Cv.share c + amtL (Cv.feed c))), pv (7 : Nat) (V.i (Cv.share c - (1 : Int))), pv (8 : Nat) (V.i (Cv.share c - amtL (Cv.back c))), pv (9 : Nat) (V.i (0 : Int))] (by kernel_rfl) (by kernel_rfl) True.intro ?_
      refine aops_nil ?_
      refine xt_n ?_
      refine hK _ ?_
      clear hK K
      refine aw_seq_k fun K hK => ?_
      refine aw_block ?_
      refine aw_seq_k fun K hK => ?_
      refine w_region (n' := 4) (by kernel_rfl) (by kernel_rfl) ?_
      refine aops_n hTT (M := []) (n := 7) [pv (18 : Nat) (V.i (0 : Int)), pv (19 : Nat) (V.b false), pv (20 : Nat) (V.b false), pc (21 : Nat) ((True ∧ True) ∧ ((false == true) = true → True)) (V.gd (false == true) (V.i (0 : Int))), pc (22 : Nat) ((((false == true) = true → (false == true) = true) ∧ True ∧ True) ∧ ((false == true) = true → True)) (V.gd (false == true) (V.b true)), pc (23 : Nat) ((false = true → (false == true) = true) ∧ True) (V.b false), pv (17 : Nat) (V.b false)] (by kernel_rfl) (by kernel_rfl) ⟨⟨⟨True.intro, True.intro⟩, (fun _ => True.intro)⟩, ⟨⟨(by (exact fun h => h)), ⟨True.intro, True.intro⟩⟩, (fun _ => True.intro)⟩, ⟨(by (exact fun h => h)), True.intro⟩, True.intro⟩ ?_
      refine aops_nil ?_
      refine xt_n ?_
      refine hK _ ?_
      clear hK K
      refine w_false (t := false) (by kernel_rfl) rfl ?_
      refine aw_seq_k fun K hK => ?_
      refine w_region (n' := 5) (by kernel_rfl) (by kernel_rfl) ?_
      refine aops_n hTT (M := []) (n := 7) [pv (26 : Nat) (V.i m), pv (27 : Nat) (V.b (decide (m < (0 : Int)))), pv (28 : Nat) (V.b (decide (m < (0 : Int)))), pc (29 : Nat) ((True ∧ True) ∧ ((decide (m < (0 : Int)) == false) = true → True)) (V.gd (decide (m < (0 : Int)) == false) (V.i m)), pc (30 : Nat) ((((decide (m < (0 : Int)) == false) = true → (decide (m < (0 : Int)) == false) = true) ∧ True ∧ True) ∧ ((decide (m < (0 : Int)) == false) = true → True)) (V.gd (decide (m < (0 : Int)) == false) (V.b (decide ((32767 : Int) < m)))), pc (31 : Nat) (True ∧ (decide (m < (0 : Int)) = false → (decide (m < (0 : Int)) == false) = true)) (V.b (decide (m < (0 : Int)) || decide ((32767 : Int) < m))), pv (25 : Nat) (V.b (decide (m < (0 : Int)) || decide ((32767 : Int) < m)))] (by kernel_rfl) (by kernel_rfl) ⟨⟨⟨True.intro, True.intro⟩, (fun _ => True.intro)⟩, ⟨⟨(by (exact fun h => h)), ⟨True.intro, True.intro⟩⟩, (fun _ => True.intro)⟩, ⟨True.intro, (by (intro h; rw [h]; rfl))⟩, True.intro⟩ ?_
      refine aops_nil ?_
      refine xt_n ?_
      refine hK _ ?_
      clear hK K
      refine w_cond (t := decide (m < (0 : Int)) || decide ((32767 : Int) < m)) (by kernel_rfl) (fun c1 => ?_) (fun c1 => ?_)
      · simp at c1
        refine aw_seq_k fun K hK => ?_
        refine w_region (n' := 6) (by kernel_rfl) (by kernel_rfl) ?_
        refine aops_n hTT (M := []) (n := 2) [pv (4 : Nat) (V.i (0 : Int)), pv (5 : Nat) (V.i (3 : Int))] (by kernel_rfl) (by kernel_rfl) True.intro ?_
        refine aops_nil ?_
        refine xt_n ?_
        refine hK _ ?_
        clear hK K
        refine aw_ret ?_
        refine xb_r ?_
        refine xt_r ?_
        rw [(bd_2 h c1).1, (bd_2 h c1).2]
        refine ret_pure (v' := V.tup [V.i (0 : Int), V.i (3 : Int)]) (.inr rfl) (by kernel_rfl) (by kernel_rfl) (by kernel_rfl)
      · simp at c1
        obtain ⟨q1, q2, q3, q4⟩ := boundN_bd (m := m) h3 (by omega)
        have hk := (hdE_ok h3).1.2.2.2.2
        have q5 := tdiv_le (m * (c.share + amtL c.feed) + (c.share - 1)) (c.share - amtL c.back) (by omega) q4
        refine aw_seq_k fun K hK => ?_
        refine w_region (n' := 6) (by kernel_rfl) (by kernel_rfl) ?_
        refine aops_n hTT (M := []) (n := 3) [pv (33 : Nat) (V.i (0 : Int)), pv (34 : Nat) (V.b false), pv (32 : Nat) (V.b false)] (by kernel_rfl) (by kernel_rfl) True.intro ?_
        refine aops_nil ?_
        refine xt_n ?_
        refine hK _ ?_
        clear hK K
        refine w_false (t := false) (by kernel_rfl) rfl ?_
        refine aw_skip ?_
        refine xb_n ?_
        refine xt_n ?_
        refine hK _ ?_
        clear hK K
        refine aw_seq_k fun K hK => ?_
        refine w_region (n' := 7) (by kernel_rfl) (by kernel_rfl) ?_
        refine aops_n hTT (M := []) (n := 9) [pv (36 : Nat) (V.i m), pv (37 : Nat) (V.i (Cv.share c + amtL (Cv.feed c))), pc (38 : Nat) ((-9223372036854775808 : Int) ≤ m * (Cv.share c + amtL (Cv.feed c)) ∧ m * (Cv.share c + amtL (Cv.feed c)) ≤ (9223372036854775807 : Int)) (V.i (m * (Cv.share c + amtL (Cv.feed c)))), pv (39 : Nat) (V.i (Cv.share c - (1 : Int))), pc (40 : Nat) ((-9223372036854775808 : Int) ≤ m * (Cv.share c + amtL (Cv.feed c)) + (Cv.share c - (1 : Int)) ∧ m * (Cv.share c + amtL (Cv.feed c)) + (Cv.share c - (1 : Int)) ≤ (9223372036854775807 : Int)) (V.i (m * (Cv.share c + amtL (Cv.feed c)) + (Cv.share c - (1 : Int)))), pv (41 : Nat) (V.i (Cv.share c - amtL (Cv.back c))), pc (42 : Nat) ((0 : Int) < Cv.share c - amtL (Cv.back c) ∧ (-9223372036854775808 : Int) ≤ m * (Cv.share c + amtL (Cv.feed c)) + (Cv.share c - (1 : Int)) ∧ m * (Cv.share c + amtL (Cv.feed c)) + (Cv.share c - (1 : Int)) ≤ (9223372036854775807 : Int)) (V.i (Int.tdiv (m * (Cv.share c + amtL (Cv.feed c)) + (Cv.share c - (1 : Int))) (Cv.share c - amtL (Cv.back c)))), pv (4 : Nat) (V.i (Int.tdiv (m * (Cv.share c + amtL (Cv.feed c)) + (Cv.share c - (1 : Int))) (Cv.share c - amtL (Cv.back c)))), pv (5 : Nat) (V.i (0 : Int))] (by kernel_rfl) (by kernel_rfl) ⟨(by omega), (by omega), ⟨(by omega), (by omega)⟩, True.intro⟩ ?_
        refine aops_nil ?_
        refine xt_n ?_
        refine hK _ ?_
        clear hK K
        refine aw_ret ?_
        rw [(bd_4 (by omega) h3).1, (bd_4 (by omega) h3).2, q3, show m * (c.share + amtL c.feed) + c.share - 1 = m * (c.share + amtL c.feed) + (c.share - 1) by omega]
        refine ret_pure (v' := V.tup [V.i (Int.tdiv (m * (Cv.share c + amtL (Cv.feed c)) + (Cv.share c - (1 : Int))) (Cv.share c - amtL (Cv.back c))), V.i (0 : Int)]) (.inr rfl) (by kernel_rfl) (by kernel_rfl) (by kernel_rfl)
    · have e5 : hdE c = 5 := by
        by_cases h4 : c.share ≤ amtL c.back
        · exact hdE_2 h h4
        · exact absurd (hdE_3 h h4) h3
      rw [e5, show tmF c = 0 by rw [tmF, if_neg h3], show tmB c = 0 by rw [tmB, if_neg h3], show tmD c = 0 by rw [tmD, if_neg h3]] at T
      refine aw_seq_k fun K hK => ?_
      refine w_region (n' := 2) (by kernel_rfl) (by kernel_rfl) ?_
      refine aops_n hTT (M := []) (n := 3) [pv (2 : Nat) (V.ptr [V.sl (1 : Nat) (List.length (Cv.feed c)) fun (k : Nat) => [V.i (gi (Cv.feed c) k)], V.sl (1 : Nat) (List.length (Cv.back c)) fun (k : Nat) => [V.i (gi (Cv.back c) k)], V.i (Cv.share c)]), pv (4 : Nat) (V.i (0 : Int)), pv (5 : Nat) (V.i (0 : Int))] (by kernel_rfl) (by kernel_rfl) True.intro ?_
      refine aops_nil ?_
      refine xt_n ?_
      refine hK _ ?_
      clear hK K
      refine aw_seq_k fun K hK => ?_
      refine w_region (n' := 3) (by kernel_rfl) (by kernel_rfl) ?_
      refine aops_n hTT (M := []) (n := 1) [pv (11 : Nat) (V.agg [V.sl (1 : Nat) (List.length (Cv.feed c)) fun (k : Nat) => [V.i (gi (Cv.feed c) k)], V.sl (1 : Nat) (List.length (Cv.back c)) fun (k : Nat) => [V.i (gi (Cv.back c) k)], V.i (Cv.share c)])] (by kernel_rfl) (by kernel_rfl) True.intro ?_
      refine e_call (first := []) (caps := []) (T) (by kernel_rfl) (by kernel_rfl) (by kernel_rfl) (by kernel_rfl) (by kernel_rfl) ?_
      refine aops_n hTT (M := []) (n := 9) [pv (10 : Nat) (V.tup [V.i (0 : Int), V.i (0 : Int), V.i (0 : Int), V.i (5 : Int)]), pv (13 : Nat) (V.i (0 : Int)), pv (14 : Nat) (V.i (0 : Int)), pv (15 : Nat) (V.i (0 : Int)), pv (16 : Nat) (V.i (5 : Int)), pv (6 : Nat) (V.i (0 : Int)), pv (7 : Nat) (V.i (0 : Int)), pv (8 : Nat) (V.i (0 : Int)), pv (9 : Nat) (V.i (5 : Int))] (by kernel_rfl) (by kernel_rfl) True.intro ?_
      refine aops_nil ?_
      refine xt_n ?_
      refine hK _ ?_
      clear hK K
      refine aw_seq_k fun K hK => ?_
      refine aw_block ?_
      refine aw_seq_k fun K hK => ?_
      refine w_region (n' := 4) (by kernel_rfl) (by kernel_rfl) ?_
      refine aops_n hTT (M := []) (n := 7) [pv (18 : Nat) (V.i (5 : Int)), pv (19 : Nat) (V.b true), pv (20 : Nat) (V.b true), pc (21 : Nat) ((True ∧ True) ∧ ((true == true) = true → True)) (V.gd (true == true) (V.i (5 : Int))), pc (22 : Nat) ((((true == true) = true → (true == true) = true) ∧ True ∧ True) ∧ ((true == true) = true → True)) (V.gd (true == true) (V.b false)), pc (23 : Nat) ((true = true → (true == true) = true) ∧ True) (V.b false), pv (17 : Nat) (V.b false)] (by kernel_rfl) (by kernel_rfl) ⟨⟨⟨True.intro, True.intro⟩, (fun _ => True.intro)⟩, ⟨⟨(by (exact fun h => h)), ⟨True.intro, True.intro⟩⟩, (fun _ => True.intro)⟩, ⟨(by (exact fun h => h)), True.intro⟩, True.intro⟩ ?_
      refine aops_nil ?_
      refine xt_n ?_
      refine hK _ ?_
      clear hK K
      refine w_false (t := false) (by kernel_rfl) rfl ?_
      refine aw_seq_k fun K hK => ?_
      refine w_region (n' := 5) (by kernel_rfl) (by kernel_rfl) ?_
      refine aops_n hTT (M := []) (n := 7) [pv (26 : Nat) (V.i m), pv (27 : Nat) (V.b (decide (m < (0 : Int)))), pv (28 : Nat) (V.b (decide (m < (0 : Int)))), pc (29 : Nat) ((True ∧ True) ∧ ((decide (m < (0 : Int)) == false) = true → True)) (V.gd (decide (m < (0 : Int)) == false) (V.i m)), pc (30 : Nat) ((((decide (m < (0 : Int)) == false) = true → (decide (m < (0 : Int)) == false) = true) ∧ True ∧ True) ∧ ((decide (m < (0 : Int)) == false) = true → True)) (V.gd (decide (m < (0 : Int)) == false) (V.b (decide ((32767 : Int) < m)))), pc (31 : Nat) (True ∧ (decide (m < (0 : Int)) = false → (decide (m < (0 : Int)) == false) = true)) (V.b (decide (m < (0 : Int)) || decide ((32767 : Int) < m))), pv (25 : Nat) (V.b (decide (m < (0 : Int)) || decide ((32767 : Int) < m)))] (by kernel_rfl) (by kernel_rfl) ⟨⟨⟨True.intro, True.intro⟩, (fun _ => True.intro)⟩, ⟨⟨(by (exact fun h => h)), ⟨True.intro, True.intro⟩⟩, (fun _ => True.intro)⟩, ⟨True.intro, (by (intro h; rw [h]; rfl))⟩, True.intro⟩ ?_
      refine aops_nil ?_
      refine xt_n ?_
      refine hK _ ?_
      clear hK K
      refine w_cond (t := decide (m < (0 : Int)) || decide ((32767 : Int) < m)) (by kernel_rfl) (fun c1 => ?_) (fun c1 => ?_)
      · simp at c1
        refine aw_seq_k fun K hK => ?_
        refine w_region (n' := 6) (by kernel_rfl) (by kernel_rfl) ?_
        refine aops_n hTT (M := []) (n := 2) [pv (4 : Nat) (V.i (0 : Int)), pv (5 : Nat) (V.i (3 : Int))] (by kernel_rfl) (by kernel_rfl) True.intro ?_
        refine aops_nil ?_
        refine xt_n ?_
        refine hK _ ?_
        clear hK K
        refine aw_ret ?_
        refine xb_r ?_
        refine xt_r ?_
        rw [(bd_2 h c1).1, (bd_2 h c1).2]
        refine ret_pure (v' := V.tup [V.i (0 : Int), V.i (3 : Int)]) (.inr rfl) (by kernel_rfl) (by kernel_rfl) (by kernel_rfl)
      · simp at c1
        refine aw_seq_k fun K hK => ?_
        refine w_region (n' := 6) (by kernel_rfl) (by kernel_rfl) ?_
        refine aops_n hTT (M := []) (n := 3) [pv (33 : Nat) (V.i (5 : Int)), pv (34 : Nat) (V.b true), pv (32 : Nat) (V.b true)] (by kernel_rfl) (by kernel_rfl) True.intro ?_
        refine aops_nil ?_
        refine xt_n ?_
        refine hK _ ?_
        clear hK K
        refine w_true (t := true) (by kernel_rfl) rfl ?_
        refine aw_seq_k fun K hK => ?_
        refine w_region (n' := 7) (by kernel_rfl) (by kernel_rfl) ?_
        refine aops_n hTT (M := []) (n := 3) [pv (35 : Nat) (V.i (5 : Int)), pv (4 : Nat) (V.i (0 : Int)), pv (5 : Nat) (V.i (5 : Int))] (by kernel_rfl) (by kernel_rfl) True.intro ?_
        refine aops_nil ?_
        refine xt_n ?_
        refine hK _ ?_
        clear hK K
        refine aw_ret ?_
        refine xb_r ?_
        refine xt_r ?_
        rw [(bd_3 h (by omega) h3).1, (bd_3 h (by omega) h3).2]
        refine ret_pure (v' := V.tup [V.i (0 : Int), V.i (5 : Int)]) (.inr rfl) (by kernel_rfl) (by kernel_rfl) (by kernel_rfl)
  · have e := hdE_1 h
    have hv := cvE_vals c
    refine aw_seq_k fun K hK => ?_
    refine w_region (n' := 2) (by kernel_rfl) (by kernel_rfl) ?_
    refine aops_n hTT (M := []) (n := 3) [pv (2 : Nat) (V.ptr [V.sl (1 : Nat) (List.length (Cv.feed c)) fun (k : Nat) => [V.i (gi (Cv.feed c) k)], V.sl (1 : Nat) (List.length (Cv.back c)) fun (k : Nat) => [V.i (gi (Cv.back c) k)], V.i (Cv.share c)]), pv (4 : Nat) (V.i (0 : Int)), pv (5 : Nat) (V.i (0 : Int))] (by kernel_rfl) (by kernel_rfl) True.intro ?_
    refine aops_nil ?_
    refine xt_n ?_
    refine hK _ ?_
    clear hK K
    refine aw_seq_k fun K hK => ?_
    refine w_region (n' := 3) (by kernel_rfl) (by kernel_rfl) ?_
    refine aops_n hTT (M := []) (n := 1) [pv (11 : Nat) (V.agg [V.sl (1 : Nat) (List.length (Cv.feed c)) fun (k : Nat) => [V.i (gi (Cv.feed c) k)], V.sl (1 : Nat) (List.length (Cv.back c)) fun (k : Nat) => [V.i (gi (Cv.back c) k)], V.i (Cv.share c)])] (by kernel_rfl) (by kernel_rfl) True.intro ?_
    refine e_call (first := []) (caps := []) (T) (by kernel_rfl) (by kernel_rfl) (by kernel_rfl) (by kernel_rfl) (by kernel_rfl) ?_
    refine aops_n hTT (M := []) (n := 9) [pv (10 : Nat) (V.tup [V.i (tmF c), V.i (tmB c), V.i (tmD c), V.i (hdE c)]), pv (13 : Nat) (V.i (tmF c)), pv (14 : Nat) (V.i (tmB c)), pv (15 : Nat) (V.i (tmD c)), pv (16 : Nat) (V.i (hdE c)), pv (6 : Nat) (V.i (tmF c)), pv (7 : Nat) (V.i (tmB c)), pv (8 : Nat) (V.i (tmD c)), pv (9 : Nat) (V.i (hdE c))] (by kernel_rfl) (by kernel_rfl) True.intro ?_
    refine aops_nil ?_
    refine xt_n ?_
    refine hK _ ?_
    clear hK K
    refine aw_seq_k fun K hK => ?_
    refine aw_block ?_
    refine aw_seq_k fun K hK => ?_
    refine w_region (n' := 4) (by kernel_rfl) (by kernel_rfl) ?_
    refine aops_n hTT (M := []) (n := 7) [pv (18 : Nat) (V.i (hdE c)), pv (19 : Nat) (V.b !decide (hdE c = (0 : Int))), pv (20 : Nat) (V.b !decide (hdE c = (0 : Int))), pc (21 : Nat) ((True ∧ True) ∧ (((!decide (hdE c = (0 : Int))) == true) = true → True)) (V.gd ((!decide (hdE c = (0 : Int))) == true) (V.i (hdE c))), pc (22 : Nat) (((((!decide (hdE c = (0 : Int))) == true) = true → ((!decide (hdE c = (0 : Int))) == true) = true) ∧ True ∧ True) ∧ (((!decide (hdE c = (0 : Int))) == true) = true → True)) (V.gd ((!decide (hdE c = (0 : Int))) == true) (V.b !decide (hdE c = (5 : Int)))), pc (23 : Nat) (((!decide (hdE c = (0 : Int))) = true → ((!decide (hdE c = (0 : Int))) == true) = true) ∧ True) (V.b (!decide (hdE c = (0 : Int)) && !decide (hdE c = (5 : Int)))), pv (17 : Nat) (V.b (!decide (hdE c = (0 : Int)) && !decide (hdE c = (5 : Int))))] (by kernel_rfl) (by kernel_rfl) ⟨⟨⟨True.intro, True.intro⟩, (fun _ => True.intro)⟩, ⟨⟨(by (exact fun h => h)), ⟨True.intro, True.intro⟩⟩, (fun _ => True.intro)⟩, ⟨(by (intro h; rw [h]; rfl)), True.intro⟩, True.intro⟩ ?_
    refine aops_nil ?_
    refine xt_n ?_
    refine hK _ ?_
    clear hK K
    refine w_cond (t := !decide (hdE c = (0 : Int)) && !decide (hdE c = (5 : Int))) (by kernel_rfl) (fun c1 => ?_) (fun c1 => ?_)
    · refine aw_seq_k fun K hK => ?_
      refine w_region (n' := 5) (by kernel_rfl) (by kernel_rfl) ?_
      refine aops_n hTT (M := []) (n := 3) [pv (24 : Nat) (V.i (hdE c)), pv (4 : Nat) (V.i (0 : Int)), pv (5 : Nat) (V.i (hdE c))] (by kernel_rfl) (by kernel_rfl) True.intro ?_
      refine aops_nil ?_
      refine xt_n ?_
      refine hK _ ?_
      clear hK K
      refine aw_ret ?_
      refine xb_r ?_
      refine xt_r ?_
      rw [(bd_1 h).1, (bd_1 h).2, ← e]
      refine ret_pure (v' := V.tup [V.i (0 : Int), V.i (hdE c)]) (.inr rfl) (by kernel_rfl) (by kernel_rfl) (by kernel_rfl)
    · simp [e, h] at c1
      omega
/-- the headroom -/
def hdI (c : Cv) : Int := min 32767 ((32768 * (c.share - amtL c.back) - 1 - (c.share - 1)) / (c.share + amtL c.feed))
def hdR (c : Cv) : Int := if hdE c = 0 then hdI c else 0
set_option maxRecDepth 100000 in
theorem Headroom_ac (c : Cv) (hl : cvL c) : AC Try.prog 63 [V.cv c] (.tup [.i (hdR c), .i (hdE c)]) [] := by
  have T := tame_ac c hl
  refine ac_intro hTT hMX (fn := Try.f63) (N := _) ⟨Try.func63, rfl, Try.ntmps63, by kernel_rfl⟩ (by simp) fun C hC hF => ?_
  by_cases h3 : hdE c = 0
  · obtain ⟨hk, hd⟩ := hdE_ok h3
    have b1 := amtL_bd hk.2.2.1 hk.1
    have b2 := amtL_bd hk.2.2.2.1 hk.2.1
    have b3 := hk.2.2.2.2
    have q5 := tdiv_le (32768 * (c.share - amtL c.back) - 1 - (c.share - 1)) (c.share + amtL c.feed) (by omega) (by omega)
    have e : hdR c = min 32767 ((32768 * (c.share - amtL c.back) - 1 - (c.share - 1)).tdiv (c.share + amtL c.feed)) := by
      rw [hdR, if_pos h3, hdI, Int.tdiv_eq_ediv_of_nonneg (by omega)]
    rw [h3, show tmF c = c.share + amtL c.feed by rw [tmF, if_pos h3], show tmB c = c.share - 1 by rw [tmB, if_pos h3], show tmD c = c.share - amtL c.back by rw [tmD, if_pos h3]] at T
    refine aw_seq_k fun K hK => ?_
    refine w_region (n' := 2) (by kernel_rfl) (by kernel_rfl) ?_
    refine aops_n hTT (M := []) (n := 3) [pv (1 : Nat) (V.ptr [V.sl (1 : Nat) (List.length (Cv.feed c)) fun (k : Nat) => [V.i (gi (Cv.feed c) k)], V.sl (1 : Nat) (List.length (Cv.back c)) fun (k : Nat) => [V.i (gi (Cv.back c) k)], V.i (Cv.share c)]), pv (2 : Nat) (V.i (0 : Int)), pv (3 : Nat) (V.i (0 : Int))] (by kernel_rfl) (by kernel_rfl) True.intro ?_
    refine aops_nil ?_
    refine xt_n ?_
    refine hK _ ?_
    clear hK K
    refine aw_seq_k fun K hK => ?_
    refine w_region (n' := 3) (by kernel_rfl) (by kernel_rfl) ?_
    refine aops_n hTT (M := []) (n := 1) [pv (9 : Nat) (V.agg [V.sl (1 : Nat) (List.length (Cv.feed c)) fun (k : Nat) => [V.i (gi (Cv.feed c) k)], V.sl (1 : Nat) (List.length (Cv.back c)) fun (k : Nat) => [V.i (gi (Cv.back c) k)], V.i (Cv.share c)])] (by kernel_rfl) (by kernel_rfl) True.intro ?_
    refine e_call (first := []) (caps := []) (T) (by kernel_rfl) (by kernel_rfl) (by kernel_rfl) (by kernel_rfl) (by kernel_rfl) ?_
    refine aops_n hTT (M := []) (n := 9) [pv (8 : Nat) (V.tup [V.i (Cv.share c + amtL (Cv.feed c)), V.i (Cv.share c - (1 : Int)), V.i (Cv.share c - amtL (Cv.back c)), V.i (0 : Int)]), pv (11 : Nat) (V.i (Cv.share c + amtL (Cv.feed c))), pv (12 : Nat) (V.i (Cv.share c - (1 : Int))), pv (13 : Nat) (V.i (Cv.share c - amtL (Cv.back c))), pv (14 : Nat) (V.i (0 : Int)), pv (4 : Nat) (V.i (Cv.share c + amtL (Cv.feed c))), pv (5 : Nat) (V.i (Cv.share c - (1 : Int))), pv (6 : Nat) (V.i (Cv.share c - amtL (Cv.back c))), pv (7 : Nat) (V.i (0 : Int))] (by kernel_rfl) (by kernel_rfl) True.intro ?_
    refine aops_nil ?_
    refine xt_n ?_
    refine hK _ ?_
    clear hK K
    refine aw_seq_k fun K hK => ?_
    refine aw_seq_k fun K hK => ?_
    refine w_region (n' := 4) (by kernel_rfl) (by kernel_rfl) ?_
    refine aops_n hTT (M := []) (n := 2) [pv (15 : Nat) (V.i (0 : Int)), pv (16 : Nat) (V.b false)] (by kernel_rfl) (by kernel_rfl) True.intro ?_
    refine aops_nil ?_
    refine xt_n ?_
    refine hK _ ?_
    clear hK K
    refine w_false (t := false) (by kernel_rfl) rfl ?_
    refine aw_skip ?_
    refine xt_n ?_
    refine hK _ ?_
    clear hK K
    refine aw_seq_k fun K hK => ?_
    refine w_region (n' := 5) (by kernel_rfl) (by kernel_rfl) ?_
    refine aops_n hTT (M := []) (n := 10) [pv (18 : Nat) (V.i (Cv.share c - amtL (Cv.back c))), pc (19 : Nat) ((-9223372036854775808 : Int) ≤ (32768 : Int) * (Cv.share c - amtL (Cv.back c)) ∧ (32768 : Int) * (Cv.share c - amtL (Cv.back c)) ≤ (9223372036854775807 : Int)) (V.i ((32768 : Int) * (Cv.share c - amtL (Cv.back c)))), pc (20 : Nat) ((-9223372036854775808 : Int) ≤ (32768 : Int) * (Cv.share c - amtL (Cv.back c)) - (1 : Int) ∧ (32768 : Int) * (Cv.share c - amtL (Cv.back c)) - (1 : Int) ≤ (9223372036854775807 : Int)) (V.i ((32768 : Int) * (Cv.share c - amtL (Cv.back c)) - (1 : Int))), pv (21 : Nat) (V.i (Cv.share c - (1 : Int))), pc (22 : Nat) ((-9223372036854775808 : Int) ≤ (32768 : Int) * (Cv.share c - amtL (Cv.back c)) - (1 : Int) - (Cv.share c - (1 : Int)) ∧ (32768 : Int) * (Cv.share c - amtL (Cv.back c)) - (1 : Int) - (Cv.share c - (1 : Int)) ≤ (9223372036854775807 : Int)) (V.i ((32768 : Int) * (Cv.share c - amtL (Cv.back c)) - (1 : Int) - (Cv.share c - (1 : Int)))), pv (23 : Nat) (V.i (Cv.share c + amtL (Cv.feed c))), pc (24 : Nat) ((0 : Int) < Cv.share c + amtL (Cv.feed c) ∧ (-9223372036854775808 : Int) ≤ (32768 : Int) * (Cv.share c - amtL (Cv.back c)) - (1 : Int) - (Cv.share c - (1 : Int)) ∧ (32768 : Int) * (Cv.share c - amtL (Cv.back c)) - (1 : Int) - (Cv.share c - (1 : Int)) ≤ (9223372036854775807 : Int)) (V.i (Int.tdiv ((32768 : Int) * (Cv.share c - amtL (Cv.back c)) - (1 : Int) - (Cv.share c - (1 : Int))) (Cv.share c + amtL (Cv.feed c)))), pv (25 : Nat) (V.i (min (32767 : Int) (Int.tdiv ((32768 : Int) * (Cv.share c - amtL (Cv.back c)) - (1 : Int) - (Cv.share c - (1 : Int))) (Cv.share c + amtL (Cv.feed c))))), pv (2 : Nat) (V.i (min (32767 : Int) (Int.tdiv ((32768 : Int) * (Cv.share c - amtL (Cv.back c)) - (1 : Int) - (Cv.share c - (1 : Int))) (Cv.share c + amtL (Cv.feed c))))), pv (3 : Nat) (V.i (0 : Int))] (by kernel_rfl) (by kernel_rfl) ⟨(by omega), (by omega), (by omega), ⟨(by omega), (by omega)⟩, True.intro⟩ ?_
    refine aops_nil ?_
    refine xt_n ?_
    refine hK _ ?_
    clear hK K
    refine aw_ret ?_
    rw [e, h3]
    refine ret_pure (v' := V.tup [V.i (min (32767 : Int) (Int.tdiv ((32768 : Int) * (Cv.share c - amtL (Cv.back c)) - (1 : Int) - (Cv.share c - (1 : Int))) (Cv.share c + amtL (Cv.feed c)))), V.i (0 : Int)]) (.inr rfl) (by kernel_rfl) (by kernel_rfl) (by kernel_rfl)
  · refine aw_seq_k fun K hK => ?_
    refine w_region (n' := 2) (by kernel_rfl) (by kernel_rfl) ?_
    refine aops_n hTT (M := []) (n := 3) [pv (1 : Nat) (V.ptr [V.sl (1 : Nat) (List.length (Cv.feed c)) fun (k : Nat) => [V.i (gi (Cv.feed c) k)], V.sl (1 : Nat) (List.length (Cv.back c)) fun (k : Nat) => [V.i (gi (Cv.back c) k)], V.i (Cv.share c)]), pv (2 : Nat) (V.i (0 : Int)), pv (3 : Nat) (V.i (0 : Int))] (by kernel_rfl) (by kernel_rfl) True.intro ?_
    refine aops_nil ?_
    refine xt_n ?_
    refine hK _ ?_
    clear hK K
    refine aw_seq_k fun K hK => ?_
    refine w_region (n' := 3) (by kernel_rfl) (by kernel_rfl) ?_
    refine aops_n hTT (M := []) (n := 1) [pv (9 : Nat) (V.agg [V.sl (1 : Nat) (List.length (Cv.feed c)) fun (k : Nat) => [V.i (gi (Cv.feed c) k)], V.sl (1 : Nat) (List.length (Cv.back c)) fun (k : Nat) => [V.i (gi (Cv.back c) k)], V.i (Cv.share c)])] (by kernel_rfl) (by kernel_rfl) True.intro ?_
    refine e_call (first := []) (caps := []) (T) (by kernel_rfl) (by kernel_rfl) (by kernel_rfl) (by kernel_rfl) (by kernel_rfl) ?_
    refine aops_n hTT (M := []) (n := 9) [pv (8 : Nat) (V.tup [V.i (tmF c), V.i (tmB c), V.i (tmD c), V.i (hdE c)]), pv (11 : Nat) (V.i (tmF c)), pv (12 : Nat) (V.i (tmB c)), pv (13 : Nat) (V.i (tmD c)), pv (14 : Nat) (V.i (hdE c)), pv (4 : Nat) (V.i (tmF c)), pv (5 : Nat) (V.i (tmB c)), pv (6 : Nat) (V.i (tmD c)), pv (7 : Nat) (V.i (hdE c))] (by kernel_rfl) (by kernel_rfl) True.intro ?_
    refine aops_nil ?_
    refine xt_n ?_
    refine hK _ ?_
    clear hK K
    refine aw_seq_k fun K hK => ?_
    refine aw_seq_k fun K hK => ?_
    refine w_region (n' := 4) (by kernel_rfl) (by kernel_rfl) ?_
    refine aops_n hTT (M := []) (n := 2) [pv (15 : Nat) (V.i (hdE c)), pv (16 : Nat) (V.b !decide (hdE c = (0 : Int)))] (by kernel_rfl) (by kernel_rfl) True.intro ?_
    refine aops_nil ?_
    refine xt_n ?_
    refine hK _ ?_
    clear hK K
    refine w_cond (t := !decide (hdE c = (0 : Int))) (by kernel_rfl) (fun c1 => ?_) (fun c1 => ?_)
    · refine aw_seq_k fun K hK => ?_
      refine w_region (n' := 5) (by kernel_rfl) (by kernel_rfl) ?_
      refine aops_n hTT (M := []) (n := 3) [pv (17 : Nat) (V.i (hdE c)), pv (2 : Nat) (V.i (0 : Int)), pv (3 : Nat) (V.i (hdE c))] (by kernel_rfl) (by kernel_rfl) True.intro ?_
      refine aops_nil ?_
      refine xt_n ?_
      refine hK _ ?_
      clear hK K
      refine aw_ret ?_
      refine xt_r ?_
      rw [show hdR c = 0 by rw [hdR, if_neg h3]]
      refine ret_pure (v' := V.tup [V.i (0 : Int), V.i (hdE c)]) (.inr rfl) (by kernel_rfl) (by kernel_rfl) (by kernel_rfl)
    · simp at c1
      exact absurd c1 h3
end Go.Proofs.Ytblipieipldanaa
