/-
  Round tips: both copies. Conditions: told in each theorem.
-/
import Derived.Test.YtlfaaddoemcokaaPAb20
import Derived.Test.YtlfaaddoemcokaaAbs24
namespace Go.Proofs.Ytlfaaddoemcokaa
open Go.Ab Go.RowKit Go.Dw Go.Shelf

/-- the square at an index of a round tip -/
def sqI (r a : Int) (k : Nat) : Int := r * r - (k * a) * (k * a)
/-- an element of a round tip -/
def elt (r a : Int) (up : Bool) (k : Nat) : Int := r - (rootI (sqI r a k) + if !up && !decide (rootI (sqI r a k) * rootI (sqI r a k) = sqI r a k) then 1 else 0)
/-- how many elements -/
def eltN (r a : Int) : Nat := (r.tdiv a).toNat + 1
def eltL (r a : Int) (up : Bool) : List Int := (List.range (eltN r a)).map (elt r a up)
theorem eltL_len (r a : Int) (up : Bool) : (eltL r a up).length = eltN r a := by simp [eltL]
theorem eltL_gi {r a : Int} {up : Bool} {k : Nat} (h : k < eltN r a) : gi (eltL r a up) k = elt r a up k := by simp [eltL, gi, h]
theorem eltL_take {r a : Int} {up : Bool} {k m : Nat} (h : k < eltN r a) (hm : k < m) : gi ((eltL r a up).take m) k = elt r a up k := by simp [eltL, gi, h, hm]
theorem mul_le_of_tdiv {r a k : Int} (hr : 0 ≤ r) (ha : 1 ≤ a) (h0 : 0 ≤ k) (h : k ≤ r.tdiv a) : 0 ≤ k * a ∧ k * a ≤ r := by
  refine ⟨Int.mul_nonneg h0 (by omega), ?_⟩
  rw [Int.tdiv_eq_ediv_of_nonneg hr] at h
  exact Int.le_trans (Int.mul_le_mul_of_nonneg_right h (by omega)) (Int.ediv_mul_le r (by omega))
theorem sqI_bd {r a : Int} {k : Nat} (hr : 0 ≤ r ∧ r ≤ 1024) (h : 0 ≤ (k : Int) * a ∧ (k : Int) * a ≤ r) : 0 ≤ sqI r a k ∧ sqI r a k ≤ 1048576 ∧ 0 ≤ r * r ∧ r * r ≤ 1048576 ∧ 0 ≤ (k : Int) * a * ((k : Int) * a) ∧ (k : Int) * a * ((k : Int) * a) ≤ 1048576 := by
  obtain ⟨a1, a2⟩ := sq_le hr.1 hr.2
  obtain ⟨b1, b2⟩ := sq_le h.1 h.2
  unfold sqI
  omega
theorem root_bd {n : Int} (h : 0 ≤ n ∧ n ≤ 1048576) : 0 ≤ rootI n ∧ rootI n ≤ 1024 ∧ 0 ≤ rootI n * rootI n ∧ rootI n * rootI n ≤ n := by
  obtain ⟨a, b, c⟩ := rootI_spec h.1
  exact ⟨a, root_le a (b := 1024) (by decide) b (by omega), Int.mul_nonneg a a, b⟩
def arrI (F : Nat → Int) : List V := (List.range 64).map fun k => V.i (F k)
theorem arrI_len (F : Nat → Int) : (arrI F).length = 64 := by simp [arrI]
theorem arrI_ren (g : Nat → Nat) (F : Nat → Int) : V.renL g (arrI F) = arrI F := by kernel_rfl
theorem arrI_row {F : Nat → Int} {i : Nat} (h : i < 64) : ((arrI F).drop (i * 1)).take 1 = [V.i (F i)] := by
  rw [Nat.mul_one, List.drop_eq_getElem_cons (by rw [arrI_len]; exact h)]
  simp [arrI]
theorem arrI_set {F G : Nat → Int} {i : Nat} {x : Int} (h : i < 64) (hx : G i = x) (hG : ∀ k, k ≠ i → G k = F k) : (arrI F).set i (V.i x) = arrI G := by
  subst hx
  refine List.ext_getElem (by simp [arrI]) fun k h1 h2 => ?_
  by_cases hk : k = i
  · subst hk; simp [arrI]
  · rw [List.getElem_set_ne (Ne.symm hk)]; simp [arrI, hG k hk]
set_option maxRecDepth 100000 in
theorem round_many (r a : Int) (up : Bool) (hr : 0 ≤ r ∧ r ≤ 1024) (ha : 1 ≤ a ∧ a ≤ 4194304) (hN : 64 < eltN r a) : AC Try.prog 74 [.i r, .i a, .b up] (.tup [.agg [.nil], .i 6]) [] := by
  have h1 := (tdiv_bd r (m := a) (by omega)).1 hr.1
  unfold eltN at hN
  refine ac_intro hTT hMX (fn := Try.f74) (N := _) ⟨Try.func74, rfl, Try.ntmps74, by kernel_rfl⟩ (by simp) fun C hC hF => ?_
  refine aw_seq_k fun K hK => ?_
  refine w_region (n' := 2) (by kernel_rfl) (by kernel_rfl) ?_
  refine aops_n hTT (M := []) (n := 2) [pn (6 : Nat) (V.ref (100006 : Nat) (0 : Nat)) (100006 : Nat) (Ob.box (24 : Nat) [V.nil]), pv (7 : Nat) (V.i (0 : Int))] (by kernel_rfl) (by kernel_rfl) True.intro ?_
  refine aops_nil ?_
  refine xt_n ?_
  refine hK _ ?_
  clear hK K
  refine aw_seq_k fun K hK => ?_
  refine w_region (n' := 3) (by kernel_rfl) (by kernel_rfl) ?_
  refine aops_n hTT (M := []) (n := 1) [pn (8 : Nat) (V.ref (200008 : Nat) (0 : Nat)) (200008 : Nat) (Ob.box (134 : Nat) [V.i (0 : Int), V.i (0 : Int), V.i (0 : Int), V.i (0 : Int), V.i (0 : Int), V.i (0 : Int), V.i (0 : Int), V.i (0 : Int), V.i (0 : Int), V.i (0 : Int), V.i (0 : Int), V.i (0 : Int), V.i (0 : Int), V.i (0 : Int), V.i (0 : Int), V.i (0 : Int), V.i (0 : Int), V.i (0 : Int), V.i (0 : Int), V.i (0 : Int), V.i (0 : Int), V.i (0 : Int), V.i (0 : Int), V.i (0 : Int), V.i (0 : Int), V.i (0 : Int), V.i (0 : Int), V.i (0 : Int), V.i (0 : Int), V.i (0 : Int), V.i (0 : Int), V.i (0 : Int), V.i (0 : Int), V.i (0 : Int), V.i (0 : Int), V.i (0 : Int), V.i (0 : Int), V.i (0 : Int), V.i (0 : Int), V.i (0 : Int), V.i (0 : Int), V.i (0 : Int), V.i (0 : Int), V.i (0 : Int), V.i (0 : Int), V.i (0 : Int), V.i (0 : Int), V.i (0 : Int), V.i (0 : Int), V.i (0 : Int), V.i (0 : Int), V.i (0 : Int), V.i (0 : Int), V.i (0 : Int), V.i (0 : Int), V.i (0 : Int), V.i (0 : Int), V.i (0 : Int), V.i (0 : Int), V.i (0 : Int), V.i (0 : Int), V.i (0 : Int), V.i (0 : Int), V.i (0 : Int)])] (by kernel_rfl) (by kernel_rfl) True.intro ?_
  refine aops_nil ?_
  refine xt_n ?_
  refine hK _ ?_
  clear hK K
  refine aw_seq_k fun K hK => ?_
  refine w_region (n' := 4) (by kernel_rfl) (by kernel_rfl) ?_
  refine aops_n hTT (M := []) (n := 5) [pv (15 : Nat) (V.i r), pv (16 : Nat) (V.i a), pc (17 : Nat) ((0 : Int) < a ∧ (-9223372036854775808 : Int) ≤ r ∧ r ≤ (9223372036854775807 : Int)) (V.i (Int.tdiv r a)), pc (18 : Nat) ((-9223372036854775808 : Int) ≤ Int.tdiv r a + (1 : Int) ∧ Int.tdiv r a + (1 : Int) ≤ (9223372036854775807 : Int)) (V.i (Int.tdiv r a + (1 : Int))), pv (9 : Nat) (V.i (Int.tdiv r a + (1 : Int)))] (by kernel_rfl) (by kernel_rfl) ⟨⟨(by omega), (by omega)⟩, (by omega), True.intro⟩ ?_
  refine aops_nil ?_
  refine xt_n ?_
  refine hK _ ?_
  clear hK K
  refine aw_seq_k fun K hK => ?_
  refine aw_seq_k fun K hK => ?_
  refine w_region (n' := 5) (by kernel_rfl) (by kernel_rfl) ?_
  refine aops_n hTT (M := []) (n := 2) [pv (19 : Nat) (V.i (Int.tdiv r a + (1 : Int))), pv (20 : Nat) (V.b (decide ((64 : Int) < Int.tdiv r a + (1 : Int))))] (by kernel_rfl) (by kernel_rfl) True.intro ?_
  refine aops_nil ?_
  refine xt_n ?_
  refine hK _ ?_
  clear hK K
  refine w_cond (t := decide ((64 : Int) < Int.tdiv r a + (1 : Int))) (by kernel_rfl) (fun c1 => ?_) (fun c1 => ?_)
  · refine aw_seq_k fun K hK => ?_
    refine w_region (n' := 6) (by kernel_rfl) (by kernel_rfl) ?_
    refine aops_n hTT (M := []) (n := 3) [pv (21 : Nat) (V.agg [V.nil]), pw ((0 : Nat) + (1 : Nat) ≤ (1 : Nat)) (100006 : Nat) (Ob.box (24 : Nat) [V.nil]), pv (7 : Nat) (V.i (6 : Int))] (by kernel_rfl) (by kernel_rfl) ⟨(by omega), True.intro⟩ ?_
    refine aops_nil ?_
    refine xt_n ?_
    refine hK _ ?_
    clear hK K
    refine aw_ret ?_
    refine xt_r ?_
    refine ret_pure (v' := V.tup [V.agg [V.nil], V.i (6 : Int)]) (.inr rfl) (by kernel_rfl) (by kernel_rfl) (by kernel_rfl)
  · simp at c1
    omega
set_option maxRecDepth 100000 in
theorem round_ac (r a : Int) (up : Bool) (hr : 0 ≤ r ∧ r ≤ 1024) (ha : 1 ≤ a ∧ a ≤ 4194304) (hN : eltN r a ≤ 64) : AC Try.prog 74 [.i r, .i a, .b up] (.tup [.agg [V.ints (eltL r a up)], .i 0]) [] := by
  have h1 := (tdiv_bd r (m := a) (by omega)).1 hr.1
  have hN' := hN
  unfold eltN at hN'
  refine ac_intro hTT hMX (fn := Try.f74) (N := _) ⟨Try.func74, rfl, Try.ntmps74, by kernel_rfl⟩ (by simp) fun C hC hF => ?_
  refine aw_seq_k fun K hK => ?_
  refine w_region (n' := 2) (by kernel_rfl) (by kernel_rfl) ?_
  refine aops_n hTT (M := []) (n := 2) [pn (6 : Nat) (V.ref (100006 : Nat) (0 : Nat)) (100006 : Nat) (Ob.box (24 : Nat) [V.nil]), pv (7 : Nat) (V.i (0 : Int))] (by kernel_rfl) (by kernel_rfl) True.intro ?_
  refine aops_nil ?_
  refine xt_n ?_
  refine hK _ ?_
  clear hK K
  refine aw_seq_k fun K hK => ?_
  refine w_region (n' := 3) (by kernel_rfl) (by kernel_rfl) ?_
  refine aops_n hTT (M := []) (n := 1) [pn (8 : Nat) (V.ref (200008 : Nat) (0 : Nat)) (200008 : Nat) (Ob.box (134 : Nat) [V.i (0 : Int), V.i (0 : Int), V.i (0 : Int), V.i (0 : Int), V.i (0 : Int), V.i (0 : Int), V.i (0 : Int), V.i (0 : Int), V.i (0 : Int), V.i (0 : Int), V.i (0 : Int), V.i (0 : Int), V.i (0 : Int), V.i (0 : Int), V.i (0 : Int), V.i (0 : Int), V.i (0 : Int), V.i (0 : Int), V.i (0 : Int), V.i (0 : Int), V.i (0 : Int), V.i (0 : Int), V.i (0 : Int), V.i (0 : Int), V.i (0 : Int), V.i (0 : Int), V.i (0 : Int), V.i (0 : Int), V.i (0 : Int), V.i (0 : Int), V.i (0 : Int), V.i (0 : Int), V.i (0 : Int), V.i (0 : Int), V.i (0 : Int), V.i (0 : Int), V.i (0 : Int), V.i (0 : Int), V.i (0 : Int), V.i (0 : Int), V.i (0 : Int), V.i (0 : Int), V.i (0 : Int), V.i (0 : Int), V.i (0 : Int), V.i (0 : Int), V.i (0 : Int), V.i (0 : Int), V.i (0 : Int), V.i (0 : Int), V.i (0 : Int), V.i (0 : Int), V.i (0 : Int), V.i (0 : Int), V.i (0 : Int), V.i (0 : Int), V.i (0 : Int), V.i (0 : Int), V.i (0 : Int), V.i (0 : Int), V.i (0 : Int), V.i (0 : Int), V.i (0 : Int), V.i (0 : Int)])] (by kernel_rfl) (by kernel_rfl) True.intro ?_
  refine aops_nil ?_
  refine xt_n ?_
  refine hK _ ?_
  clear hK K
  refine aw_seq_k fun K hK => ?_
  refine w_region (n' := 4) (by kernel_rfl) (by kernel_rfl) ?_
  refine aops_n hTT (M := []) (n := 5) [pv (15 : Nat) (V.i r), pv (16 : Nat) (V.i a), pc (17 : Nat) ((0 : Int) < a ∧ (-9223372036854775808 : Int) ≤ r ∧ r ≤ (9223372036854775807 : Int)) (V.i (Int.tdiv r a)), pc (18 : Nat) ((-9223372036854775808 : Int) ≤ Int.tdiv r a + (1 : Int) ∧ Int.tdiv r a + (1 : Int) ≤ (9223372036854775807 : Int)) (V.i (Int.tdiv r a + (1 : Int))), pv (9 : Nat) (V.i (Int.tdiv r a + (1 : Int)))] (by kernel_rfl) (by kernel_rfl) ⟨⟨(by omega), (by omega)⟩, (by omega), True.intro⟩ ?_
  refine aops_nil ?_
  refine xt_n ?_
  refine hK _ ?_
  clear hK K
  refine aw_seq_k fun K hK => ?_
  refine aw_seq_k fun K hK => ?_
  refine w_region (n' := 5) (by kernel_rfl) (by kernel_rfl) ?_
  refine aops_n hTT (M := []) (n := 2) [pv (19 : Nat) (V.i (Int.tdiv r a + (1 : Int))), pv (20 : Nat) (V.b (decide ((64 : Int) < Int.tdiv r a + (1 : Int))))] (by kernel_rfl) (by kernel_rfl) True.intro ?_
  refine aops_nil ?_
  refine xt_n ?_
  refine hK _ ?_
  clear hK K
  refine w_cond (t := decide ((64 : Int) < Int.tdiv r a + (1 : Int))) (by kernel_rfl) (fun c1 => ?_) (fun c1 => ?_)
  · simp at c1
    omega
  refine aw_skip ?_
  refine xt_n ?_
  refine hK _ ?_
  clear hK K
  refine aw_seq_k fun K hK => ?_
  refine aw_seq_k fun K hK => ?_
  refine w_region (n' := 6) (by kernel_rfl) (by kernel_rfl) ?_
  refine aops_n hTT (M := []) (n := 2) [pv (22 : Nat) (V.i (Int.tdiv r a + (1 : Int))), pv (23 : Nat) (V.i (0 : Int))] (by kernel_rfl) (by kernel_rfl) True.intro ?_
  refine aops_nil ?_
  refine xt_n ?_
  refine hK _ ?_
  clear hK K
  refine aw_block ?_
  refine w_loop (ι := Nat × List V) (fun x => [(0, .i r), (1, .i a), (2, .b up), (6, .ref 6 0), (8, .ref 8 0), (9, .i (r.tdiv a + 1)), (22, .i (r.tdiv a + 1)), (23, .i x.1)])
    (fun x => [(6, .box 24 [.nil]), (8, .box 134 x.2)]) (fun x => x.1 ≤ eltN r a ∧ x.2 = arrI (fun k => if k < x.1 then elt r a up k else 0)) (fun x => eltN r a - x.1) (0, arrI fun _ => 0) ⟨by simp, by simp⟩ ?_ ?_
  · show Le _ ⟨mkT [(0, .i r), (1, .i a), (2, .b up), (6, .ref 6 0), (8, .ref 8 0), (9, .i (r.tdiv a + 1)), (22, .i (r.tdiv a + 1)), (23, .i 0)], mkS [(6, .box 24 [.nil]), (8, .box 134 (arrI fun _ => 0))], 1⟩
    refine le_ren (sl := [(6, Ob.box (24 : Nat) [V.nil]), (8, Ob.box (134 : Nat) [V.i (0 : Int), V.i (0 : Int), V.i (0 : Int), V.i (0 : Int), V.i (0 : Int), V.i (0 : Int), V.i (0 : Int), V.i (0 : Int), V.i (0 : Int), V.i (0 : Int), V.i (0 : Int), V.i (0 : Int), V.i (0 : Int), V.i (0 : Int), V.i (0 : Int), V.i (0 : Int), V.i (0 : Int), V.i (0 : Int), V.i (0 : Int), V.i (0 : Int), V.i (0 : Int), V.i (0 : Int), V.i (0 : Int), V.i (0 : Int), V.i (0 : Int), V.i (0 : Int), V.i (0 : Int), V.i (0 : Int), V.i (0 : Int), V.i (0 : Int), V.i (0 : Int), V.i (0 : Int), V.i (0 : Int), V.i (0 : Int), V.i (0 : Int), V.i (0 : Int), V.i (0 : Int), V.i (0 : Int), V.i (0 : Int), V.i (0 : Int), V.i (0 : Int), V.i (0 : Int), V.i (0 : Int), V.i (0 : Int), V.i (0 : Int), V.i (0 : Int), V.i (0 : Int), V.i (0 : Int), V.i (0 : Int), V.i (0 : Int), V.i (0 : Int), V.i (0 : Int), V.i (0 : Int), V.i (0 : Int), V.i (0 : Int), V.i (0 : Int), V.i (0 : Int), V.i (0 : Int), V.i (0 : Int), V.i (0 : Int), V.i (0 : Int), V.i (0 : Int), V.i (0 : Int), V.i (0 : Int)])]) [(6, 100006), (8, 200008)] (.cons (by kernel_rfl) (.cons (by kernel_rfl) (.cons (by kernel_rfl) (.cons (by kernel_rfl) (.cons (by kernel_rfl) (.cons (by kernel_rfl) (.cons (by kernel_rfl) (.cons (by kernel_rfl) .nil)))))))) (.cons ⟨Ob.box (24 : Nat) [V.nil], (by kernel_rfl), .box (by kernel_rfl)⟩ (.cons ⟨Ob.box (134 : Nat) [V.i (0 : Int), V.i (0 : Int), V.i (0 : Int), V.i (0 : Int), V.i (0 : Int), V.i (0 : Int), V.i (0 : Int), V.i (0 : Int), V.i (0 : Int), V.i (0 : Int), V.i (0 : Int), V.i (0 : Int), V.i (0 : Int), V.i (0 : Int), V.i (0 : Int), V.i (0 : Int), V.i (0 : Int), V.i (0 : Int), V.i (0 : Int), V.i (0 : Int), V.i (0 : Int), V.i (0 : Int), V.i (0 : Int), V.i (0 : Int), V.i (0 : Int), V.i (0 : Int), V.i (0 : Int), V.i (0 : Int), V.i (0 : Int), V.i (0 : Int), V.i (0 : Int), V.i (0 : Int), V.i (0 : Int), V.i (0 : Int), V.i (0 : Int), V.i (0 : Int), V.i (0 : Int), V.i (0 : Int), V.i (0 : Int), V.i (0 : Int), V.i (0 : Int), V.i (0 : Int), V.i (0 : Int), V.i (0 : Int), V.i (0 : Int), V.i (0 : Int), V.i (0 : Int), V.i (0 : Int), V.i (0 : Int), V.i (0 : Int), V.i (0 : Int), V.i (0 : Int), V.i (0 : Int), V.i (0 : Int), V.i (0 : Int), V.i (0 : Int), V.i (0 : Int), V.i (0 : Int), V.i (0 : Int), V.i (0 : Int), V.i (0 : Int), V.i (0 : Int), V.i (0 : Int), V.i (0 : Int)], (by kernel_rfl), .box (by kernel_rfl)⟩ .nil)) (by kernel_rfl) (by kernel_rfl)
  rintro ⟨k, cs⟩ ⟨hk, hcs⟩
  simp only at hk hcs ⊢
  have hlen : cs.length = 64 := by rw [hcs, arrI_len]
  unfold eltN at hk
  refine aw_seq_k fun K hK => ?_
  refine w_region (n' := 2) (by kernel_rfl) (by kernel_rfl) ?_
  refine aops_n hTT (M := []) (n := 1) [pv (24 : Nat) (V.b (decide ((↑k : Int) < Int.tdiv r a + (1 : Int))))] (by kernel_rfl) (by kernel_rfl) True.intro ?_
  refine aops_nil ?_
  refine xt_n ?_
  refine hK _ ?_
  clear hK K
  refine aw_seq_k fun K hK => ?_
  refine w_cond (t := decide ((↑k : Int) < Int.tdiv r a + (1 : Int))) (by kernel_rfl) (fun c2 => ?_) (fun c2 => ?_)
  · simp at c2
    have h2 := mul_le_of_tdiv (k := k) hr.1 ha.1 (by omega) (by omega)
    have h3 := sqI_bd hr h2
    have h4 := root_bd (n := sqI r a k) ⟨h3.1, h3.2.1⟩
    refine aw_skip ?_
    refine xt_n ?_
    refine hK _ ?_
    clear hK K
    refine aw_seq_k fun K hK => ?_
    refine aw_block ?_
    refine aw_seq_k fun K hK => ?_
    refine w_region (n' := 3) (by kernel_rfl) (by kernel_rfl) ?_
    refine aops_n hTT (M := []) (n := 2) [pv (25 : Nat) (V.i (↑k : Int)), pv (10 : Nat) (V.i (↑k : Int))] (by kernel_rfl) (by kernel_rfl) True.intro ?_
    refine aops_nil ?_
    refine xt_n ?_
    refine hK _ ?_
    clear hK K
    refine aw_seq_k fun K hK => ?_
    refine w_region (n' := 4) (by kernel_rfl) (by kernel_rfl) ?_
    refine aops_n hTT (M := []) (n := 4) [pv (26 : Nat) (V.i (↑k : Int)), pv (27 : Nat) (V.i a), pc (28 : Nat) ((-9223372036854775808 : Int) ≤ (↑k : Int) * a ∧ (↑k : Int) * a ≤ (9223372036854775807 : Int)) (V.i ((↑k : Int) * a)), pv (11 : Nat) (V.i ((↑k : Int) * a))] (by kernel_rfl) (by kernel_rfl) ⟨(by omega), True.intro⟩ ?_
    refine aops_nil ?_
    refine xt_n ?_
    refine hK _ ?_
    clear hK K
    refine aw_seq_k fun K hK => ?_
    refine w_region (n' := 5) (by kernel_rfl) (by kernel_rfl) ?_
    refine aops_n hTT (M := []) (n := 8) [pv (29 : Nat) (V.i r), pv (30 : Nat) (V.i r), pc (31 : Nat) ((-9223372036854775808 : Int) ≤ r * r ∧ r * r ≤ (9223372036854775807 : Int)) (V.i (r * r)), pv (32 : Nat) (V.i ((↑k : Int) * a)), pv (33 : Nat) (V.i ((↑k : Int) * a)), pc (34 : Nat) ((-9223372036854775808 : Int) ≤ (↑k : Int) * a * ((↑k : Int) * a) ∧ (↑k : Int) * a * ((↑k : Int) * a) ≤ (9223372036854775807 : Int)) (V.i ((↑k : Int) * a * ((↑k : Int) * a))), pc (35 : Nat) ((-9223372036854775808 : Int) ≤ r * r - (↑k : Int) * a * ((↑k : Int) * a) ∧ r * r - (↑k : Int) * a * ((↑k : Int) * a) ≤ (9223372036854775807 : Int)) (V.i (r * r - (↑k : Int) * a * ((↑k : Int) * a))), pv (12 : Nat) (V.i (r * r - (↑k : Int) * a * ((↑k : Int) * a)))] (by kernel_rfl) (by kernel_rfl) ⟨(by omega), (by omega), (by omega), True.intro⟩ ?_
    refine aops_nil ?_
    refine xt_n ?_
    refine hK _ ?_
    clear hK K
    refine aw_seq_k fun K hK => ?_
    refine w_region (n' := 6) (by kernel_rfl) (by kernel_rfl) ?_
    refine aops_n hTT (M := []) (n := 1) [pv (36 : Nat) (V.i (r * r - (↑k : Int) * a * ((↑k : Int) * a)))] (by kernel_rfl) (by kernel_rfl) True.intro ?_
    refine e_call (first := []) (caps := []) (root_ac (sqI r a k) ⟨h3.1, h3.2.1⟩) (by kernel_rfl) (by kernel_rfl) (by kernel_rfl) (by kernel_rfl) (by kernel_rfl) ?_
    refine aops_n hTT (M := []) (n := 1) [pv (13 : Nat) (V.i (rootI (sqI r a k)))] (by kernel_rfl) (by kernel_rfl) True.intro ?_
    refine aops_nil ?_
    refine xt_n ?_
    refine hK _ ?_
    clear hK K
    refine aw_seq_k fun K hK => ?_
    refine aw_seq_k fun K hK => ?_
    refine w_region (n' := 7) (by kernel_rfl) (by kernel_rfl) ?_
    refine aops_n hTT (M := []) (n := 9) [pv (38 : Nat) (V.b up), pv (39 : Nat) (V.b !up), pv (40 : Nat) (V.b !up), pc (41 : Nat) ((True ∧ True) ∧ (((!up) == true) = true → True)) (V.gd ((!up) == true) (V.i (rootI (sqI r a k)))), pc (42 : Nat) ((True ∧ True) ∧ (((!up) == true) = true → True)) (V.gd ((!up) == true) (V.i (rootI (sqI r a k)))), pc (43 : Nat) (((((!up) == true) = true → ((!up) == true) = true) ∧ (((!up) == true) = true → ((!up) == true) = true) ∧ True) ∧ (((!up) == true) = true → (-9223372036854775808 : Int) ≤ rootI (sqI r a k) * rootI (sqI r a k) ∧ rootI (sqI r a k) * rootI (sqI r a k) ≤ (9223372036854775807 : Int))) (V.gd ((!up) == true) (V.i (rootI (sqI r a k) * rootI (sqI r a k)))), pc (44 : Nat) ((True ∧ True) ∧ (((!up) == true) = true → True)) (V.gd ((!up) == true) (V.i (r * r - (↑k : Int) * a * ((↑k : Int) * a)))), pc (45 : Nat) (((((!up) == true) = true → ((!up) == true) = true) ∧ (((!up) == true) = true → ((!up) == true) = true) ∧ True) ∧ (((!up) == true) = true → True)) (V.gd ((!up) == true) (V.b !decide (rootI (sqI r a k) * rootI (sqI r a k) = r * r - (↑k : Int) * a * ((↑k : Int) * a)))), pc (46 : Nat) (((!up) = true → ((!up) == true) = true) ∧ True) (V.b (!up && !decide (rootI (sqI r a k) * rootI (sqI r a k) = r * r - (↑k : Int) * a * ((↑k : Int) * a))))] (by kernel_rfl) (by kernel_rfl) ⟨⟨⟨True.intro, True.intro⟩, (fun _ => True.intro)⟩, ⟨⟨True.intro, True.intro⟩, (fun _ => True.intro)⟩, ⟨⟨(by (exact fun h => h)), ⟨(by (exact fun h => h)), True.intro⟩⟩, (by (intro hg; simp at hg; omega))⟩, ⟨⟨True.intro, True.intro⟩, (fun _ => True.intro)⟩, ⟨⟨(by (exact fun h => h)), ⟨(by (exact fun h => h)), True.intro⟩⟩, (fun _ => True.intro)⟩, ⟨(by (intro h; rw [h]; rfl)), True.intro⟩, True.intro⟩ ?_
    refine aops_nil ?_
    refine xt_n ?_
    refine hK _ ?_
    clear hK K
    refine w_cond (t := !up && !decide (rootI (sqI r a k) * rootI (sqI r a k) = r * r - (↑k : Int) * a * ((↑k : Int) * a))) (by kernel_rfl) (fun c3 => ?_) (fun c3 => ?_)
    · have he : elt r a up k = r - (rootI (sqI r a k) + 1) := by rw [elt, if_pos (by exact c3)]
      have hset : cs.set k (V.i (r - (rootI (sqI r a k) + 1))) = arrI (fun j => if j < k + 1 then elt r a up j else 0) := by
        rw [hcs, arrI_set (G := fun j => if j < k + 1 then elt r a up j else 0) (by omega) (by simp [he]) (fun j hj => by simp [show j < k + 1 ↔ j < k by omega])]
      refine w_region (n' := 8) (by kernel_rfl) (by kernel_rfl) ?_
      refine aops_n hTT (M := []) (n := 3) [pv (47 : Nat) (V.i (rootI (sqI r a k))), pc (48 : Nat) ((-9223372036854775808 : Int) ≤ rootI (sqI r a k) + (1 : Int) ∧ rootI (sqI r a k) + (1 : Int) ≤ (9223372036854775807 : Int)) (V.i (rootI (sqI r a k) + (1 : Int))), pv (13 : Nat) (V.i (rootI (sqI r a k) + (1 : Int)))] (by kernel_rfl) (by kernel_rfl) ⟨(by omega), True.intro⟩ ?_
      refine aops_nil ?_
      refine xt_n ?_
      refine hK _ ?_
      clear hK K
      refine w_region (n' := 9) (by kernel_rfl) (by kernel_rfl) ?_
      refine aops_n hTT (M := []) (n := 6) [pv (49 : Nat) (V.i (↑k : Int)), pv (50 : Nat) (V.i r), pv (51 : Nat) (V.i (rootI (sqI r a k) + (1 : Int))), pc (52 : Nat) ((-9223372036854775808 : Int) ≤ r - (rootI (sqI r a k) + (1 : Int)) ∧ r - (rootI (sqI r a k) + (1 : Int)) ≤ (9223372036854775807 : Int)) (V.i (r - (rootI (sqI r a k) + (1 : Int)))), pc (53 : Nat) ((0 : Int) ≤ (↑k : Int) ∧ (↑k : Int) < (↑(64 : Nat) : Int)) (V.ref (8 : Nat) ((0 : Nat) + k * (1 : Nat))), pw ((0 : Nat) + k * (1 : Nat) + (1 : Nat) ≤ List.length cs) (8 : Nat) (Ob.box (134 : Nat) (setCells cs ((0 : Nat) + k * (1 : Nat)) [V.c (Value.int IntKind.i64 (r - (rootI (sqI r a k) + (1 : Int))))]))] (by kernel_rfl) (by kernel_rfl) ⟨(by omega), (by omega), (by omega), True.intro⟩ ?_
      refine aops_nil ?_
      refine xb_n ?_
      refine xt_n ?_
      refine hK _ ?_
      clear hK K
      refine w_region (n' := 10) (by kernel_rfl) (by kernel_rfl) ?_
      refine aops_n hTT (M := []) (n := 2) [pc (54 : Nat) ((-9223372036854775808 : Int) ≤ (↑k : Int) + (1 : Int) ∧ (↑k : Int) + (1 : Int) ≤ (9223372036854775807 : Int)) (V.i ((↑k : Int) + (1 : Int))), pv (23 : Nat) (V.i ((↑k : Int) + (1 : Int)))] (by kernel_rfl) (by kernel_rfl) ⟨(by omega), True.intro⟩ ?_
      refine aops_nil ?_
      refine xt_n ?_
      refine ⟨(k + 1, cs.set k (V.i (r - (rootI (sqI r a k) + 1)))), ⟨by simp only [eltN]; omega, ?_⟩, ?_, by simp only [eltN]; omega⟩
      · exact hset
      · show Le _ ⟨mkT [(0, .i r), (1, .i a), (2, .b up), (6, .ref 6 0), (8, .ref 8 0), (9, .i (r.tdiv a + 1)), (22, .i (r.tdiv a + 1)), (23, .i ((k + 1 : Nat) : Int))], mkS [(6, .box 24 [.nil]), (8, .box 134 (cs.set k (V.i (r - (rootI (sqI r a k) + 1)))))], 1⟩
        refine le_ren (tl := [(0, V.i r), (1, V.i a), (2, V.b up), (6, V.ref (6 : Nat) (0 : Nat)), (8, V.ref (8 : Nat) (0 : Nat)), (9, V.i (Int.tdiv r a + (1 : Int))), (22, V.i (Int.tdiv r a + (1 : Int))), (23, V.i (↑(k + (1 : Nat)) : Int))]) (sl := [(6, Ob.box (24 : Nat) [V.nil]), (8, Ob.box (134 : Nat) (List.set cs k (V.i (r - (rootI (sqI r a k) + (1 : Int))))))]) [(6, 6), (8, 8)] (.cons (by kernel_rfl) (.cons (by kernel_rfl) (.cons (by kernel_rfl) (.cons (by kernel_rfl) (.cons (by kernel_rfl) (.cons (by kernel_rfl) (.cons (by kernel_rfl) (.cons (by kernel_rfl) .nil)))))))) (.cons ⟨Ob.box (24 : Nat) [V.nil], (by kernel_rfl), .box (by kernel_rfl)⟩ (.cons ⟨Ob.box (134 : Nat) (setCells cs ((0 : Nat) + k * (1 : Nat)) [V.c (Value.int IntKind.i64 (r - (rootI (sqI r a k) + (1 : Int))))]), (by kernel_rfl), .box ?_⟩ .nil)) (by kernel_rfl) (by kernel_rfl)
        rw [hset, arrI_ren, ← hset, Nat.zero_add, Nat.mul_one]
        rfl
    · have he : elt r a up k = r - rootI (sqI r a k) := by
        have c3' : (!up && !decide (rootI (sqI r a k) * rootI (sqI r a k) = sqI r a k)) = false := c3
        rw [elt, if_neg (by rw [c3']; decide), Int.add_zero]
      have hset : cs.set k (V.i (r - rootI (sqI r a k))) = arrI (fun j => if j < k + 1 then elt r a up j else 0) := by
        rw [hcs, arrI_set (G := fun j => if j < k + 1 then elt r a up j else 0) (by omega) (by simp [he]) (fun j hj => by simp [show j < k + 1 ↔ j < k by omega])]
      refine aw_skip ?_
      refine xt_n ?_
      refine hK _ ?_
      clear hK K
      refine w_region (n' := 8) (by kernel_rfl) (by kernel_rfl) ?_
      refine aops_n hTT (M := []) (n := 6) [pv (49 : Nat) (V.i (↑k : Int)), pv (50 : Nat) (V.i r), pv (51 : Nat) (V.i (rootI (sqI r a k))), pc (52 : Nat) ((-9223372036854775808 : Int) ≤ r - rootI (sqI r a k) ∧ r - rootI (sqI r a k) ≤ (9223372036854775807 : Int)) (V.i (r - rootI (sqI r a k))), pc (53 : Nat) ((0 : Int) ≤ (↑k : Int) ∧ (↑k : Int) < (↑(64 : Nat) : Int)) (V.ref (8 : Nat) ((0 : Nat) + k * (1 : Nat))), pw ((0 : Nat) + k * (1 : Nat) + (1 : Nat) ≤ List.length cs) (8 : Nat) (Ob.box (134 : Nat) (setCells cs ((0 : Nat) + k * (1 : Nat)) [V.c (Value.int IntKind.i64 (r - rootI (sqI r a k)))]))] (by kernel_rfl) (by kernel_rfl) ⟨(by omega), (by omega), (by omega), True.intro⟩ ?_
      refine aops_nil ?_
      refine xb_n ?_
      refine xt_n ?_
      refine hK _ ?_
      clear hK K
      refine w_region (n' := 9) (by kernel_rfl) (by kernel_rfl) ?_
      refine aops_n hTT (M := []) (n := 2) [pc (54 : Nat) ((-9223372036854775808 : Int) ≤ (↑k : Int) + (1 : Int) ∧ (↑k : Int) + (1 : Int) ≤ (9223372036854775807 : Int)) (V.i ((↑k : Int) + (1 : Int))), pv (23 : Nat) (V.i ((↑k : Int) + (1 : Int)))] (by kernel_rfl) (by kernel_rfl) ⟨(by omega), True.intro⟩ ?_
      refine aops_nil ?_
      refine xt_n ?_
      refine ⟨(k + 1, cs.set k (V.i (r - rootI (sqI r a k)))), ⟨by simp only [eltN]; omega, ?_⟩, ?_, by simp only [eltN]; omega⟩
      · exact hset
      · show Le _ ⟨mkT [(0, .i r), (1, .i a), (2, .b up), (6, .ref 6 0), (8, .ref 8 0), (9, .i (r.tdiv a + 1)), (22, .i (r.tdiv a + 1)), (23, .i ((k + 1 : Nat) : Int))], mkS [(6, .box 24 [.nil]), (8, .box 134 (cs.set k (V.i (r - rootI (sqI r a k)))))], 1⟩
        refine le_ren (tl := [(0, V.i r), (1, V.i a), (2, V.b up), (6, V.ref (6 : Nat) (0 : Nat)), (8, V.ref (8 : Nat) (0 : Nat)), (9, V.i (Int.tdiv r a + (1 : Int))), (22, V.i (Int.tdiv r a + (1 : Int))), (23, V.i (↑(k + (1 : Nat)) : Int))]) (sl := [(6, Ob.box (24 : Nat) [V.nil]), (8, Ob.box (134 : Nat) (List.set cs k (V.i (r - rootI (sqI r a k)))))]) [(6, 6), (8, 8)] (.cons (by kernel_rfl) (.cons (by kernel_rfl) (.cons (by kernel_rfl) (.cons (by kernel_rfl) (.cons (by kernel_rfl) (.cons (by kernel_rfl) (.cons (by kernel_rfl) (.cons (by kernel_rfl) .nil)))))))) (.cons ⟨Ob.box (24 : Nat) [V.nil], (by kernel_rfl), .box (by kernel_rfl)⟩ (.cons ⟨Ob.box (134 : Nat) (setCells cs ((0 : Nat) + k * (1 : Nat)) [V.c (Value.int IntKind.i64 (r - rootI (sqI r a k)))]), (by kernel_rfl), .box ?_⟩ .nil)) (by kernel_rfl) (by kernel_rfl)
        rw [hset, arrI_ren, ← hset, Nat.zero_add, Nat.mul_one]
        rfl
  · simp at c2
    have hk2 : k = eltN r a := by unfold eltN; omega
    rw [hcs]
    refine w_le (le_freezeBox (t := (134 : Nat)) (cs := [V.i (if 0 < k then elt r a up 0 else (0 : Int)), V.i (if 1 < k then elt r a up 1 else (0 : Int)), V.i (if 2 < k then elt r a up 2 else (0 : Int)), V.i (if 3 < k then elt r a up 3 else (0 : Int)), V.i (if 4 < k then elt r a up 4 else (0 : Int)), V.i (if 5 < k then elt r a up 5 else (0 : Int)), V.i (if 6 < k then elt r a up 6 else (0 : Int)), V.i (if 7 < k then elt r a up 7 else (0 : Int)), V.i (if 8 < k then elt r a up 8 else (0 : Int)), V.i (if 9 < k then elt r a up 9 else (0 : Int)), V.i (if 10 < k then elt r a up 10 else (0 : Int)), V.i (if 11 < k then elt r a up 11 else (0 : Int)), V.i (if 12 < k then elt r a up 12 else (0 : Int)), V.i (if 13 < k then elt r a up 13 else (0 : Int)), V.i (if 14 < k then elt r a up 14 else (0 : Int)), V.i (if 15 < k then elt r a up 15 else (0 : Int)), V.i (if 16 < k then elt r a up 16 else (0 : Int)), V.i (if 17 < k then elt r a up 17 else (0 : Int)), V.i (if 18 < k then elt r a up 18 else (0 : Int)), V.i (if 19 < k then elt r a up 19 else (0 : Int)), V.i (if 20 < k then elt r a up 20 else (0 : Int)), V.i (if 21 < k then elt r a up 21 else (0 : Int)), V.i (if 22 < k then elt r a up 22 else (0 : Int)), V.i (if 23 < k then elt r a up 23 else (0 : Int)), V.i (if 24 < k then elt r a up 24 else (0 : Int)), V.i (if 25 < k then elt r a up 25 else (0 : Int)), V.i (if 26 < k then elt r a up 26 else (0 : Int)), V.i (if 27 < k then elt r a up 27 else (0 : Int)), V.i (if 28 < k then elt r a up 28 else (0 : Int)), V.i (if 29 < k then elt r a up 29 else (0 : Int)), V.i (if 30 < k then elt r a up 30 else (0 : Int)), V.i (if 31 < k then elt r a up 31 else (0 : Int)), V.i (if 32 < k then elt r a up 32 else (0 : Int)), V.i (if 33 < k then elt r a up 33 else (0 : Int)), V.i (if 34 < k then elt r a up 34 else (0 : Int)), V.i (if 35 < k then elt r a up 35 else (0 : Int)), V.i (if 36 < k then elt r a up 36 else (0 : Int)), V.i (if 37 < k then elt r a up 37 else (0 : Int)), V.i (if 38 < k then elt r a up 38 else (0 : Int)), V.i (if 39 < k then elt r a up 39 else (0 : Int)), V.i (if 40 < k then elt r a up 40 else (0 : Int)), V.i (if 41 < k then elt r a up 41 else (0 : Int)), V.i (if 42 < k then elt r a up 42 else (0 : Int)), V.i (if 43 < k then elt r a up 43 else (0 : Int)), V.i (if 44 < k then elt r a up 44 else (0 : Int)), V.i (if 45 < k then elt r a up 45 else (0 : Int)), V.i (if 46 < k then elt r a up 46 else (0 : Int)), V.i (if 47 < k then elt r a up 47 else (0 : Int)), V.i (if 48 < k then elt r a up 48 else (0 : Int)), V.i (if 49 < k then elt r a up 49 else (0 : Int)), V.i (if 50 < k then elt r a up 50 else (0 : Int)), V.i (if 51 < k then elt r a up 51 else (0 : Int)), V.i (if 52 < k then elt r a up 52 else (0 : Int)), V.i (if 53 < k then elt r a up 53 else (0 : Int)), V.i (if 54 < k then elt r a up 54 else (0 : Int)), V.i (if 55 < k then elt r a up 55 else (0 : Int)), V.i (if 56 < k then elt r a up 56 else (0 : Int)), V.i (if 57 < k then elt r a up 57 else (0 : Int)), V.i (if 58 < k then elt r a up 58 else (0 : Int)), V.i (if 59 < k then elt r a up 59 else (0 : Int)), V.i (if 60 < k then elt r a up 60 else (0 : Int)), V.i (if 61 < k then elt r a up 61 else (0 : Int)), V.i (if 62 < k then elt r a up 62 else (0 : Int)), V.i (if 63 < k then elt r a up 63 else (0 : Int))]) 8 (by kernel_rfl) (by kernel_rfl)) ?_
    refine aw_exit ?_
    refine xt_x ?_
    refine xt_x ?_
    refine xb_same ?_
    refine xt_n ?_
    clear hK K
    refine hK _ ?_
    clear hK K
    refine aw_seq_k fun K hK => ?_
    refine w_region (n' := 3) (by kernel_rfl) (by kernel_rfl) ?_
    refine aops_n hTT (M := []) (n := 5) [pv (55 : Nat) (V.i (Int.tdiv r a + (1 : Int))), PR.mk (some (56 : Nat)) (some ((0 : Int) ≤ Int.tdiv r a + (1 : Int) ∧ Int.tdiv r a + (1 : Int) ≤ Int.tdiv r a + (1 : Int) ∧ Int.tdiv r a + (1 : Int) ≤ (1099511627776 : Int))) (V.own (200056 : Nat)) [((200056 : Nat), some (Ob.row (2 : Nat) (1 : Nat) (Int.toNat (Int.tdiv r a + (1 : Int))) fun (x : Nat) => [V.c (Value.int IntKind.i64 (0 : Int))]))] false, pv (57 : Nat) (V.agg [V.own (200056 : Nat)]), pn (14 : Nat) (V.ref (200014 : Nat) (0 : Nat)) (200014 : Nat) (Ob.box (24 : Nat) [V.nil]), pw ((0 : Nat) + (1 : Nat) ≤ (1 : Nat)) (200014 : Nat) (Ob.box (24 : Nat) [V.own (200056 : Nat)])] (by kernel_rfl) (by kernel_rfl) ⟨⟨(by omega), (by omega)⟩, (by omega), True.intro⟩ ?_
    refine aops_nil ?_
    refine xt_n ?_
    refine hK _ ?_
    clear hK K
    refine aw_seq_k fun K hK => ?_
    refine w_regionD (n' := 4) (by kernel_rfl) (by kernel_rfl) ?_
    refine aops_n hTT (M := []) (n := 4) [pv (58 : Nat) (V.ref (200014 : Nat) (0 : Nat)), pc (59 : Nat) ((0 : Nat) ≤ (1 : Nat)) (V.own (200056 : Nat)), pv (60 : Nat) (V.sl (1 : Nat) (64 : Nat) fun (i : Nat) => List.take (1 : Nat) (List.drop (i * (1 : Nat)) [V.i (if (0 : Nat) < k then elt r a up (0 : Nat) else (0 : Int)), V.i (if (1 : Nat) < k then elt r a up (1 : Nat) else (0 : Int)), V.i (if (2 : Nat) < k then elt r a up (2 : Nat) else (0 : Int)), V.i (if (3 : Nat) < k then elt r a up (3 : Nat) else (0 : Int)), V.i (if (4 : Nat) < k then elt r a up (4 : Nat) else (0 : Int)), V.i (if (5 : Nat) < k then elt r a up (5 : Nat) else (0 : Int)), V.i (if (6 : Nat) < k then elt r a up (6 : Nat) else (0 : Int)), V.i (if (7 : Nat) < k then elt r a up (7 : Nat) else (0 : Int)), V.i (if (8 : Nat) < k then elt r a up (8 : Nat) else (0 : Int)), V.i (if (9 : Nat) < k then elt r a up (9 : Nat) else (0 : Int)), V.i (if (10 : Nat) < k then elt r a up (10 : Nat) else (0 : Int)), V.i (if (11 : Nat) < k then elt r a up (11 : Nat) else (0 : Int)), V.i (if (12 : Nat) < k then elt r a up (12 : Nat) else (0 : Int)), V.i (if (13 : Nat) < k then elt r a up (13 : Nat) else (0 : Int)), V.i (if (14 : Nat) < k then elt r a up (14 : Nat) else (0 : Int)), V.i (if (15 : Nat) < k then elt r a up (15 : Nat) else (0 : Int)), V.i (if (16 : Nat) < k then elt r a up (16 : Nat) else (0 : Int)), V.i (if (17 : Nat) < k then elt r a up (17 : Nat) else (0 : Int)), V.i (if (18 : Nat) < k then elt r a up (18 : Nat) else (0 : Int)), V.i (if (19 : Nat) < k then elt r a up (19 : Nat) else (0 : Int)), V.i (if (20 : Nat) < k then elt r a up (20 : Nat) else (0 : Int)), V.i (if (21 : Nat) < k then elt r a up (21 : Nat) else (0 : Int)), V.i (if (22 : Nat) < k then elt r a up (22 : Nat) else (0 : Int)), V.i (if (23 : Nat) < k then elt r a up (23 : Nat) else (0 : Int)), V.i (if (24 : Nat) < k then elt r a up (24 : Nat) else (0 : Int)), V.i (if (25 : Nat) < k then elt r a up (25 : Nat) else (0 : Int)), V.i (if (26 : Nat) < k then elt r a up (26 : Nat) else (0 : Int)), V.i (if (27 : Nat) < k then elt r a up (27 : Nat) else (0 : Int)), V.i (if (28 : Nat) < k then elt r a up (28 : Nat) else (0 : Int)), V.i (if (29 : Nat) < k then elt r a up (29 : Nat) else (0 : Int)), V.i (if (30 : Nat) < k then elt r a up (30 : Nat) else (0 : Int)), V.i (if (31 : Nat) < k then elt r a up (31 : Nat) else (0 : Int)), V.i (if (32 : Nat) < k then elt r a up (32 : Nat) else (0 : Int)), V.i (if (33 : Nat) < k then elt r a up (33 : Nat) else (0 : Int)), V.i (if (34 : Nat) < k then elt r a up (34 : Nat) else (0 : Int)), V.i (if (35 : Nat) < k then elt r a up (35 : Nat) else (0 : Int)), V.i (if (36 : Nat) < k then elt r a up (36 : Nat) else (0 : Int)), V.i (if (37 : Nat) < k then elt r a up (37 : Nat) else (0 : Int)), V.i (if (38 : Nat) < k then elt r a up (38 : Nat) else (0 : Int)), V.i (if (39 : Nat) < k then elt r a up (39 : Nat) else (0 : Int)), V.i (if (40 : Nat) < k then elt r a up (40 : Nat) else (0 : Int)), V.i (if (41 : Nat) < k then elt r a up (41 : Nat) else (0 : Int)), V.i (if (42 : Nat) < k then elt r a up (42 : Nat) else (0 : Int)), V.i (if (43 : Nat) < k then elt r a up (43 : Nat) else (0 : Int)), V.i (if (44 : Nat) < k then elt r a up (44 : Nat) else (0 : Int)), V.i (if (45 : Nat) < k then elt r a up (45 : Nat) else (0 : Int)), V.i (if (46 : Nat) < k then elt r a up (46 : Nat) else (0 : Int)), V.i (if (47 : Nat) < k then elt r a up (47 : Nat) else (0 : Int)), V.i (if (48 : Nat) < k then elt r a up (48 : Nat) else (0 : Int)), V.i (if (49 : Nat) < k then elt r a up (49 : Nat) else (0 : Int)), V.i (if (50 : Nat) < k then elt r a up (50 : Nat) else (0 : Int)), V.i (if (51 : Nat) < k then elt r a up (51 : Nat) else (0 : Int)), V.i (if (52 : Nat) < k then elt r a up (52 : Nat) else (0 : Int)), V.i (if (53 : Nat) < k then elt r a up (53 : Nat) else (0 : Int)), V.i (if (54 : Nat) < k then elt r a up (54 : Nat) else (0 : Int)), V.i (if (55 : Nat) < k then elt r a up (55 : Nat) else (0 : Int)), V.i (if (56 : Nat) < k then elt r a up (56 : Nat) else (0 : Int)), V.i (if (57 : Nat) < k then elt r a up (57 : Nat) else (0 : Int)), V.i (if (58 : Nat) < k then elt r a up (58 : Nat) else (0 : Int)), V.i (if (59 : Nat) < k then elt r a up (59 : Nat) else (0 : Int)), V.i (if (60 : Nat) < k then elt r a up (60 : Nat) else (0 : Int)), V.i (if (61 : Nat) < k then elt r a up (61 : Nat) else (0 : Int)), V.i (if (62 : Nat) < k then elt r a up (62 : Nat) else (0 : Int)), V.i (if (63 : Nat) < k then elt r a up (63 : Nat) else (0 : Int))])), PR.mk (some (61 : Nat)) (some ((0 : Nat) < Int.toNat (Int.tdiv r a + (1 : Int)) ∧ (0 : Nat) < (64 : Nat))) (V.i (↑(min (64 : Nat) (Int.toNat (Int.tdiv r a + (1 : Int)))) : Int)) [((200056 : Nat), some (Ob.row (2 : Nat) (1 : Nat) (Int.toNat (Int.tdiv r a + (1 : Int))) fun (j : Nat) => if j < min (64 : Nat) (Int.toNat (Int.tdiv r a + (1 : Int))) then List.take (1 : Nat) (List.drop (j * (1 : Nat)) [V.i (if (0 : Nat) < k then elt r a up (0 : Nat) else (0 : Int)), V.i (if (1 : Nat) < k then elt r a up (1 : Nat) else (0 : Int)), V.i (if (2 : Nat) < k then elt r a up (2 : Nat) else (0 : Int)), V.i (if (3 : Nat) < k then elt r a up (3 : Nat) else (0 : Int)), V.i (if (4 : Nat) < k then elt r a up (4 : Nat) else (0 : Int)), V.i (if (5 : Nat) < k then elt r a up (5 : Nat) else (0 : Int)), V.i (if (6 : Nat) < k then elt r a up (6 : Nat) else (0 : Int)), V.i (if (7 : Nat) < k then elt r a up (7 : Nat) else (0 : Int)), V.i (if (8 : Nat) < k then elt r a up (8 : Nat) else (0 : Int)), V.i (if (9 : Nat) < k then elt r a up (9 : Nat) else (0 : Int)), V.i (if (10 : Nat) < k then elt r a up (10 : Nat) else (0 : Int)), V.i (if (11 : Nat) < k then elt r a up (11 : Nat) else (0 : Int)), V.i (if (12 : Nat) < k then elt r a up (12 : Nat) else (0 : Int)), V.i (if (13 : Nat) < k then elt r a up (13 : Nat) else (0 : Int)), V.i (if (14 : Nat) < k then elt r a up (14 : Nat) else (0 : Int)), V.i (if (15 : Nat) < k then elt r a up (15 : Nat) else (0 : Int)), V.i (if (16 : Nat) < k then elt r a up (16 : Nat) else (0 : Int)), V.i (if (17 : Nat) < k then elt r a up (17 : Nat) else (0 : Int)), V.i (if (18 : Nat) < k then elt r a up (18 : Nat) else (0 : Int)), V.i (if (19 : Nat) < k then elt r a up (19 : Nat) else (0 : Int)), V.i (if (20 : Nat) < k then elt r a up (20 : Nat) else (0 : Int)), V.i (if (21 : Nat) < k then elt r a up (21 : Nat) else (0 : Int)), V.i (if (22 : Nat) < k then elt r a up (22 : Nat) else (0 : Int)), V.i (if (23 : Nat) < k then elt r a up (23 : Nat) else (0 : Int)), V.i (if (24 : Nat) < k then elt r a up (24 : Nat) else (0 : Int)), V.i (if (25 : Nat) < k then elt r a up (25 : Nat) else (0 : Int)), V.i (if (26 : Nat) < k then elt r a up (26 : Nat) else (0 : Int)), V.i (if (27 : Nat) < k then elt r a up (27 : Nat) else (0 : Int)), V.i (if (28 : Nat) < k then elt r a up (28 : Nat) else (0 : Int)), V.i (if (29 : Nat) < k then elt r a up (29 : Nat) else (0 : Int)), V.i (if (30 : Nat) < k then elt r a up (30 : Nat) else (0 : Int)), V.i (if (31 : Nat) < k then elt r a up (31 : Nat) else (0 : Int)), V.i (if (32 : Nat) < k then elt r a up (32 : Nat) else (0 : Int)), V.i (if (33 : Nat) < k then elt r a up (33 : Nat) else (0 : Int)), V.i (if (34 : Nat) < k then elt r a up (34 : Nat) else (0 : Int)), V.i (if (35 : Nat) < k then elt r a up (35 : Nat) else (0 : Int)), V.i (if (36 : Nat) < k then elt r a up (36 : Nat) else (0 : Int)), V.i (if (37 : Nat) < k then elt r a up (37 : Nat) else (0 : Int)), V.i (if (38 : Nat) < k then elt r a up (38 : Nat) else (0 : Int)), V.i (if (39 : Nat) < k then elt r a up (39 : Nat) else (0 : Int)), V.i (if (40 : Nat) < k then elt r a up (40 : Nat) else (0 : Int)), V.i (if (41 : Nat) < k then elt r a up (41 : Nat) else (0 : Int)), V.i (if (42 : Nat) < k then elt r a up (42 : Nat) else (0 : Int)), V.i (if (43 : Nat) < k then elt r a up (43 : Nat) else (0 : Int)), V.i (if (44 : Nat) < k then elt r a up (44 : Nat) else (0 : Int)), V.i (if (45 : Nat) < k then elt r a up (45 : Nat) else (0 : Int)), V.i (if (46 : Nat) < k then elt r a up (46 : Nat) else (0 : Int)), V.i (if (47 : Nat) < k then elt r a up (47 : Nat) else (0 : Int)), V.i (if (48 : Nat) < k then elt r a up (48 : Nat) else (0 : Int)), V.i (if (49 : Nat) < k then elt r a up (49 : Nat) else (0 : Int)), V.i (if (50 : Nat) < k then elt r a up (50 : Nat) else (0 : Int)), V.i (if (51 : Nat) < k then elt r a up (51 : Nat) else (0 : Int)), V.i (if (52 : Nat) < k then elt r a up (52 : Nat) else (0 : Int)), V.i (if (53 : Nat) < k then elt r a up (53 : Nat) else (0 : Int)), V.i (if (54 : Nat) < k then elt r a up (54 : Nat) else (0 : Int)), V.i (if (55 : Nat) < k then elt r a up (55 : Nat) else (0 : Int)), V.i (if (56 : Nat) < k then elt r a up (56 : Nat) else (0 : Int)), V.i (if (57 : Nat) < k then elt r a up (57 : Nat) else (0 : Int)), V.i (if (58 : Nat) < k then elt r a up (58 : Nat) else (0 : Int)), V.i (if (59 : Nat) < k then elt r a up (59 : Nat) else (0 : Int)), V.i (if (60 : Nat) < k then elt r a up (60 : Nat) else (0 : Int)), V.i (if (61 : Nat) < k then elt r a up (61 : Nat) else (0 : Int)), V.i (if (62 : Nat) < k then elt r a up (62 : Nat) else (0 : Int)), V.i (if (63 : Nat) < k then elt r a up (63 : Nat) else (0 : Int))]) else [V.c (Value.int IntKind.i64 (0 : Int))]))] false] (by kernel_rfl) (by kernel_rfl) ⟨(by omega), (by omega), True.intro⟩ ?_
    refine aops_nil ⟨by kernel_rfl, ?_⟩
    refine xt_n ?_
    refine hK _ ?_
    clear hK K
    refine aw_seq_k fun K hK => ?_
    refine w_region (n' := 5) (by kernel_rfl) (by kernel_rfl) ?_
    refine aops_n hTT (M := []) (n := 3) [pc (62 : Nat) ((0 : Nat) ≤ (1 : Nat)) (V.agg [V.own (200056 : Nat)]), pw ((0 : Nat) + (1 : Nat) ≤ (1 : Nat)) (6 : Nat) (Ob.box (24 : Nat) [V.own (200056 : Nat)]), pv (7 : Nat) (V.i (0 : Int))] (by kernel_rfl) (by kernel_rfl) ⟨(by omega), (by omega), True.intro⟩ ?_
    refine aops_nil ?_
    refine xt_n ?_
    refine hK _ ?_
    clear hK K
    refine aw_ret ?_
    refine ret_of_le (le_freezeIn 200056 (e := (2 : Nat)) (sz := (1 : Nat)) (n := Int.toNat (Int.tdiv r a + (1 : Int))) (n' := (eltL r a up).length) (row := fun (j : Nat) => if j < min (64 : Nat) (Int.toNat (Int.tdiv r a + (1 : Int))) then List.take (1 : Nat) (List.drop (j * (1 : Nat)) [V.i (if (0 : Nat) < k then elt r a up (0 : Nat) else (0 : Int)), V.i (if (1 : Nat) < k then elt r a up (1 : Nat) else (0 : Int)), V.i (if (2 : Nat) < k then elt r a up (2 : Nat) else (0 : Int)), V.i (if (3 : Nat) < k then elt r a up (3 : Nat) else (0 : Int)), V.i (if (4 : Nat) < k then elt r a up (4 : Nat) else (0 : Int)), V.i (if (5 : Nat) < k then elt r a up (5 : Nat) else (0 : Int)), V.i (if (6 : Nat) < k then elt r a up (6 : Nat) else (0 : Int)), V.i (if (7 : Nat) < k then elt r a up (7 : Nat) else (0 : Int)), V.i (if (8 : Nat) < k then elt r a up (8 : Nat) else (0 : Int)), V.i (if (9 : Nat) < k then elt r a up (9 : Nat) else (0 : Int)), V.i (if (10 : Nat) < k then elt r a up (10 : Nat) else (0 : Int)), V.i (if (11 : Nat) < k then elt r a up (11 : Nat) else (0 : Int)), V.i (if (12 : Nat) < k then elt r a up (12 : Nat) else (0 : Int)), V.i (if (13 : Nat) < k then elt r a up (13 : Nat) else (0 : Int)), V.i (if (14 : Nat) < k then elt r a up (14 : Nat) else (0 : Int)), V.i (if (15 : Nat) < k then elt r a up (15 : Nat) else (0 : Int)), V.i (if (16 : Nat) < k then elt r a up (16 : Nat) else (0 : Int)), V.i (if (17 : Nat) < k then elt r a up (17 : Nat) else (0 : Int)), V.i (if (18 : Nat) < k then elt r a up (18 : Nat) else (0 : Int)), V.i (if (19 : Nat) < k then elt r a up (19 : Nat) else (0 : Int)), V.i (if (20 : Nat) < k then elt r a up (20 : Nat) else (0 : Int)), V.i (if (21 : Nat) < k then elt r a up (21 : Nat) else (0 : Int)), V.i (if (22 : Nat) < k then elt r a up (22 : Nat) else (0 : Int)), V.i (if (23 : Nat) < k then elt r a up (23 : Nat) else (0 : Int)), V.i (if (24 : Nat) < k then elt r a up (24 : Nat) else (0 : Int)), V.i (if (25 : Nat) < k then elt r a up (25 : Nat) else (0 : Int)), V.i (if (26 : Nat) < k then elt r a up (26 : Nat) else (0 : Int)), V.i (if (27 : Nat) < k then elt r a up (27 : Nat) else (0 : Int)), V.i (if (28 : Nat) < k then elt r a up (28 : Nat) else (0 : Int)), V.i (if (29 : Nat) < k then elt r a up (29 : Nat) else (0 : Int)), V.i (if (30 : Nat) < k then elt r a up (30 : Nat) else (0 : Int)), V.i (if (31 : Nat) < k then elt r a up (31 : Nat) else (0 : Int)), V.i (if (32 : Nat) < k then elt r a up (32 : Nat) else (0 : Int)), V.i (if (33 : Nat) < k then elt r a up (33 : Nat) else (0 : Int)), V.i (if (34 : Nat) < k then elt r a up (34 : Nat) else (0 : Int)), V.i (if (35 : Nat) < k then elt r a up (35 : Nat) else (0 : Int)), V.i (if (36 : Nat) < k then elt r a up (36 : Nat) else (0 : Int)), V.i (if (37 : Nat) < k then elt r a up (37 : Nat) else (0 : Int)), V.i (if (38 : Nat) < k then elt r a up (38 : Nat) else (0 : Int)), V.i (if (39 : Nat) < k then elt r a up (39 : Nat) else (0 : Int)), V.i (if (40 : Nat) < k then elt r a up (40 : Nat) else (0 : Int)), V.i (if (41 : Nat) < k then elt r a up (41 : Nat) else (0 : Int)), V.i (if (42 : Nat) < k then elt r a up (42 : Nat) else (0 : Int)), V.i (if (43 : Nat) < k then elt r a up (43 : Nat) else (0 : Int)), V.i (if (44 : Nat) < k then elt r a up (44 : Nat) else (0 : Int)), V.i (if (45 : Nat) < k then elt r a up (45 : Nat) else (0 : Int)), V.i (if (46 : Nat) < k then elt r a up (46 : Nat) else (0 : Int)), V.i (if (47 : Nat) < k then elt r a up (47 : Nat) else (0 : Int)), V.i (if (48 : Nat) < k then elt r a up (48 : Nat) else (0 : Int)), V.i (if (49 : Nat) < k then elt r a up (49 : Nat) else (0 : Int)), V.i (if (50 : Nat) < k then elt r a up (50 : Nat) else (0 : Int)), V.i (if (51 : Nat) < k then elt r a up (51 : Nat) else (0 : Int)), V.i (if (52 : Nat) < k then elt r a up (52 : Nat) else (0 : Int)), V.i (if (53 : Nat) < k then elt r a up (53 : Nat) else (0 : Int)), V.i (if (54 : Nat) < k then elt r a up (54 : Nat) else (0 : Int)), V.i (if (55 : Nat) < k then elt r a up (55 : Nat) else (0 : Int)), V.i (if (56 : Nat) < k then elt r a up (56 : Nat) else (0 : Int)), V.i (if (57 : Nat) < k then elt r a up (57 : Nat) else (0 : Int)), V.i (if (58 : Nat) < k then elt r a up (58 : Nat) else (0 : Int)), V.i (if (59 : Nat) < k then elt r a up (59 : Nat) else (0 : Int)), V.i (if (60 : Nat) < k then elt r a up (60 : Nat) else (0 : Int)), V.i (if (61 : Nat) < k then elt r a up (61 : Nat) else (0 : Int)), V.i (if (62 : Nat) < k then elt r a up (62 : Nat) else (0 : Int)), V.i (if (63 : Nat) < k then elt r a up (63 : Nat) else (0 : Int))]) else [V.c (Value.int IntKind.i64 (0 : Int))]) (row' := (fun k => [.i (gi (eltL r a up) k)])) (by kernel_rfl) (fun _ => rfl) ?_ ?_) ?_
    · rw [eltL_len]
      unfold eltN
      omega
    · intro i hi
      have hi2 : i < eltN r a := by unfold eltN; omega
      rw [if_pos (by omega)]
      refine (arrI_row (F := fun j => if j < k then elt r a up j else 0) (i := i) (by omega)).trans ?_
      rw [if_pos (by omega), eltL_gi hi2]
    refine ret_pure (v' := V.tup [V.agg [V.sl (1 : Nat) (List.length (eltL r a up)) fun (k : Nat) => [V.i (gi (eltL r a up) k)]], V.i (0 : Int)]) (.inr rfl) (by kernel_rfl) (by kernel_rfl) (by kernel_rfl)
set_option maxRecDepth 100000 in
theorem refround_ac (r a : Int) (up : Bool) (hr : 0 ≤ r ∧ r ≤ 1024) (ha : 1 ≤ a ∧ a ≤ 4194304) : AC Try.prog 75 [.i r, .i a, .b up] (V.ints ((eltL r a up).take 65)) [] := by
  have h1 := (tdiv_bd r (m := a) (by omega)).1 hr.1
  refine ac_intro hTT hMX (fn := Try.f75) (N := _) ⟨Try.func75, rfl, Try.ntmps75, by kernel_rfl⟩ (by simp) fun C hC hF => ?_
  refine aw_seq_k fun K hK => ?_
  refine w_region (n' := 2) (by kernel_rfl) (by kernel_rfl) ?_
  refine aops_n hTT (M := []) (n := 1) [pv (6 : Nat) V.nil] (by kernel_rfl) (by kernel_rfl) True.intro ?_
  refine aops_nil ?_
  refine xt_n ?_
  refine hK _ ?_
  clear hK K
  refine aw_seq_k fun K hK => ?_
  refine w_region (n' := 3) (by kernel_rfl) (by kernel_rfl) ?_
  refine aops_n hTT (M := []) (n := 1) [pv (7 : Nat) V.nil] (by kernel_rfl) (by kernel_rfl) True.intro ?_
  refine aops_nil ?_
  refine xt_n ?_
  refine hK _ ?_
  clear hK K
  refine aw_seq_k fun K hK => ?_
  refine aw_seq_k fun K hK => ?_
  refine w_region (n' := 4) (by kernel_rfl) (by kernel_rfl) ?_
  refine aops_n hTT (M := []) (n := 1) [pv (8 : Nat) (V.i (0 : Int))] (by kernel_rfl) (by kernel_rfl) True.intro ?_
  refine aops_nil ?_
  refine xt_n ?_
  refine hK _ ?_
  clear hK K
  refine aw_block ?_
  refine w_le (le_open 7 2 1 (fun k => [.i (elt r a up k)]) (by kernel_rfl) rfl) ?_
  refine w_loop (ι := Nat) (fun k => [(0, .i r), (1, .i a), (2, .b up), (7, .own 7), (8, .i k)])
    (fun k => [(7, .row 2 1 k fun k => [.i (elt r a up k)])]) (fun k => k ≤ min (eltN r a) 65) (fun k => 65 - k) 0 (by omega) ?_ ?_
  · refine le_ren (sl := [(7, Ob.row (2 : Nat) (1 : Nat) (0 : Nat) fun (k : Nat) => [V.i (elt r a up k)])]) [(7, 400007)] (.cons (by kernel_rfl) (.cons (by kernel_rfl) (.cons (by kernel_rfl) (.cons (by kernel_rfl) (.cons (by kernel_rfl) .nil))))) (.cons ⟨Ob.row (2 : Nat) (1 : Nat) (0 : Nat) fun (k : Nat) => [V.i (elt r a up k)], (by kernel_rfl), .row (by kernel_rfl) (fun _ _ => rfl)⟩ .nil) (by kernel_rfl) (by kernel_rfl)
  intro k hk
  have hq : (k : Int) * a ≤ 65 * 4194304 := Int.le_trans (Int.mul_le_mul_of_nonneg_right (show (k : Int) ≤ 65 by omega) (by omega)) (Int.mul_le_mul_of_nonneg_left ha.2 (by decide))
  have hq0 : 0 ≤ (k : Int) * a := Int.mul_nonneg (by omega) (by omega)
  refine aw_seq_k fun K hK => ?_
  refine aw_seq_k fun K hK => ?_
  refine w_region (n' := 2) (by kernel_rfl) (by kernel_rfl) ?_
  refine aops_n hTT (M := []) (n := 9) [pv (11 : Nat) (V.i (↑k : Int)), pv (12 : Nat) (V.i a), pc (13 : Nat) ((-9223372036854775808 : Int) ≤ (↑k : Int) * a ∧ (↑k : Int) * a ≤ (9223372036854775807 : Int)) (V.i ((↑k : Int) * a)), pv (14 : Nat) (V.i r), pv (15 : Nat) (V.b (decide ((↑k : Int) * a ≤ r))), pv (16 : Nat) (V.b (decide ((↑k : Int) * a ≤ r))), pc (17 : Nat) ((True ∧ True) ∧ ((decide ((↑k : Int) * a ≤ r) == true) = true → True)) (V.gd (decide ((↑k : Int) * a ≤ r) == true) (V.i (↑k : Int))), pc (18 : Nat) ((((decide ((↑k : Int) * a ≤ r) == true) = true → (decide ((↑k : Int) * a ≤ r) == true) = true) ∧ True ∧ True) ∧ ((decide ((↑k : Int) * a ≤ r) == true) = true → True)) (V.gd (decide ((↑k : Int) * a ≤ r) == true) (V.b (decide ((↑k : Int) ≤ (64 : Int))))), pc (19 : Nat) ((decide ((↑k : Int) * a ≤ r) = true → (decide ((↑k : Int) * a ≤ r) == true) = true) ∧ True) (V.b (decide ((↑k : Int) * a ≤ r) && decide ((↑k : Int) ≤ (64 : Int))))] (by kernel_rfl) (by kernel_rfl) ⟨(by omega), ⟨⟨True.intro, True.intro⟩, (fun _ => True.intro)⟩, ⟨⟨(by (exact fun h => h)), ⟨True.intro, True.intro⟩⟩, (fun _ => True.intro)⟩, ⟨(by (intro h; rw [h]; rfl)), True.intro⟩, True.intro⟩ ?_
  refine aops_nil ?_
  refine xt_n ?_
  refine hK _ ?_
  clear hK K
  refine w_cond (t := decide ((↑k : Int) * a ≤ r) && decide ((↑k : Int) ≤ (64 : Int))) (by kernel_rfl) (fun c1 => ?_) (fun c1 => ?_)
  · simp at c1
    have hk2 : k < eltN r a := by
      unfold eltN
      have : (k : Int) ≤ r.tdiv a := by
        rw [Int.tdiv_eq_ediv_of_nonneg hr.1]
        exact Int.le_ediv_of_mul_le (by omega) c1.1
      omega
    have h2 : 0 ≤ (k : Int) * a ∧ (k : Int) * a ≤ r := ⟨hq0, c1.1⟩
    have h3 := sqI_bd hr h2
    have h4 := root_bd (n := sqI r a k) ⟨h3.1, h3.2.1⟩
    have h5 : 0 ≤ (k : Int) * a * k := Int.mul_nonneg hq0 (by omega)
    have h6 : (k : Int) * a * k ≤ 1024 * 64 := Int.mul_le_mul (by omega) (by omega) (by omega) (by decide)
    have h7 : (k : Int) * a * k * a = (k : Int) * a * (k * a) := Int.mul_assoc _ _ _
    have h8 : r * r - (k : Int) * a * k * a = sqI r a k := by rw [h7]; rfl
    have H := refroot_ac (r * r - (k : Int) * a * k * a) (by rw [h8]; exact ⟨h3.1, h3.2.1⟩)
    rw [h8] at H
    rw [← h8] at h4
    have he : elt r a up k = r - (rootI (sqI r a k) + if !up && decide (rootI (sqI r a k) * rootI (sqI r a k) < sqI r a k) then 1 else 0) := by
      have h9 : (!decide (rootI (sqI r a k) * rootI (sqI r a k) = sqI r a k)) = decide (rootI (sqI r a k) * rootI (sqI r a k) < sqI r a k) := by
        rw [h8] at h4
        rw [Bool.eq_iff_iff]
        simp
        omega
      rw [elt, h9]
    rw [← h8] at he
    rw [← h8] at H
    refine aw_skip ?_
    refine xt_n ?_
    refine hK _ ?_
    clear hK K
    refine aw_seq_k fun K hK => ?_
    refine aw_block ?_
    refine aw_seq_k fun K hK => ?_
    refine w_region (n' := 3) (by kernel_rfl) (by kernel_rfl) ?_
    refine aops_n hTT (M := []) (n := 12) [pv (22 : Nat) (V.i r), pv (23 : Nat) (V.i r), pc (24 : Nat) ((-9223372036854775808 : Int) ≤ r * r ∧ r * r ≤ (9223372036854775807 : Int)) (V.i (r * r)), pv (25 : Nat) (V.i (↑k : Int)), pv (26 : Nat) (V.i a), pc (27 : Nat) ((-9223372036854775808 : Int) ≤ (↑k : Int) * a ∧ (↑k : Int) * a ≤ (9223372036854775807 : Int)) (V.i ((↑k : Int) * a)), pv (28 : Nat) (V.i (↑k : Int)), pc (29 : Nat) ((-9223372036854775808 : Int) ≤ (↑k : Int) * a * (↑k : Int) ∧ (↑k : Int) * a * (↑k : Int) ≤ (9223372036854775807 : Int)) (V.i ((↑k : Int) * a * (↑k : Int))), pv (30 : Nat) (V.i a), pc (31 : Nat) ((-9223372036854775808 : Int) ≤ (↑k : Int) * a * (↑k : Int) * a ∧ (↑k : Int) * a * (↑k : Int) * a ≤ (9223372036854775807 : Int)) (V.i ((↑k : Int) * a * (↑k : Int) * a)), pc (32 : Nat) ((-9223372036854775808 : Int) ≤ r * r - (↑k : Int) * a * (↑k : Int) * a ∧ r * r - (↑k : Int) * a * (↑k : Int) * a ≤ (9223372036854775807 : Int)) (V.i (r * r - (↑k : Int) * a * (↑k : Int) * a)), pv (9 : Nat) (V.i (r * r - (↑k : Int) * a * (↑k : Int) * a))] (by kernel_rfl) (by kernel_rfl) ⟨(by omega), (by omega), (by omega), (by omega), (by omega), True.intro⟩ ?_
    refine aops_nil ?_
    refine xt_n ?_
    refine hK _ ?_
    clear hK K
    refine aw_seq_k fun K hK => ?_
    refine w_region (n' := 4) (by kernel_rfl) (by kernel_rfl) ?_
    refine aops_n hTT (M := []) (n := 1) [pv (33 : Nat) (V.i (r * r - (↑k : Int) * a * (↑k : Int) * a))] (by kernel_rfl) (by kernel_rfl) True.intro ?_
    refine e_call (first := []) (caps := []) (H) (by kernel_rfl) (by kernel_rfl) (by kernel_rfl) (by kernel_rfl) (by kernel_rfl) ?_
    refine aops_n hTT (M := []) (n := 1) [pv (10 : Nat) (V.i (rootI (r * r - (↑k : Int) * a * (↑k : Int) * a)))] (by kernel_rfl) (by kernel_rfl) True.intro ?_
    refine aops_nil ?_
    refine xt_n ?_
    refine hK _ ?_
    clear hK K
    refine aw_seq_k fun K hK => ?_
    refine aw_seq_k fun K hK => ?_
    refine w_region (n' := 5) (by kernel_rfl) (by kernel_rfl) ?_
    refine aops_n hTT (M := []) (n := 9) [pv (35 : Nat) (V.b up), pv (36 : Nat) (V.b !up), pv (37 : Nat) (V.b !up), pc (38 : Nat) ((True ∧ True) ∧ (((!up) == true) = true → True)) (V.gd ((!up) == true) (V.i (rootI (r * r - (↑k : Int) * a * (↑k : Int) * a)))), pc (39 : Nat) ((True ∧ True) ∧ (((!up) == true) = true → True)) (V.gd ((!up) == true) (V.i (rootI (r * r - (↑k : Int) * a * (↑k : Int) * a)))), pc (40 : Nat) (((((!up) == true) = true → ((!up) == true) = true) ∧ (((!up) == true) = true → ((!up) == true) = true) ∧ True) ∧ (((!up) == true) = true → (-9223372036854775808 : Int) ≤ rootI (r * r - (↑k : Int) * a * (↑k : Int) * a) * rootI (r * r - (↑k : Int) * a * (↑k : Int) * a) ∧ rootI (r * r - (↑k : Int) * a * (↑k : Int) * a) * rootI (r * r - (↑k : Int) * a * (↑k : Int) * a) ≤ (9223372036854775807 : Int))) (V.gd ((!up) == true) (V.i (rootI (r * r - (↑k : Int) * a * (↑k : Int) * a) * rootI (r * r - (↑k : Int) * a * (↑k : Int) * a)))), pc (41 : Nat) ((True ∧ True) ∧ (((!up) == true) = true → True)) (V.gd ((!up) == true) (V.i (r * r - (↑k : Int) * a * (↑k : Int) * a))), pc (42 : Nat) (((((!up) == true) = true → ((!up) == true) = true) ∧ (((!up) == true) = true → ((!up) == true) = true) ∧ True) ∧ (((!up) == true) = true → True)) (V.gd ((!up) == true) (V.b (decide (rootI (r * r - (↑k : Int) * a * (↑k : Int) * a) * rootI (r * r - (↑k : Int) * a * (↑k : Int) * a) < r * r - (↑k : Int) * a * (↑k : Int) * a)))), pc (43 : Nat) (((!up) = true → ((!up) == true) = true) ∧ True) (V.b (!up && decide (rootI (r * r - (↑k : Int) * a * (↑k : Int) * a) * rootI (r * r - (↑k : Int) * a * (↑k : Int) * a) < r * r - (↑k : Int) * a * (↑k : Int) * a)))] (by kernel_rfl) (by kernel_rfl) ⟨⟨⟨True.intro, True.intro⟩, (fun _ => True.intro)⟩, ⟨⟨True.intro, True.intro⟩, (fun _ => True.intro)⟩, ⟨⟨(by (exact fun h => h)), ⟨(by (exact fun h => h)), True.intro⟩⟩, (by (intro hg; simp at hg; omega))⟩, ⟨⟨True.intro, True.intro⟩, (fun _ => True.intro)⟩, ⟨⟨(by (exact fun h => h)), ⟨(by (exact fun h => h)), True.intro⟩⟩, (fun _ => True.intro)⟩, ⟨(by (intro h; rw [h]; rfl)), True.intro⟩, True.intro⟩ ?_
    refine aops_nil ?_
    refine xt_n ?_
    refine hK _ ?_
    clear hK K
    refine w_cond (t := !up && decide (rootI (r * r - (↑k : Int) * a * (↑k : Int) * a) * rootI (r * r - (↑k : Int) * a * (↑k : Int) * a) < r * r - (↑k : Int) * a * (↑k : Int) * a)) (by kernel_rfl) (fun c3 => ?_) (fun c3 => ?_)
    · rw [if_pos c3] at he
      refine w_region (n' := 6) (by kernel_rfl) (by kernel_rfl) ?_
      refine aops_n hTT (M := []) (n := 3) [pv (44 : Nat) (V.i (rootI (r * r - (↑k : Int) * a * (↑k : Int) * a))), pc (45 : Nat) ((-9223372036854775808 : Int) ≤ rootI (r * r - (↑k : Int) * a * (↑k : Int) * a) + (1 : Int) ∧ rootI (r * r - (↑k : Int) * a * (↑k : Int) * a) + (1 : Int) ≤ (9223372036854775807 : Int)) (V.i (rootI (r * r - (↑k : Int) * a * (↑k : Int) * a) + (1 : Int))), pv (10 : Nat) (V.i (rootI (r * r - (↑k : Int) * a * (↑k : Int) * a) + (1 : Int)))] (by kernel_rfl) (by kernel_rfl) ⟨(by omega), True.intro⟩ ?_
      refine aops_nil ?_
      refine xt_n ?_
      refine hK _ ?_
      clear hK K
      refine w_region (n' := 7) (by kernel_rfl) (by kernel_rfl) ?_
      refine aops_n hTT (M := []) (n := 7) [pv (46 : Nat) (V.own (7 : Nat)), pv (47 : Nat) (V.i r), pv (48 : Nat) (V.i (rootI (r * r - (↑k : Int) * a * (↑k : Int) * a) + (1 : Int))), pc (49 : Nat) ((-9223372036854775808 : Int) ≤ r - (rootI (r * r - (↑k : Int) * a * (↑k : Int) * a) + (1 : Int)) ∧ r - (rootI (r * r - (↑k : Int) * a * (↑k : Int) * a) + (1 : Int)) ≤ (9223372036854775807 : Int)) (V.i (r - (rootI (r * r - (↑k : Int) * a * (↑k : Int) * a) + (1 : Int)))), pv (50 : Nat) (V.sl (1 : Nat) (1 : Nat) fun (i : Nat) => List.take (1 : Nat) (List.drop (i * (1 : Nat)) [V.i (r - (rootI (r * r - (↑k : Int) * a * (↑k : Int) * a) + (1 : Int)))])), PR.mk (some (51 : Nat)) (some (k + (1 : Nat) ≤ (1099511627776 : Nat))) (V.own (600051 : Nat)) [((7 : Nat), none), ((600051 : Nat), some (Ob.row (2 : Nat) (1 : Nat) (k + (1 : Nat)) (appRow k (fun (k : Nat) => [V.i (elt r a up k)]) fun (i : Nat) => List.take (1 : Nat) (List.drop (i * (1 : Nat)) [V.i (r - (rootI (r * r - (↑k : Int) * a * (↑k : Int) * a) + (1 : Int)))]))))] false, pv (7 : Nat) (V.own (600051 : Nat))] (by kernel_rfl) (by kernel_rfl) ⟨(by omega), (by omega), True.intro⟩ ?_
      refine aops_nil ?_
      refine xb_n ?_
      refine xt_n ?_
      refine hK _ ?_
      clear hK K
      refine w_region (n' := 8) (by kernel_rfl) (by kernel_rfl) ?_
      refine aops_n hTT (M := []) (n := 3) [pv (20 : Nat) (V.i (↑k : Int)), pc (21 : Nat) ((-9223372036854775808 : Int) ≤ (↑k : Int) + (1 : Int) ∧ (↑k : Int) + (1 : Int) ≤ (9223372036854775807 : Int)) (V.i ((↑k : Int) + (1 : Int))), pv (8 : Nat) (V.i ((↑k : Int) + (1 : Int)))] (by kernel_rfl) (by kernel_rfl) ⟨(by omega), True.intro⟩ ?_
      refine aops_nil ?_
      refine xt_n ?_
      refine ⟨k + 1, by omega, ?_, by omega⟩
      refine le_ren (tl := [(0, V.i r), (1, V.i a), (2, V.b up), (7, V.own (7 : Nat)), (8, V.i (↑(k + (1 : Nat)) : Int))]) (sl := [(7, Ob.row (2 : Nat) (1 : Nat) (k + (1 : Nat)) fun (k : Nat) => [V.i (elt r a up k)])]) [(7, 600051)] (.cons (by kernel_rfl) (.cons (by kernel_rfl) (.cons (by kernel_rfl) (.cons (by kernel_rfl) (.cons (by kernel_rfl) .nil))))) (.cons ⟨Ob.row (2 : Nat) (1 : Nat) (k + (1 : Nat)) (appRow k (fun (k : Nat) => [V.i (elt r a up k)]) fun (i : Nat) => List.take (1 : Nat) (List.drop (i * (1 : Nat)) [V.i (r - (rootI (r * r - (↑k : Int) * a * (↑k : Int) * a) + (1 : Int)))])), (by kernel_rfl), .row (by kernel_rfl) ?_⟩ .nil) (by kernel_rfl) (by kernel_rfl)
      intro i hi
      by_cases hik : i < k
      · rw [appRow, if_pos hik]
        rfl
      · obtain rfl : i = k := by omega
        rw [appRow, if_neg hik, Nat.sub_self]
        show _ = [V.i (elt r a up i)]
        rw [he]
        simp
    · rw [if_neg (by rw [c3]; decide)] at he
      refine aw_skip ?_
      refine xt_n ?_
      refine hK _ ?_
      clear hK K
      refine w_region (n' := 6) (by kernel_rfl) (by kernel_rfl) ?_
      refine aops_n hTT (M := []) (n := 7) [pv (46 : Nat) (V.own (7 : Nat)), pv (47 : Nat) (V.i r), pv (48 : Nat) (V.i (rootI (r * r - (↑k : Int) * a * (↑k : Int) * a))), pc (49 : Nat) ((-9223372036854775808 : Int) ≤ r - rootI (r * r - (↑k : Int) * a * (↑k : Int) * a) ∧ r - rootI (r * r - (↑k : Int) * a * (↑k : Int) * a) ≤ (9223372036854775807 : Int)) (V.i (r - rootI (r * r - (↑k : Int) * a * (↑k : Int) * a))), pv (50 : Nat) (V.sl (1 : Nat) (1 : Nat) fun (i : Nat) => List.take (1 : Nat) (List.drop (i * (1 : Nat)) [V.i (r - rootI (r * r - (↑k : Int) * a * (↑k : Int) * a))])), PR.mk (some (51 : Nat)) (some (k + (1 : Nat) ≤ (1099511627776 : Nat))) (V.own (500051 : Nat)) [((7 : Nat), none), ((500051 : Nat), some (Ob.row (2 : Nat) (1 : Nat) (k + (1 : Nat)) (appRow k (fun (k : Nat) => [V.i (elt r a up k)]) fun (i : Nat) => List.take (1 : Nat) (List.drop (i * (1 : Nat)) [V.i (r - rootI (r * r - (↑k : Int) * a * (↑k : Int) * a))]))))] false, pv (7 : Nat) (V.own (500051 : Nat))] (by kernel_rfl) (by kernel_rfl) ⟨(by omega), (by omega), True.intro⟩ ?_
      refine aops_nil ?_
      refine xb_n ?_
      refine xt_n ?_
      refine hK _ ?_
      clear hK K
      refine w_region (n' := 7) (by kernel_rfl) (by kernel_rfl) ?_
      refine aops_n hTT (M := []) (n := 3) [pv (20 : Nat) (V.i (↑k : Int)), pc (21 : Nat) ((-9223372036854775808 : Int) ≤ (↑k : Int) + (1 : Int) ∧ (↑k : Int) + (1 : Int) ≤ (9223372036854775807 : Int)) (V.i ((↑k : Int) + (1 : Int))), pv (8 : Nat) (V.i ((↑k : Int) + (1 : Int)))] (by kernel_rfl) (by kernel_rfl) ⟨(by omega), True.intro⟩ ?_
      refine aops_nil ?_
      refine xt_n ?_
      refine ⟨k + 1, by omega, ?_, by omega⟩
      refine le_ren (tl := [(0, V.i r), (1, V.i a), (2, V.b up), (7, V.own (7 : Nat)), (8, V.i (↑(k + (1 : Nat)) : Int))]) (sl := [(7, Ob.row (2 : Nat) (1 : Nat) (k + (1 : Nat)) fun (k : Nat) => [V.i (elt r a up k)])]) [(7, 500051)] (.cons (by kernel_rfl) (.cons (by kernel_rfl) (.cons (by kernel_rfl) (.cons (by kernel_rfl) (.cons (by kernel_rfl) .nil))))) (.cons ⟨Ob.row (2 : Nat) (1 : Nat) (k + (1 : Nat)) (appRow k (fun (k : Nat) => [V.i (elt r a up k)]) fun (i : Nat) => List.take (1 : Nat) (List.drop (i * (1 : Nat)) [V.i (r - rootI (r * r - (↑k : Int) * a * (↑k : Int) * a))])), (by kernel_rfl), .row (by kernel_rfl) ?_⟩ .nil) (by kernel_rfl) (by kernel_rfl)
      intro i hi
      by_cases hik : i < k
      · rw [appRow, if_pos hik]
        rfl
      · obtain rfl : i = k := by omega
        rw [appRow, if_neg hik, Nat.sub_self]
        show _ = [V.i (elt r a up i)]
        rw [he]
        simp
  · simp at c1
    have hk2 : k = min (eltN r a) 65 := by
      by_cases hk3 : k = 65
      · omega
      · have : r.tdiv a < k := by
          rw [Int.tdiv_eq_ediv_of_nonneg hr.1]
          exact Int.ediv_lt_of_lt_mul (by omega) (by omega)
        unfold eltN at hk ⊢
        omega
    subst hk2
    refine aw_exit ?_
    refine xt_x ?_
    refine xt_x ?_
    refine xb_same ?_
    refine xt_n ?_
    clear hK K
    refine hK _ ?_
    clear hK K
    refine aw_seq_k fun K hK => ?_
    refine w_region (n' := 3) (by kernel_rfl) (by kernel_rfl) ?_
    refine aops_n hTT (M := []) (n := 2) [pv (52 : Nat) (V.own (7 : Nat)), pv (6 : Nat) (V.own (7 : Nat))] (by kernel_rfl) (by kernel_rfl) True.intro ?_
    refine aops_nil ?_
    refine xt_n ?_
    refine hK _ ?_
    clear hK K
    refine aw_ret ?_
    refine ret_of_le (le_freezeIn 7 (e := (2 : Nat)) (sz := (1 : Nat)) (n := min (eltN r a) (65 : Nat)) (n' := ((eltL r a up).take 65).length) (row := fun (k : Nat) => [V.i (elt r a up k)]) (row' := (fun k => [.i (gi ((eltL r a up).take 65) k)])) (by kernel_rfl) (fun _ => rfl) ?_ ?_) ?_
    · rw [List.length_take, eltL_len]
      omega
    · intro i hi
      rw [eltL_take (by omega) (by omega)]
    refine ret_pure (v' := V.sl (1 : Nat) (List.length (List.take (65 : Nat) (eltL r a up))) fun (k : Nat) => [V.i (gi (List.take (65 : Nat) (eltL r a up)) k)]) (.inr rfl) (by kernel_rfl) (by kernel_rfl) (by kernel_rfl)
end Go.Proofs.Ytlfaaddoemcokaa
