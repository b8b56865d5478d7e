/-
  Gains held against each other, and limited programmes: both copies. Condition: as many elements as a slice can have.
-/
import Derived.Test.YtblipieipldanaaFA11
namespace Go.Proofs.Ytblipieipldanaa
open Go.Ab Go.RowKit Go.Dw Go.Shelf

def ckAt (p : List Pt) (c s : Int) (g : List Int) (i : Nat) : Int :=
  if gi g i < 0 ∨ 256 < gi g i then 3 else if needI (gp p i) c < gi g i then 14 else if 0 < i ∧ s < absI (gi g i - gi g (i - 1)) then 20 else 0
def ckI (p : List Pt) (c s : Int) (g : List Int) : Int × Int :=
  if gainE p c s ≠ 0 then (0, gainE p c s) else if g.length ≠ p.length then (0, 17) else match (List.range g.length).find? fun i => decide (ckAt p c s g i ≠ 0) with
    | some i => ((i : Int), ckAt p c s g i)
    | none => ((g.length : Int), 0)
theorem ck_1 {p : List Pt} {c s : Int} {g : List Int} (h : ¬ gainE p c s = 0) : ckI p c s g = (0, gainE p c s) := by rw [ckI, if_pos h]
theorem ck_2 {p : List Pt} {c s : Int} {g : List Int} (h : gainE p c s = 0) (h2 : ¬ g.length = p.length) : ckI p c s g = (0, 17) := by rw [ckI, if_neg (by simp [h]), if_pos h2]
theorem ck_3 {p : List Pt} {c s : Int} {g : List Int} (h : gainE p c s = 0) (h2 : g.length = p.length) {i : Nat} (hi : i < g.length) (ha : ckAt p c s g i ≠ 0) (hb : ∀ j, j < i → ckAt p c s g j = 0) : ckI p c s g = ((i : Int), ckAt p c s g i) := by
  have : (List.range g.length).find? (fun i => decide (ckAt p c s g i ≠ 0)) = some i := by
    rw [List.find?_range_eq_some]
    exact ⟨by simpa using ha, by simpa using hi, fun j hj => by simp [hb j hj]⟩
  rw [ckI, if_neg (by simp [h]), if_neg (by simp [h2]), this]
theorem ck_4 {p : List Pt} {c s : Int} {g : List Int} (h : gainE p c s = 0) (h2 : g.length = p.length) (hb : ∀ j, j < g.length → ckAt p c s g j = 0) : ckI p c s g = ((g.length : Int), 0) := by
  have : (List.range g.length).find? (fun i => decide (ckAt p c s g i ≠ 0)) = none := by
    rw [List.find?_eq_none]
    intro x hx
    simp [hb x (by simpa using hx)]
  rw [ckI, if_neg (by simp [h]), if_neg (by simp [h2]), this]
theorem ckAt_0 {p : List Pt} {c s : Int} {g : List Int} {i : Nat} (h : ckAt p c s g i = 0) : 0 ≤ gi g i ∧ gi g i ≤ 256 := by
  unfold ckAt at h
  split at h
  · cases h
  · omega
theorem gainE_ok {p : List Pt} {c s : Int} : gainE p c s = 0 ↔ needE p c = 0 ∧ 0 ≤ s ∧ s ≤ 256 := by
  by_cases h : needE p c = 0
  · by_cases h2 : s < 0 ∨ 256 < s
    · rw [(gain_2 h h2).1]; simp [h]; omega
    · rw [(gain_3 h (by omega)).1]; simp [h]; omega
  · rw [(gain_1 h).1]; simp [h]
theorem prev_bd {g : List Int} {k : Nat} (h : 0 ≤ gi g k ∧ gi g k ≤ 256) (hj : ∀ j, j < k → 0 ≤ gi g j ∧ gi g j ≤ 256) : 0 ≤ gi g ((k : Int) - 1).toNat ∧ gi g ((k : Int) - 1).toNat ≤ 256 := by
  by_cases h0 : k = 0
  · subst h0; exact h
  · exact hj _ (by omega)
theorem bey_abs {d s : Int} : bey d s = decide (s < absI d) := by
  unfold bey absI
  rw [Bool.eq_iff_iff]
  simp
  omega
/-- limited programmes -/
def limL (p : List Pt) (g : List Int) : List Pt := (List.range p.length).map fun k => (withI (gp p k).1 (gi g k), withI (gp p k).2 (gi g k))
def limR (p : List Pt) (c s : Int) : List Pt := if gainE p c s = 0 then limL p (gainR p c s) else []
theorem limL_len (p : List Pt) (g : List Int) : (limL p g).length = p.length := by simp [limL]
theorem limL_gp {p : List Pt} {g : List Int} {k : Nat} (h : k < p.length) : gp (limL p g) k = (withI (gp p k).1 (gi g k), withI (gp p k).2 (gi g k)) := by simp [limL, gp, h]
theorem gainAt_bd {n : List Int} {s : Int} (hs : 0 ≤ s) (hn : ∀ k, 0 ≤ gi n k ∧ gi n k ≤ 256) (t : Nat) : 0 ≤ gainAt n s t ∧ gainAt n s t ≤ 256 := by
  refine ⟨?_, Int.le_trans (gUp_le _ _ _ _).1 (hn t).2⟩
  unfold gainAt
  rcases gUp_eq (n := n) (s := s) (t := t) n.length with e | ⟨v, _, e⟩
  · rw [e]; exact (hn t).1
  · rw [e]
    have h5 := (hn v).1
    have h6 := Int.mul_nonneg hs (absI_nonneg ((t : Int) - (v : Int)))
    omega
theorem gainR_bd {p : List Pt} {c s : Int} (h : gainE p c s = 0) (k : Nat) : 0 ≤ gi (gainR p c s) k ∧ gi (gainR p c s) k ≤ 256 := by
  obtain ⟨h1, h2⟩ := gainE_ok.1 h
  rw [(gain_3 h1 h2).2]
  by_cases hk : k < (needL p c).length
  · rw [gainL_gi hk]; exact gainAt_bd h2.1 (needL_bd h1) k
  · rw [gi_out (by rw [gainL_len]; omega)]; omega
theorem gainR_len {p : List Pt} {c s : Int} (h : gainE p c s = 0) : (gainR p c s).length = p.length := by
  obtain ⟨h1, h2⟩ := gainE_ok.1 h
  rw [(gain_3 h1 h2).2, gainL_len, needL_len]
theorem gainR_big {p : List Pt} {c s : Int} (hl : p.length ≤ bigL) : (gainR p c s).length ≤ bigL := by
  by_cases h : gainE p c s = 0
  · rw [gainR_len h]; exact hl
  · rw [gainR, if_neg h]; exact Nat.zero_le _
set_option maxRecDepth 100000 in
theorem Limit_ac (p : List Pt) (c s : Int) (hl : p.length ≤ bigL) : AC Try.prog 40 [V.pts p, .i c, .i s] (.tup [V.pts (limR p c s), .i (gainE p c s)]) [] := by
  refine ac_intro hTT hMX (fn := Try.f40) (N := _) ⟨Try.func40, rfl, Try.ntmps40, by kernel_rfl⟩ (by simp) fun C hC hF => ?_
  refine aw_seq_k fun K hK => ?_
  refine w_region (n' := 2) (by kernel_rfl) (by kernel_rfl) ?_
  refine aops_n hTT (M := []) (n := 2) [pv (6 : Nat) V.nil, pv (7 : Nat) (V.i (0 : Int))] (by kernel_rfl) (by kernel_rfl) True.intro ?_
  refine aops_nil ?_
  refine xt_n ?_
  refine hK _ ?_
  clear hK K
  refine aw_seq_k fun K hK => ?_
  refine w_region (n' := 3) (by kernel_rfl) (by kernel_rfl) ?_
  refine aops_n hTT (M := []) (n := 3) [pv (14 : Nat) (V.sl (2 : Nat) (List.length p) fun (k : Nat) => [V.i (Prod.fst (gp p k)), V.i (Prod.snd (gp p k))]), pv (15 : Nat) (V.i c), pv (16 : Nat) (V.i s)] (by kernel_rfl) (by kernel_rfl) True.intro ?_
  refine e_call (first := []) (caps := []) (Gains_ac p c s hl) (by kernel_rfl) (by kernel_rfl) (by kernel_rfl) (by kernel_rfl) (by kernel_rfl) ?_
  refine aops_n hTT (M := []) (n := 5) [pv (13 : Nat) (V.tup [V.sl (1 : Nat) (List.length (gainR p c s)) fun (k : Nat) => [V.i (gi (gainR p c s) k)], V.i (gainE p c s)]), pv (18 : Nat) (V.sl (1 : Nat) (List.length (gainR p c s)) fun (k : Nat) => [V.i (gi (gainR p c s) k)]), pv (19 : Nat) (V.i (gainE p c s)), pv (8 : Nat) (V.sl (1 : Nat) (List.length (gainR p c s)) fun (k : Nat) => [V.i (gi (gainR p c s) k)]), pv (9 : Nat) (V.i (gainE p c s))] (by kernel_rfl) (by kernel_rfl) True.intro ?_
  refine aops_nil ?_
  refine xt_n ?_
  refine hK _ ?_
  clear hK K
  refine aw_seq_k fun K hK => ?_
  refine aw_seq_k fun K hK => ?_
  refine w_region (n' := 4) (by kernel_rfl) (by kernel_rfl) ?_
  refine aops_n hTT (M := []) (n := 2) [pv (20 : Nat) (V.i (gainE p c s)), pv (21 : Nat) (V.b !decide (gainE p c s = (0 : Int)))] (by kernel_rfl) (by kernel_rfl) True.intro ?_
  refine aops_nil ?_
  refine xt_n ?_
  refine hK _ ?_
  clear hK K
  refine w_cond (t := !decide (gainE p c s = (0 : Int))) (by kernel_rfl) (fun c1 => ?_) (fun c1 => ?_)
  · simp at c1
    refine aw_seq_k fun K hK => ?_
    refine w_region (n' := 5) (by kernel_rfl) (by kernel_rfl) ?_
    refine aops_n hTT (M := []) (n := 3) [pv (22 : Nat) (V.i (gainE p c s)), pv (6 : Nat) V.nil, pv (7 : Nat) (V.i (gainE p c s))] (by kernel_rfl) (by kernel_rfl) True.intro ?_
    refine aops_nil ?_
    refine xt_n ?_
    refine hK _ ?_
    clear hK K
    refine aw_ret ?_
    refine xt_r ?_
    rw [show limR p c s = [] by unfold limR; rw [if_neg c1]]
    refine ret_of_le (le_nil 6 (sz := 2) 0 (fun k => [.i (gp [] k).1, .i (gp [] k).2]) (by kernel_rfl) ?_) ?_
    · rfl
    refine ret_pure (v' := V.tup [V.sl (2 : Nat) (0 : Nat) fun (k : Nat) => [V.i (Prod.fst (gp [] k)), V.i (Prod.snd (gp [] k))], V.i (gainE p c s)]) (.inr rfl) (by kernel_rfl) (by kernel_rfl) (by kernel_rfl)
  simp at c1
  obtain ⟨h1, h2⟩ := gainE_ok.1 c1
  obtain ⟨h3, h4⟩ := progE_ok.1 (needE_ok.1 h1).1
  have hgl := gainR_len c1
  refine aw_skip ?_
  refine xt_n ?_
  refine hK _ ?_
  clear hK K
  refine aw_seq_k fun K hK => ?_
  refine w_region (n' := 5) (by kernel_rfl) (by kernel_rfl) ?_
  refine aops_n hTT (M := []) (n := 1) [pv (10 : Nat) V.nil] (by kernel_rfl) (by kernel_rfl) True.intro ?_
  refine aops_nil ?_
  refine xt_n ?_
  refine hK _ ?_
  clear hK K
  refine aw_seq_k fun K hK => ?_
  refine aw_seq_k fun K hK => ?_
  refine w_region (n' := 6) (by kernel_rfl) (by kernel_rfl) ?_
  refine aops_n hTT (M := []) (n := 3) [pv (23 : Nat) (V.sl (2 : Nat) (List.length p) fun (k : Nat) => [V.i (Prod.fst (gp p k)), V.i (Prod.snd (gp p k))]), pv (24 : Nat) (V.i (↑(List.length p) : Int)), pv (25 : Nat) (V.i (0 : Int))] (by kernel_rfl) (by kernel_rfl) True.intro ?_
  refine aops_nil ?_
  refine xt_n ?_
  refine hK _ ?_
  clear hK K
  refine aw_block ?_
  refine w_le (le_open 10 50 2 (fun k => [.i (withI (gp p k).1 (gi (gainR p c s) k)), .i (withI (gp p k).2 (gi (gainR p c s) k))]) (by kernel_rfl) rfl) ?_
  skip
  refine w_loop (ι := Nat) (fun k => [(8, V.ints (gainR p c s)), (10, .own 10), (23, V.pts p), (24, .i p.length), (25, .i k)]) (fun k => [(10, .row 50 2 k fun k => [.i (withI (gp p k).1 (gi (gainR p c s) k)), .i (withI (gp p k).2 (gi (gainR p c s) k))])]) (fun k => k ≤ p.length) (fun k => p.length - k) 0 (Nat.zero_le _) ?_ ?_
  · refine le_ren (sl := [(10, Ob.row (50 : Nat) (2 : Nat) (0 : Nat) fun (k : Nat) => [V.i (withI (Prod.fst (gp p k)) (gi (gainR p c s) k)), V.i (withI (Prod.snd (gp p k)) (gi (gainR p c s) k))])]) [(10, 600010)] (.cons (by kernel_rfl) (.cons (by kernel_rfl) (.cons (by kernel_rfl) (.cons (by kernel_rfl) (.cons (by kernel_rfl) .nil))))) (.cons ⟨Ob.row (50 : Nat) (2 : Nat) (0 : Nat) fun (k : Nat) => [V.i (withI (Prod.fst (gp p k)) (gi (gainR p c s) k)), V.i (withI (Prod.snd (gp p k)) (gi (gainR p c s) k))], (by kernel_rfl), .row (by kernel_rfl) (fun _ _ => rfl)⟩ .nil) (by kernel_rfl) (by kernel_rfl)
  intro k hk
  refine aw_seq_k fun K hK => ?_
  refine w_region (n' := 2) (by kernel_rfl) (by kernel_rfl) ?_
  refine aops_n hTT (M := []) (n := 1) [pv (26 : Nat) (V.b (decide ((↑k : Int) < (↑(List.length p) : Int))))] (by kernel_rfl) (by kernel_rfl) True.intro ?_
  refine aops_nil ?_
  refine xt_n ?_
  refine hK _ ?_
  clear hK K
  refine aw_seq_k fun K hK => ?_
  refine w_cond (t := decide ((↑k : Int) < (↑(List.length p) : Int))) (by kernel_rfl) (fun c2 => ?_) (fun c2 => ?_)
  · simp at c2
    have hb := gainR_bd c1 k
    have w1 := with_bd (h4 k c2).1 hb
    have w2 := with_bd (h4 k c2).2 hb
    refine aw_skip ?_
    refine xt_n ?_
    refine hK _ ?_
    clear hK K
    refine aw_seq_k fun K hK => ?_
    refine aw_block ?_
    refine aw_seq_k fun K hK => ?_
    refine w_region (n' := 3) (by kernel_rfl) (by kernel_rfl) ?_
    refine aops_n hTT (M := []) (n := 6) [pv (27 : Nat) (V.i (↑k : Int)), pc (28 : Nat) ((0 : Int) ≤ (↑k : Int) ∧ (↑k : Int) < (↑(List.length p) : Int)) (V.ptr [V.i (Prod.fst (gp p k)), V.i (Prod.snd (gp p k))]), pv (29 : Nat) (V.agg [V.i (Prod.fst (gp p k)), V.i (Prod.snd (gp p k))]), pn (12 : Nat) (V.ref (200012 : Nat) (0 : Nat)) (200012 : Nat) (Ob.box (50 : Nat) [V.i (0 : Int), V.i (0 : Int)]), pv (11 : Nat) (V.i (↑k : Int)), pw ((0 : Nat) + (2 : Nat) ≤ (2 : Nat)) (200012 : Nat) (Ob.box (50 : Nat) [V.i (Prod.fst (gp p k)), V.i (Prod.snd (gp p k))])] (by kernel_rfl) (by kernel_rfl) ⟨(by omega), (by omega), True.intro⟩ ?_
    refine aops_nil ?_
    refine xt_n ?_
    refine hK _ ?_
    clear hK K
    refine w_regionD (n' := 4) (by kernel_rfl) (by kernel_rfl) ?_
    refine aops_n hTT (M := []) (n := 21) [pv (30 : Nat) (V.own (10 : Nat)), pv (31 : Nat) (V.ref (200012 : Nat) (0 : Nat)), pc (32 : Nat) ((0 : Nat) ≤ (2 : Nat)) (V.i (Prod.fst (gp p k))), pv (33 : Nat) (V.sl (1 : Nat) (List.length (gainR p c s)) fun (k : Nat) => [V.i (gi (gainR p c s) k)]), pv (34 : Nat) (V.i (↑k : Int)), pc (35 : Nat) ((0 : Int) ≤ (↑k : Int) ∧ (↑k : Int) < (↑(List.length (gainR p c s)) : Int)) (V.ptr [V.i (gi (gainR p c s) k)]), pv (36 : Nat) (V.i (gi (gainR p c s) k)), pc (37 : Nat) ((-9223372036854775808 : Int) ≤ Prod.fst (gp p k) * gi (gainR p c s) k ∧ Prod.fst (gp p k) * gi (gainR p c s) k ≤ (9223372036854775807 : Int)) (V.i (Prod.fst (gp p k) * gi (gainR p c s) k)), pc (38 : Nat) ((0 : Int) < (256 : Int) ∧ (-9223372036854775808 : Int) ≤ Prod.fst (gp p k) * gi (gainR p c s) k ∧ Prod.fst (gp p k) * gi (gainR p c s) k ≤ (9223372036854775807 : Int)) (V.i (Int.tdiv (Prod.fst (gp p k) * gi (gainR p c s) k) (256 : Int))), pv (39 : Nat) (V.ref (200012 : Nat) (1 : Nat)), pc (40 : Nat) ((1 : Nat) ≤ (2 : Nat)) (V.i (Prod.snd (gp p k))), pv (41 : Nat) (V.sl (1 : Nat) (List.length (gainR p c s)) fun (k : Nat) => [V.i (gi (gainR p c s) k)]), pv (42 : Nat) (V.i (↑k : Int)), pc (43 : Nat) ((0 : Int) ≤ (↑k : Int) ∧ (↑k : Int) < (↑(List.length (gainR p c s)) : Int)) (V.ptr [V.i (gi (gainR p c s) k)]), pv (44 : Nat) (V.i (gi (gainR p c s) k)), pc (45 : Nat) ((-9223372036854775808 : Int) ≤ Prod.snd (gp p k) * gi (gainR p c s) k ∧ Prod.snd (gp p k) * gi (gainR p c s) k ≤ (9223372036854775807 : Int)) (V.i (Prod.snd (gp p k) * gi (gainR p c s) k)), pc (46 : Nat) ((0 : Int) < (256 : Int) ∧ (-9223372036854775808 : Int) ≤ Prod.snd (gp p k) * gi (gainR p c s) k ∧ Prod.snd (gp p k) * gi (gainR p c s) k ≤ (9223372036854775807 : Int)) (V.i (Int.tdiv (Prod.snd (gp p k) * gi (gainR p c s) k) (256 : Int))), pv (47 : Nat) (V.agg [V.i (Int.tdiv (Prod.fst (gp p k) * gi (gainR p c s) k) (256 : Int)), V.i (Int.tdiv (Prod.snd (gp p k) * gi (gainR p c s) k) (256 : Int))]), pv (48 : Nat) (V.sl (2 : Nat) (1 : Nat) fun (i : Nat) => List.take (2 : Nat) (List.drop (i * (2 : Nat)) [V.i (Int.tdiv (Prod.fst (gp p k) * gi (gainR p c s) k) (256 : Int)), V.i (Int.tdiv (Prod.snd (gp p k) * gi (gainR p c s) k) (256 : Int))])), PR.mk (some (49 : Nat)) (some (k + (1 : Nat) ≤ (1099511627776 : Nat))) (V.own (300049 : Nat)) [((10 : Nat), none), ((300049 : Nat), some (Ob.row (50 : Nat) (2 : Nat) (k + (1 : Nat)) (appRow k (fun (k : Nat) => [V.i (withI (Prod.fst (gp p k)) (gi (gainR p c s) k)), V.i (withI (Prod.snd (gp p k)) (gi (gainR p c s) k))]) fun (i : Nat) => List.take (2 : Nat) (List.drop (i * (2 : Nat)) [V.i (Int.tdiv (Prod.fst (gp p k) * gi (gainR p c s) k) (256 : Int)), V.i (Int.tdiv (Prod.snd (gp p k) * gi (gainR p c s) k) (256 : Int))]))))] false, pv (10 : Nat) (V.own (300049 : Nat))] (by kernel_rfl) (by kernel_rfl) ⟨(by omega), (by omega), (by omega), ⟨(by omega), (by omega)⟩, (by omega), (by omega), (by omega), ⟨(by omega), (by omega)⟩, (by omega), True.intro⟩ ?_
    refine aops_nil ⟨by kernel_rfl, ?_⟩
    refine xb_n ?_
    refine xt_n ?_
    refine hK _ ?_
    clear hK K
    refine w_region (n' := 5) (by kernel_rfl) (by kernel_rfl) ?_
    refine aops_n hTT (M := []) (n := 2) [pc (50 : Nat) ((-9223372036854775808 : Int) ≤ (↑k : Int) + (1 : Int) ∧ (↑k : Int) + (1 : Int) ≤ (9223372036854775807 : Int)) (V.i ((↑k : Int) + (1 : Int))), pv (25 : Nat) (V.i ((↑k : Int) + (1 : Int)))] (by kernel_rfl) (by kernel_rfl) ⟨(by omega), True.intro⟩ ?_
    refine aops_nil ?_
    refine xt_n ?_
    refine ⟨k + 1, by omega, ?_, by omega⟩
    refine le_ren (tl := [(8, V.sl (1 : Nat) (List.length (gainR p c s)) fun (k : Nat) => [V.i (gi (gainR p c s) k)]), (10, V.own (10 : Nat)), (23, V.sl (2 : Nat) (List.length p) fun (k : Nat) => [V.i (Prod.fst (gp p k)), V.i (Prod.snd (gp p k))]), (24, V.i (↑(List.length p) : Int)), (25, V.i (↑(k + (1 : Nat)) : Int))]) (sl := [(10, Ob.row (50 : Nat) (2 : Nat) (k + (1 : Nat)) fun (k : Nat) => [V.i (withI (Prod.fst (gp p k)) (gi (gainR p c s) k)), V.i (withI (Prod.snd (gp p k)) (gi (gainR p c s) k))])]) [(10, 300049)] (.cons (by kernel_rfl) (.cons (by kernel_rfl) (.cons (by kernel_rfl) (.cons (by kernel_rfl) (.cons (by kernel_rfl) .nil))))) (.cons ⟨Ob.row (50 : Nat) (2 : Nat) (k + (1 : Nat)) (appRow k (fun (k : Nat) => [V.i (withI (Prod.fst (gp p k)) (gi (gainR p c s) k)), V.i (withI (Prod.snd (gp p k)) (gi (gainR p c s) k))]) fun (i : Nat) => List.take (2 : Nat) (List.drop (i * (2 : Nat)) [V.i (Int.tdiv (Prod.fst (gp p k) * gi (gainR p c s) k) (256 : Int)), V.i (Int.tdiv (Prod.snd (gp p k) * gi (gainR p c s) k) (256 : Int))])), (by kernel_rfl), .row (by kernel_rfl) ?_⟩ .nil) (by kernel_rfl) (by kernel_rfl)
    intro i hi
    by_cases h : i < k
    · rw [appRow, if_pos h]
      rfl
    · obtain rfl : i = k := by omega
      rw [appRow, if_neg h, Nat.sub_self]
      rfl
  · simp at c2
    obtain rfl : k = p.length := by omega
    refine aw_exit ?_
    refine xt_x ?_
    refine xt_x ?_
    refine xb_same ?_
    refine xt_n ?_
    clear hK K
    refine hK _ ?_
    clear hK K
    refine aw_seq_k fun K hK => ?_
    refine w_region (n' := 3) (by kernel_rfl) (by kernel_rfl) ?_
    refine aops_n hTT (M := []) (n := 3) [pv (51 : Nat) (V.own (10 : Nat)), pv (6 : Nat) (V.own (10 : Nat)), pv (7 : Nat) (V.i (0 : Int))] (by kernel_rfl) (by kernel_rfl) True.intro ?_
    refine aops_nil ?_
    refine xt_n ?_
    refine hK _ ?_
    clear hK K
    refine aw_ret ?_
    rw [show limR p c s = limL p (gainR p c s) by unfold limR; rw [if_pos c1], c1]
    refine ret_of_le (le_shut 6 10 (e := (50 : Nat)) (sz := (2 : Nat)) (n := List.length p) (n' := (limL p (gainR p c s)).length) (row := fun (k : Nat) => [V.i (withI (Prod.fst (gp p k)) (gi (gainR p c s) k)), V.i (withI (Prod.snd (gp p k)) (gi (gainR p c s) k))]) (row' := (fun k => [.i (gp (limL p (gainR p c s)) k).1, .i (gp (limL p (gainR p c s)) k).2])) (by kernel_rfl) (by kernel_rfl) (fun _ _ => rfl) ?_ ?_) ?_
    · rw [limL_len]
    · intro i hi
      rw [limL_gp hi]
    refine ret_pure (v' := V.tup [V.sl (2 : Nat) (List.length (limL p (gainR p c s))) fun (k : Nat) => [V.i (Prod.fst (gp (limL p (gainR p c s)) k)), V.i (Prod.snd (gp (limL p (gainR p c s)) k))], V.i (0 : Int)]) (.inr rfl) (by kernel_rfl) (by kernel_rfl) (by kernel_rfl)
set_option maxRecDepth 100000 in
theorem refLimit_ac (p : List Pt) (c s : Int) (hl : p.length ≤ bigL) : AC Try.prog 52 [V.pts p, .i c, .i s] (.tup [V.pts (limR p c s), .i (gainE p c s)]) [] := by
  refine ac_intro hTT hMX (fn := Try.f52) (N := _) ⟨Try.func52, rfl, Try.ntmps52, by kernel_rfl⟩ (by simp) fun C hC hF => ?_
  refine aw_seq_k fun K hK => ?_
  refine w_region (n' := 2) (by kernel_rfl) (by kernel_rfl) ?_
  refine aops_n hTT (M := []) (n := 2) [pv (6 : Nat) V.nil, pv (7 : Nat) (V.i (0 : Int))] (by kernel_rfl) (by kernel_rfl) True.intro ?_
  refine aops_nil ?_
  refine xt_n ?_
  refine hK _ ?_
  clear hK K
  refine aw_seq_k fun K hK => ?_
  refine w_region (n' := 3) (by kernel_rfl) (by kernel_rfl) ?_
  refine aops_n hTT (M := []) (n := 3) [pv (13 : Nat) (V.sl (2 : Nat) (List.length p) fun (k : Nat) => [V.i (Prod.fst (gp p k)), V.i (Prod.snd (gp p k))]), pv (14 : Nat) (V.i c), pv (15 : Nat) (V.i s)] (by kernel_rfl) (by kernel_rfl) True.intro ?_
  refine e_call (first := []) (caps := []) (refGains_ac p c s hl) (by kernel_rfl) (by kernel_rfl) (by kernel_rfl) (by kernel_rfl) (by kernel_rfl) ?_
  refine aops_n hTT (M := []) (n := 5) [pv (12 : Nat) (V.tup [V.sl (1 : Nat) (List.length (gainR p c s)) fun (k : Nat) => [V.i (gi (gainR p c s) k)], V.i (gainE p c s)]), pv (17 : Nat) (V.sl (1 : Nat) (List.length (gainR p c s)) fun (k : Nat) => [V.i (gi (gainR p c s) k)]), pv (18 : Nat) (V.i (gainE p c s)), pv (8 : Nat) (V.sl (1 : Nat) (List.length (gainR p c s)) fun (k : Nat) => [V.i (gi (gainR p c s) k)]), pv (9 : Nat) (V.i (gainE p c s))] (by kernel_rfl) (by kernel_rfl) True.intro ?_
  refine aops_nil ?_
  refine xt_n ?_
  refine hK _ ?_
  clear hK K
  refine aw_seq_k fun K hK => ?_
  refine aw_seq_k fun K hK => ?_
  refine w_region (n' := 4) (by kernel_rfl) (by kernel_rfl) ?_
  refine aops_n hTT (M := []) (n := 2) [pv (19 : Nat) (V.i (gainE p c s)), pv (20 : Nat) (V.b !decide (gainE p c s = (0 : Int)))] (by kernel_rfl) (by kernel_rfl) True.intro ?_
  refine aops_nil ?_
  refine xt_n ?_
  refine hK _ ?_
  clear hK K
  refine w_cond (t := !decide (gainE p c s = (0 : Int))) (by kernel_rfl) (fun c1 => ?_) (fun c1 => ?_)
  · simp at c1
    refine aw_seq_k fun K hK => ?_
    refine w_region (n' := 5) (by kernel_rfl) (by kernel_rfl) ?_
    refine aops_n hTT (M := []) (n := 3) [pv (21 : Nat) (V.i (gainE p c s)), pv (6 : Nat) V.nil, pv (7 : Nat) (V.i (gainE p c s))] (by kernel_rfl) (by kernel_rfl) True.intro ?_
    refine aops_nil ?_
    refine xt_n ?_
    refine hK _ ?_
    clear hK K
    refine aw_ret ?_
    refine xt_r ?_
    rw [show limR p c s = [] by unfold limR; rw [if_neg c1]]
    refine ret_of_le (le_nil 6 (sz := 2) 0 (fun k => [.i (gp [] k).1, .i (gp [] k).2]) (by kernel_rfl) ?_) ?_
    · rfl
    refine ret_pure (v' := V.tup [V.sl (2 : Nat) (0 : Nat) fun (k : Nat) => [V.i (Prod.fst (gp [] k)), V.i (Prod.snd (gp [] k))], V.i (gainE p c s)]) (.inr rfl) (by kernel_rfl) (by kernel_rfl) (by kernel_rfl)
  simp at c1
  obtain ⟨h1, h2⟩ := gainE_ok.1 c1
  obtain ⟨h3, h4⟩ := progE_ok.1 (needE_ok.1 h1).1
  have hgl := gainR_len c1
  refine aw_skip ?_
  refine xt_n ?_
  refine hK _ ?_
  clear hK K
  refine aw_seq_k fun K hK => ?_
  refine w_region (n' := 5) (by kernel_rfl) (by kernel_rfl) ?_
  refine aops_n hTT (M := []) (n := 1) [pv (10 : Nat) V.nil] (by kernel_rfl) (by kernel_rfl) True.intro ?_
  refine aops_nil ?_
  refine xt_n ?_
  refine hK _ ?_
  clear hK K
  refine aw_seq_k fun K hK => ?_
  refine aw_seq_k fun K hK => ?_
  refine w_region (n' := 6) (by kernel_rfl) (by kernel_rfl) ?_
  refine aops_n hTT (M := []) (n := 1) [pv (11 : Nat) (V.i (0 : Int))] (by kernel_rfl) (by kernel_rfl) True.intro ?_
  refine aops_nil ?_
  refine xt_n ?_
  refine hK _ ?_
  clear hK K
  refine aw_block ?_
  refine w_le (le_open 10 50 2 (fun k => [.i (withI (gp p k).1 (gi (gainR p c s) k)), .i (withI (gp p k).2 (gi (gainR p c s) k))]) (by kernel_rfl) rfl) ?_
  skip
  refine w_loop (ι := Nat) (fun k => [(0, V.pts p), (8, V.ints (gainR p c s)), (10, .own 10), (11, .i k)]) (fun k => [(10, .row 50 2 k fun k => [.i (withI (gp p k).1 (gi (gainR p c s) k)), .i (withI (gp p k).2 (gi (gainR p c s) k))])]) (fun k => k ≤ p.length) (fun k => p.length - k) 0 (Nat.zero_le _) ?_ ?_
  · refine le_ren (sl := [(10, Ob.row (50 : Nat) (2 : Nat) (0 : Nat) fun (k : Nat) => [V.i (withI (Prod.fst (gp p k)) (gi (gainR p c s) k)), V.i (withI (Prod.snd (gp p k)) (gi (gainR p c s) k))])]) [(10, 600010)] (.cons (by kernel_rfl) (.cons (by kernel_rfl) (.cons (by kernel_rfl) (.cons (by kernel_rfl) .nil)))) (.cons ⟨Ob.row (50 : Nat) (2 : Nat) (0 : Nat) fun (k : Nat) => [V.i (withI (Prod.fst (gp p k)) (gi (gainR p c s) k)), V.i (withI (Prod.snd (gp p k)) (gi (gainR p c s) k))], (by kernel_rfl), .row (by kernel_rfl) (fun _ _ => rfl)⟩ .nil) (by kernel_rfl) (by kernel_rfl)
  intro k hk
  refine aw_seq_k fun K hK => ?_
  refine aw_seq_k fun K hK => ?_
  refine w_region (n' := 2) (by kernel_rfl) (by kernel_rfl) ?_
  refine aops_n hTT (M := []) (n := 4) [pv (22 : Nat) (V.i (↑k : Int)), pv (23 : Nat) (V.sl (2 : Nat) (List.length p) fun (k : Nat) => [V.i (Prod.fst (gp p k)), V.i (Prod.snd (gp p k))]), pv (24 : Nat) (V.i (↑(List.length p) : Int)), pv (25 : Nat) (V.b (decide ((↑k : Int) < (↑(List.length p) : Int))))] (by kernel_rfl) (by kernel_rfl) True.intro ?_
  refine aops_nil ?_
  refine xt_n ?_
  refine hK _ ?_
  clear hK K
  refine w_cond (t := decide ((↑k : Int) < (↑(List.length p) : Int))) (by kernel_rfl) (fun c2 => ?_) (fun c2 => ?_)
  · simp at c2
    have hb := gainR_bd c1 k
    have w1 := with_bd (h4 k c2).1 hb
    have w2 := with_bd (h4 k c2).2 hb
    refine aw_skip ?_
    refine xt_n ?_
    refine hK _ ?_
    clear hK K
    refine aw_seq_k fun K hK => ?_
    refine aw_block ?_
    refine w_regionD (n' := 3) (by kernel_rfl) (by kernel_rfl) ?_
    refine aops_n hTT (M := []) (n := 10) [pv (28 : Nat) (V.own (10 : Nat)), pv (29 : Nat) (V.sl (2 : Nat) (List.length p) fun (k : Nat) => [V.i (Prod.fst (gp p k)), V.i (Prod.snd (gp p k))]), pv (30 : Nat) (V.i (↑k : Int)), pc (31 : Nat) ((0 : Int) ≤ (↑k : Int) ∧ (↑k : Int) < (↑(List.length p) : Int)) (V.ptr [V.i (Prod.fst (gp p k)), V.i (Prod.snd (gp p k))]), pv (32 : Nat) (V.ptr [V.i (Prod.fst (gp p k)), V.i (Prod.snd (gp p k))]), pv (33 : Nat) (V.i (Prod.fst (gp p k))), pv (34 : Nat) (V.sl (1 : Nat) (List.length (gainR p c s)) fun (k : Nat) => [V.i (gi (gainR p c s) k)]), pv (35 : Nat) (V.i (↑k : Int)), pc (36 : Nat) ((0 : Int) ≤ (↑k : Int) ∧ (↑k : Int) < (↑(List.length (gainR p c s)) : Int)) (V.ptr [V.i (gi (gainR p c s) k)]), pv (37 : Nat) (V.i (gi (gainR p c s) k))] (by kernel_rfl) (by kernel_rfl) ⟨(by omega), (by omega), True.intro⟩ ?_
    refine e_call (first := []) (caps := []) (refwith_ac (gp p k).1 (gi (gainR p c s) k) (h4 k c2).1 hb) (by kernel_rfl) (by kernel_rfl) (by kernel_rfl) (by kernel_rfl) (by kernel_rfl) ?_
    refine aops_n hTT (M := []) (n := 9) [pv (39 : Nat) (V.sl (2 : Nat) (List.length p) fun (k : Nat) => [V.i (Prod.fst (gp p k)), V.i (Prod.snd (gp p k))]), pv (40 : Nat) (V.i (↑k : Int)), pc (41 : Nat) ((0 : Int) ≤ (↑k : Int) ∧ (↑k : Int) < (↑(List.length p) : Int)) (V.ptr [V.i (Prod.fst (gp p k)), V.i (Prod.snd (gp p k))]), pv (42 : Nat) (V.ptr [V.i (Prod.snd (gp p k))]), pv (43 : Nat) (V.i (Prod.snd (gp p k))), pv (44 : Nat) (V.sl (1 : Nat) (List.length (gainR p c s)) fun (k : Nat) => [V.i (gi (gainR p c s) k)]), pv (45 : Nat) (V.i (↑k : Int)), pc (46 : Nat) ((0 : Int) ≤ (↑k : Int) ∧ (↑k : Int) < (↑(List.length (gainR p c s)) : Int)) (V.ptr [V.i (gi (gainR p c s) k)]), pv (47 : Nat) (V.i (gi (gainR p c s) k))] (by kernel_rfl) (by kernel_rfl) ⟨(by omega), (by omega), True.intro⟩ ?_
    refine e_call (first := []) (caps := []) (refwith_ac (gp p k).2 (gi (gainR p c s) k) (h4 k c2).2 hb) (by kernel_rfl) (by kernel_rfl) (by kernel_rfl) (by kernel_rfl) (by kernel_rfl) ?_
    refine aops_n hTT (M := []) (n := 4) [pv (49 : Nat) (V.agg [V.i (withI (Prod.fst (gp p k)) (gi (gainR p c s) k)), V.i (withI (Prod.snd (gp p k)) (gi (gainR p c s) k))]), pv (50 : Nat) (V.sl (2 : Nat) (1 : Nat) fun (i : Nat) => List.take (2 : Nat) (List.drop (i * (2 : Nat)) [V.i (withI (Prod.fst (gp p k)) (gi (gainR p c s) k)), V.i (withI (Prod.snd (gp p k)) (gi (gainR p c s) k))])), PR.mk (some (51 : Nat)) (some (k + (1 : Nat) ≤ (1099511627776 : Nat))) (V.own (200051 : Nat)) [((10 : Nat), none), ((200051 : Nat), some (Ob.row (50 : Nat) (2 : Nat) (k + (1 : Nat)) (appRow k (fun (k : Nat) => [V.i (withI (Prod.fst (gp p k)) (gi (gainR p c s) k)), V.i (withI (Prod.snd (gp p k)) (gi (gainR p c s) k))]) fun (i : Nat) => List.take (2 : Nat) (List.drop (i * (2 : Nat)) [V.i (withI (Prod.fst (gp p k)) (gi (gainR p c s) k)), V.i (withI (Prod.snd (gp p k)) (gi (gainR p c s) k))]))))] false, pv (10 : Nat) (V.own (200051 : Nat))] (by kernel_rfl) (by kernel_rfl) ⟨(by omega), True.intro⟩ ?_
    refine aops_nil ⟨by kernel_rfl, ?_⟩
    refine xb_n ?_
    refine xt_n ?_
    refine hK _ ?_
    clear hK K
    refine w_region (n' := 4) (by kernel_rfl) (by kernel_rfl) ?_
    refine aops_n hTT (M := []) (n := 3) [pv (26 : Nat) (V.i (↑k : Int)), pc (27 : Nat) ((-9223372036854775808 : Int) ≤ (↑k : Int) + (1 : Int) ∧ (↑k : Int) + (1 : Int) ≤ (9223372036854775807 : Int)) (V.i ((↑k : Int) + (1 : Int))), pv (11 : Nat) (V.i ((↑k : Int) + (1 : Int)))] (by kernel_rfl) (by kernel_rfl) ⟨(by omega), True.intro⟩ ?_
    refine aops_nil ?_
    refine xt_n ?_
    refine ⟨k + 1, by omega, ?_, by omega⟩
    refine le_ren (tl := [(0, V.sl (2 : Nat) (List.length p) fun (k : Nat) => [V.i (Prod.fst (gp p k)), V.i (Prod.snd (gp p k))]), (8, V.sl (1 : Nat) (List.length (gainR p c s)) fun (k : Nat) => [V.i (gi (gainR p c s) k)]), (10, V.own (10 : Nat)), (11, V.i (↑(k + (1 : Nat)) : Int))]) (sl := [(10, Ob.row (50 : Nat) (2 : Nat) (k + (1 : Nat)) fun (k : Nat) => [V.i (withI (Prod.fst (gp p k)) (gi (gainR p c s) k)), V.i (withI (Prod.snd (gp p k)) (gi (gainR p c s) k))])]) [(10, 200051)] (.cons (by kernel_rfl) (.cons (by kernel_rfl) (.cons (by kernel_rfl) (.cons (by kernel_rfl) .nil)))) (.cons ⟨Ob.row (50 : Nat) (2 : Nat) (k + (1 : Nat)) (appRow k (fun (k : Nat) => [V.i (withI (Prod.fst (gp p k)) (gi (gainR p c s) k)), V.i (withI (Prod.snd (gp p k)) (gi (gainR p c s) k))]) fun (i : Nat) => List.take (2 : Nat) (List.drop (i * (2 : Nat)) [V.i (withI (Prod.fst (gp p k)) (gi (gainR p c s) k)), V.i (withI (Prod.snd (gp p k)) (gi (gainR p c s) k))])), (by kernel_rfl), .row (by kernel_rfl) ?_⟩ .nil) (by kernel_rfl) (by kernel_rfl)
    intro i hi
    by_cases h : i < k
    · rw [appRow, if_pos h]
      rfl
    · obtain rfl : i = k := by omega
      rw [appRow, if_neg h, Nat.sub_self]
      rfl
  · simp at c2
    obtain rfl : k = p.length := by omega
    refine aw_exit ?_
    refine xt_x ?_
    refine xt_x ?_
    refine xb_same ?_
    refine xt_n ?_
    clear hK K
    refine hK _ ?_
    clear hK K
    refine aw_seq_k fun K hK => ?_
    refine w_region (n' := 3) (by kernel_rfl) (by kernel_rfl) ?_
    refine aops_n hTT (M := []) (n := 3) [pv (52 : Nat) (V.own (10 : Nat)), pv (6 : Nat) (V.own (10 : Nat)), pv (7 : Nat) (V.i (0 : Int))] (by kernel_rfl) (by kernel_rfl) True.intro ?_
    refine aops_nil ?_
    refine xt_n ?_
    refine hK _ ?_
    clear hK K
    refine aw_ret ?_
    rw [show limR p c s = limL p (gainR p c s) by unfold limR; rw [if_pos c1], c1]
    refine ret_of_le (le_shut 6 10 (e := (50 : Nat)) (sz := (2 : Nat)) (n := List.length p) (n' := (limL p (gainR p c s)).length) (row := fun (k : Nat) => [V.i (withI (Prod.fst (gp p k)) (gi (gainR p c s) k)), V.i (withI (Prod.snd (gp p k)) (gi (gainR p c s) k))]) (row' := (fun k => [.i (gp (limL p (gainR p c s)) k).1, .i (gp (limL p (gainR p c s)) k).2])) (by kernel_rfl) (by kernel_rfl) (fun _ _ => rfl) ?_ ?_) ?_
    · rw [limL_len]
    · intro i hi
      rw [limL_gp hi]
    refine ret_pure (v' := V.tup [V.sl (2 : Nat) (List.length (limL p (gainR p c s))) fun (k : Nat) => [V.i (Prod.fst (gp (limL p (gainR p c s)) k)), V.i (Prod.snd (gp (limL p (gainR p c s)) k))], V.i (0 : Int)]) (.inr rfl) (by kernel_rfl) (by kernel_rfl) (by kernel_rfl)
set_option maxRecDepth 100000 in
theorem CheckGains_ac (p : List Pt) (c s : Int) (g : List Int) (hl : p.length ≤ bigL) (hg : g.length ≤ bigL) : AC Try.prog 50 [V.pts p, .i c, .i s, V.ints g] (.tup [.i (ckI p c s g).1, .i (ckI p c s g).2]) [] := by
  have hg' : g.length ≤ 4611686018427387904 := hg
  have hl' : p.length ≤ 4611686018427387904 := hl
  refine ac_intro hTT hMX (fn := Try.f50) (N := _) ⟨Try.func50, rfl, Try.ntmps50, by kernel_rfl⟩ (by simp) fun C hC hF => ?_
  refine aw_seq_k fun K hK => ?_
  refine w_region (n' := 2) (by kernel_rfl) (by kernel_rfl) ?_
  refine aops_n hTT (M := []) (n := 2) [pv (8 : Nat) (V.i (0 : Int)), pv (9 : Nat) (V.i (0 : Int))] (by kernel_rfl) (by kernel_rfl) True.intro ?_
  refine aops_nil ?_
  refine xt_n ?_
  refine hK _ ?_
  clear hK K
  refine aw_seq_k fun K hK => ?_
  refine aw_seq_k fun K hK => ?_
  refine w_region (n' := 3) (by kernel_rfl) (by kernel_rfl) ?_
  refine aops_n hTT (M := []) (n := 3) [pv (15 : Nat) (V.sl (2 : Nat) (List.length p) fun (k : Nat) => [V.i (Prod.fst (gp p k)), V.i (Prod.snd (gp p k))]), pv (16 : Nat) (V.i c), pv (17 : Nat) (V.i s)] (by kernel_rfl) (by kernel_rfl) True.intro ?_
  refine e_call (first := []) (caps := []) (Gains_ac p c s hl) (by kernel_rfl) (by kernel_rfl) (by kernel_rfl) (by kernel_rfl) (by kernel_rfl) ?_
  refine aops_n hTT (M := []) (n := 5) [pv (14 : Nat) (V.tup [V.sl (1 : Nat) (List.length (gainR p c s)) fun (k : Nat) => [V.i (gi (gainR p c s) k)], V.i (gainE p c s)]), pv (19 : Nat) (V.sl (1 : Nat) (List.length (gainR p c s)) fun (k : Nat) => [V.i (gi (gainR p c s) k)]), pv (20 : Nat) (V.i (gainE p c s)), pv (10 : Nat) (V.sl (1 : Nat) (List.length (gainR p c s)) fun (k : Nat) => [V.i (gi (gainR p c s) k)]), pv (11 : Nat) (V.i (gainE p c s))] (by kernel_rfl) (by kernel_rfl) True.intro ?_
  refine aops_nil ?_
  refine xt_n ?_
  refine hK _ ?_
  clear hK K
  refine aw_seq_k fun K hK => ?_
  refine w_region (n' := 4) (by kernel_rfl) (by kernel_rfl) ?_
  refine aops_n hTT (M := []) (n := 2) [pv (21 : Nat) (V.i (gainE p c s)), pv (22 : Nat) (V.b !decide (gainE p c s = (0 : Int)))] (by kernel_rfl) (by kernel_rfl) True.intro ?_
  refine aops_nil ?_
  refine xt_n ?_
  refine hK _ ?_
  clear hK K
  refine w_cond (t := !decide (gainE p c s = (0 : Int))) (by kernel_rfl) (fun c1 => ?_) (fun c1 => ?_)
  · simp at c1
    refine aw_seq_k fun K hK => ?_
    refine w_region (n' := 5) (by kernel_rfl) (by kernel_rfl) ?_
    refine aops_n hTT (M := []) (n := 3) [pv (23 : Nat) (V.i (gainE p c s)), pv (8 : Nat) (V.i (0 : Int)), pv (9 : Nat) (V.i (gainE p c s))] (by kernel_rfl) (by kernel_rfl) True.intro ?_
    refine aops_nil ?_
    refine xt_n ?_
    refine hK _ ?_
    clear hK K
    refine aw_ret ?_
    refine xt_r ?_
    rw [ck_1 c1]
    refine ret_pure (v' := V.tup [V.i (0 : Int), V.i (gainE p c s)]) (.inr rfl) (by kernel_rfl) (by kernel_rfl) (by kernel_rfl)
  simp at c1
  obtain ⟨h1, h2⟩ := gainE_ok.1 c1
  obtain ⟨q1, q2⟩ := needE_ok.1 h1
  obtain ⟨h3, h4⟩ := progE_ok.1 q1
  refine aw_skip ?_
  refine xt_n ?_
  refine hK _ ?_
  clear hK K
  refine aw_seq_k fun K hK => ?_
  refine aw_seq_k fun K hK => ?_
  refine w_region (n' := 5) (by kernel_rfl) (by kernel_rfl) ?_
  refine aops_n hTT (M := []) (n := 5) [pv (24 : Nat) (V.sl (1 : Nat) (List.length g) fun (k : Nat) => [V.i (gi g k)]), pv (25 : Nat) (V.i (↑(List.length g) : Int)), pv (26 : Nat) (V.sl (2 : Nat) (List.length p) fun (k : Nat) => [V.i (Prod.fst (gp p k)), V.i (Prod.snd (gp p k))]), pv (27 : Nat) (V.i (↑(List.length p) : Int)), pv (28 : Nat) (V.b !decide ((↑(List.length g) : Int) = (↑(List.length p) : Int)))] (by kernel_rfl) (by kernel_rfl) True.intro ?_
  refine aops_nil ?_
  refine xt_n ?_
  refine hK _ ?_
  clear hK K
  refine w_cond (t := !decide ((↑(List.length g) : Int) = (↑(List.length p) : Int))) (by kernel_rfl) (fun c2 => ?_) (fun c2 => ?_)
  · simp at c2
    refine aw_seq_k fun K hK => ?_
    refine w_region (n' := 6) (by kernel_rfl) (by kernel_rfl) ?_
    refine aops_n hTT (M := []) (n := 2) [pv (8 : Nat) (V.i (0 : Int)), pv (9 : Nat) (V.i (17 : Int))] (by kernel_rfl) (by kernel_rfl) True.intro ?_
    refine aops_nil ?_
    refine xt_n ?_
    refine hK _ ?_
    clear hK K
    refine aw_ret ?_
    refine xt_r ?_
    rw [ck_2 c1 (by omega)]
    refine ret_pure (v' := V.tup [V.i (0 : Int), V.i (17 : Int)]) (.inr rfl) (by kernel_rfl) (by kernel_rfl) (by kernel_rfl)
  simp at c2
  have hgp : g.length = p.length := by omega
  refine aw_skip ?_
  refine xt_n ?_
  refine hK _ ?_
  clear hK K
  refine aw_seq_k fun K hK => ?_
  refine aw_seq_k fun K hK => ?_
  refine w_region (n' := 6) (by kernel_rfl) (by kernel_rfl) ?_
  refine aops_n hTT (M := []) (n := 3) [pv (29 : Nat) (V.sl (1 : Nat) (List.length g) fun (k : Nat) => [V.i (gi g k)]), pv (30 : Nat) (V.i (↑(List.length g) : Int)), pv (31 : Nat) (V.i (0 : Int))] (by kernel_rfl) (by kernel_rfl) True.intro ?_
  refine aops_nil ?_
  refine xt_n ?_
  refine hK _ ?_
  clear hK K
  refine aw_block ?_
  refine w_loop (ι := Nat) (fun k => [(0, V.pts p), (1, .i c), (2, .i s), (3, V.ints g), (29, V.ints g), (30, .i g.length), (31, .i k)]) (fun _ => []) (fun k => k ≤ g.length ∧ ∀ j, j < k → ckAt p c s g j = 0) (fun k => g.length - k) 0 ⟨Nat.zero_le _, fun j hj => by omega⟩ ?_ ?_
  · refine le_ren [] (.cons (by kernel_rfl) (.cons (by kernel_rfl) (.cons (by kernel_rfl) (.cons (by kernel_rfl) (.cons (by kernel_rfl) (.cons (by kernel_rfl) (.cons (by kernel_rfl) .nil))))))) .nil (by kernel_rfl) (by kernel_rfl)
  rintro k ⟨hk, hj⟩
  refine aw_seq_k fun K hK => ?_
  refine w_region (n' := 2) (by kernel_rfl) (by kernel_rfl) ?_
  refine aops_n hTT (M := []) (n := 1) [pv (32 : Nat) (V.b (decide ((↑k : Int) < (↑(List.length g) : Int))))] (by kernel_rfl) (by kernel_rfl) True.intro ?_
  refine aops_nil ?_
  refine xt_n ?_
  refine hK _ ?_
  clear hK K
  refine aw_seq_k fun K hK => ?_
  refine w_cond (t := decide ((↑k : Int) < (↑(List.length g) : Int))) (by kernel_rfl) (fun c3 => ?_) (fun c3 => ?_)
  · simp at c3
    refine aw_skip ?_
    refine xt_n ?_
    refine hK _ ?_
    clear hK K
    refine aw_seq_k fun K hK => ?_
    refine aw_block ?_
    refine aw_seq_k fun K hK => ?_
    refine w_region (n' := 3) (by kernel_rfl) (by kernel_rfl) ?_
    refine aops_n hTT (M := []) (n := 5) [pv (33 : Nat) (V.i (↑k : Int)), pc (34 : Nat) ((0 : Int) ≤ (↑k : Int) ∧ (↑k : Int) < (↑(List.length g) : Int)) (V.ptr [V.i (gi g k)]), pv (35 : Nat) (V.i (gi g k)), pv (12 : Nat) (V.i (↑k : Int)), pv (13 : Nat) (V.i (gi g k))] (by kernel_rfl) (by kernel_rfl) ⟨(by omega), True.intro⟩ ?_
    refine aops_nil ?_
    refine xt_n ?_
    refine hK _ ?_
    clear hK K
    refine aw_block ?_
    refine aw_seq_k fun K hK => ?_
    refine w_region (n' := 4) (by kernel_rfl) (by kernel_rfl) ?_
    refine aops_n hTT (M := []) (n := 7) [pv (37 : Nat) (V.i (gi g k)), pv (38 : Nat) (V.b (decide (gi g k < (0 : Int)))), pv (39 : Nat) (V.b (decide (gi g k < (0 : Int)))), pc (40 : Nat) ((True ∧ True) ∧ ((decide (gi g k < (0 : Int)) == false) = true → True)) (V.gd (decide (gi g k < (0 : Int)) == false) (V.i (gi g k))), pc (41 : Nat) ((((decide (gi g k < (0 : Int)) == false) = true → (decide (gi g k < (0 : Int)) == false) = true) ∧ True ∧ True) ∧ ((decide (gi g k < (0 : Int)) == false) = true → True)) (V.gd (decide (gi g k < (0 : Int)) == false) (V.b (decide ((256 : Int) < gi g k)))), pc (42 : Nat) (True ∧ (decide (gi g k < (0 : Int)) = false → (decide (gi g k < (0 : Int)) == false) = true)) (V.b (decide (gi g k < (0 : Int)) || decide ((256 : Int) < gi g k))), pv (36 : Nat) (V.b (decide (gi g k < (0 : Int)) || decide ((256 : Int) < gi g k)))] (by kernel_rfl) (by kernel_rfl) ⟨⟨⟨True.intro, True.intro⟩, (fun _ => True.intro)⟩, ⟨⟨(by (exact fun h => h)), ⟨True.intro, True.intro⟩⟩, (fun _ => True.intro)⟩, ⟨True.intro, (by (intro h; rw [h]; rfl))⟩, True.intro⟩ ?_
    refine aops_nil ?_
    refine xt_n ?_
    refine hK _ ?_
    clear hK K
    refine w_cond (t := decide (gi g k < (0 : Int)) || decide ((256 : Int) < gi g k)) (by kernel_rfl) (fun c4 => ?_) (fun c4 => ?_)
    · have ha : ckAt p c s g k = 3 := by unfold ckAt; rw [if_pos (by simpa using c4)]
      refine aw_seq_k fun K hK => ?_
      refine w_region (n' := 5) (by kernel_rfl) (by kernel_rfl) ?_
      refine aops_n hTT (M := []) (n := 3) [pv (43 : Nat) (V.i (↑k : Int)), pv (8 : Nat) (V.i (↑k : Int)), pv (9 : Nat) (V.i (3 : Int))] (by kernel_rfl) (by kernel_rfl) True.intro ?_
      refine aops_nil ?_
      refine xt_n ?_
      refine hK _ ?_
      clear hK K
      refine aw_ret ?_
      refine xb_r ?_
      refine xb_r ?_
      refine xt_r ?_
      refine xt_r ?_
      refine xb_r ?_
      refine xt_r ?_
      rw [ck_3 c1 hgp c3 (by rw [ha]; decide) hj, ha]
      refine ret_pure (v' := V.tup [V.i (↑k : Int), V.i (3 : Int)]) (.inr rfl) (by kernel_rfl) (by kernel_rfl) (by kernel_rfl)
    have h5 : 0 ≤ gi g k ∧ gi g k ≤ 256 := by simp at c4; omega
    have h6 := prev_bd h5 fun j hjk => ckAt_0 (hj j hjk)
    have h7 := needI_bd q2.1 (amtS_bd (h4 k (by omega))).1
    have hnk : needI (gp p k) c = needI (gp p k) c := rfl
    refine aw_seq_k fun K hK => ?_
    refine w_region (n' := 5) (by kernel_rfl) (by kernel_rfl) ?_
    refine aops_n hTT (M := []) (n := 6) [pv (45 : Nat) (V.i (gi g k)), pv (46 : Nat) (V.sl (2 : Nat) (List.length p) fun (k : Nat) => [V.i (Prod.fst (gp p k)), V.i (Prod.snd (gp p k))]), pv (47 : Nat) (V.i (↑k : Int)), pc (48 : Nat) ((0 : Int) ≤ (↑k : Int) ∧ (↑k : Int) < (↑(List.length p) : Int)) (V.ptr [V.i (Prod.fst (gp p k)), V.i (Prod.snd (gp p k))]), pv (49 : Nat) (V.agg [V.i (Prod.fst (gp p k)), V.i (Prod.snd (gp p k))]), pv (50 : Nat) (V.i c)] (by kernel_rfl) (by kernel_rfl) ⟨(by omega), True.intro⟩ ?_
    refine e_call (first := []) (caps := []) (need_ac (gp p k) c (h4 k (by omega)) q2) (by kernel_rfl) (by kernel_rfl) (by kernel_rfl) (by kernel_rfl) (by kernel_rfl) ?_
    refine aops_n hTT (M := []) (n := 2) [pv (52 : Nat) (V.b (decide (needI (gp p k) c < gi g k))), pv (44 : Nat) (V.b (decide (needI (gp p k) c < gi g k)))] (by kernel_rfl) (by kernel_rfl) True.intro ?_
    refine aops_nil ?_
    refine xt_n ?_
    refine hK _ ?_
    clear hK K
    refine w_cond (t := decide (needI (gp p k) c < gi g k)) (by kernel_rfl) (fun c5 => ?_) (fun c5 => ?_)
    · have ha : ckAt p c s g k = 14 := by
        unfold ckAt
        rw [if_neg (by omega), if_pos (by simpa [hnk] using c5)]
      refine aw_seq_k fun K hK => ?_
      refine w_region (n' := 6) (by kernel_rfl) (by kernel_rfl) ?_
      refine aops_n hTT (M := []) (n := 3) [pv (53 : Nat) (V.i (↑k : Int)), pv (8 : Nat) (V.i (↑k : Int)), pv (9 : Nat) (V.i (14 : Int))] (by kernel_rfl) (by kernel_rfl) True.intro ?_
      refine aops_nil ?_
      refine xt_n ?_
      refine hK _ ?_
      clear hK K
      refine aw_ret ?_
      refine xb_r ?_
      refine xb_r ?_
      refine xt_r ?_
      refine xt_r ?_
      refine xb_r ?_
      refine xt_r ?_
      rw [ck_3 c1 hgp c3 (by rw [ha]; decide) hj, ha]
      refine ret_pure (v' := V.tup [V.i (↑k : Int), V.i (14 : Int)]) (.inr rfl) (by kernel_rfl) (by kernel_rfl) (by kernel_rfl)
    have h8 : gi g k ≤ needI (gp p k) c := by simpa [hnk] using c5
    refine aw_seq_k fun K hK => ?_
    refine w_region (n' := 6) (by kernel_rfl) (by kernel_rfl) ?_
    refine aops_n hTT (M := []) (n := 11) [pv (55 : Nat) (V.i (↑k : Int)), pv (56 : Nat) (V.b (decide ((0 : Int) < (↑k : Int)))), pv (57 : Nat) (V.b (decide ((0 : Int) < (↑k : Int)))), pc (58 : Nat) ((True ∧ True) ∧ ((decide ((0 : Int) < (↑k : Int)) == true) = true → True)) (V.gd (decide ((0 : Int) < (↑k : Int)) == true) (V.i (gi g k))), pc (59 : Nat) ((True ∧ True) ∧ ((decide ((0 : Int) < (↑k : Int)) == true) = true → True)) (V.gd (decide ((0 : Int) < (↑k : Int)) == true) (V.sl (1 : Nat) (List.length g) fun (k : Nat) => [V.i (gi g k)])), pc (60 : Nat) ((True ∧ True) ∧ ((decide ((0 : Int) < (↑k : Int)) == true) = true → True)) (V.gd (decide ((0 : Int) < (↑k : Int)) == true) (V.i (↑k : Int))), pc (61 : Nat) ((((decide ((0 : Int) < (↑k : Int)) == true) = true → (decide ((0 : Int) < (↑k : Int)) == true) = true) ∧ True ∧ True) ∧ ((decide ((0 : Int) < (↑k : Int)) == true) = true → (-9223372036854775808 : Int) ≤ (↑k : Int) - (1 : Int) ∧ (↑k : Int) - (1 : Int) ≤ (9223372036854775807 : Int))) (V.gd (decide ((0 : Int) < (↑k : Int)) == true) (V.i ((↑k : Int) - (1 : Int)))), pc (62 : Nat) ((((decide ((0 : Int) < (↑k : Int)) == true) = true → (decide ((0 : Int) < (↑k : Int)) == true) = true) ∧ ((decide ((0 : Int) < (↑k : Int)) == true) = true → (decide ((0 : Int) < (↑k : Int)) == true) = true) ∧ True) ∧ ((decide ((0 : Int) < (↑k : Int)) == true) = true → (0 : Int) ≤ (↑k : Int) - (1 : Int) ∧ (↑k : Int) - (1 : Int) < (↑(List.length g) : Int))) (V.gd (decide ((0 : Int) < (↑k : Int)) == true) (V.ptr [V.i (gi g (Int.toNat ((↑k : Int) - (1 : Int))))])), pc (63 : Nat) ((((decide ((0 : Int) < (↑k : Int)) == true) = true → (decide ((0 : Int) < (↑k : Int)) == true) = true) ∧ True) ∧ ((decide ((0 : Int) < (↑k : Int)) == true) = true → True)) (V.gd (decide ((0 : Int) < (↑k : Int)) == true) (V.i (gi g (Int.toNat ((↑k : Int) - (1 : Int)))))), pc (64 : Nat) ((((decide ((0 : Int) < (↑k : Int)) == true) = true → (decide ((0 : Int) < (↑k : Int)) == true) = true) ∧ ((decide ((0 : Int) < (↑k : Int)) == true) = true → (decide ((0 : Int) < (↑k : Int)) == true) = true) ∧ True) ∧ ((decide ((0 : Int) < (↑k : Int)) == true) = true → (-9223372036854775808 : Int) ≤ gi g k - gi g (Int.toNat ((↑k : Int) - (1 : Int))) ∧ gi g k - gi g (Int.toNat ((↑k : Int) - (1 : Int))) ≤ (9223372036854775807 : Int))) (V.gd (decide ((0 : Int) < (↑k : Int)) == true) (V.i (gi g k - gi g (Int.toNat ((↑k : Int) - (1 : Int)))))), pc (65 : Nat) ((True ∧ True) ∧ ((decide ((0 : Int) < (↑k : Int)) == true) = true → True)) (V.gd (decide ((0 : Int) < (↑k : Int)) == true) (V.i s))] (by kernel_rfl) (by kernel_rfl) ⟨⟨⟨True.intro, True.intro⟩, (fun _ => True.intro)⟩, ⟨⟨True.intro, True.intro⟩, (fun _ => True.intro)⟩, ⟨⟨True.intro, True.intro⟩, (fun _ => True.intro)⟩, ⟨⟨(by (exact fun h => h)), ⟨True.intro, True.intro⟩⟩, (by (intro hg; simp at hg; omega))⟩, ⟨⟨(by (exact fun h => h)), ⟨(by (exact fun h => h)), True.intro⟩⟩, (by (intro hg; simp at hg; omega))⟩, ⟨⟨(by (exact fun h => h)), True.intro⟩, (fun _ => True.intro)⟩, ⟨⟨(by (exact fun h => h)), ⟨(by (exact fun h => h)), True.intro⟩⟩, (by (intro hg; simp at hg; omega))⟩, ⟨⟨True.intro, True.intro⟩, (fun _ => True.intro)⟩, True.intro⟩ ?_
    refine e_callG 2 (g := decide ((0 : Int) < (↑k : Int)) == true) (first := []) (caps := []) (by kernel_rfl) (fun h => beyond_ac (gi g k - gi g ((k : Int) - 1).toNat) s (by omega)) (by kernel_rfl) (by kernel_rfl) (by kernel_rfl) (by kernel_rfl) (by kernel_rfl) (by kernel_rfl) ?_
    refine aops_n hTT (M := []) (n := 2) [pc (67 : Nat) ((decide ((0 : Int) < (↑k : Int)) = true → (decide ((0 : Int) < (↑k : Int)) == true) = true) ∧ True) (V.b (decide ((0 : Int) < (↑k : Int)) && bey (gi g k - gi g (Int.toNat ((↑k : Int) - (1 : Int)))) s)), pv (54 : Nat) (V.b (decide ((0 : Int) < (↑k : Int)) && bey (gi g k - gi g (Int.toNat ((↑k : Int) - (1 : Int)))) s))] (by kernel_rfl) (by kernel_rfl) ⟨⟨(by (intro h; rw [h]; rfl)), True.intro⟩, True.intro⟩ ?_
    refine aops_nil ?_
    refine xt_n ?_
    refine hK _ ?_
    clear hK K
    refine w_cond (t := decide ((0 : Int) < (↑k : Int)) && bey (gi g k - gi g (Int.toNat ((↑k : Int) - (1 : Int)))) s) (by kernel_rfl) (fun c6 => ?_) (fun c6 => ?_)
    · have ha : ckAt p c s g k = 20 := by
        have h0 : 0 < k := by simp at c6; omega
        have e0 : ((k : Int) - 1).toNat = k - 1 := by omega
        unfold ckAt
        rw [e0] at c6
        rw [if_neg (by omega), if_neg (by omega), if_pos ⟨h0, by simpa [bey_abs, h0] using c6⟩]
      refine aw_seq_k fun K hK => ?_
      refine w_region (n' := 7) (by kernel_rfl) (by kernel_rfl) ?_
      refine aops_n hTT (M := []) (n := 3) [pv (68 : Nat) (V.i (↑k : Int)), pv (8 : Nat) (V.i (↑k : Int)), pv (9 : Nat) (V.i (20 : Int))] (by kernel_rfl) (by kernel_rfl) True.intro ?_
      refine aops_nil ?_
      refine xt_n ?_
      refine hK _ ?_
      clear hK K
      refine aw_ret ?_
      refine xb_r ?_
      refine xb_r ?_
      refine xt_r ?_
      refine xt_r ?_
      refine xb_r ?_
      refine xt_r ?_
      rw [ck_3 c1 hgp c3 (by rw [ha]; decide) hj, ha]
      refine ret_pure (v' := V.tup [V.i (↑k : Int), V.i (20 : Int)]) (.inr rfl) (by kernel_rfl) (by kernel_rfl) (by kernel_rfl)
    · have ha : ckAt p c s g k = 0 := by
        unfold ckAt
        rw [if_neg (by omega), if_neg (by omega), if_neg]
        rintro ⟨h0, h9⟩
        have e0 : ((k : Int) - 1).toNat = k - 1 := by omega
        rw [e0] at c6
        simp [bey_abs, h0] at c6
        omega
      refine aw_skip ?_
      refine xb_n ?_
      refine xb_n ?_
      refine xt_n ?_
      refine hK _ ?_
      clear hK K
      refine w_region (n' := 7) (by kernel_rfl) (by kernel_rfl) ?_
      refine aops_n hTT (M := []) (n := 2) [pc (69 : Nat) ((-9223372036854775808 : Int) ≤ (↑k : Int) + (1 : Int) ∧ (↑k : Int) + (1 : Int) ≤ (9223372036854775807 : Int)) (V.i ((↑k : Int) + (1 : Int))), pv (31 : Nat) (V.i ((↑k : Int) + (1 : Int)))] (by kernel_rfl) (by kernel_rfl) ⟨(by omega), True.intro⟩ ?_
      refine aops_nil ?_
      refine xt_n ?_
      refine ⟨k + 1, ⟨by omega, fun j hjk => ?_⟩, by refine le_ren [] (.cons (by kernel_rfl) (.cons (by kernel_rfl) (.cons (by kernel_rfl) (.cons (by kernel_rfl) (.cons (by kernel_rfl) (.cons (by kernel_rfl) (.cons (by kernel_rfl) .nil))))))) .nil (by kernel_rfl) (by kernel_rfl), by omega⟩
      by_cases h : j < k
      · exact hj j h
      · obtain rfl : j = k := by omega
        exact ha
  · simp at c3
    obtain rfl : k = g.length := by omega
    refine aw_exit ?_
    refine xt_x ?_
    refine xt_x ?_
    refine xb_same ?_
    refine xt_n ?_
    clear hK K
    refine hK _ ?_
    clear hK K
    refine aw_seq_k fun K hK => ?_
    refine w_region (n' := 3) (by kernel_rfl) (by kernel_rfl) ?_
    refine aops_n hTT (M := []) (n := 4) [pv (70 : Nat) (V.sl (1 : Nat) (List.length g) fun (k : Nat) => [V.i (gi g k)]), pv (71 : Nat) (V.i (↑(List.length g) : Int)), pv (8 : Nat) (V.i (↑(List.length g) : Int)), pv (9 : Nat) (V.i (0 : Int))] (by kernel_rfl) (by kernel_rfl) True.intro ?_
    refine aops_nil ?_
    refine xt_n ?_
    refine hK _ ?_
    clear hK K
    refine aw_ret ?_
    rw [ck_4 c1 hgp hj]
    refine ret_pure (v' := V.tup [V.i (↑(List.length g) : Int), V.i (0 : Int)]) (.inr rfl) (by kernel_rfl) (by kernel_rfl) (by kernel_rfl)
set_option maxRecDepth 100000 in
theorem refCheckGains_ac (p : List Pt) (c s : Int) (g : List Int) (hl : p.length ≤ bigL) (hg : g.length ≤ bigL) : AC Try.prog 51 [V.pts p, .i c, .i s, V.ints g] (.tup [.i (ckI p c s g).1, .i (ckI p c s g).2]) [] := by
  have hg' : g.length ≤ 4611686018427387904 := hg
  have hl' : p.length ≤ 4611686018427387904 := hl
  refine ac_intro hTT hMX (fn := Try.f51) (N := _) ⟨Try.func51, rfl, Try.ntmps51, by kernel_rfl⟩ (by simp) fun C hC hF => ?_
  by_cases c1 : gainE p c s = 0
  · obtain ⟨h1, h2⟩ := gainE_ok.1 c1
    obtain ⟨q1, q2⟩ := needE_ok.1 h1
    obtain ⟨h3, h4⟩ := progE_ok.1 q1
    refine aw_seq_k fun K hK => ?_
    refine w_region (n' := 2) (by kernel_rfl) (by kernel_rfl) ?_
    refine aops_n hTT (M := []) (n := 2) [pv (8 : Nat) (V.i (0 : Int)), pv (9 : Nat) (V.i (0 : Int))] (by kernel_rfl) (by kernel_rfl) True.intro ?_
    refine aops_nil ?_
    refine xt_n ?_
    refine hK _ ?_
    clear hK K
    refine aw_seq_k fun K hK => ?_
    refine w_region (n' := 3) (by kernel_rfl) (by kernel_rfl) ?_
    refine aops_n hTT (M := []) (n := 2) [pv (14 : Nat) (V.sl (2 : Nat) (List.length p) fun (k : Nat) => [V.i (Prod.fst (gp p k)), V.i (Prod.snd (gp p k))]), pv (15 : Nat) (V.i c)] (by kernel_rfl) (by kernel_rfl) True.intro ?_
    refine e_callO (first := []) (caps := []) (k := 200016) (v' := V.tup [V.own (200016 : Nat), V.i (0 : Int)]) (ob' := Ob.row (2 : Nat) (1 : Nat) (List.length p) fun (i : Nat) => V.renL (callG (2 : Nat) (some 16)) [V.i (needI (gp p i) c)]) (refNeeds_ok p c q1 q2) (by kernel_rfl) (by kernel_rfl) (by kernel_rfl) (by kernel_rfl) (by kernel_rfl) (by kernel_rfl) (by kernel_rfl) ?_
    refine aops_n hTT (M := []) (n := 5) [pv (13 : Nat) (V.tup [V.own (200016 : Nat), V.i (0 : Int)]), pv (17 : Nat) (V.own (200016 : Nat)), pv (18 : Nat) (V.i (0 : Int)), pv (10 : Nat) (V.own (200016 : Nat)), pv (11 : Nat) (V.i (0 : Int))] (by kernel_rfl) (by kernel_rfl) True.intro ?_
    refine aops_nil ?_
    refine xt_n ?_
    refine hK _ ?_
    clear hK K
    refine aw_seq_k fun K hK => ?_
    refine aw_seq_k fun K hK => ?_
    refine w_region (n' := 4) (by kernel_rfl) (by kernel_rfl) ?_
    refine aops_n hTT (M := []) (n := 2) [pv (19 : Nat) (V.i (0 : Int)), pv (20 : Nat) (V.b false)] (by kernel_rfl) (by kernel_rfl) True.intro ?_
    refine aops_nil ?_
    refine xt_n ?_
    refine hK _ ?_
    clear hK K
    refine w_false (t := false) (by kernel_rfl) rfl ?_
    refine aw_skip ?_
    refine xt_n ?_
    refine hK _ ?_
    clear hK K
    refine aw_seq_k fun K hK => ?_
    refine aw_seq_k fun K hK => ?_
    refine w_le (le_shut 10 200016 (e := (2 : Nat)) (sz := (1 : Nat)) (n := List.length p) (n' := p.length) (row := fun (i : Nat) => V.renL (callG (2 : Nat) (some (16 : Tmp))) [V.i (needI (gp p i) c)]) (row' := (fun k => [.i (needI (gp p k) c)])) (by kernel_rfl) (by kernel_rfl) (fun _ _ => rfl) ?_ ?_) ?_
    · rfl
    · intro _ _
      rfl
    refine w_region (n' := 5) (by kernel_rfl) (by kernel_rfl) ?_
    refine aops_n hTT (M := []) (n := 6) [pv (22 : Nat) (V.i s), pv (23 : Nat) (V.b (decide (s < (0 : Int)))), pv (24 : Nat) (V.b (decide (s < (0 : Int)))), pc (25 : Nat) ((True ∧ True) ∧ ((decide (s < (0 : Int)) == false) = true → True)) (V.gd (decide (s < (0 : Int)) == false) (V.i s)), pc (26 : Nat) ((((decide (s < (0 : Int)) == false) = true → (decide (s < (0 : Int)) == false) = true) ∧ True ∧ True) ∧ ((decide (s < (0 : Int)) == false) = true → True)) (V.gd (decide (s < (0 : Int)) == false) (V.b (decide ((256 : Int) < s)))), pc (27 : Nat) (True ∧ (decide (s < (0 : Int)) = false → (decide (s < (0 : Int)) == false) = true)) (V.b (decide (s < (0 : Int)) || decide ((256 : Int) < s)))] (by kernel_rfl) (by kernel_rfl) ⟨⟨⟨True.intro, True.intro⟩, (fun _ => True.intro)⟩, ⟨⟨(by (exact fun h => h)), ⟨True.intro, True.intro⟩⟩, (fun _ => True.intro)⟩, ⟨True.intro, (by (intro h; rw [h]; rfl))⟩, True.intro⟩ ?_
    refine aops_nil ?_
    refine xt_n ?_
    refine hK _ ?_
    clear hK K
    refine w_cond (t := decide (s < (0 : Int)) || decide ((256 : Int) < s)) (by kernel_rfl) (fun d1 => ?_) (fun d1 => ?_)
    · simp at d1
      omega
    refine aw_skip ?_
    refine xt_n ?_
    refine hK _ ?_
    clear hK K
    refine aw_seq_k fun K hK => ?_
    refine aw_seq_k fun K hK => ?_
    refine w_region (n' := 6) (by kernel_rfl) (by kernel_rfl) ?_
    refine aops_n hTT (M := []) (n := 5) [pv (28 : Nat) (V.sl (1 : Nat) (List.length g) fun (k : Nat) => [V.i (gi g k)]), pv (29 : Nat) (V.i (↑(List.length g) : Int)), pv (30 : Nat) (V.sl (2 : Nat) (List.length p) fun (k : Nat) => [V.i (Prod.fst (gp p k)), V.i (Prod.snd (gp p k))]), pv (31 : Nat) (V.i (↑(List.length p) : Int)), pv (32 : Nat) (V.b !decide ((↑(List.length g) : Int) = (↑(List.length p) : Int)))] (by kernel_rfl) (by kernel_rfl) True.intro ?_
    refine aops_nil ?_
    refine xt_n ?_
    refine hK _ ?_
    clear hK K
    refine w_cond (t := !decide ((↑(List.length g) : Int) = (↑(List.length p) : Int))) (by kernel_rfl) (fun c2 => ?_) (fun c2 => ?_)
    · simp at c2
      refine aw_seq_k fun K hK => ?_
      refine w_region (n' := 7) (by kernel_rfl) (by kernel_rfl) ?_
      refine aops_n hTT (M := []) (n := 2) [pv (8 : Nat) (V.i (0 : Int)), pv (9 : Nat) (V.i (17 : Int))] (by kernel_rfl) (by kernel_rfl) True.intro ?_
      refine aops_nil ?_
      refine xt_n ?_
      refine hK _ ?_
      clear hK K
      refine aw_ret ?_
      refine xt_r ?_
      rw [ck_2 c1 (by omega)]
      refine ret_pure (v' := V.tup [V.i (0 : Int), V.i (17 : Int)]) (.inr rfl) (by kernel_rfl) (by kernel_rfl) (by kernel_rfl)
    simp at c2
    have hgp : g.length = p.length := by omega
    refine aw_skip ?_
    refine xt_n ?_
    refine hK _ ?_
    clear hK K
    refine aw_seq_k fun K hK => ?_
    refine aw_seq_k fun K hK => ?_
    refine w_region (n' := 7) (by kernel_rfl) (by kernel_rfl) ?_
    refine aops_n hTT (M := []) (n := 1) [pv (12 : Nat) (V.i (0 : Int))] (by kernel_rfl) (by kernel_rfl) True.intro ?_
    refine aops_nil ?_
    refine xt_n ?_
    refine hK _ ?_
    clear hK K
    refine aw_block ?_
    refine w_loop (ι := Nat) (fun k => [(2, .i s), (3, V.ints g), (10, .sl 1 p.length fun k => [.i (needI (gp p k) c)]), (12, .i k)]) (fun _ => []) (fun k => k ≤ g.length ∧ ∀ j, j < k → ckAt p c s g j = 0) (fun k => g.length - k) 0 ⟨Nat.zero_le _, fun j hj => by omega⟩ ?_ ?_
    · refine le_ren [] (.cons (by kernel_rfl) (.cons (by kernel_rfl) (.cons (by kernel_rfl) (.cons (by kernel_rfl) .nil)))) .nil (by kernel_rfl) (by kernel_rfl)
    rintro k ⟨hk, hj⟩
    refine aw_seq_k fun K hK => ?_
    refine aw_seq_k fun K hK => ?_
    refine w_region (n' := 2) (by kernel_rfl) (by kernel_rfl) ?_
    refine aops_n hTT (M := []) (n := 4) [pv (33 : Nat) (V.i (↑k : Int)), pv (34 : Nat) (V.sl (1 : Nat) (List.length g) fun (k : Nat) => [V.i (gi g k)]), pv (35 : Nat) (V.i (↑(List.length g) : Int)), pv (36 : Nat) (V.b (decide ((↑k : Int) < (↑(List.length g) : Int))))] (by kernel_rfl) (by kernel_rfl) True.intro ?_
    refine aops_nil ?_
    refine xt_n ?_
    refine hK _ ?_
    clear hK K
    refine w_cond (t := decide ((↑k : Int) < (↑(List.length g) : Int))) (by kernel_rfl) (fun c3 => ?_) (fun c3 => ?_)
    · simp at c3
      refine aw_skip ?_
      refine xt_n ?_
      refine hK _ ?_
      clear hK K
      refine aw_seq_k fun K hK => ?_
      refine aw_block ?_
      refine aw_seq_k fun K hK => ?_
      refine aw_seq_k fun K hK => ?_
      refine w_region (n' := 3) (by kernel_rfl) (by kernel_rfl) ?_
      refine aops_n hTT (M := []) (n := 12) [pv (39 : Nat) (V.sl (1 : Nat) (List.length g) fun (k : Nat) => [V.i (gi g k)]), pv (40 : Nat) (V.i (↑k : Int)), pc (41 : Nat) ((0 : Int) ≤ (↑k : Int) ∧ (↑k : Int) < (↑(List.length g) : Int)) (V.ptr [V.i (gi g k)]), pv (42 : Nat) (V.i (gi g k)), pv (43 : Nat) (V.b (decide (gi g k < (0 : Int)))), pv (44 : Nat) (V.b (decide (gi g k < (0 : Int)))), pc (45 : Nat) ((True ∧ True) ∧ ((decide (gi g k < (0 : Int)) == false) = true → True)) (V.gd (decide (gi g k < (0 : Int)) == false) (V.sl (1 : Nat) (List.length g) fun (k : Nat) => [V.i (gi g k)])), pc (46 : Nat) ((True ∧ True) ∧ ((decide (gi g k < (0 : Int)) == false) = true → True)) (V.gd (decide (gi g k < (0 : Int)) == false) (V.i (↑k : Int))), pc (47 : Nat) ((((decide (gi g k < (0 : Int)) == false) = true → (decide (gi g k < (0 : Int)) == false) = true) ∧ ((decide (gi g k < (0 : Int)) == false) = true → (decide (gi g k < (0 : Int)) == false) = true) ∧ True) ∧ ((decide (gi g k < (0 : Int)) == false) = true → (0 : Int) ≤ (↑k : Int) ∧ (↑k : Int) < (↑(List.length g) : Int))) (V.gd (decide (gi g k < (0 : Int)) == false) (V.ptr [V.i (gi g k)])), pc (48 : Nat) ((((decide (gi g k < (0 : Int)) == false) = true → (decide (gi g k < (0 : Int)) == false) = true) ∧ True) ∧ ((decide (gi g k < (0 : Int)) == false) = true → True)) (V.gd (decide (gi g k < (0 : Int)) == false) (V.i (gi g k))), pc (49 : Nat) ((((decide (gi g k < (0 : Int)) == false) = true → (decide (gi g k < (0 : Int)) == false) = true) ∧ True ∧ True) ∧ ((decide (gi g k < (0 : Int)) == false) = true → True)) (V.gd (decide (gi g k < (0 : Int)) == false) (V.b (decide ((256 : Int) < gi g k)))), pc (50 : Nat) (True ∧ (decide (gi g k < (0 : Int)) = false → (decide (gi g k < (0 : Int)) == false) = true)) (V.b (decide (gi g k < (0 : Int)) || decide ((256 : Int) < gi g k)))] (by kernel_rfl) (by kernel_rfl) ⟨(by omega), ⟨⟨True.intro, True.intro⟩, (fun _ => True.intro)⟩, ⟨⟨True.intro, True.intro⟩, (fun _ => True.intro)⟩, ⟨⟨(by (exact fun h => h)), ⟨(by (exact fun h => h)), True.intro⟩⟩, (by (intro hg; simp at hg; omega))⟩, ⟨⟨(by (exact fun h => h)), True.intro⟩, (fun _ => True.intro)⟩, ⟨⟨(by (exact fun h => h)), ⟨True.intro, True.intro⟩⟩, (fun _ => True.intro)⟩, ⟨True.intro, (by (intro h; rw [h]; rfl))⟩, True.intro⟩ ?_
      refine aops_nil ?_
      refine xt_n ?_
      refine hK _ ?_
      clear hK K
      refine w_cond (t := decide (gi g k < (0 : Int)) || decide ((256 : Int) < gi g k)) (by kernel_rfl) (fun c4 => ?_) (fun c4 => ?_)
      · have ha : ckAt p c s g k = 3 := by unfold ckAt; rw [if_pos (by simpa using c4)]
        refine aw_seq_k fun K hK => ?_
        refine w_region (n' := 4) (by kernel_rfl) (by kernel_rfl) ?_
        refine aops_n hTT (M := []) (n := 3) [pv (51 : Nat) (V.i (↑k : Int)), pv (8 : Nat) (V.i (↑k : Int)), pv (9 : Nat) (V.i (3 : Int))] (by kernel_rfl) (by kernel_rfl) True.intro ?_
        refine aops_nil ?_
        refine xt_n ?_
        refine hK _ ?_
        clear hK K
        refine aw_ret ?_
        refine xt_r ?_
        refine xb_r ?_
        refine xt_r ?_
        refine xt_r ?_
        refine xb_r ?_
        refine xt_r ?_
        rw [ck_3 c1 hgp c3 (by rw [ha]; decide) hj, ha]
        refine ret_pure (v' := V.tup [V.i (↑k : Int), V.i (3 : Int)]) (.inr rfl) (by kernel_rfl) (by kernel_rfl) (by kernel_rfl)
      have h5 : 0 ≤ gi g k ∧ gi g k ≤ 256 := by simp at c4; omega
      have h6 := prev_bd h5 fun j hjk => ckAt_0 (hj j hjk)
      have h7 := needI_bd q2.1 (amtS_bd (h4 k (by omega))).1
      have hnk : needI (gp p k) c = needI (gp p k) c := rfl
      refine aw_skip ?_
      refine xt_n ?_
      refine hK _ ?_
      clear hK K
      refine aw_seq_k fun K hK => ?_
      refine aw_seq_k fun K hK => ?_
      refine w_regionD (n' := 4) (by kernel_rfl) (by kernel_rfl) ?_
      refine aops_n hTT (M := []) (n := 9) [pv (52 : Nat) (V.sl (1 : Nat) (List.length g) fun (k : Nat) => [V.i (gi g k)]), pv (53 : Nat) (V.i (↑k : Int)), pc (54 : Nat) ((0 : Int) ≤ (↑k : Int) ∧ (↑k : Int) < (↑(List.length g) : Int)) (V.ptr [V.i (gi g k)]), pv (55 : Nat) (V.i (gi g k)), pv (56 : Nat) (V.sl (1 : Nat) (List.length p) fun (k : Nat) => [V.i (needI (gp p k) c)]), pv (57 : Nat) (V.i (↑k : Int)), pc (58 : Nat) ((0 : Int) ≤ (↑k : Int) ∧ (↑k : Int) < (↑(List.length p) : Int)) (V.ptr [V.i (needI (gp p k) c)]), pv (59 : Nat) (V.i (needI (gp p k) c)), pv (60 : Nat) (V.b (decide (needI (gp p k) c < gi g k)))] (by kernel_rfl) (by kernel_rfl) ⟨(by omega), (by omega), True.intro⟩ ?_
      refine aops_nil ⟨by kernel_rfl, ?_⟩
      refine xt_n ?_
      refine hK _ ?_
      clear hK K
      refine w_cond (t := decide (needI (gp p k) c < gi g k)) (by kernel_rfl) (fun c5 => ?_) (fun c5 => ?_)
      · have ha : ckAt p c s g k = 14 := by
          unfold ckAt
          rw [if_neg (by omega), if_pos (by simpa [hnk] using c5)]
        refine aw_seq_k fun K hK => ?_
        refine w_region (n' := 5) (by kernel_rfl) (by kernel_rfl) ?_
        refine aops_n hTT (M := []) (n := 3) [pv (61 : Nat) (V.i (↑k : Int)), pv (8 : Nat) (V.i (↑k : Int)), pv (9 : Nat) (V.i (14 : Int))] (by kernel_rfl) (by kernel_rfl) True.intro ?_
        refine aops_nil ?_
        refine xt_n ?_
        refine hK _ ?_
        clear hK K
        refine aw_ret ?_
        refine xt_r ?_
        refine xb_r ?_
        refine xt_r ?_
        refine xt_r ?_
        refine xb_r ?_
        refine xt_r ?_
        rw [ck_3 c1 hgp c3 (by rw [ha]; decide) hj, ha]
        refine ret_pure (v' := V.tup [V.i (↑k : Int), V.i (14 : Int)]) (.inr rfl) (by kernel_rfl) (by kernel_rfl) (by kernel_rfl)
      have h8 : gi g k ≤ needI (gp p k) c := by simpa [hnk] using c5
      refine aw_skip ?_
      refine xt_n ?_
      refine hK _ ?_
      clear hK K
      refine aw_seq_k fun K hK => ?_
      refine w_regionD (n' := 5) (by kernel_rfl) (by kernel_rfl) ?_
      refine aops_n hTT (M := []) (n := 13) [pv (62 : Nat) (V.i (↑k : Int)), pv (63 : Nat) (V.b (decide ((0 : Int) < (↑k : Int)))), pv (64 : Nat) (V.b (decide ((0 : Int) < (↑k : Int)))), pc (65 : Nat) ((True ∧ True) ∧ ((decide ((0 : Int) < (↑k : Int)) == true) = true → True)) (V.gd (decide ((0 : Int) < (↑k : Int)) == true) (V.sl (1 : Nat) (List.length g) fun (k : Nat) => [V.i (gi g k)])), pc (66 : Nat) ((True ∧ True) ∧ ((decide ((0 : Int) < (↑k : Int)) == true) = true → True)) (V.gd (decide ((0 : Int) < (↑k : Int)) == true) (V.i (↑k : Int))), pc (67 : Nat) ((((decide ((0 : Int) < (↑k : Int)) == true) = true → (decide ((0 : Int) < (↑k : Int)) == true) = true) ∧ ((decide ((0 : Int) < (↑k : Int)) == true) = true → (decide ((0 : Int) < (↑k : Int)) == true) = true) ∧ True) ∧ ((decide ((0 : Int) < (↑k : Int)) == true) = true → (0 : Int) ≤ (↑k : Int) ∧ (↑k : Int) < (↑(List.length g) : Int))) (V.gd (decide ((0 : Int) < (↑k : Int)) == true) (V.ptr [V.i (gi g k)])), pc (68 : Nat) ((((decide ((0 : Int) < (↑k : Int)) == true) = true → (decide ((0 : Int) < (↑k : Int)) == true) = true) ∧ True) ∧ ((decide ((0 : Int) < (↑k : Int)) == true) = true → True)) (V.gd (decide ((0 : Int) < (↑k : Int)) == true) (V.i (gi g k))), pc (69 : Nat) ((True ∧ True) ∧ ((decide ((0 : Int) < (↑k : Int)) == true) = true → True)) (V.gd (decide ((0 : Int) < (↑k : Int)) == true) (V.sl (1 : Nat) (List.length g) fun (k : Nat) => [V.i (gi g k)])), pc (70 : Nat) ((True ∧ True) ∧ ((decide ((0 : Int) < (↑k : Int)) == true) = true → True)) (V.gd (decide ((0 : Int) < (↑k : Int)) == true) (V.i (↑k : Int))), pc (71 : Nat) ((((decide ((0 : Int) < (↑k : Int)) == true) = true → (decide ((0 : Int) < (↑k : Int)) == true) = true) ∧ True ∧ True) ∧ ((decide ((0 : Int) < (↑k : Int)) == true) = true → (-9223372036854775808 : Int) ≤ (↑k : Int) - (1 : Int) ∧ (↑k : Int) - (1 : Int) ≤ (9223372036854775807 : Int))) (V.gd (decide ((0 : Int) < (↑k : Int)) == true) (V.i ((↑k : Int) - (1 : Int)))), pc (72 : Nat) ((((decide ((0 : Int) < (↑k : Int)) == true) = true → (decide ((0 : Int) < (↑k : Int)) == true) = true) ∧ ((decide ((0 : Int) < (↑k : Int)) == true) = true → (decide ((0 : Int) < (↑k : Int)) == true) = true) ∧ True) ∧ ((decide ((0 : Int) < (↑k : Int)) == true) = true → (0 : Int) ≤ (↑k : Int) - (1 : Int) ∧ (↑k : Int) - (1 : Int) < (↑(List.length g) : Int))) (V.gd (decide ((0 : Int) < (↑k : Int)) == true) (V.ptr [V.i (gi g (Int.toNat ((↑k : Int) - (1 : Int))))])), pc (73 : Nat) ((((decide ((0 : Int) < (↑k : Int)) == true) = true → (decide ((0 : Int) < (↑k : Int)) == true) = true) ∧ True) ∧ ((decide ((0 : Int) < (↑k : Int)) == true) = true → True)) (V.gd (decide ((0 : Int) < (↑k : Int)) == true) (V.i (gi g (Int.toNat ((↑k : Int) - (1 : Int)))))), pc (74 : Nat) ((((decide ((0 : Int) < (↑k : Int)) == true) = true → (decide ((0 : Int) < (↑k : Int)) == true) = true) ∧ ((decide ((0 : Int) < (↑k : Int)) == true) = true → (decide ((0 : Int) < (↑k : Int)) == true) = true) ∧ True) ∧ ((decide ((0 : Int) < (↑k : Int)) == true) = true → (-9223372036854775808 : Int) ≤ gi g k - gi g (Int.toNat ((↑k : Int) - (1 : Int))) ∧ gi g k - gi g (Int.toNat ((↑k : Int) - (1 : Int))) ≤ (9223372036854775807 : Int))) (V.gd (decide ((0 : Int) < (↑k : Int)) == true) (V.i (gi g k - gi g (Int.toNat ((↑k : Int) - (1 : Int))))))] (by kernel_rfl) (by kernel_rfl) ⟨⟨⟨True.intro, True.intro⟩, (fun _ => True.intro)⟩, ⟨⟨True.intro, True.intro⟩, (fun _ => True.intro)⟩, ⟨⟨(by (exact fun h => h)), ⟨(by (exact fun h => h)), True.intro⟩⟩, (by (intro hg; simp at hg; omega))⟩, ⟨⟨(by (exact fun h => h)), True.intro⟩, (fun _ => True.intro)⟩, ⟨⟨True.intro, True.intro⟩, (fun _ => True.intro)⟩, ⟨⟨True.intro, True.intro⟩, (fun _ => True.intro)⟩, ⟨⟨(by (exact fun h => h)), ⟨True.intro, True.intro⟩⟩, (by (intro hg; simp at hg; omega))⟩, ⟨⟨(by (exact fun h => h)), ⟨(by (exact fun h => h)), True.intro⟩⟩, (by (intro hg; simp at hg; omega))⟩, ⟨⟨(by (exact fun h => h)), True.intro⟩, (fun _ => True.intro)⟩, ⟨⟨(by (exact fun h => h)), ⟨(by (exact fun h => h)), True.intro⟩⟩, (by (intro hg; simp at hg; omega))⟩, True.intro⟩ ?_
      refine e_callG 1 (g := decide ((0 : Int) < (↑k : Int)) == true) (first := []) (caps := []) (by kernel_rfl) (fun h => refAbs_ac (gi g k - gi g ((k : Int) - 1).toNat) (by omega)) (by kernel_rfl) (by kernel_rfl) (by kernel_rfl) (by kernel_rfl) (by kernel_rfl) (by kernel_rfl) ?_
      refine aops_n hTT (M := []) (n := 3) [pc (76 : Nat) ((True ∧ True) ∧ ((decide ((0 : Int) < (↑k : Int)) == true) = true → True)) (V.gd (decide ((0 : Int) < (↑k : Int)) == true) (V.i s)), pc (77 : Nat) ((((decide ((0 : Int) < (↑k : Int)) == true) = true → (decide ((0 : Int) < (↑k : Int)) == true) = true) ∧ ((decide ((0 : Int) < (↑k : Int)) == true) = true → (decide ((0 : Int) < (↑k : Int)) == true) = true) ∧ True) ∧ ((decide ((0 : Int) < (↑k : Int)) == true) = true → True)) (V.gd (decide ((0 : Int) < (↑k : Int)) == true) (V.b (decide (s < absI (gi g k - gi g (Int.toNat ((↑k : Int) - (1 : Int)))))))), pc (78 : Nat) ((decide ((0 : Int) < (↑k : Int)) = true → (decide ((0 : Int) < (↑k : Int)) == true) = true) ∧ True) (V.b (decide ((0 : Int) < (↑k : Int)) && decide (s < absI (gi g k - gi g (Int.toNat ((↑k : Int) - (1 : Int)))))))] (by kernel_rfl) (by kernel_rfl) ⟨⟨⟨True.intro, True.intro⟩, (fun _ => True.intro)⟩, ⟨⟨(by (exact fun h => h)), ⟨(by (exact fun h => h)), True.intro⟩⟩, (fun _ => True.intro)⟩, ⟨(by (intro h; rw [h]; rfl)), True.intro⟩, True.intro⟩ ?_
      refine aops_nil ⟨by kernel_rfl, ?_⟩
      refine xt_n ?_
      refine hK _ ?_
      clear hK K
      refine w_cond (t := decide ((0 : Int) < (↑k : Int)) && decide (s < absI (gi g k - gi g (Int.toNat ((↑k : Int) - (1 : Int)))))) (by kernel_rfl) (fun c6 => ?_) (fun c6 => ?_)
      · have ha : ckAt p c s g k = 20 := by
          have h0 : 0 < k := by simp at c6; omega
          have e0 : ((k : Int) - 1).toNat = k - 1 := by omega
          unfold ckAt
          rw [e0] at c6
          rw [if_neg (by omega), if_neg (by omega), if_pos ⟨h0, by simpa [bey_abs, h0] using c6⟩]
        refine aw_seq_k fun K hK => ?_
        refine w_region (n' := 6) (by kernel_rfl) (by kernel_rfl) ?_
        refine aops_n hTT (M := []) (n := 3) [pv (79 : Nat) (V.i (↑k : Int)), pv (8 : Nat) (V.i (↑k : Int)), pv (9 : Nat) (V.i (20 : Int))] (by kernel_rfl) (by kernel_rfl) True.intro ?_
        refine aops_nil ?_
        refine xt_n ?_
        refine hK _ ?_
        clear hK K
        refine aw_ret ?_
        refine xb_r ?_
        refine xt_r ?_
        refine xt_r ?_
        refine xb_r ?_
        refine xt_r ?_
        rw [ck_3 c1 hgp c3 (by rw [ha]; decide) hj, ha]
        refine ret_pure (v' := V.tup [V.i (↑k : Int), V.i (20 : Int)]) (.inr rfl) (by kernel_rfl) (by kernel_rfl) (by kernel_rfl)
      · have ha : ckAt p c s g k = 0 := by
          unfold ckAt
          rw [if_neg (by omega), if_neg (by omega), if_neg]
          rintro ⟨h0, h9⟩
          have e0 : ((k : Int) - 1).toNat = k - 1 := by omega
          rw [e0] at c6
          simp [bey_abs, h0] at c6
          omega
        refine aw_skip ?_
        refine xb_n ?_
        refine xt_n ?_
        refine hK _ ?_
        clear hK K
        refine w_region (n' := 6) (by kernel_rfl) (by kernel_rfl) ?_
        refine aops_n hTT (M := []) (n := 3) [pv (37 : Nat) (V.i (↑k : Int)), pc (38 : Nat) ((-9223372036854775808 : Int) ≤ (↑k : Int) + (1 : Int) ∧ (↑k : Int) + (1 : Int) ≤ (9223372036854775807 : Int)) (V.i ((↑k : Int) + (1 : Int))), pv (12 : Nat) (V.i ((↑k : Int) + (1 : Int)))] (by kernel_rfl) (by kernel_rfl) ⟨(by omega), True.intro⟩ ?_
        refine aops_nil ?_
        refine xt_n ?_
        refine ⟨k + 1, ⟨by omega, fun j hjk => ?_⟩, by refine le_ren [] (.cons (by kernel_rfl) (.cons (by kernel_rfl) (.cons (by kernel_rfl) (.cons (by kernel_rfl) .nil)))) .nil (by kernel_rfl) (by kernel_rfl), by omega⟩
        by_cases h : j < k
        · exact hj j h
        · obtain rfl : j = k := by omega
          exact ha
    · simp at c3
      obtain rfl : k = g.length := by omega
      refine aw_exit ?_
      refine xt_x ?_
      refine xt_x ?_
      refine xb_same ?_
      refine xt_n ?_
      clear hK K
      refine hK _ ?_
      clear hK K
      refine aw_seq_k fun K hK => ?_
      refine w_region (n' := 3) (by kernel_rfl) (by kernel_rfl) ?_
      refine aops_n hTT (M := []) (n := 4) [pv (80 : Nat) (V.sl (1 : Nat) (List.length g) fun (k : Nat) => [V.i (gi g k)]), pv (81 : Nat) (V.i (↑(List.length g) : Int)), pv (8 : Nat) (V.i (↑(List.length g) : Int)), pv (9 : Nat) (V.i (0 : Int))] (by kernel_rfl) (by kernel_rfl) True.intro ?_
      refine aops_nil ?_
      refine xt_n ?_
      refine hK _ ?_
      clear hK K
      refine aw_ret ?_
      rw [ck_4 c1 hgp hj]
      refine ret_pure (v' := V.tup [V.i (↑(List.length g) : Int), V.i (0 : Int)]) (.inr rfl) (by kernel_rfl) (by kernel_rfl) (by kernel_rfl)
  · by_cases hn : needE p c = 0
    · have hs : s < 0 ∨ 256 < s := by
        by_cases h : s < 0 ∨ 256 < s
        · exact h
        · exact absurd (gain_3 hn (by omega)).1 c1
      refine aw_seq_k fun K hK => ?_
      refine w_region (n' := 2) (by kernel_rfl) (by kernel_rfl) ?_
      refine aops_n hTT (M := []) (n := 2) [pv (8 : Nat) (V.i (0 : Int)), pv (9 : Nat) (V.i (0 : Int))] (by kernel_rfl) (by kernel_rfl) True.intro ?_
      refine aops_nil ?_
      refine xt_n ?_
      refine hK _ ?_
      clear hK K
      refine aw_seq_k fun K hK => ?_
      refine w_region (n' := 3) (by kernel_rfl) (by kernel_rfl) ?_
      refine aops_n hTT (M := []) (n := 2) [pv (14 : Nat) (V.sl (2 : Nat) (List.length p) fun (k : Nat) => [V.i (Prod.fst (gp p k)), V.i (Prod.snd (gp p k))]), pv (15 : Nat) (V.i c)] (by kernel_rfl) (by kernel_rfl) True.intro ?_
      refine e_callO (first := []) (caps := []) (k := 200016) (v' := V.tup [V.own (200016 : Nat), V.i (0 : Int)]) (ob' := Ob.row (2 : Nat) (1 : Nat) (List.length p) fun (i : Nat) => V.renL (callG (2 : Nat) (some 16)) [V.i (needI (gp p i) c)]) (refNeeds_ok p c (needE_ok.1 hn).1 (needE_ok.1 hn).2) (by kernel_rfl) (by kernel_rfl) (by kernel_rfl) (by kernel_rfl) (by kernel_rfl) (by kernel_rfl) (by kernel_rfl) ?_
      refine aops_n hTT (M := []) (n := 5) [pv (13 : Nat) (V.tup [V.own (200016 : Nat), V.i (0 : Int)]), pv (17 : Nat) (V.own (200016 : Nat)), pv (18 : Nat) (V.i (0 : Int)), pv (10 : Nat) (V.own (200016 : Nat)), pv (11 : Nat) (V.i (0 : Int))] (by kernel_rfl) (by kernel_rfl) True.intro ?_
      refine aops_nil ?_
      refine xt_n ?_
      refine hK _ ?_
      clear hK K
      refine aw_seq_k fun K hK => ?_
      refine aw_seq_k fun K hK => ?_
      refine w_region (n' := 4) (by kernel_rfl) (by kernel_rfl) ?_
      refine aops_n hTT (M := []) (n := 2) [pv (19 : Nat) (V.i (0 : Int)), pv (20 : Nat) (V.b false)] (by kernel_rfl) (by kernel_rfl) True.intro ?_
      refine aops_nil ?_
      refine xt_n ?_
      refine hK _ ?_
      clear hK K
      refine w_false (t := false) (by kernel_rfl) rfl ?_
      refine aw_skip ?_
      refine xt_n ?_
      refine hK _ ?_
      clear hK K
      refine aw_seq_k fun K hK => ?_
      refine aw_seq_k fun K hK => ?_
      refine w_region (n' := 5) (by kernel_rfl) (by kernel_rfl) ?_
      refine aops_n hTT (M := []) (n := 6) [pv (22 : Nat) (V.i s), pv (23 : Nat) (V.b (decide (s < (0 : Int)))), pv (24 : Nat) (V.b (decide (s < (0 : Int)))), pc (25 : Nat) ((True ∧ True) ∧ ((decide (s < (0 : Int)) == false) = true → True)) (V.gd (decide (s < (0 : Int)) == false) (V.i s)), pc (26 : Nat) ((((decide (s < (0 : Int)) == false) = true → (decide (s < (0 : Int)) == false) = true) ∧ True ∧ True) ∧ ((decide (s < (0 : Int)) == false) = true → True)) (V.gd (decide (s < (0 : Int)) == false) (V.b (decide ((256 : Int) < s)))), pc (27 : Nat) (True ∧ (decide (s < (0 : Int)) = false → (decide (s < (0 : Int)) == false) = true)) (V.b (decide (s < (0 : Int)) || decide ((256 : Int) < s)))] (by kernel_rfl) (by kernel_rfl) ⟨⟨⟨True.intro, True.intro⟩, (fun _ => True.intro)⟩, ⟨⟨(by (exact fun h => h)), ⟨True.intro, True.intro⟩⟩, (fun _ => True.intro)⟩, ⟨True.intro, (by (intro h; rw [h]; rfl))⟩, True.intro⟩ ?_
      refine aops_nil ?_
      refine xt_n ?_
      refine hK _ ?_
      clear hK K
      refine w_cond (t := decide (s < (0 : Int)) || decide ((256 : Int) < s)) (by kernel_rfl) (fun d1 => ?_) (fun d1 => ?_)
      · refine aw_seq_k fun K hK => ?_
        refine w_region (n' := 6) (by kernel_rfl) (by kernel_rfl) ?_
        refine aops_n hTT (M := []) (n := 2) [pv (8 : Nat) (V.i (0 : Int)), pv (9 : Nat) (V.i (3 : Int))] (by kernel_rfl) (by kernel_rfl) True.intro ?_
        refine aops_nil ?_
        refine xt_n ?_
        refine hK _ ?_
        clear hK K
        refine aw_ret ?_
        refine xt_r ?_
        rw [ck_1 c1, (gain_2 hn hs).1]
        refine ret_pure (v' := V.tup [V.i (0 : Int), V.i (3 : Int)]) (.inr rfl) (by kernel_rfl) (by kernel_rfl) (by kernel_rfl)
      · simp at d1
        omega
    · refine aw_seq_k fun K hK => ?_
      refine w_region (n' := 2) (by kernel_rfl) (by kernel_rfl) ?_
      refine aops_n hTT (M := []) (n := 2) [pv (8 : Nat) (V.i (0 : Int)), pv (9 : Nat) (V.i (0 : Int))] (by kernel_rfl) (by kernel_rfl) True.intro ?_
      refine aops_nil ?_
      refine xt_n ?_
      refine hK _ ?_
      clear hK K
      refine aw_seq_k fun K hK => ?_
      refine w_region (n' := 3) (by kernel_rfl) (by kernel_rfl) ?_
      refine aops_n hTT (M := []) (n := 2) [pv (14 : Nat) (V.sl (2 : Nat) (List.length p) fun (k : Nat) => [V.i (Prod.fst (gp p k)), V.i (Prod.snd (gp p k))]), pv (15 : Nat) (V.i c)] (by kernel_rfl) (by kernel_rfl) True.intro ?_
      refine e_call (first := []) (caps := []) (refNeeds_no p c hl hn) (by kernel_rfl) (by kernel_rfl) (by kernel_rfl) (by kernel_rfl) (by kernel_rfl) ?_
      refine aops_n hTT (M := []) (n := 5) [pv (13 : Nat) (V.tup [V.sl (1 : Nat) (0 : Nat) fun (k : Nat) => [V.i (gi [] k)], V.i (needE p c)]), pv (17 : Nat) (V.sl (1 : Nat) (0 : Nat) fun (k : Nat) => [V.i (gi [] k)]), pv (18 : Nat) (V.i (needE p c)), pv (10 : Nat) (V.sl (1 : Nat) (0 : Nat) fun (k : Nat) => [V.i (gi [] k)]), pv (11 : Nat) (V.i (needE p c))] (by kernel_rfl) (by kernel_rfl) True.intro ?_
      refine aops_nil ?_
      refine xt_n ?_
      refine hK _ ?_
      clear hK K
      refine aw_seq_k fun K hK => ?_
      refine aw_seq_k fun K hK => ?_
      refine w_region (n' := 4) (by kernel_rfl) (by kernel_rfl) ?_
      refine aops_n hTT (M := []) (n := 2) [pv (19 : Nat) (V.i (needE p c)), pv (20 : Nat) (V.b !decide (needE p c = (0 : Int)))] (by kernel_rfl) (by kernel_rfl) True.intro ?_
      refine aops_nil ?_
      refine xt_n ?_
      refine hK _ ?_
      clear hK K
      refine w_cond (t := !decide (needE p c = (0 : Int))) (by kernel_rfl) (fun d1 => ?_) (fun d1 => ?_)
      · refine aw_seq_k fun K hK => ?_
        refine w_region (n' := 5) (by kernel_rfl) (by kernel_rfl) ?_
        refine aops_n hTT (M := []) (n := 3) [pv (21 : Nat) (V.i (needE p c)), pv (8 : Nat) (V.i (0 : Int)), pv (9 : Nat) (V.i (needE p c))] (by kernel_rfl) (by kernel_rfl) True.intro ?_
        refine aops_nil ?_
        refine xt_n ?_
        refine hK _ ?_
        clear hK K
        refine aw_ret ?_
        refine xt_r ?_
        rw [ck_1 c1, (gain_1 hn).1]
        refine ret_pure (v' := V.tup [V.i (0 : Int), V.i (needE p c)]) (.inr rfl) (by kernel_rfl) (by kernel_rfl) (by kernel_rfl)
      · simp at d1
        exact absurd d1 hn
end Go.Proofs.Ytblipieipldanaa
