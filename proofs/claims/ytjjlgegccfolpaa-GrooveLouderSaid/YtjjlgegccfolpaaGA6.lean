/-
  The fault of a groove: the walks of the reference. Conditions: told in each theorem.
-/
import Derived.Test.YtjjlgegccfolpaaGA5
namespace Go.Proofs.Ytjjlgegccfolpaa
open Go.Ab Go.RowKit Go.Dw Go.Shelf

theorem RImp.int {a b : Int} (h : a = b) : RImp (V.i a) (V.i b) := by subst h; exact RImp.refl _
def xE (u : Bool) (p : Pt) : Int := if u then p.2 else p.1
def edL (u : Bool) (l : List Pt) : List Int := l.map (xE u)
theorem edL_len (u : Bool) (l : List Pt) : (edL u l).length = l.length := by simp [edL]
theorem edL_gi (u : Bool) (l : List Pt) (k : Nat) : gi (edL u l) k = xE u (gp l k) := by
  by_cases h : k < l.length
  · simp [gi, gp, edL, List.getD_eq_getElem?_getD, List.getElem?_eq_getElem h]
  · rw [gp_out (by omega)]
    simp [gi, edL, List.getD_eq_getElem?_getD, List.getElem?_eq_none (show l.length ≤ k by omega), xE]
set_option maxRecDepth 100000 in
theorem edges_ac (l : List Pt) (u : Bool) (hl : l.length ≤ 4096) : AC Try.prog 82 [V.pts l, .b u] (V.ints (edL u l)) [] := by
  refine ac_intro hTT hMX (fn := Try.f82) (N := _) ⟨Try.func82, rfl, Try.ntmps82, by kernel_rfl⟩ (by simp) fun C hC hF => ?_
  refine aw_seq_k fun K hK => ?_
  refine w_region (n' := 2) (by kernel_rfl) (by kernel_rfl) ?_
  refine aops_n hTT (M := []) (n := 1) [pv (4 : Nat) V.nil] (by kernel_rfl) (by kernel_rfl) True.intro ?_
  refine aops_nil ?_
  refine xt_n ?_
  refine hK _ ?_
  clear hK K
  refine aw_seq_k fun K hK => ?_
  refine w_region (n' := 3) (by kernel_rfl) (by kernel_rfl) ?_
  refine aops_n hTT (M := []) (n := 1) [pv (5 : Nat) V.nil] (by kernel_rfl) (by kernel_rfl) True.intro ?_
  refine aops_nil ?_
  refine xt_n ?_
  refine hK _ ?_
  clear hK K
  refine aw_seq_k fun K hK => ?_
  refine aw_seq_k fun K hK => ?_
  refine w_region (n' := 4) (by kernel_rfl) (by kernel_rfl) ?_
  refine aops_n hTT (M := []) (n := 1) [pv (6 : Nat) (V.i (0 : Int))] (by kernel_rfl) (by kernel_rfl) True.intro ?_
  refine aops_nil ?_
  refine xt_n ?_
  refine hK _ ?_
  clear hK K
  refine aw_block ?_
  refine w_le (le_open 5 2 1 (fun k => [.i (gi (edL u l) k)]) (by kernel_rfl) rfl) ?_
  skip
  refine w_loop (ι := Nat) (fun k => [(0, V.pts l), (1, .b u), (5, .own 5), (6, .i k)]) (fun k => [(5, .row 2 1 k fun k => [.i (gi (edL u l) k)])]) (fun k => k ≤ l.length) (fun k => l.length - k) 0 (Nat.zero_le _) ?_ ?_
  · refine le_ren (sl := [(5, Ob.row (2 : Nat) (1 : Nat) (0 : Nat) fun (k : Nat) => [V.i (gi (edL u l) k)])]) [(5, 400005)] (.cons (by kernel_rfl) (.cons (by kernel_rfl) (.cons (by kernel_rfl) (.cons (by kernel_rfl) .nil)))) (.cons ⟨Ob.row (2 : Nat) (1 : Nat) (0 : Nat) fun (k : Nat) => [V.i (gi (edL u l) k)], (by kernel_rfl), .row (by kernel_rfl) (fun _ _ => rfl)⟩ .nil) (by kernel_rfl) (by kernel_rfl)
  intro k hk
  refine aw_seq_k fun K hK => ?_
  refine aw_seq_k fun K hK => ?_
  refine w_region (n' := 2) (by kernel_rfl) (by kernel_rfl) ?_
  refine aops_n hTT (M := []) (n := 4) [pv (7 : Nat) (V.i (↑k : Int)), pv (8 : Nat) (V.sl (2 : Nat) (List.length l) fun (k : Nat) => [V.i (Prod.fst (gp l k)), V.i (Prod.snd (gp l k))]), pv (9 : Nat) (V.i (↑(List.length l) : Int)), pv (10 : Nat) (V.b (decide ((↑k : Int) < (↑(List.length l) : Int))))] (by kernel_rfl) (by kernel_rfl) True.intro ?_
  refine aops_nil ?_
  refine xt_n ?_
  refine hK _ ?_
  clear hK K
  refine w_cond (t := decide ((↑k : Int) < (↑(List.length l) : Int))) (by kernel_rfl) (fun c1 => ?_) (fun c1 => ?_)
  · simp at c1
    refine aw_skip ?_
    refine xt_n ?_
    refine hK _ ?_
    clear hK K
    refine aw_seq_k fun K hK => ?_
    refine aw_block ?_
    refine aw_seq_k fun K hK => ?_
    refine w_region (n' := 3) (by kernel_rfl) (by kernel_rfl) ?_
    refine aops_n hTT (M := []) (n := 1) [pv (13 : Nat) (V.b u)] (by kernel_rfl) (by kernel_rfl) True.intro ?_
    refine aops_nil ?_
    refine xt_n ?_
    refine hK _ ?_
    clear hK K
    refine w_cond (t := u) (by kernel_rfl) (fun c2 => ?_) (fun c2 => ?_)
    · refine w_region (n' := 4) (by kernel_rfl) (by kernel_rfl) ?_
      refine aops_n hTT (M := []) (n := 9) [pv (14 : Nat) (V.own (5 : Nat)), pv (15 : Nat) (V.sl (2 : Nat) (List.length l) fun (k : Nat) => [V.i (Prod.fst (gp l k)), V.i (Prod.snd (gp l k))]), pv (16 : Nat) (V.i (↑k : Int)), pc (17 : Nat) ((0 : Int) ≤ (↑k : Int) ∧ (↑k : Int) < (↑(List.length l) : Int)) (V.ptr [V.i (Prod.fst (gp l k)), V.i (Prod.snd (gp l k))]), pv (18 : Nat) (V.ptr [V.i (Prod.snd (gp l k))]), pv (19 : Nat) (V.i (Prod.snd (gp l k))), pv (20 : Nat) (V.sl (1 : Nat) (1 : Nat) fun (i : Nat) => List.take (1 : Nat) (List.drop (i * (1 : Nat)) [V.i (Prod.snd (gp l k))])), PR.mk (some (21 : Nat)) (some (k + (1 : Nat) ≤ (1099511627776 : Nat))) (V.own (300021 : Nat)) [((5 : Nat), none), ((300021 : Nat), some (Ob.row (2 : Nat) (1 : Nat) (k + (1 : Nat)) (appRow k (fun (k : Nat) => [V.i (gi (edL u l) k)]) fun (i : Nat) => List.take (1 : Nat) (List.drop (i * (1 : Nat)) [V.i (Prod.snd (gp l k))]))))] false, pv (5 : Nat) (V.own (300021 : Nat))] (by kernel_rfl) (by kernel_rfl) ⟨(by omega), (by omega), True.intro⟩ ?_
      refine aops_nil ?_
      refine xb_n ?_
      refine xt_n ?_
      refine hK _ ?_
      clear hK K
      refine w_region (n' := 5) (by kernel_rfl) (by kernel_rfl) ?_
      refine aops_n hTT (M := []) (n := 3) [pv (11 : Nat) (V.i (↑k : Int)), pc (12 : Nat) ((-9223372036854775808 : Int) ≤ (↑k : Int) + (1 : Int) ∧ (↑k : Int) + (1 : Int) ≤ (9223372036854775807 : Int)) (V.i ((↑k : Int) + (1 : Int))), pv (6 : Nat) (V.i ((↑k : Int) + (1 : Int)))] (by kernel_rfl) (by kernel_rfl) ⟨(by omega), True.intro⟩ ?_
      refine aops_nil ?_
      refine xt_n ?_
      refine ⟨k + 1, by omega, ?_, by omega⟩
      refine le_ren (tl := [(0, V.sl (2 : Nat) (List.length l) fun (k : Nat) => [V.i (Prod.fst (gp l k)), V.i (Prod.snd (gp l k))]), (1, V.b u), (5, V.own (5 : Nat)), (6, V.i (↑(k + (1 : Nat)) : Int))]) (sl := [(5, Ob.row (2 : Nat) (1 : Nat) (k + (1 : Nat)) fun (k : Nat) => [V.i (gi (edL u l) k)])]) [(5, 300021)] (.cons (by kernel_rfl) (.cons (by kernel_rfl) (.cons (by kernel_rfl) (.cons (by kernel_rfl) .nil)))) (.cons ⟨Ob.row (2 : Nat) (1 : Nat) (k + (1 : Nat)) (appRow k (fun (k : Nat) => [V.i (gi (edL u l) k)]) fun (i : Nat) => List.take (1 : Nat) (List.drop (i * (1 : Nat)) [V.i (Prod.snd (gp l k))])), (by kernel_rfl), .row (by kernel_rfl) ?_⟩ .nil) (by kernel_rfl) (by kernel_rfl)
      refine appRow_i rfl ?_
      rw [edL_gi, xE, c2]; rfl
    · refine w_region (n' := 4) (by kernel_rfl) (by kernel_rfl) ?_
      refine aops_n hTT (M := []) (n := 9) [pv (22 : Nat) (V.own (5 : Nat)), pv (23 : Nat) (V.sl (2 : Nat) (List.length l) fun (k : Nat) => [V.i (Prod.fst (gp l k)), V.i (Prod.snd (gp l k))]), pv (24 : Nat) (V.i (↑k : Int)), pc (25 : Nat) ((0 : Int) ≤ (↑k : Int) ∧ (↑k : Int) < (↑(List.length l) : Int)) (V.ptr [V.i (Prod.fst (gp l k)), V.i (Prod.snd (gp l k))]), pv (26 : Nat) (V.ptr [V.i (Prod.fst (gp l k)), V.i (Prod.snd (gp l k))]), pv (27 : Nat) (V.i (Prod.fst (gp l k))), pv (28 : Nat) (V.sl (1 : Nat) (1 : Nat) fun (i : Nat) => List.take (1 : Nat) (List.drop (i * (1 : Nat)) [V.i (Prod.fst (gp l k))])), PR.mk (some (29 : Nat)) (some (k + (1 : Nat) ≤ (1099511627776 : Nat))) (V.own (300029 : Nat)) [((5 : Nat), none), ((300029 : Nat), some (Ob.row (2 : Nat) (1 : Nat) (k + (1 : Nat)) (appRow k (fun (k : Nat) => [V.i (gi (edL u l) k)]) fun (i : Nat) => List.take (1 : Nat) (List.drop (i * (1 : Nat)) [V.i (Prod.fst (gp l k))]))))] false, pv (5 : Nat) (V.own (300029 : Nat))] (by kernel_rfl) (by kernel_rfl) ⟨(by omega), (by omega), True.intro⟩ ?_
      refine aops_nil ?_
      refine xb_n ?_
      refine xt_n ?_
      refine hK _ ?_
      clear hK K
      refine w_region (n' := 5) (by kernel_rfl) (by kernel_rfl) ?_
      refine aops_n hTT (M := []) (n := 3) [pv (11 : Nat) (V.i (↑k : Int)), pc (12 : Nat) ((-9223372036854775808 : Int) ≤ (↑k : Int) + (1 : Int) ∧ (↑k : Int) + (1 : Int) ≤ (9223372036854775807 : Int)) (V.i ((↑k : Int) + (1 : Int))), pv (6 : Nat) (V.i ((↑k : Int) + (1 : Int)))] (by kernel_rfl) (by kernel_rfl) ⟨(by omega), True.intro⟩ ?_
      refine aops_nil ?_
      refine xt_n ?_
      refine ⟨k + 1, by omega, ?_, by omega⟩
      refine le_ren (tl := [(0, V.sl (2 : Nat) (List.length l) fun (k : Nat) => [V.i (Prod.fst (gp l k)), V.i (Prod.snd (gp l k))]), (1, V.b u), (5, V.own (5 : Nat)), (6, V.i (↑(k + (1 : Nat)) : Int))]) (sl := [(5, Ob.row (2 : Nat) (1 : Nat) (k + (1 : Nat)) fun (k : Nat) => [V.i (gi (edL u l) k)])]) [(5, 300029)] (.cons (by kernel_rfl) (.cons (by kernel_rfl) (.cons (by kernel_rfl) (.cons (by kernel_rfl) .nil)))) (.cons ⟨Ob.row (2 : Nat) (1 : Nat) (k + (1 : Nat)) (appRow k (fun (k : Nat) => [V.i (gi (edL u l) k)]) fun (i : Nat) => List.take (1 : Nat) (List.drop (i * (1 : Nat)) [V.i (Prod.fst (gp l k))])), (by kernel_rfl), .row (by kernel_rfl) ?_⟩ .nil) (by kernel_rfl) (by kernel_rfl)
      refine appRow_i rfl ?_
      rw [edL_gi, xE, c2]; rfl
  · simp at c1
    obtain rfl : k = l.length := by omega
    refine aw_exit ?_
    refine xt_x ?_
    refine xt_x ?_
    refine xb_same ?_
    refine xt_n ?_
    clear hK K
    refine hK _ ?_
    clear hK K
    refine aw_seq_k fun K hK => ?_
    refine w_region (n' := 3) (by kernel_rfl) (by kernel_rfl) ?_
    refine aops_n hTT (M := []) (n := 2) [pv (30 : Nat) (V.own (5 : Nat)), pv (4 : Nat) (V.own (5 : Nat))] (by kernel_rfl) (by kernel_rfl) True.intro ?_
    refine aops_nil ?_
    refine xt_n ?_
    refine hK _ ?_
    clear hK K
    refine aw_ret ?_
    refine ret_of_le (le_shut 4 5 (e := (2 : Nat)) (sz := (1 : Nat)) (n := List.length l) (n' := (edL u l).length) (row := fun (k : Nat) => [V.i (gi (edL u l) k)]) (row' := (fun k => [.i (gi (edL u l) k)])) (by kernel_rfl) (by kernel_rfl) (fun _ _ => rfl) ?_ ?_) ?_
    · rw [edL_len]
    · intro i hi
      rfl
    refine ret_pure (v' := V.sl (1 : Nat) (List.length (edL u l)) fun (k : Nat) => [V.i (gi (edL u l) k)]) (.inr rfl) (by kernel_rfl) (by kernel_rfl) (by kernel_rfl)
def dE (u : Bool) (l : List Pt) (i : Nat) : Int := xE u (gp l (i - 1)) + xE u (gp l (i + 1)) - 2 * xE u (gp l i)
def brkB (c : Cut) (l : List Pt) (u : Bool) (r per : Int) (i k : Nat) : Bool :=
  if 0 < i then (if k = 3 then decide (710 * r * c.slope < 113000 * per * gAmt (xE u (gp l i) - xE u (gp l (i - 1)))) else if i + 1 < l.length then (if k = 4 then decide (c.jerk < gAmt (dE u l i)) else decide (gArc r per < gAmt (dE u l i) * c.sty)) else false) else false
theorem xE_bd {u : Bool} {p : Pt} (h : gE p = true) : -4194304 ≤ xE u p ∧ xE u p ≤ 4194304 := by
  have := gE_iff.1 h
  unfold xE; split <;> omega
set_option maxRecDepth 100000 in
theorem arc_ac (r per : Int) (hp : Plc r per) : AC Try.prog 61 [.i r, .i per] (.i (gArc r per)) [] := by
  obtain ⟨w1, w2, w3, w4⟩ := way_bd hp
  obtain ⟨hr, hq⟩ := hp
  have e1 : 710 * r * 710 * r = 710 * r * (710 * r) := Int.mul_assoc (710 * r) 710 r
  have e2 : 113 * per * 113 * per = 113 * per * (113 * per) := Int.mul_assoc (113 * per) 113 per
  rw [gArc]
  rw [← e1] at w2 ⊢
  rw [← e2] at w4 ⊢
  refine ac_intro hTT hMX (fn := Try.f61) (N := _) ⟨Try.func61, rfl, Try.ntmps61, by kernel_rfl⟩ (by simp) fun C hC hF => ?_
  refine aw_seq_k fun K hK => ?_
  refine w_region (n' := 2) (by kernel_rfl) (by kernel_rfl) ?_
  refine aops_n hTT (M := []) (n := 1) [pv (4 : Nat) (V.i (0 : Int))] (by kernel_rfl) (by kernel_rfl) True.intro ?_
  refine aops_nil ?_
  refine xt_n ?_
  refine hK _ ?_
  clear hK K
  refine aw_seq_k fun K hK => ?_
  refine w_region (n' := 3) (by kernel_rfl) (by kernel_rfl) ?_
  refine aops_n hTT (M := []) (n := 12) [pv (5 : Nat) (V.i r), pc (6 : Nat) ((-9223372036854775808 : Int) ≤ (710 : Int) * r ∧ (710 : Int) * r ≤ (9223372036854775807 : Int)) (V.i ((710 : Int) * r)), pc (7 : Nat) ((-9223372036854775808 : Int) ≤ (710 : Int) * r * (710 : Int) ∧ (710 : Int) * r * (710 : Int) ≤ (9223372036854775807 : Int)) (V.i ((710 : Int) * r * (710 : Int))), pv (8 : Nat) (V.i r), pc (9 : Nat) ((-9223372036854775808 : Int) ≤ (710 : Int) * r * (710 : Int) * r ∧ (710 : Int) * r * (710 : Int) * r ≤ (9223372036854775807 : Int)) (V.i ((710 : Int) * r * (710 : Int) * r)), pv (10 : Nat) (V.i per), pc (11 : Nat) ((-9223372036854775808 : Int) ≤ (113 : Int) * per ∧ (113 : Int) * per ≤ (9223372036854775807 : Int)) (V.i ((113 : Int) * per)), pc (12 : Nat) ((-9223372036854775808 : Int) ≤ (113 : Int) * per * (113 : Int) ∧ (113 : Int) * per * (113 : Int) ≤ (9223372036854775807 : Int)) (V.i ((113 : Int) * per * (113 : Int))), pv (13 : Nat) (V.i per), pc (14 : Nat) ((-9223372036854775808 : Int) ≤ (113 : Int) * per * (113 : Int) * per ∧ (113 : Int) * per * (113 : Int) * per ≤ (9223372036854775807 : Int)) (V.i ((113 : Int) * per * (113 : Int) * per)), pc (15 : Nat) ((0 : Int) < (113 : Int) * per * (113 : Int) * per ∧ (-9223372036854775808 : Int) ≤ (710 : Int) * r * (710 : Int) * r ∧ (710 : Int) * r * (710 : Int) * r ≤ (9223372036854775807 : Int)) (V.i (Int.tdiv ((710 : Int) * r * (710 : Int) * r) ((113 : Int) * per * (113 : Int) * per))), pv (4 : Nat) (V.i (Int.tdiv ((710 : Int) * r * (710 : Int) * r) ((113 : Int) * per * (113 : Int) * per)))] (by kernel_rfl) (by kernel_rfl) ⟨(by omega), (by omega), (by omega), (by omega), (by omega), (by omega), ⟨(by omega), (by omega)⟩, True.intro⟩ ?_
  refine aops_nil ?_
  refine xt_n ?_
  refine hK _ ?_
  clear hK K
  refine aw_ret ?_
  refine ret_pure (v' := V.i (Int.tdiv ((710 : Int) * r * (710 : Int) * r) ((113 : Int) * per * (113 : Int) * per))) (.inr rfl) (by kernel_rfl) (by kernel_rfl) (by kernel_rfl)
theorem gAmt_bd {n m : Int} (h : -m ≤ n ∧ n ≤ m) : 0 ≤ gAmt n ∧ gAmt n ≤ m := by unfold gAmt; omega
set_option maxRecDepth 100000 in
theorem breaks_ac (c : Cut) (l : List Pt) (u : Bool) (r per : Int) (i k : Nat) (hc : cutE c = 0) (hl : l.length ≤ 4096) (h2 : ∀ k, k < l.length → gE (gp l k) = true) (hp : Plc r per) (hi : i < l.length) (hk : 3 ≤ k ∧ k ≤ 5) :
    AC Try.prog 81 [c.v, V.ints (edL u l), .i r, .i per, .i i, .i k] (.b (brkB c l u r per i k)) [] := by
  obtain ⟨c1, c2, c3, c4, c5, c6, c7⟩ := cutE_ok.1 hc
  have hr := hp.r
  have hq := hp.p
  have hln := edL_len u l
  have b0 := xE_bd (u := u) (h2 i hi)
  refine ac_intro hTT hMX (fn := Try.f81) (N := _) ⟨Try.func81, rfl, Try.ntmps81, by kernel_rfl⟩ (by simp) fun C hC hF => ?_
  refine aw_seq_k fun K hK => ?_
  refine w_region (n' := 2) (by kernel_rfl) (by kernel_rfl) ?_
  refine aops_n hTT (M := []) (n := 2) [pv (6 : Nat) (V.ptr [V.i (Cut.half c), V.i (Cut.gain c), V.i (Cut.thin c), V.i (Cut.wide c), V.i (Cut.slope c), V.i (Cut.jerk c), V.i (Cut.sty c)]), pv (12 : Nat) (V.b false)] (by kernel_rfl) (by kernel_rfl) True.intro ?_
  refine aops_nil ?_
  refine xt_n ?_
  refine hK _ ?_
  clear hK K
  refine aw_seq_k fun K hK => ?_
  refine aw_seq_k fun K hK => ?_
  refine w_region (n' := 3) (by kernel_rfl) (by kernel_rfl) ?_
  refine aops_n hTT (M := []) (n := 2) [pv (14 : Nat) (V.i (↑i : Int)), pv (15 : Nat) (V.b (decide ((↑i : Int) < (1 : Int))))] (by kernel_rfl) (by kernel_rfl) True.intro ?_
  refine aops_nil ?_
  refine xt_n ?_
  refine hK _ ?_
  clear hK K
  refine w_cond (t := decide ((↑i : Int) < (1 : Int))) (by kernel_rfl) (fun d1 => ?_) (fun d1 => ?_)
  · have : ¬ 0 < i := by simp at d1; omega
    refine aw_seq_k fun K hK => ?_
    refine w_region (n' := 4) (by kernel_rfl) (by kernel_rfl) ?_
    refine aops_n hTT (M := []) (n := 1) [pv (12 : Nat) (V.b false)] (by kernel_rfl) (by kernel_rfl) True.intro ?_
    refine aops_nil ?_
    refine xt_n ?_
    refine hK _ ?_
    clear hK K
    refine aw_ret ?_
    refine xt_r ?_
    rw [brkB, if_neg this]
    refine ret_pure (v' := V.b false) (.inr rfl) (by kernel_rfl) (by kernel_rfl) (by kernel_rfl)
  have i0 : 0 < i := by simp at d1; omega
  have b1 := xE_bd (u := u) (h2 (i - 1) (by omega))
  have e1 : ((i : Int) - 1).toNat = i - 1 := by omega
  have g0 := edL_gi u l i
  have g1 := edL_gi u l (i - 1)
  refine aw_skip ?_
  refine xt_n ?_
  refine hK _ ?_
  clear hK K
  refine aw_seq_k fun K hK => ?_
  refine aw_seq_k fun K hK => ?_
  refine w_region (n' := 4) (by kernel_rfl) (by kernel_rfl) ?_
  refine aops_n hTT (M := []) (n := 2) [pv (16 : Nat) (V.i (↑k : Int)), pv (17 : Nat) (V.b (decide ((↑k : Int) = (3 : Int))))] (by kernel_rfl) (by kernel_rfl) True.intro ?_
  refine aops_nil ?_
  refine xt_n ?_
  refine hK _ ?_
  clear hK K
  refine w_cond (t := decide ((↑k : Int) = (3 : Int))) (by kernel_rfl) (fun d2 => ?_) (fun d2 => ?_)
  · have k3 : k = 3 := by simp at d2; omega
    have a1 := gAmt_bd (n := xE u (gp l i) - xE u (gp l (i - 1))) (m := 8388608) (by omega)
    have m1 := gMul (m := 7405568000) (n := 8388608) (a := 113000 * per) (b := gAmt (xE u (gp l i) - xE u (gp l (i - 1)))) (by omega) (by omega)
    have m2 := gMul (m := 2977955840) (n := 10000) (a := 710 * r) (b := c.slope) (by omega) (by omega)
    rw [← g0, ← g1, ← e1] at m1
    rw [← g1, ← e1] at b1
    rw [← g0] at b0
    refine aw_seq_k fun K hK => ?_
    refine w_regionD (n' := 5) (by kernel_rfl) (by kernel_rfl) ?_
    refine aops_n hTT (M := []) (n := 12) [pv (18 : Nat) (V.i per), pc (19 : Nat) ((-9223372036854775808 : Int) ≤ (113000 : Int) * per ∧ (113000 : Int) * per ≤ (9223372036854775807 : Int)) (V.i ((113000 : Int) * per)), pv (20 : Nat) (V.sl (1 : Nat) (List.length (edL u l)) fun (k : Nat) => [V.i (gi (edL u l) k)]), pv (21 : Nat) (V.i (↑i : Int)), pc (22 : Nat) ((0 : Int) ≤ (↑i : Int) ∧ (↑i : Int) < (↑(List.length (edL u l)) : Int)) (V.ptr [V.i (gi (edL u l) i)]), pv (23 : Nat) (V.i (gi (edL u l) i)), pv (24 : Nat) (V.sl (1 : Nat) (List.length (edL u l)) fun (k : Nat) => [V.i (gi (edL u l) k)]), pv (25 : Nat) (V.i (↑i : Int)), pc (26 : Nat) ((-9223372036854775808 : Int) ≤ (↑i : Int) - (1 : Int) ∧ (↑i : Int) - (1 : Int) ≤ (9223372036854775807 : Int)) (V.i ((↑i : Int) - (1 : Int))), pc (27 : Nat) ((0 : Int) ≤ (↑i : Int) - (1 : Int) ∧ (↑i : Int) - (1 : Int) < (↑(List.length (edL u l)) : Int)) (V.ptr [V.i (gi (edL u l) (Int.toNat ((↑i : Int) - (1 : Int))))]), pv (28 : Nat) (V.i (gi (edL u l) (Int.toNat ((↑i : Int) - (1 : Int))))), pc (29 : Nat) ((-9223372036854775808 : Int) ≤ gi (edL u l) i - gi (edL u l) (Int.toNat ((↑i : Int) - (1 : Int))) ∧ gi (edL u l) i - gi (edL u l) (Int.toNat ((↑i : Int) - (1 : Int))) ≤ (9223372036854775807 : Int)) (V.i (gi (edL u l) i - gi (edL u l) (Int.toNat ((↑i : Int) - (1 : Int)))))] (by kernel_rfl) (by kernel_rfl) ⟨(by omega), (by omega), (by omega), (by omega), (by omega), True.intro⟩ ?_
    refine e_call (first := []) (caps := []) (rAmount_ac (gi (edL u l) i - gi (edL u l) ((i : Int) - 1).toNat) (by omega)) (by kernel_rfl) (by kernel_rfl) (by kernel_rfl) (by kernel_rfl) (by kernel_rfl) ?_
    refine aops_n hTT (M := []) (n := 8) [pc (31 : Nat) ((-9223372036854775808 : Int) ≤ (113000 : Int) * per * gAmt (gi (edL u l) i - gi (edL u l) (Int.toNat ((↑i : Int) - (1 : Int)))) ∧ (113000 : Int) * per * gAmt (gi (edL u l) i - gi (edL u l) (Int.toNat ((↑i : Int) - (1 : Int)))) ≤ (9223372036854775807 : Int)) (V.i ((113000 : Int) * per * gAmt (gi (edL u l) i - gi (edL u l) (Int.toNat ((↑i : Int) - (1 : Int)))))), pv (32 : Nat) (V.i r), pc (33 : Nat) ((-9223372036854775808 : Int) ≤ (710 : Int) * r ∧ (710 : Int) * r ≤ (9223372036854775807 : Int)) (V.i ((710 : Int) * r)), pv (34 : Nat) (V.ptr [V.i (Cut.slope c), V.i (Cut.jerk c), V.i (Cut.sty c)]), pv (35 : Nat) (V.i (Cut.slope c)), pc (36 : Nat) ((-9223372036854775808 : Int) ≤ (710 : Int) * r * Cut.slope c ∧ (710 : Int) * r * Cut.slope c ≤ (9223372036854775807 : Int)) (V.i ((710 : Int) * r * Cut.slope c)), pv (37 : Nat) (V.b (decide ((710 : Int) * r * Cut.slope c < (113000 : Int) * per * gAmt (gi (edL u l) i - gi (edL u l) (Int.toNat ((↑i : Int) - (1 : Int))))))), pv (12 : Nat) (V.b (decide ((710 : Int) * r * Cut.slope c < (113000 : Int) * per * gAmt (gi (edL u l) i - gi (edL u l) (Int.toNat ((↑i : Int) - (1 : Int)))))))] (by kernel_rfl) (by kernel_rfl) ⟨(by omega), (by omega), (by omega), True.intro⟩ ?_
    refine aops_nil ⟨by kernel_rfl, ?_⟩
    refine xt_n ?_
    refine hK _ ?_
    clear hK K
    refine aw_ret ?_
    refine xt_r ?_
    rw [brkB, if_pos i0, if_pos k3, ← g0, ← g1, ← e1]
    refine ret_pure (v' := V.b (decide ((710 : Int) * r * Cut.slope c < (113000 : Int) * per * gAmt (gi (edL u l) i - gi (edL u l) (Int.toNat ((↑i : Int) - (1 : Int))))))) (.inr rfl) (by kernel_rfl) (by kernel_rfl) (by kernel_rfl)
  have k3 : ¬ k = 3 := by simp at d2; omega
  refine aw_skip ?_
  refine xt_n ?_
  refine hK _ ?_
  clear hK K
  refine aw_seq_k fun K hK => ?_
  refine aw_seq_k fun K hK => ?_
  refine w_region (n' := 5) (by kernel_rfl) (by kernel_rfl) ?_
  refine aops_n hTT (M := []) (n := 5) [pv (38 : Nat) (V.i (↑i : Int)), pv (39 : Nat) (V.sl (1 : Nat) (List.length (edL u l)) fun (k : Nat) => [V.i (gi (edL u l) k)]), pv (40 : Nat) (V.i (↑(List.length (edL u l)) : Int)), pc (41 : Nat) ((-9223372036854775808 : Int) ≤ (↑(List.length (edL u l)) : Int) - (1 : Int) ∧ (↑(List.length (edL u l)) : Int) - (1 : Int) ≤ (9223372036854775807 : Int)) (V.i ((↑(List.length (edL u l)) : Int) - (1 : Int))), pv (42 : Nat) (V.b (decide ((↑i : Int) = (↑(List.length (edL u l)) : Int) - (1 : Int))))] (by kernel_rfl) (by kernel_rfl) ⟨(by omega), True.intro⟩ ?_
  refine aops_nil ?_
  refine xt_n ?_
  refine hK _ ?_
  clear hK K
  refine w_cond (t := decide ((↑i : Int) = (↑(List.length (edL u l)) : Int) - (1 : Int))) (by kernel_rfl) (fun d3 => ?_) (fun d3 => ?_)
  · have : ¬ i + 1 < l.length := by simp [edL_len] at d3; omega
    refine aw_seq_k fun K hK => ?_
    refine w_region (n' := 6) (by kernel_rfl) (by kernel_rfl) ?_
    refine aops_n hTT (M := []) (n := 1) [pv (12 : Nat) (V.b false)] (by kernel_rfl) (by kernel_rfl) True.intro ?_
    refine aops_nil ?_
    refine xt_n ?_
    refine hK _ ?_
    clear hK K
    refine aw_ret ?_
    refine xt_r ?_
    rw [brkB, if_pos i0, if_neg k3, if_neg this]
    refine ret_pure (v' := V.b false) (.inr rfl) (by kernel_rfl) (by kernel_rfl) (by kernel_rfl)
  have i1 : i + 1 < l.length := by simp [edL_len] at d3; omega
  have b2 := xE_bd (u := u) (h2 (i + 1) i1)
  have g2 := edL_gi u l (i + 1)
  have a1 := gAmt_bd (n := dE u l i) (m := 16777216) (by unfold dE; omega)
  have m1 := gMul (m := 16777216) (n := 1024) (a := gAmt (dE u l i)) (b := c.sty) (by omega) (by omega)
  have hd : dE u l i = gi (edL u l) ((i : Int) - 1).toNat + gi (edL u l) (i + 1) - 2 * gi (edL u l) i := by rw [dE, ← g0, ← g1, ← g2, ← e1]
  rw [← g1, ← e1] at b1
  rw [← g0] at b0
  rw [← g2] at b2
  rw [hd] at m1 a1
  refine aw_skip ?_
  refine xt_n ?_
  refine hK _ ?_
  clear hK K
  refine aw_seq_k fun K hK => ?_
  refine w_regionD (n' := 6) (by kernel_rfl) (by kernel_rfl) ?_
  refine aops_n hTT (M := []) (n := 17) [pv (43 : Nat) (V.sl (1 : Nat) (List.length (edL u l)) fun (k : Nat) => [V.i (gi (edL u l) k)]), pv (44 : Nat) (V.i (↑i : Int)), pc (45 : Nat) ((-9223372036854775808 : Int) ≤ (↑i : Int) - (1 : Int) ∧ (↑i : Int) - (1 : Int) ≤ (9223372036854775807 : Int)) (V.i ((↑i : Int) - (1 : Int))), pc (46 : Nat) ((0 : Int) ≤ (↑i : Int) - (1 : Int) ∧ (↑i : Int) - (1 : Int) < (↑(List.length (edL u l)) : Int)) (V.ptr [V.i (gi (edL u l) (Int.toNat ((↑i : Int) - (1 : Int))))]), pv (47 : Nat) (V.i (gi (edL u l) (Int.toNat ((↑i : Int) - (1 : Int))))), pv (48 : Nat) (V.sl (1 : Nat) (List.length (edL u l)) fun (k : Nat) => [V.i (gi (edL u l) k)]), pv (49 : Nat) (V.i (↑i : Int)), pc (50 : Nat) ((-9223372036854775808 : Int) ≤ (↑i : Int) + (1 : Int) ∧ (↑i : Int) + (1 : Int) ≤ (9223372036854775807 : Int)) (V.i ((↑i : Int) + (1 : Int))), pc (51 : Nat) ((0 : Int) ≤ (↑i : Int) + (1 : Int) ∧ (↑i : Int) + (1 : Int) < (↑(List.length (edL u l)) : Int)) (V.ptr [V.i (gi (edL u l) (i + (1 : Nat)))]), pv (52 : Nat) (V.i (gi (edL u l) (i + (1 : Nat)))), pc (53 : Nat) ((-9223372036854775808 : Int) ≤ gi (edL u l) (Int.toNat ((↑i : Int) - (1 : Int))) + gi (edL u l) (i + (1 : Nat)) ∧ gi (edL u l) (Int.toNat ((↑i : Int) - (1 : Int))) + gi (edL u l) (i + (1 : Nat)) ≤ (9223372036854775807 : Int)) (V.i (gi (edL u l) (Int.toNat ((↑i : Int) - (1 : Int))) + gi (edL u l) (i + (1 : Nat)))), pv (54 : Nat) (V.sl (1 : Nat) (List.length (edL u l)) fun (k : Nat) => [V.i (gi (edL u l) k)]), pv (55 : Nat) (V.i (↑i : Int)), pc (56 : Nat) ((0 : Int) ≤ (↑i : Int) ∧ (↑i : Int) < (↑(List.length (edL u l)) : Int)) (V.ptr [V.i (gi (edL u l) i)]), pv (57 : Nat) (V.i (gi (edL u l) i)), pc (58 : Nat) ((-9223372036854775808 : Int) ≤ (2 : Int) * gi (edL u l) i ∧ (2 : Int) * gi (edL u l) i ≤ (9223372036854775807 : Int)) (V.i ((2 : Int) * gi (edL u l) i)), pc (59 : Nat) ((-9223372036854775808 : Int) ≤ gi (edL u l) (Int.toNat ((↑i : Int) - (1 : Int))) + gi (edL u l) (i + (1 : Nat)) - (2 : Int) * gi (edL u l) i ∧ gi (edL u l) (Int.toNat ((↑i : Int) - (1 : Int))) + gi (edL u l) (i + (1 : Nat)) - (2 : Int) * gi (edL u l) i ≤ (9223372036854775807 : Int)) (V.i (gi (edL u l) (Int.toNat ((↑i : Int) - (1 : Int))) + gi (edL u l) (i + (1 : Nat)) - (2 : Int) * gi (edL u l) i))] (by kernel_rfl) (by kernel_rfl) ⟨(by omega), (by omega), (by omega), (by omega), (by omega), (by omega), (by omega), (by omega), True.intro⟩ ?_
  refine e_call (first := []) (caps := []) (rAmount_ac (gi (edL u l) ((i : Int) - 1).toNat + gi (edL u l) (i + 1) - 2 * gi (edL u l) i) (by omega)) (by kernel_rfl) (by kernel_rfl) (by kernel_rfl) (by kernel_rfl) (by kernel_rfl) ?_
  refine aops_n hTT (M := []) (n := 1) [pv (13 : Nat) (V.i (gAmt (gi (edL u l) (Int.toNat ((↑i : Int) - (1 : Int))) + gi (edL u l) (i + (1 : Nat)) - (2 : Int) * gi (edL u l) i)))] (by kernel_rfl) (by kernel_rfl) True.intro ?_
  refine aops_nil ⟨by kernel_rfl, ?_⟩
  refine xt_n ?_
  refine hK _ ?_
  clear hK K
  refine aw_seq_k fun K hK => ?_
  refine aw_seq_k fun K hK => ?_
  refine w_region (n' := 7) (by kernel_rfl) (by kernel_rfl) ?_
  refine aops_n hTT (M := []) (n := 2) [pv (61 : Nat) (V.i (↑k : Int)), pv (62 : Nat) (V.b (decide ((↑k : Int) = (4 : Int))))] (by kernel_rfl) (by kernel_rfl) True.intro ?_
  refine aops_nil ?_
  refine xt_n ?_
  refine hK _ ?_
  clear hK K
  refine w_cond (t := decide ((↑k : Int) = (4 : Int))) (by kernel_rfl) (fun d4 => ?_) (fun d4 => ?_)
  · have k4 : k = 4 := by simp at d4; omega
    refine aw_seq_k fun K hK => ?_
    refine w_region (n' := 8) (by kernel_rfl) (by kernel_rfl) ?_
    refine aops_n hTT (M := []) (n := 5) [pv (63 : Nat) (V.i (gAmt (gi (edL u l) (Int.toNat ((↑i : Int) - (1 : Int))) + gi (edL u l) (i + (1 : Nat)) - (2 : Int) * gi (edL u l) i))), pv (64 : Nat) (V.ptr [V.i (Cut.jerk c), V.i (Cut.sty c)]), pv (65 : Nat) (V.i (Cut.jerk c)), pv (66 : Nat) (V.b (decide (Cut.jerk c < gAmt (gi (edL u l) (Int.toNat ((↑i : Int) - (1 : Int))) + gi (edL u l) (i + (1 : Nat)) - (2 : Int) * gi (edL u l) i)))), pv (12 : Nat) (V.b (decide (Cut.jerk c < gAmt (gi (edL u l) (Int.toNat ((↑i : Int) - (1 : Int))) + gi (edL u l) (i + (1 : Nat)) - (2 : Int) * gi (edL u l) i))))] (by kernel_rfl) (by kernel_rfl) True.intro ?_
    refine aops_nil ?_
    refine xt_n ?_
    refine hK _ ?_
    clear hK K
    refine aw_ret ?_
    refine xt_r ?_
    rw [brkB, if_pos i0, if_neg k3, if_pos i1, if_pos k4, hd]
    refine ret_pure (v' := V.b (decide (Cut.jerk c < gAmt (gi (edL u l) (Int.toNat ((↑i : Int) - (1 : Int))) + gi (edL u l) (i + (1 : Nat)) - (2 : Int) * gi (edL u l) i)))) (.inr rfl) (by kernel_rfl) (by kernel_rfl) (by kernel_rfl)
  · have k4 : ¬ k = 4 := by simp at d4; omega
    refine aw_skip ?_
    refine xt_n ?_
    refine hK _ ?_
    clear hK K
    refine aw_seq_k fun K hK => ?_
    refine w_regionD (n' := 8) (by kernel_rfl) (by kernel_rfl) ?_
    refine aops_n hTT (M := []) (n := 6) [pv (67 : Nat) (V.i (gAmt (gi (edL u l) (Int.toNat ((↑i : Int) - (1 : Int))) + gi (edL u l) (i + (1 : Nat)) - (2 : Int) * gi (edL u l) i))), pv (68 : Nat) (V.ptr [V.i (Cut.sty c)]), pv (69 : Nat) (V.i (Cut.sty c)), pc (70 : Nat) ((-9223372036854775808 : Int) ≤ gAmt (gi (edL u l) (Int.toNat ((↑i : Int) - (1 : Int))) + gi (edL u l) (i + (1 : Nat)) - (2 : Int) * gi (edL u l) i) * Cut.sty c ∧ gAmt (gi (edL u l) (Int.toNat ((↑i : Int) - (1 : Int))) + gi (edL u l) (i + (1 : Nat)) - (2 : Int) * gi (edL u l) i) * Cut.sty c ≤ (9223372036854775807 : Int)) (V.i (gAmt (gi (edL u l) (Int.toNat ((↑i : Int) - (1 : Int))) + gi (edL u l) (i + (1 : Nat)) - (2 : Int) * gi (edL u l) i) * Cut.sty c)), pv (71 : Nat) (V.i r), pv (72 : Nat) (V.i per)] (by kernel_rfl) (by kernel_rfl) ⟨(by omega), True.intro⟩ ?_
    refine e_call (first := []) (caps := []) (arc_ac r per hp) (by kernel_rfl) (by kernel_rfl) (by kernel_rfl) (by kernel_rfl) (by kernel_rfl) ?_
    refine aops_n hTT (M := []) (n := 2) [pv (74 : Nat) (V.b (decide (gArc r per < gAmt (gi (edL u l) (Int.toNat ((↑i : Int) - (1 : Int))) + gi (edL u l) (i + (1 : Nat)) - (2 : Int) * gi (edL u l) i) * Cut.sty c))), pv (12 : Nat) (V.b (decide (gArc r per < gAmt (gi (edL u l) (Int.toNat ((↑i : Int) - (1 : Int))) + gi (edL u l) (i + (1 : Nat)) - (2 : Int) * gi (edL u l) i) * Cut.sty c)))] (by kernel_rfl) (by kernel_rfl) True.intro ?_
    refine aops_nil ⟨by kernel_rfl, ?_⟩
    refine xt_n ?_
    refine hK _ ?_
    clear hK K
    refine aw_ret ?_
    rw [brkB, if_pos i0, if_neg k3, if_pos i1, if_neg k4, hd]
    refine ret_pure (v' := V.b (decide (gArc r per < gAmt (gi (edL u l) (Int.toNat ((↑i : Int) - (1 : Int))) + gi (edL u l) (i + (1 : Nat)) - (2 : Int) * gi (edL u l) i) * Cut.sty c))) (.inr rfl) (by kernel_rfl) (by kernel_rfl) (by kernel_rfl)
/-! ### a greatest amount breaks a limit if one of both does -/
theorem lt_mul_max {z k a b : Int} (hk : 0 ≤ k) : decide (z < k * max a b) = (decide (z < k * a) || decide (z < k * b)) := by
  rcases Int.le_total a b with h | h
  · have e : max a b = b := by omega
    have := Int.mul_le_mul_of_nonneg_left h hk
    rw [e, Bool.eq_iff_iff, Bool.or_eq_true]
    simp only [decide_eq_true_eq]; omega
  · have e : max a b = a := by omega
    have := Int.mul_le_mul_of_nonneg_left h hk
    rw [e, Bool.eq_iff_iff, Bool.or_eq_true]
    simp only [decide_eq_true_eq]; omega
theorem lt_max_mul {z k a b : Int} (hk : 0 ≤ k) : decide (z < max a b * k) = (decide (z < a * k) || decide (z < b * k)) := by
  rw [Int.mul_comm, lt_mul_max hk, Int.mul_comm k a, Int.mul_comm k b]
theorem lt_max' {z a b : Int} : decide (z < max a b) = (decide (z < a) || decide (z < b)) := by
  rw [Bool.eq_iff_iff, Bool.or_eq_true]
  simp only [decide_eq_true_eq]; omega
theorem rule3 {c : Cut} {l : List Pt} {r per : Int} {i : Nat} (hc : cutE c = 0) (hp : Plc r per) : ruleB c r per (nb l i) (gp l i) (na l i) 3 = (brkB c l false r per i 3 || brkB c l true r per i 3) := by
  obtain ⟨c1, c2, c3, c4, c5, c6, c7⟩ := cutE_ok.1 hc
  have hr := hp.r
  have hq := hp.p
  simp only [ruleB, steepB]
  by_cases h : 0 < i
  · rw [nb, if_pos h, brkB, if_pos h, if_pos rfl, brkB, if_pos h, if_pos rfl]
    exact lt_mul_max (by omega)
  · have m := Int.mul_nonneg (show 0 ≤ 710 * r by omega) c5.1
    rw [nb, if_neg h, brkB, if_neg h, brkB, if_neg h]
    simp only [stepP, Int.mul_zero, Bool.or_self, decide_eq_false_iff_not]
    omega
theorem bend_out {l : List Pt} {i : Nat} (h : ¬ (0 < i ∧ i + 1 < l.length)) : bendP (nb l i) (gp l i) (na l i) = 0 := by
  by_cases h1 : 0 < i
  · rw [na, if_neg fun h2 => h ⟨h1, h2⟩]
    cases nb l i <;> rfl
  · rw [nb, if_neg h1]
    rfl
theorem rule4 {c : Cut} {l : List Pt} {r per : Int} {i : Nat} (hc : cutE c = 0) : ruleB c r per (nb l i) (gp l i) (na l i) 4 = (brkB c l false r per i 4 || brkB c l true r per i 4) := by
  obtain ⟨c1, c2, c3, c4, c5, c6, c7⟩ := cutE_ok.1 hc
  simp only [ruleB, suddenB]
  by_cases h : 0 < i ∧ i + 1 < l.length
  · rw [nb, if_pos h.1, na, if_pos h.2, brkB, if_pos h.1, if_neg (by decide), if_pos h.2, if_pos rfl, brkB, if_pos h.1, if_neg (by decide), if_pos h.2, if_pos rfl]
    exact lt_max'
  · rw [bend_out h]
    have e : ∀ u, brkB c l u r per i 4 = false := fun u => by
      by_cases h1 : 0 < i
      · rw [brkB, if_pos h1, if_neg (by decide), if_neg fun h2 => h ⟨h1, h2⟩]
      · rw [brkB, if_neg h1]
    rw [e, e]
    simp only [Bool.or_self, decide_eq_false_iff_not]
    omega
theorem rule5 {c : Cut} {l : List Pt} {r per : Int} {i : Nat} (hc : cutE c = 0) (hp : Plc r per) : ruleB c r per (nb l i) (gp l i) (na l i) 5 = (brkB c l false r per i 5 || brkB c l true r per i 5) := by
  obtain ⟨c1, c2, c3, c4, c5, c6, c7⟩ := cutE_ok.1 hc
  have ha := (gArc_bd hp).1
  simp only [ruleB, sharpB]
  by_cases h : 0 < i ∧ i + 1 < l.length
  · rw [nb, if_pos h.1, na, if_pos h.2, brkB, if_pos h.1, if_neg (by decide), if_pos h.2, if_neg (by decide), brkB, if_pos h.1, if_neg (by decide), if_pos h.2, if_neg (by decide)]
    exact lt_max_mul (by omega)
  · rw [bend_out h]
    have e : ∀ u, brkB c l u r per i 5 = false := fun u => by
      by_cases h1 : 0 < i
      · rw [brkB, if_pos h1, if_neg (by decide), if_neg fun h2 => h ⟨h1, h2⟩]
      · rw [brkB, if_neg h1]
    rw [e, e]
    simp only [Bool.or_self, decide_eq_false_iff_not, Int.zero_mul]
    omega
set_option maxRecDepth 100000 in
theorem Broken_ac (c : Cut) (l : List Pt) (r per : Int) (i : Nat) (hc : cutE c = 0) (hl : l.length ≤ 4096) (h2 : ∀ k, k < l.length → gE (gp l k) = true) (hp : Plc r per) (hi : i < l.length) :
    AC Try.prog 58 [c.v, V.pts l, .i r, .i per, .i i] (.i (gRule c l r per i)) [] := by
  have b0 := gE_iff.1 (h2 i hi)
  refine ac_intro hTT hMX (fn := Try.f58) (N := _) ⟨Try.func58, rfl, Try.ntmps58, by kernel_rfl⟩ (by simp) fun C hC hF => ?_
  refine aw_seq_k fun K hK => ?_
  refine w_region (n' := 2) (by kernel_rfl) (by kernel_rfl) ?_
  refine aops_n hTT (M := []) (n := 2) [pv (5 : Nat) (V.ptr [V.i (Cut.half c), V.i (Cut.gain c), V.i (Cut.thin c), V.i (Cut.wide c), V.i (Cut.slope c), V.i (Cut.jerk c), V.i (Cut.sty c)]), pv (10 : Nat) (V.i (0 : Int))] (by kernel_rfl) (by kernel_rfl) True.intro ?_
  refine aops_nil ?_
  refine xt_n ?_
  refine hK _ ?_
  clear hK K
  refine aw_seq_k fun K hK => ?_
  refine w_regionD (n' := 3) (by kernel_rfl) (by kernel_rfl) ?_
  refine aops_n hTT (M := []) (n := 12) [pv (13 : Nat) (V.sl (2 : Nat) (List.length l) fun (k : Nat) => [V.i (Prod.fst (gp l k)), V.i (Prod.snd (gp l k))]), pv (14 : Nat) (V.i (↑i : Int)), pc (15 : Nat) ((0 : Int) ≤ (↑i : Int) ∧ (↑i : Int) < (↑(List.length l) : Int)) (V.ptr [V.i (Prod.fst (gp l i)), V.i (Prod.snd (gp l i))]), pv (16 : Nat) (V.ptr [V.i (Prod.snd (gp l i))]), pv (17 : Nat) (V.i (Prod.snd (gp l i))), pv (18 : Nat) (V.sl (2 : Nat) (List.length l) fun (k : Nat) => [V.i (Prod.fst (gp l k)), V.i (Prod.snd (gp l k))]), pv (19 : Nat) (V.i (↑i : Int)), pc (20 : Nat) ((0 : Int) ≤ (↑i : Int) ∧ (↑i : Int) < (↑(List.length l) : Int)) (V.ptr [V.i (Prod.fst (gp l i)), V.i (Prod.snd (gp l i))]), pv (21 : Nat) (V.ptr [V.i (Prod.fst (gp l i)), V.i (Prod.snd (gp l i))]), pv (22 : Nat) (V.i (Prod.fst (gp l i))), pc (23 : Nat) ((-9223372036854775808 : Int) ≤ Prod.snd (gp l i) - Prod.fst (gp l i) ∧ Prod.snd (gp l i) - Prod.fst (gp l i) ≤ (9223372036854775807 : Int)) (V.i (Prod.snd (gp l i) - Prod.fst (gp l i))), pv (11 : Nat) (V.i (Prod.snd (gp l i) - Prod.fst (gp l i)))] (by kernel_rfl) (by kernel_rfl) ⟨(by omega), (by omega), (by omega), True.intro⟩ ?_
  refine aops_nil ⟨by kernel_rfl, ?_⟩
  refine xt_n ?_
  refine hK _ ?_
  clear hK K
  refine aw_seq_k fun K hK => ?_
  refine aw_seq_k fun K hK => ?_
  refine w_region (n' := 4) (by kernel_rfl) (by kernel_rfl) ?_
  refine aops_n hTT (M := []) (n := 4) [pv (24 : Nat) (V.i (Prod.snd (gp l i) - Prod.fst (gp l i))), pv (25 : Nat) (V.ptr [V.i (Cut.thin c), V.i (Cut.wide c), V.i (Cut.slope c), V.i (Cut.jerk c), V.i (Cut.sty c)]), pv (26 : Nat) (V.i (Cut.thin c)), pv (27 : Nat) (V.b (decide (Prod.snd (gp l i) - Prod.fst (gp l i) < Cut.thin c)))] (by kernel_rfl) (by kernel_rfl) True.intro ?_
  refine aops_nil ?_
  refine xt_n ?_
  refine hK _ ?_
  clear hK K
  refine w_cond (t := decide (Prod.snd (gp l i) - Prod.fst (gp l i) < Cut.thin c)) (by kernel_rfl) (fun c1 => ?_) (fun c1 => ?_)
  · have h1 : ruleB c r per (nb l i) (gp l i) (na l i) 1 = true := c1
    refine aw_seq_k fun K hK => ?_
    refine w_region (n' := 5) (by kernel_rfl) (by kernel_rfl) ?_
    refine aops_n hTT (M := []) (n := 1) [pv (10 : Nat) (V.i (1 : Int))] (by kernel_rfl) (by kernel_rfl) True.intro ?_
    refine aops_nil ?_
    refine xt_n ?_
    refine hK _ ?_
    clear hK K
    refine aw_ret ?_
    refine xt_r ?_
    rw [gRule, ruleP_at (j := 1) (by decide) (by decide) (fun j a b => by omega) h1]
    refine ret_pure (v' := V.i (1 : Int)) (.inr rfl) (by kernel_rfl) (by kernel_rfl) (by kernel_rfl)
  have h1 : ruleB c r per (nb l i) (gp l i) (na l i) 1 = false := c1
  refine aw_skip ?_
  refine xt_n ?_
  refine hK _ ?_
  clear hK K
  refine aw_seq_k fun K hK => ?_
  refine aw_seq_k fun K hK => ?_
  refine w_region (n' := 5) (by kernel_rfl) (by kernel_rfl) ?_
  refine aops_n hTT (M := []) (n := 4) [pv (28 : Nat) (V.i (Prod.snd (gp l i) - Prod.fst (gp l i))), pv (29 : Nat) (V.ptr [V.i (Cut.wide c), V.i (Cut.slope c), V.i (Cut.jerk c), V.i (Cut.sty c)]), pv (30 : Nat) (V.i (Cut.wide c)), pv (31 : Nat) (V.b (decide (Cut.wide c < Prod.snd (gp l i) - Prod.fst (gp l i))))] (by kernel_rfl) (by kernel_rfl) True.intro ?_
  refine aops_nil ?_
  refine xt_n ?_
  refine hK _ ?_
  clear hK K
  refine w_cond (t := decide (Cut.wide c < Prod.snd (gp l i) - Prod.fst (gp l i))) (by kernel_rfl) (fun c2 => ?_) (fun c2 => ?_)
  · have q2 : ruleB c r per (nb l i) (gp l i) (na l i) 2 = true := c2
    have q3 : ∀ j, 1 ≤ j → j < 2 → ruleB c r per (nb l i) (gp l i) (na l i) j = false := fun j a b => by
      obtain rfl : j = 1 := by omega
      exact h1
    refine aw_seq_k fun K hK => ?_
    refine w_region (n' := 6) (by kernel_rfl) (by kernel_rfl) ?_
    refine aops_n hTT (M := []) (n := 1) [pv (10 : Nat) (V.i (2 : Int))] (by kernel_rfl) (by kernel_rfl) True.intro ?_
    refine aops_nil ?_
    refine xt_n ?_
    refine hK _ ?_
    clear hK K
    refine aw_ret ?_
    refine xt_r ?_
    rw [gRule, ruleP_at (j := 2) (by decide) (by decide) q3 q2]
    refine ret_pure (v' := V.i (2 : Int)) (.inr rfl) (by kernel_rfl) (by kernel_rfl) (by kernel_rfl)
  have q2 : ruleB c r per (nb l i) (gp l i) (na l i) 2 = false := c2
  refine aw_skip ?_
  refine xt_n ?_
  refine hK _ ?_
  clear hK K
  refine aw_seq_k fun K hK => ?_
  refine aw_seq_k fun K hK => ?_
  refine w_region (n' := 6) (by kernel_rfl) (by kernel_rfl) ?_
  refine aops_n hTT (M := []) (n := 1) [pv (12 : Nat) (V.i (3 : Int))] (by kernel_rfl) (by kernel_rfl) True.intro ?_
  refine aops_nil ?_
  refine xt_n ?_
  refine hK _ ?_
  clear hK K
  refine aw_block ?_
  refine w_loop (ι := Nat) (fun k => [(1, V.pts l), (2, .i r), (3, .i per), (4, .i i), (5, .ptr [.i c.half, .i c.gain, .i c.thin, .i c.wide, .i c.slope, .i c.jerk, .i c.sty]), (12, .i k)]) (fun _ => []) (fun k => 3 ≤ k ∧ k ≤ 6 ∧ ∀ j, 1 ≤ j → j < k → ruleB c r per (nb l i) (gp l i) (na l i) j = false) (fun k => 6 - k) 3 ⟨by decide, by decide, fun j a b => ?_⟩ ?_ ?_
  · rcases (by omega : j = 1 ∨ j = 2) with rfl | rfl
    · exact h1
    · exact q2
  · refine le_ren [] (.cons (by kernel_rfl) (.cons (by kernel_rfl) (.cons (by kernel_rfl) (.cons (by kernel_rfl) (.cons (by kernel_rfl) (.cons (by kernel_rfl) .nil)))))) .nil (by kernel_rfl) (by kernel_rfl)
  rintro k ⟨k3, k6, hj⟩
  refine aw_seq_k fun K hK => ?_
  refine aw_seq_k fun K hK => ?_
  refine w_region (n' := 2) (by kernel_rfl) (by kernel_rfl) ?_
  refine aops_n hTT (M := []) (n := 2) [pv (32 : Nat) (V.i (↑k : Int)), pv (33 : Nat) (V.b (decide ((↑k : Int) ≤ (5 : Int))))] (by kernel_rfl) (by kernel_rfl) True.intro ?_
  refine aops_nil ?_
  refine xt_n ?_
  refine hK _ ?_
  clear hK K
  refine w_cond (t := decide ((↑k : Int) ≤ (5 : Int))) (by kernel_rfl) (fun c3 => ?_) (fun c3 => ?_)
  · have k5 : k ≤ 5 := by simp at c3; omega
    have key : ruleB c r per (nb l i) (gp l i) (na l i) k = (brkB c l false r per i k || brkB c l true r per i k) := by
      rcases (by omega : k = 3 ∨ k = 4 ∨ k = 5) with rfl | rfl | rfl
      · exact rule3 hc hp
      · exact rule4 hc
      · exact rule5 hc hp
    refine aw_skip ?_
    refine xt_n ?_
    refine hK _ ?_
    clear hK K
    refine aw_seq_k fun K hK => ?_
    refine aw_block ?_
    refine aw_seq_k fun K hK => ?_
    refine w_regionD (n' := 3) (by kernel_rfl) (by kernel_rfl) ?_
    refine aops_n hTT (M := []) (n := 2) [pv (36 : Nat) (V.agg [V.i (Cut.half c), V.i (Cut.gain c), V.i (Cut.thin c), V.i (Cut.wide c), V.i (Cut.slope c), V.i (Cut.jerk c), V.i (Cut.sty c)]), pv (37 : Nat) (V.sl (2 : Nat) (List.length l) fun (k : Nat) => [V.i (Prod.fst (gp l k)), V.i (Prod.snd (gp l k))])] (by kernel_rfl) (by kernel_rfl) True.intro ?_
    refine e_call (first := []) (caps := []) (edges_ac l false hl) (by kernel_rfl) (by kernel_rfl) (by kernel_rfl) (by kernel_rfl) (by kernel_rfl) ?_
    refine aops_n hTT (M := []) (n := 4) [pv (39 : Nat) (V.i r), pv (40 : Nat) (V.i per), pv (41 : Nat) (V.i (↑i : Int)), pv (42 : Nat) (V.i (↑k : Int))] (by kernel_rfl) (by kernel_rfl) True.intro ?_
    refine e_call (first := []) (caps := []) (breaks_ac c l false r per i k hc hl h2 hp hi ⟨k3, k5⟩) (by kernel_rfl) (by kernel_rfl) (by kernel_rfl) (by kernel_rfl) (by kernel_rfl) ?_
    refine aops_n hTT (M := []) (n := 3) [pv (44 : Nat) (V.b (brkB c l false r per i k)), pc (45 : Nat) ((True ∧ True) ∧ ((brkB c l false r per i k == false) = true → True)) (V.gd (brkB c l false r per i k == false) (V.agg [V.i (Cut.half c), V.i (Cut.gain c), V.i (Cut.thin c), V.i (Cut.wide c), V.i (Cut.slope c), V.i (Cut.jerk c), V.i (Cut.sty c)])), pc (46 : Nat) ((True ∧ True) ∧ ((brkB c l false r per i k == false) = true → True)) (V.gd (brkB c l false r per i k == false) (V.sl (2 : Nat) (List.length l) fun (k : Nat) => [V.i (Prod.fst (gp l k)), V.i (Prod.snd (gp l k))]))] (by kernel_rfl) (by kernel_rfl) ⟨⟨⟨True.intro, True.intro⟩, (fun _ => True.intro)⟩, ⟨⟨True.intro, True.intro⟩, (fun _ => True.intro)⟩, True.intro⟩ ?_
    refine e_callG 1 (g := brkB c l false r per i k == false) (first := []) (caps := []) (by kernel_rfl) (fun h => edges_ac l true hl) (by kernel_rfl) (by kernel_rfl) (by kernel_rfl) (by kernel_rfl) (by kernel_rfl) (by kernel_rfl) ?_
    refine aops_n hTT (M := []) (n := 4) [pc (48 : Nat) ((True ∧ True) ∧ ((brkB c l false r per i k == false) = true → True)) (V.gd (brkB c l false r per i k == false) (V.i r)), pc (49 : Nat) ((True ∧ True) ∧ ((brkB c l false r per i k == false) = true → True)) (V.gd (brkB c l false r per i k == false) (V.i per)), pc (50 : Nat) ((True ∧ True) ∧ ((brkB c l false r per i k == false) = true → True)) (V.gd (brkB c l false r per i k == false) (V.i (↑i : Int))), pc (51 : Nat) ((True ∧ True) ∧ ((brkB c l false r per i k == false) = true → True)) (V.gd (brkB c l false r per i k == false) (V.i (↑k : Int)))] (by kernel_rfl) (by kernel_rfl) ⟨⟨⟨True.intro, True.intro⟩, (fun _ => True.intro)⟩, ⟨⟨True.intro, True.intro⟩, (fun _ => True.intro)⟩, ⟨⟨True.intro, True.intro⟩, (fun _ => True.intro)⟩, ⟨⟨True.intro, True.intro⟩, (fun _ => True.intro)⟩, True.intro⟩ ?_
    refine e_callG 6 (g := brkB c l false r per i k == false) (first := []) (caps := []) (by kernel_rfl) (fun h => breaks_ac c l true r per i k hc hl h2 hp hi ⟨k3, k5⟩) (by kernel_rfl) (by kernel_rfl) (by kernel_rfl) (by kernel_rfl) (by kernel_rfl) (by kernel_rfl) ?_
    refine aops_n hTT (M := []) (n := 1) [pc (53 : Nat) (True ∧ (brkB c l false r per i k = false → (brkB c l false r per i k == false) = true)) (V.b (brkB c l false r per i k || brkB c l true r per i k))] (by kernel_rfl) (by kernel_rfl) ⟨⟨True.intro, (by (intro h; rw [h]; rfl))⟩, True.intro⟩ ?_
    refine aops_nil ⟨by kernel_rfl, ?_⟩
    refine xt_n ?_
    refine hK _ ?_
    clear hK K
    refine w_cond (t := brkB c l false r per i k || brkB c l true r per i k) (by kernel_rfl) (fun c4 => ?_) (fun c4 => ?_)
    · refine aw_seq_k fun K hK => ?_
      refine w_region (n' := 4) (by kernel_rfl) (by kernel_rfl) ?_
      refine aops_n hTT (M := []) (n := 2) [pv (54 : Nat) (V.i (↑k : Int)), pv (10 : Nat) (V.i (↑k : Int))] (by kernel_rfl) (by kernel_rfl) True.intro ?_
      refine aops_nil ?_
      refine xt_n ?_
      refine hK _ ?_
      clear hK K
      refine aw_ret ?_
      refine xb_r ?_
      refine xt_r ?_
      refine xt_r ?_
      refine xb_r ?_
      refine xt_r ?_
      rw [gRule, ruleP_at (j := k) (by omega) k5 hj (key.trans c4)]
      refine ret_pure (v' := V.i (↑k : Int)) (.inr rfl) (by kernel_rfl) (by kernel_rfl) (by kernel_rfl)
    · refine aw_skip ?_
      refine xb_n ?_
      refine xt_n ?_
      refine hK _ ?_
      clear hK K
      refine w_region (n' := 4) (by kernel_rfl) (by kernel_rfl) ?_
      refine aops_n hTT (M := []) (n := 3) [pv (34 : Nat) (V.i (↑k : Int)), pc (35 : Nat) ((-9223372036854775808 : Int) ≤ (↑k : Int) + (1 : Int) ∧ (↑k : Int) + (1 : Int) ≤ (9223372036854775807 : Int)) (V.i ((↑k : Int) + (1 : Int))), pv (12 : Nat) (V.i ((↑k : Int) + (1 : Int)))] (by kernel_rfl) (by kernel_rfl) ⟨(by omega), True.intro⟩ ?_
      refine aops_nil ?_
      refine xt_n ?_
      refine ⟨k + 1, ⟨by omega, by omega, fun j a b => ?_⟩, by refine le_ren [] (.cons (by kernel_rfl) (.cons (by kernel_rfl) (.cons (by kernel_rfl) (.cons (by kernel_rfl) (.cons (by kernel_rfl) (.cons (by kernel_rfl) .nil)))))) .nil (by kernel_rfl) (by kernel_rfl), by omega⟩
      rcases Nat.lt_or_ge j k with h3 | h3
      · exact hj j a h3
      · obtain rfl : j = k := by omega
        exact key.trans c4
  · obtain rfl : k = 6 := by simp at c3; omega
    refine aw_exit ?_
    refine xt_x ?_
    refine xt_x ?_
    refine xb_same ?_
    refine xt_n ?_
    clear hK K
    refine hK _ ?_
    clear hK K
    refine aw_seq_k fun K hK => ?_
    refine w_region (n' := 3) (by kernel_rfl) (by kernel_rfl) ?_
    refine aops_n hTT (M := []) (n := 1) [pv (10 : Nat) (V.i (0 : Int))] (by kernel_rfl) (by kernel_rfl) True.intro ?_
    refine aops_nil ?_
    refine xt_n ?_
    refine hK _ ?_
    clear hK K
    refine aw_ret ?_
    rw [gRule, ruleP_no fun j a b => hj j a (by omega)]
    refine ret_pure (v' := V.i (0 : Int)) (.inr rfl) (by kernel_rfl) (by kernel_rfl) (by kernel_rfl)
/-- an index with its neighbours -/
def win (l : List Pt) (i : Nat) : List Pt := (l.drop (i - 1)).take (min l.length (i + 2) - (i - 1))
theorem win_len {l : List Pt} {i : Nat} : (win l i).length = min l.length (i + 2) - (i - 1) := by
  simp only [win, List.length_take, List.length_drop]; omega
theorem win_gp {l : List Pt} {i j : Nat} (h : j < (win l i).length) : gp (win l i) j = gp l (j + (i - 1)) := by
  rw [win_len] at h
  simp only [win, gp, List.getD_eq_getElem?_getD]
  rw [List.getElem?_take, if_pos h, List.getElem?_drop, Nat.add_comm]
theorem win_rule {c : Cut} {l : List Pt} {r per : Int} {i : Nat} (hi : i < l.length) : gRule c (win l i) r per (i - (i - 1)) = gRule c l r per i := by
  have hl := win_len (l := l) (i := i)
  have e0 : gp (win l i) (i - (i - 1)) = gp l i := by
    rw [win_gp (by omega)]; congr 1; omega
  have e1 : nb (win l i) (i - (i - 1)) = nb l i := by
    unfold nb
    by_cases h : 0 < i
    · rw [if_pos (by omega), if_pos h, win_gp (by omega)]; congr 2; omega
    · rw [if_neg (by omega), if_neg h]
  have e2 : na (win l i) (i - (i - 1)) = na l i := by
    unfold na
    by_cases h : i + 1 < l.length
    · rw [if_pos (by omega), if_pos h, win_gp (by omega)]; congr 2; omega
    · rw [if_neg (by omega), if_neg h]
  rw [gRule, e0, e1, e2]
  rfl
theorem win_gE {l : List Pt} {i : Nat} (h2 : ∀ k, k < l.length → gE (gp l k) = true) : ∀ k, k < (win l i).length → gE (gp (win l i) k) = true := fun k hk => by
  have := win_len (l := l) (i := i)
  rw [win_gp hk]; exact h2 _ (by omega)
set_option maxRecDepth 100000 in
theorem refFaultI_ac (c : Cut) (l : List Pt) (r per : Int) (hc : cutE c = 0) (hl : gChk l = 0) (hp : Plc r per) : AC Try.prog 62 [c.v, V.pts l, .i r, .i per] (.tup [.i (faultR c l r per).1, .i (faultR c l r per).2]) [] := by
  obtain ⟨l1, l2⟩ := gChk_ok.1 hl
  refine ac_intro hTT hMX (fn := Try.f62) (N := _) ⟨Try.func62, rfl, Try.ntmps62, by kernel_rfl⟩ (by simp) fun C hC hF => ?_
  refine aw_seq_k fun K hK => ?_
  refine w_region (n' := 2) (by kernel_rfl) (by kernel_rfl) ?_
  refine aops_n hTT (M := []) (n := 3) [pv (4 : Nat) (V.ptr [V.i (Cut.half c), V.i (Cut.gain c), V.i (Cut.thin c), V.i (Cut.wide c), V.i (Cut.slope c), V.i (Cut.jerk c), V.i (Cut.sty c)]), pv (8 : Nat) (V.i (0 : Int)), pv (9 : Nat) (V.i (0 : Int))] (by kernel_rfl) (by kernel_rfl) True.intro ?_
  refine aops_nil ?_
  refine xt_n ?_
  refine hK _ ?_
  clear hK K
  refine aw_seq_k fun K hK => ?_
  refine aw_seq_k fun K hK => ?_
  refine w_region (n' := 3) (by kernel_rfl) (by kernel_rfl) ?_
  refine aops_n hTT (M := []) (n := 1) [pv (10 : Nat) (V.i (0 : Int))] (by kernel_rfl) (by kernel_rfl) True.intro ?_
  refine aops_nil ?_
  refine xt_n ?_
  refine hK _ ?_
  clear hK K
  refine aw_block ?_
  refine w_loop (ι := Nat) (fun k => [(1, V.pts l), (2, .i r), (3, .i per), (4, .ptr [.i c.half, .i c.gain, .i c.thin, .i c.wide, .i c.slope, .i c.jerk, .i c.sty]), (10, .i k)]) (fun _ => []) (fun k => k ≤ l.length ∧ ∀ j, j < k → gRule c l r per j = 0) (fun k => l.length - k) 0 ⟨Nat.zero_le _, fun j h => by omega⟩ ?_ ?_
  · refine le_ren [] (.cons (by kernel_rfl) (.cons (by kernel_rfl) (.cons (by kernel_rfl) (.cons (by kernel_rfl) (.cons (by kernel_rfl) .nil))))) .nil (by kernel_rfl) (by kernel_rfl)
  rintro k ⟨hk, hj⟩
  refine aw_seq_k fun K hK => ?_
  refine aw_seq_k fun K hK => ?_
  refine w_region (n' := 2) (by kernel_rfl) (by kernel_rfl) ?_
  refine aops_n hTT (M := []) (n := 4) [pv (14 : Nat) (V.i (↑k : Int)), pv (15 : Nat) (V.sl (2 : Nat) (List.length l) fun (k : Nat) => [V.i (Prod.fst (gp l k)), V.i (Prod.snd (gp l k))]), pv (16 : Nat) (V.i (↑(List.length l) : Int)), pv (17 : Nat) (V.b (decide ((↑k : Int) < (↑(List.length l) : Int))))] (by kernel_rfl) (by kernel_rfl) True.intro ?_
  refine aops_nil ?_
  refine xt_n ?_
  refine hK _ ?_
  clear hK K
  refine w_cond (t := decide ((↑k : Int) < (↑(List.length l) : Int))) (by kernel_rfl) (fun c1 => ?_) (fun c1 => ?_)
  · have h1 : k < l.length := by simp at c1; omega
    have hw := win_len (l := l) (i := k)
    refine aw_skip ?_
    refine xt_n ?_
    refine hK _ ?_
    clear hK K
    refine aw_seq_k fun K hK => ?_
    refine aw_block ?_
    refine aw_seq_k fun K hK => ?_
    refine w_region (n' := 3) (by kernel_rfl) (by kernel_rfl) ?_
    refine aops_n hTT (M := []) (n := 10) [pv (20 : Nat) (V.i (↑k : Int)), pc (21 : Nat) ((-9223372036854775808 : Int) ≤ (↑k : Int) - (1 : Int) ∧ (↑k : Int) - (1 : Int) ≤ (9223372036854775807 : Int)) (V.i ((↑k : Int) - (1 : Int))), pv (22 : Nat) (V.i (max (0 : Int) ((↑k : Int) - (1 : Int)))), pv (23 : Nat) (V.sl (2 : Nat) (List.length l) fun (k : Nat) => [V.i (Prod.fst (gp l k)), V.i (Prod.snd (gp l k))]), pv (24 : Nat) (V.i (↑(List.length l) : Int)), pv (25 : Nat) (V.i (↑k : Int)), pc (26 : Nat) ((-9223372036854775808 : Int) ≤ (↑k : Int) + (2 : Int) ∧ (↑k : Int) + (2 : Int) ≤ (9223372036854775807 : Int)) (V.i ((↑k : Int) + (2 : Int))), pv (27 : Nat) (V.i (min (↑(List.length l) : Int) ((↑k : Int) + (2 : Int)))), pv (11 : Nat) (V.i (max (0 : Int) ((↑k : Int) - (1 : Int)))), pv (12 : Nat) (V.i (min (↑(List.length l) : Int) ((↑k : Int) + (2 : Int))))] (by kernel_rfl) (by kernel_rfl) ⟨(by omega), (by omega), True.intro⟩ ?_
    refine aops_nil ?_
    refine xt_n ?_
    refine hK _ ?_
    clear hK K
    refine aw_seq_k fun K hK => ?_
    refine w_regionD (n' := 4) (by kernel_rfl) (by kernel_rfl) ?_
    refine aops_n hTT (M := []) (n := 10) [pv (28 : Nat) (V.agg [V.i (Cut.half c), V.i (Cut.gain c), V.i (Cut.thin c), V.i (Cut.wide c), V.i (Cut.slope c), V.i (Cut.jerk c), V.i (Cut.sty c)]), pv (29 : Nat) (V.sl (2 : Nat) (List.length l) fun (k : Nat) => [V.i (Prod.fst (gp l k)), V.i (Prod.snd (gp l k))]), pv (30 : Nat) (V.i (max (0 : Int) ((↑k : Int) - (1 : Int)))), pv (31 : Nat) (V.i (min (↑(List.length l) : Int) ((↑k : Int) + (2 : Int)))), pc (32 : Nat) ((0 : Int) ≤ max (0 : Int) ((↑k : Int) - (1 : Int)) ∧ max (0 : Int) ((↑k : Int) - (1 : Int)) ≤ min (↑(List.length l) : Int) ((↑k : Int) + (2 : Int)) ∧ min (↑(List.length l) : Int) ((↑k : Int) + (2 : Int)) ≤ (↑(List.length l) : Int)) (V.sl (2 : Nat) (Int.toNat (min (↑(List.length l) : Int) ((↑k : Int) + (2 : Int))) - Int.toNat (max (0 : Int) ((↑k : Int) - (1 : Int)))) fun (i : Nat) => [V.i (Prod.fst (gp l (i + Int.toNat (max (0 : Int) ((↑k : Int) - (1 : Int)))))), V.i (Prod.snd (gp l (i + Int.toNat (max (0 : Int) ((↑k : Int) - (1 : Int))))))]), pv (33 : Nat) (V.i r), pv (34 : Nat) (V.i per), pv (35 : Nat) (V.i (↑k : Int)), pv (36 : Nat) (V.i (max (0 : Int) ((↑k : Int) - (1 : Int)))), pc (37 : Nat) ((-9223372036854775808 : Int) ≤ (↑k : Int) - max (0 : Int) ((↑k : Int) - (1 : Int)) ∧ (↑k : Int) - max (0 : Int) ((↑k : Int) - (1 : Int)) ≤ (9223372036854775807 : Int)) (V.i ((↑k : Int) - max (0 : Int) ((↑k : Int) - (1 : Int))))] (by kernel_rfl) (by kernel_rfl) ⟨⟨(by omega), (by omega)⟩, (by omega), True.intro⟩ ?_
    refine e_call (first := []) (caps := []) (AC.conv (Broken_ac c (win l k) r per (k - (k - 1)) hc (by omega) (win_gE l2) hp (by omega)) (args' := [V.agg [V.i (Cut.half c), V.i (Cut.gain c), V.i (Cut.thin c), V.i (Cut.wide c), V.i (Cut.slope c), V.i (Cut.jerk c), V.i (Cut.sty c)], V.sl (2 : Nat) (Int.toNat (min (↑(List.length l) : Int) ((↑k : Int) + (2 : Int))) - Int.toNat (max (0 : Int) ((↑k : Int) - (1 : Int)))) fun (i : Nat) => [V.i (Prod.fst (gp l (i + Int.toNat (max (0 : Int) ((↑k : Int) - (1 : Int)))))), V.i (Prod.snd (gp l (i + Int.toNat (max (0 : Int) ((↑k : Int) - (1 : Int))))))], V.i r, V.i per, V.i ((↑k : Int) - max (0 : Int) ((↑k : Int) - (1 : Int)))]) ⟨RImp.refl _, ?_, RImp.refl _, RImp.refl _, ?_, trivial⟩) (by kernel_rfl) (by kernel_rfl) (by kernel_rfl) (by kernel_rfl) (by kernel_rfl) ?_
    · refine RImp.rows ?_ fun i hi => ?_
      · rw [hw]; omega
      · have e : (max 0 ((k : Int) - 1)).toNat = k - 1 := by omega
        rw [e, win_gp (by omega)]
    · exact RImp.int (by omega)
    rw [win_rule h1]
    refine aops_n hTT (M := []) (n := 1) [pv (13 : Nat) (V.i (gRule c l r per k))] (by kernel_rfl) (by kernel_rfl) True.intro ?_
    refine aops_nil ⟨by kernel_rfl, ?_⟩
    refine xt_n ?_
    refine hK _ ?_
    clear hK K
    refine aw_seq_k fun K hK => ?_
    refine w_region (n' := 5) (by kernel_rfl) (by kernel_rfl) ?_
    refine aops_n hTT (M := []) (n := 2) [pv (39 : Nat) (V.i (gRule c l r per k)), pv (40 : Nat) (V.b (decide ((0 : Int) < gRule c l r per k)))] (by kernel_rfl) (by kernel_rfl) True.intro ?_
    refine aops_nil ?_
    refine xt_n ?_
    refine hK _ ?_
    clear hK K
    refine w_cond (t := decide ((0 : Int) < gRule c l r per k)) (by kernel_rfl) (fun c2 => ?_) (fun c2 => ?_)
    · have h3 : 0 < gRule c l r per k := by simpa using c2
      refine aw_seq_k fun K hK => ?_
      refine w_region (n' := 6) (by kernel_rfl) (by kernel_rfl) ?_
      refine aops_n hTT (M := []) (n := 4) [pv (41 : Nat) (V.i (↑k : Int)), pv (42 : Nat) (V.i (gRule c l r per k)), pv (8 : Nat) (V.i (↑k : Int)), pv (9 : Nat) (V.i (gRule c l r per k))] (by kernel_rfl) (by kernel_rfl) True.intro ?_
      refine aops_nil ?_
      refine xt_n ?_
      refine hK _ ?_
      clear hK K
      refine aw_ret ?_
      refine xb_r ?_
      refine xt_r ?_
      refine xt_r ?_
      refine xb_r ?_
      refine xt_r ?_
      rw [faultR_some h1 h3 hj]
      refine ret_pure (v' := V.tup [V.i (↑k : Int), V.i (gRule c l r per k)]) (.inr rfl) (by kernel_rfl) (by kernel_rfl) (by kernel_rfl)
    · have h3 : gRule c l r per k ≤ 0 := by simpa using c2
      have h4 := (gRule_bd c l r per k).1
      refine aw_skip ?_
      refine xb_n ?_
      refine xt_n ?_
      refine hK _ ?_
      clear hK K
      refine w_region (n' := 6) (by kernel_rfl) (by kernel_rfl) ?_
      refine aops_n hTT (M := []) (n := 3) [pv (18 : Nat) (V.i (↑k : Int)), pc (19 : Nat) ((-9223372036854775808 : Int) ≤ (↑k : Int) + (1 : Int) ∧ (↑k : Int) + (1 : Int) ≤ (9223372036854775807 : Int)) (V.i ((↑k : Int) + (1 : Int))), pv (10 : Nat) (V.i ((↑k : Int) + (1 : Int)))] (by kernel_rfl) (by kernel_rfl) ⟨(by omega), True.intro⟩ ?_
      refine aops_nil ?_
      refine xt_n ?_
      refine ⟨k + 1, ⟨by omega, fun j a => ?_⟩, by refine le_ren [] (.cons (by kernel_rfl) (.cons (by kernel_rfl) (.cons (by kernel_rfl) (.cons (by kernel_rfl) (.cons (by kernel_rfl) .nil))))) .nil (by kernel_rfl) (by kernel_rfl), by omega⟩
      rcases Nat.lt_or_ge j k with h5 | h5
      · exact hj j h5
      · obtain rfl : j = k := by omega
        omega
  · obtain rfl : k = l.length := by simp at c1; omega
    refine aw_exit ?_
    refine xt_x ?_
    refine xt_x ?_
    refine xb_same ?_
    refine xt_n ?_
    clear hK K
    refine hK _ ?_
    clear hK K
    refine aw_seq_k fun K hK => ?_
    refine w_region (n' := 3) (by kernel_rfl) (by kernel_rfl) ?_
    refine aops_n hTT (M := []) (n := 2) [pv (8 : Nat) (V.i (0 : Int)), pv (9 : Nat) (V.i (0 : Int))] (by kernel_rfl) (by kernel_rfl) True.intro ?_
    refine aops_nil ?_
    refine xt_n ?_
    refine hK _ ?_
    clear hK K
    refine aw_ret ?_
    rw [faultR_none hj]
    refine ret_pure (v' := V.tup [V.i (0 : Int), V.i (0 : Int)]) (.inr rfl) (by kernel_rfl) (by kernel_rfl) (by kernel_rfl)
end Go.Proofs.Ytjjlgegccfolpaa
