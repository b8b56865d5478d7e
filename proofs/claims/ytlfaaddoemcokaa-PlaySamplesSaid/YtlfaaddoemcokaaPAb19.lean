/-
  The samples of extents: Channels in both copies. Conditions: told in each theorem.
-/
import Derived.Test.YtlfaaddoemcokaaPAb18
namespace Go.Proofs.Ytlfaaddoemcokaa
open Go.Ab Go.RowKit Go.Dw Go.Shelf

theorem tdiv_mono {a b m : Int} (hm : 0 < m) (h : a ≤ b) : a.tdiv m ≤ b.tdiv m := by
  by_cases ha : 0 ≤ a
  · rw [Int.tdiv_eq_ediv_of_nonneg ha, Int.tdiv_eq_ediv_of_nonneg (by omega)]
    exact Int.ediv_le_ediv hm h
  · by_cases hb : 0 ≤ b
    · have := (tdiv_bd a hm).2 (by omega)
      have := (tdiv_bd b hm).1 hb
      omega
    · have e1 : a.tdiv m = -((-a) / m) := by
        have := Int.neg_tdiv (a := -a) (b := m)
        rw [Int.neg_neg] at this
        rw [this, Int.tdiv_eq_ediv_of_nonneg (by omega)]
      have e2 : b.tdiv m = -((-b) / m) := by
        have := Int.neg_tdiv (a := -b) (b := m)
        rw [Int.neg_neg] at this
        rw [this, Int.tdiv_eq_ediv_of_nonneg (by omega)]
      have := Int.ediv_le_ediv hm (show -b ≤ -a by omega)
      omega
theorem edge_mono {half gain m n : Int} (hg : 0 ≤ gain) (h : m ≤ n) : edgeI half gain m ≤ edgeI half gain n := by
  have := tdiv_mono (m := 1000) (by decide) (Int.mul_le_mul_of_nonneg_right h hg)
  unfold edgeI
  omega
theorem lo_first {half gain lo : Int} (hg : 0 ≤ gain) : ∃ F, IsFirst (fun n => decide (lo ≤ edgeI half gain n)) F := first_exists fun m n h hp => by
  have := edge_mono (half := half) hg h
  simp at hp ⊢
  omega
theorem hi_first {half gain hi : Int} (hg : 0 ≤ gain) : ∃ F, IsFirst (fun n => decide (hi < edgeI half gain n)) F := first_exists fun m n h hp => by
  have := edge_mono (half := half) hg h
  simp at hp ⊢
  omega
/-- what both copies answer: the first numbers are told -/
structure Fs where
  F : Int
  G : Int
def Fs.ok (s : Fs) (c : Cut) (half lo hi : Int) : Prop := IsFirst (fun n => decide (lo ≤ edgeI half c.gain n)) s.F ∧ IsFirst (fun n => decide (hi < edgeI half c.gain n)) s.G
theorem fs_exists (c : Cut) (hc : cutE c = 0) (half lo hi : Int) : ∃ s : Fs, s.ok c half lo hi := by
  have hg : 0 ≤ c.gain := (cutE_ok.1 hc).2.1.1
  obtain ⟨F, hF⟩ := lo_first (half := half) (lo := lo) hg
  obtain ⟨G, hG⟩ := hi_first (half := half) (hi := hi) hg
  exact ⟨⟨F, G⟩, hF, hG⟩
def isB (s : Fs) : Bool := decide (s.F ≤ s.G - 1)
def chanV (c : Cut) (a b x y : Int) (s t : Fs) : V :=
  if cutE c = 0 then (if b < a ∨ y < x then .tup [.agg [.i 0, .i 0], .agg [.i 0, .i 0], .i 2] else if isB s = true ∧ isB t = true then .tup [.agg [.i s.F, .i (s.G - 1)], .agg [.i t.F, .i (t.G - 1)], .i 0] else .tup [.agg [.i 0, .i 0], .agg [.i 0, .i 0], .i 5])
  else .tup [.agg [.i 0, .i 0], .agg [.i 0, .i 0], .i (cutE c)]
theorem chanV_1 {c : Cut} {a b x y : Int} {s t : Fs} (h : ¬ cutE c = 0) : chanV c a b x y s t = .tup [.agg [.i 0, .i 0], .agg [.i 0, .i 0], .i (cutE c)] := by rw [chanV, if_neg h]
theorem chanV_2 {c : Cut} {a b x y : Int} {s t : Fs} (h : cutE c = 0) (h2 : b < a ∨ y < x) : chanV c a b x y s t = .tup [.agg [.i 0, .i 0], .agg [.i 0, .i 0], .i 2] := by rw [chanV, if_pos h, if_pos h2]
theorem chanV_3 {c : Cut} {a b x y : Int} {s t : Fs} (h : cutE c = 0) (h2 : ¬ (b < a ∨ y < x)) (h3 : ¬ (isB s = true ∧ isB t = true)) : chanV c a b x y s t = .tup [.agg [.i 0, .i 0], .agg [.i 0, .i 0], .i 5] := by rw [chanV, if_pos h, if_neg h2, if_neg h3]
theorem chanV_4 {c : Cut} {a b x y : Int} {s t : Fs} (h : cutE c = 0) (h2 : ¬ (b < a ∨ y < x)) (h3 : isB s = true ∧ isB t = true) : chanV c a b x y s t = .tup [.agg [.i s.F, .i (s.G - 1)], .agg [.i t.F, .i (t.G - 1)], .i 0] := by rw [chanV, if_pos h, if_neg h2, if_pos h3]
set_option maxRecDepth 100000 in
theorem Channels_ac (c : Cut) (a b x y : Int) (s t : Fs) (hst : cutE c = 0 → s.ok c c.half x y ∧ t.ok c (-c.half) a b) : AC Try.prog 44 [c.v, .agg [.i a, .i b, .i x, .i y]] (chanV c a b x y s t) [] := by
  refine ac_intro hTT hMX (fn := Try.f44) (N := _) ⟨Try.func44, rfl, Try.ntmps44, by kernel_rfl⟩ (by simp) fun C hC hF => ?_
  refine aw_seq_k fun K hK => ?_
  refine w_region (n' := 2) (by kernel_rfl) (by kernel_rfl) ?_
  refine aops_n hTT (M := []) (n := 5) [pv (2 : Nat) (V.ptr [V.i (Cut.half c), V.i (Cut.gain c), V.i (Cut.thin c), V.i (Cut.wide c), V.i (Cut.slope c), V.i (Cut.jerk c), V.i (Cut.sty c)]), pv (3 : Nat) (V.ptr [V.i a, V.i b, V.i x, V.i y]), pn (4 : Nat) (V.ref (100004 : Nat) (0 : Nat)) (100004 : Nat) (Ob.box (70 : Nat) [V.i (0 : Int), V.i (0 : Int)]), pn (5 : Nat) (V.ref (100005 : Nat) (0 : Nat)) (100005 : Nat) (Ob.box (70 : Nat) [V.i (0 : Int), V.i (0 : Int)]), pv (6 : Nat) (V.i (0 : Int))] (by kernel_rfl) (by kernel_rfl) True.intro ?_
  refine aops_nil ?_
  refine xt_n ?_
  refine hK _ ?_
  clear hK K
  refine aw_seq_k fun K hK => ?_
  refine w_region (n' := 3) (by kernel_rfl) (by kernel_rfl) ?_
  refine aops_n hTT (M := []) (n := 1) [pn (7 : Nat) (V.ref (200007 : Nat) (0 : Nat)) (200007 : Nat) (Ob.box (70 : Nat) [V.i (0 : Int), V.i (0 : Int)])] (by kernel_rfl) (by kernel_rfl) True.intro ?_
  refine aops_nil ?_
  refine xt_n ?_
  refine hK _ ?_
  clear hK K
  refine aw_seq_k fun K hK => ?_
  refine aw_seq_k fun K hK => ?_
  refine w_region (n' := 4) (by kernel_rfl) (by kernel_rfl) ?_
  refine aops_n hTT (M := []) (n := 1) [pv (13 : Nat) (V.agg [V.i (Cut.half c), V.i (Cut.gain c), V.i (Cut.thin c), V.i (Cut.wide c), V.i (Cut.slope c), V.i (Cut.jerk c), V.i (Cut.sty c)])] (by kernel_rfl) (by kernel_rfl) True.intro ?_
  refine e_call (first := []) (caps := []) (cutCheck_ac c) (by kernel_rfl) (by kernel_rfl) (by kernel_rfl) (by kernel_rfl) (by kernel_rfl) ?_
  refine aops_n hTT (M := []) (n := 1) [pv (8 : Nat) (V.i (cutE c))] (by kernel_rfl) (by kernel_rfl) True.intro ?_
  refine aops_nil ?_
  refine xt_n ?_
  refine hK _ ?_
  clear hK K
  refine aw_seq_k fun K hK => ?_
  refine w_region (n' := 5) (by kernel_rfl) (by kernel_rfl) ?_
  refine aops_n hTT (M := []) (n := 2) [pv (15 : Nat) (V.i (cutE c)), pv (16 : Nat) (V.b !decide (cutE c = (0 : Int)))] (by kernel_rfl) (by kernel_rfl) True.intro ?_
  refine aops_nil ?_
  refine xt_n ?_
  refine hK _ ?_
  clear hK K
  refine w_cond (t := !decide (cutE c = (0 : Int))) (by kernel_rfl) (fun h1 => ?_) (fun h1 => ?_)
  · simp at h1
    refine aw_seq_k fun K hK => ?_
    refine w_regionD (n' := 6) (by kernel_rfl) (by kernel_rfl) ?_
    refine aops_n hTT (M := []) (n := 6) [pc (17 : Nat) ((0 : Nat) ≤ (2 : Nat)) (V.agg [V.i (0 : Int), V.i (0 : Int)]), pc (18 : Nat) ((0 : Nat) ≤ (2 : Nat)) (V.agg [V.i (0 : Int), V.i (0 : Int)]), pv (19 : Nat) (V.i (cutE c)), pw ((0 : Nat) + (2 : Nat) ≤ (2 : Nat)) (100004 : Nat) (Ob.box (70 : Nat) [V.i (0 : Int), V.i (0 : Int)]), pw ((0 : Nat) + (2 : Nat) ≤ (2 : Nat)) (100005 : Nat) (Ob.box (70 : Nat) [V.i (0 : Int), V.i (0 : Int)]), pv (6 : Nat) (V.i (cutE c))] (by kernel_rfl) (by kernel_rfl) ⟨(by omega), (by omega), (by omega), (by omega), True.intro⟩ ?_
    refine aops_nil ⟨by kernel_rfl, ?_⟩
    refine xt_n ?_
    refine hK _ ?_
    clear hK K
    refine aw_ret ?_
    refine xt_r ?_
    rw [chanV_1 h1]
    refine ret_pure (v' := V.tup [V.agg [V.i (0 : Int), V.i (0 : Int)], V.agg [V.i (0 : Int), V.i (0 : Int)], V.i (cutE c)]) (.inr rfl) (by kernel_rfl) (by kernel_rfl) (by kernel_rfl)
  simp at h1
  obtain ⟨hs, ht⟩ := hst h1
  have hh := (cutE_ok.1 h1).1
  refine aw_skip ?_
  refine xt_n ?_
  refine hK _ ?_
  clear hK K
  refine aw_seq_k fun K hK => ?_
  refine aw_seq_k fun K hK => ?_
  refine w_region (n' := 6) (by kernel_rfl) (by kernel_rfl) ?_
  refine aops_n hTT (M := []) (n := 16) [pv (20 : Nat) (V.ptr [V.i a, V.i b, V.i x, V.i y]), pv (21 : Nat) (V.ptr [V.i a, V.i b, V.i x, V.i y]), pv (22 : Nat) (V.i a), pv (23 : Nat) (V.ptr [V.i a, V.i b, V.i x, V.i y]), pv (24 : Nat) (V.ptr [V.i b, V.i x, V.i y]), pv (25 : Nat) (V.i b), pv (26 : Nat) (V.b (decide (b < a))), pv (27 : Nat) (V.b (decide (b < a))), pc (28 : Nat) ((True ∧ True) ∧ ((decide (b < a) == false) = true → True)) (V.gd (decide (b < a) == false) (V.ptr [V.i x, V.i y])), pc (29 : Nat) ((((decide (b < a) == false) = true → (decide (b < a) == false) = true) ∧ True) ∧ ((decide (b < a) == false) = true → True)) (V.gd (decide (b < a) == false) (V.ptr [V.i x, V.i y])), pc (30 : Nat) ((((decide (b < a) == false) = true → (decide (b < a) == false) = true) ∧ True) ∧ ((decide (b < a) == false) = true → True)) (V.gd (decide (b < a) == false) (V.i x)), pc (31 : Nat) ((True ∧ True) ∧ ((decide (b < a) == false) = true → True)) (V.gd (decide (b < a) == false) (V.ptr [V.i x, V.i y])), pc (32 : Nat) ((((decide (b < a) == false) = true → (decide (b < a) == false) = true) ∧ True) ∧ ((decide (b < a) == false) = true → True)) (V.gd (decide (b < a) == false) (V.ptr [V.i y])), pc (33 : Nat) ((((decide (b < a) == false) = true → (decide (b < a) == false) = true) ∧ True) ∧ ((decide (b < a) == false) = true → True)) (V.gd (decide (b < a) == false) (V.i y)), pc (34 : Nat) ((((decide (b < a) == false) = true → (decide (b < a) == false) = true) ∧ ((decide (b < a) == false) = true → (decide (b < a) == false) = true) ∧ True) ∧ ((decide (b < a) == false) = true → True)) (V.gd (decide (b < a) == false) (V.b (decide (y < x)))), pc (35 : Nat) (True ∧ (decide (b < a) = false → (decide (b < a) == false) = true)) (V.b (decide (b < a) || decide (y < x)))] (by kernel_rfl) (by kernel_rfl) ⟨⟨⟨True.intro, True.intro⟩, (fun _ => True.intro)⟩, ⟨⟨(by (exact fun h => h)), True.intro⟩, (fun _ => True.intro)⟩, ⟨⟨(by (exact fun h => h)), True.intro⟩, (fun _ => True.intro)⟩, ⟨⟨True.intro, True.intro⟩, (fun _ => True.intro)⟩, ⟨⟨(by (exact fun h => h)), True.intro⟩, (fun _ => True.intro)⟩, ⟨⟨(by (exact fun h => h)), True.intro⟩, (fun _ => True.intro)⟩, ⟨⟨(by (exact fun h => h)), ⟨(by (exact fun h => h)), True.intro⟩⟩, (fun _ => True.intro)⟩, ⟨True.intro, (by (intro h; rw [h]; rfl))⟩, True.intro⟩ ?_
  refine aops_nil ?_
  refine xt_n ?_
  refine hK _ ?_
  clear hK K
  refine w_cond (t := decide (b < a) || decide (y < x)) (by kernel_rfl) (fun h2 => ?_) (fun h2 => ?_)
  · simp at h2
    refine aw_seq_k fun K hK => ?_
    refine w_regionD (n' := 7) (by kernel_rfl) (by kernel_rfl) ?_
    refine aops_n hTT (M := []) (n := 5) [pc (36 : Nat) ((0 : Nat) ≤ (2 : Nat)) (V.agg [V.i (0 : Int), V.i (0 : Int)]), pc (37 : Nat) ((0 : Nat) ≤ (2 : Nat)) (V.agg [V.i (0 : Int), V.i (0 : Int)]), pw ((0 : Nat) + (2 : Nat) ≤ (2 : Nat)) (100004 : Nat) (Ob.box (70 : Nat) [V.i (0 : Int), V.i (0 : Int)]), pw ((0 : Nat) + (2 : Nat) ≤ (2 : Nat)) (100005 : Nat) (Ob.box (70 : Nat) [V.i (0 : Int), V.i (0 : Int)]), pv (6 : Nat) (V.i (2 : Int))] (by kernel_rfl) (by kernel_rfl) ⟨(by omega), (by omega), (by omega), (by omega), True.intro⟩ ?_
    refine aops_nil ⟨by kernel_rfl, ?_⟩
    refine xt_n ?_
    refine hK _ ?_
    clear hK K
    refine aw_ret ?_
    refine xt_r ?_
    rw [chanV_2 h1 (by omega)]
    refine ret_pure (v' := V.tup [V.agg [V.i (0 : Int), V.i (0 : Int)], V.agg [V.i (0 : Int), V.i (0 : Int)], V.i (2 : Int)]) (.inr rfl) (by kernel_rfl) (by kernel_rfl) (by kernel_rfl)
  simp at h2
  refine aw_skip ?_
  refine xt_n ?_
  refine hK _ ?_
  clear hK K
  refine aw_seq_k fun K hK => ?_
  refine w_region (n' := 7) (by kernel_rfl) (by kernel_rfl) ?_
  refine aops_n hTT (M := []) (n := 5) [pv (39 : Nat) (V.agg [V.i (Cut.half c), V.i (Cut.gain c), V.i (Cut.thin c), V.i (Cut.wide c), V.i (Cut.slope c), V.i (Cut.jerk c), V.i (Cut.sty c)]), pv (40 : Nat) (V.ptr [V.i (Cut.half c), V.i (Cut.gain c), V.i (Cut.thin c), V.i (Cut.wide c), V.i (Cut.slope c), V.i (Cut.jerk c), V.i (Cut.sty c)]), pv (41 : Nat) (V.i (Cut.half c)), pv (42 : Nat) (V.ptr [V.i x, V.i y]), pv (43 : Nat) (V.agg [V.i x, V.i y])] (by kernel_rfl) (by kernel_rfl) True.intro ?_
  refine e_call (first := []) (caps := []) (samples_ac c c.half x y s.F s.G h1 (by omega) hs.1 hs.2) (by kernel_rfl) (by kernel_rfl) (by kernel_rfl) (by kernel_rfl) (by kernel_rfl) ?_
  refine aops_n hTT (M := []) (n := 6) [pv (38 : Nat) (V.tup [V.agg [V.i (Fs.F s), V.i (Fs.G s - (1 : Int))], V.b (decide (Fs.F s ≤ Fs.G s - (1 : Int)))]), pv (45 : Nat) (V.agg [V.i (Fs.F s), V.i (Fs.G s - (1 : Int))]), pv (46 : Nat) (V.b (decide (Fs.F s ≤ Fs.G s - (1 : Int)))), pn (9 : Nat) (V.ref (600009 : Nat) (0 : Nat)) (600009 : Nat) (Ob.box (70 : Nat) [V.i (0 : Int), V.i (0 : Int)]), pw ((0 : Nat) + (2 : Nat) ≤ (2 : Nat)) (600009 : Nat) (Ob.box (70 : Nat) [V.i (Fs.F s), V.i (Fs.G s - (1 : Int))]), pv (10 : Nat) (V.b (decide (Fs.F s ≤ Fs.G s - (1 : Int))))] (by kernel_rfl) (by kernel_rfl) ⟨(by omega), True.intro⟩ ?_
  refine aops_nil ?_
  refine xt_n ?_
  refine hK _ ?_
  clear hK K
  refine aw_seq_k fun K hK => ?_
  refine w_region (n' := 8) (by kernel_rfl) (by kernel_rfl) ?_
  refine aops_n hTT (M := []) (n := 6) [pv (48 : Nat) (V.agg [V.i (Cut.half c), V.i (Cut.gain c), V.i (Cut.thin c), V.i (Cut.wide c), V.i (Cut.slope c), V.i (Cut.jerk c), V.i (Cut.sty c)]), pv (49 : Nat) (V.ptr [V.i (Cut.half c), V.i (Cut.gain c), V.i (Cut.thin c), V.i (Cut.wide c), V.i (Cut.slope c), V.i (Cut.jerk c), V.i (Cut.sty c)]), pv (50 : Nat) (V.i (Cut.half c)), pc (51 : Nat) ((-9223372036854775808 : Int) ≤ -Cut.half c ∧ -Cut.half c ≤ (9223372036854775807 : Int)) (V.i (-Cut.half c)), pv (52 : Nat) (V.ptr [V.i a, V.i b, V.i x, V.i y]), pv (53 : Nat) (V.agg [V.i a, V.i b])] (by kernel_rfl) (by kernel_rfl) ⟨(by omega), True.intro⟩ ?_
  refine e_call (first := []) (caps := []) (samples_ac c (-c.half) a b t.F t.G h1 (by omega) ht.1 ht.2) (by kernel_rfl) (by kernel_rfl) (by kernel_rfl) (by kernel_rfl) (by kernel_rfl) ?_
  refine aops_n hTT (M := []) (n := 6) [pv (47 : Nat) (V.tup [V.agg [V.i (Fs.F t), V.i (Fs.G t - (1 : Int))], V.b (decide (Fs.F t ≤ Fs.G t - (1 : Int)))]), pv (55 : Nat) (V.agg [V.i (Fs.F t), V.i (Fs.G t - (1 : Int))]), pv (56 : Nat) (V.b (decide (Fs.F t ≤ Fs.G t - (1 : Int)))), pn (11 : Nat) (V.ref (700011 : Nat) (0 : Nat)) (700011 : Nat) (Ob.box (70 : Nat) [V.i (0 : Int), V.i (0 : Int)]), pw ((0 : Nat) + (2 : Nat) ≤ (2 : Nat)) (700011 : Nat) (Ob.box (70 : Nat) [V.i (Fs.F t), V.i (Fs.G t - (1 : Int))]), pv (12 : Nat) (V.b (decide (Fs.F t ≤ Fs.G t - (1 : Int))))] (by kernel_rfl) (by kernel_rfl) ⟨(by omega), True.intro⟩ ?_
  refine aops_nil ?_
  refine xt_n ?_
  refine hK _ ?_
  clear hK K
  refine aw_seq_k fun K hK => ?_
  refine aw_seq_k fun K hK => ?_
  refine w_region (n' := 9) (by kernel_rfl) (by kernel_rfl) ?_
  refine aops_n hTT (M := []) (n := 6) [pv (57 : Nat) (V.b (decide (Fs.F s ≤ Fs.G s - (1 : Int)))), pv (58 : Nat) (V.b !decide (Fs.F s ≤ Fs.G s - (1 : Int))), pv (59 : Nat) (V.b !decide (Fs.F s ≤ Fs.G s - (1 : Int))), pc (60 : Nat) ((True ∧ True) ∧ (((!decide (Fs.F s ≤ Fs.G s - (1 : Int))) == false) = true → True)) (V.gd ((!decide (Fs.F s ≤ Fs.G s - (1 : Int))) == false) (V.b (decide (Fs.F t ≤ Fs.G t - (1 : Int))))), pc (61 : Nat) (((((!decide (Fs.F s ≤ Fs.G s - (1 : Int))) == false) = true → ((!decide (Fs.F s ≤ Fs.G s - (1 : Int))) == false) = true) ∧ True) ∧ (((!decide (Fs.F s ≤ Fs.G s - (1 : Int))) == false) = true → True)) (V.gd ((!decide (Fs.F s ≤ Fs.G s - (1 : Int))) == false) (V.b !decide (Fs.F t ≤ Fs.G t - (1 : Int)))), pc (62 : Nat) (True ∧ ((!decide (Fs.F s ≤ Fs.G s - (1 : Int))) = false → ((!decide (Fs.F s ≤ Fs.G s - (1 : Int))) == false) = true)) (V.b (!decide (Fs.F s ≤ Fs.G s - (1 : Int)) || !decide (Fs.F t ≤ Fs.G t - (1 : Int))))] (by kernel_rfl) (by kernel_rfl) ⟨⟨⟨True.intro, True.intro⟩, (fun _ => True.intro)⟩, ⟨⟨(by (exact fun h => h)), True.intro⟩, (fun _ => True.intro)⟩, ⟨True.intro, (by (intro h; rw [h]; rfl))⟩, True.intro⟩ ?_
  refine aops_nil ?_
  refine xt_n ?_
  refine hK _ ?_
  clear hK K
  refine w_cond (t := !decide (Fs.F s ≤ Fs.G s - (1 : Int)) || !decide (Fs.F t ≤ Fs.G t - (1 : Int))) (by kernel_rfl) (fun h3 => ?_) (fun h3 => ?_)
  · refine aw_seq_k fun K hK => ?_
    refine w_regionD (n' := 10) (by kernel_rfl) (by kernel_rfl) ?_
    refine aops_n hTT (M := []) (n := 5) [pc (63 : Nat) ((0 : Nat) ≤ (2 : Nat)) (V.agg [V.i (0 : Int), V.i (0 : Int)]), pc (64 : Nat) ((0 : Nat) ≤ (2 : Nat)) (V.agg [V.i (0 : Int), V.i (0 : Int)]), pw ((0 : Nat) + (2 : Nat) ≤ (2 : Nat)) (100004 : Nat) (Ob.box (70 : Nat) [V.i (0 : Int), V.i (0 : Int)]), pw ((0 : Nat) + (2 : Nat) ≤ (2 : Nat)) (100005 : Nat) (Ob.box (70 : Nat) [V.i (0 : Int), V.i (0 : Int)]), pv (6 : Nat) (V.i (5 : Int))] (by kernel_rfl) (by kernel_rfl) ⟨(by omega), (by omega), (by omega), (by omega), True.intro⟩ ?_
    refine aops_nil ⟨by kernel_rfl, ?_⟩
    refine xt_n ?_
    refine hK _ ?_
    clear hK K
    refine aw_ret ?_
    refine xt_r ?_
    rw [chanV_3 h1 (by omega) (by simp [isB] at h3 ⊢; omega)]
    refine ret_pure (v' := V.tup [V.agg [V.i (0 : Int), V.i (0 : Int)], V.agg [V.i (0 : Int), V.i (0 : Int)], V.i (5 : Int)]) (.inr rfl) (by kernel_rfl) (by kernel_rfl) (by kernel_rfl)
  simp at h3
  refine aw_skip ?_
  refine xt_n ?_
  refine hK _ ?_
  clear hK K
  refine aw_seq_k fun K hK => ?_
  refine w_regionD (n' := 10) (by kernel_rfl) (by kernel_rfl) ?_
  refine aops_n hTT (M := []) (n := 5) [pc (65 : Nat) ((0 : Nat) ≤ (2 : Nat)) (V.agg [V.i (Fs.F s), V.i (Fs.G s - (1 : Int))]), pc (66 : Nat) ((0 : Nat) ≤ (2 : Nat)) (V.agg [V.i (Fs.F t), V.i (Fs.G t - (1 : Int))]), pw ((0 : Nat) + (2 : Nat) ≤ (2 : Nat)) (100004 : Nat) (Ob.box (70 : Nat) [V.i (Fs.F s), V.i (Fs.G s - (1 : Int))]), pw ((0 : Nat) + (2 : Nat) ≤ (2 : Nat)) (100005 : Nat) (Ob.box (70 : Nat) [V.i (Fs.F t), V.i (Fs.G t - (1 : Int))]), pv (6 : Nat) (V.i (0 : Int))] (by kernel_rfl) (by kernel_rfl) ⟨(by omega), (by omega), (by omega), (by omega), True.intro⟩ ?_
  refine aops_nil ⟨by kernel_rfl, ?_⟩
  refine xt_n ?_
  refine hK _ ?_
  clear hK K
  refine aw_ret ?_
  rw [chanV_4 h1 (by omega) (by simp [isB]; omega)]
  refine ret_pure (v' := V.tup [V.agg [V.i (Fs.F s), V.i (Fs.G s - (1 : Int))], V.agg [V.i (Fs.F t), V.i (Fs.G t - (1 : Int))], V.i (0 : Int)]) (.inr rfl) (by kernel_rfl) (by kernel_rfl) (by kernel_rfl)
def fo (s : Fs) (x : Int) : Bool := decide (s.F < x) && isB s
theorem fo_skip {s : Fs} {x : Int} (h : x < s.F ∨ s.G ≤ x) : fo s (x + 1) = fo s x ∧ (fo s x = true → min x (s.G - 1) = min (x - 1) (s.G - 1)) := by
  constructor
  · rw [Bool.eq_iff_iff]; simp [fo, isB]; omega
  · intro hf; simp [fo, isB] at hf; omega
theorem fo_in {s : Fs} {x : Int} (h : s.F ≤ x ∧ x < s.G) : fo s (x + 1) = true ∧ min x (s.G - 1) = x ∧ (fo s x = false → x = s.F) := by
  refine ⟨by simp [fo, isB]; omega, by omega, fun hf => ?_⟩
  simp [fo, isB] at hf
  omega
set_option maxRecDepth 100000 in
theorem refsamples_ac (c : Cut) (half lo hi : Int) (s : Fs) (hc : cutE c = 0) (hh : -4096 ≤ half ∧ half ≤ 4096) (hs : s.ok c half lo hi) :
    AC Try.prog 80 [c.v, .i half, .agg [.i lo, .i hi]] (.tup [.agg [.i (if isB s then s.F else 0), .i (if isB s then s.G - 1 else 0)], .b (isB s)]) [] := by
  obtain ⟨⟨f1, f2, f3, f4⟩, g1, g2, g3, g4⟩ := hs
  refine ac_intro hTT hMX (fn := Try.f80) (N := _) ⟨Try.func80, rfl, Try.ntmps80, by kernel_rfl⟩ (by simp) fun C hC hF => ?_
  refine aw_seq_k fun K hK => ?_
  refine w_region (n' := 2) (by kernel_rfl) (by kernel_rfl) ?_
  refine aops_n hTT (M := []) (n := 4) [pv (3 : Nat) (V.ptr [V.i (Cut.half c), V.i (Cut.gain c), V.i (Cut.thin c), V.i (Cut.wide c), V.i (Cut.slope c), V.i (Cut.jerk c), V.i (Cut.sty c)]), pv (5 : Nat) (V.ptr [V.i lo, V.i hi]), pn (6 : Nat) (V.ref (100006 : Nat) (0 : Nat)) (100006 : Nat) (Ob.box (70 : Nat) [V.i (0 : Int), V.i (0 : Int)]), pv (7 : Nat) (V.b false)] (by kernel_rfl) (by kernel_rfl) True.intro ?_
  refine aops_nil ?_
  refine xt_n ?_
  refine hK _ ?_
  clear hK K
  refine aw_seq_k fun K hK => ?_
  refine w_region (n' := 3) (by kernel_rfl) (by kernel_rfl) ?_
  refine aops_n hTT (M := []) (n := 3) [pv (12 : Nat) (V.agg [V.i (0 : Int), V.i (0 : Int)]), pn (8 : Nat) (V.ref (200008 : Nat) (0 : Nat)) (200008 : Nat) (Ob.box (70 : Nat) [V.i (0 : Int), V.i (0 : Int)]), pw ((0 : Nat) + (2 : Nat) ≤ (2 : Nat)) (200008 : Nat) (Ob.box (70 : Nat) [V.i (0 : Int), V.i (0 : Int)])] (by kernel_rfl) (by kernel_rfl) ⟨(by omega), True.intro⟩ ?_
  refine aops_nil ?_
  refine xt_n ?_
  refine hK _ ?_
  clear hK K
  refine aw_seq_k fun K hK => ?_
  refine w_region (n' := 4) (by kernel_rfl) (by kernel_rfl) ?_
  refine aops_n hTT (M := []) (n := 1) [pv (9 : Nat) (V.b false)] (by kernel_rfl) (by kernel_rfl) True.intro ?_
  refine aops_nil ?_
  refine xt_n ?_
  refine hK _ ?_
  clear hK K
  refine aw_seq_k fun K hK => ?_
  refine aw_seq_k fun K hK => ?_
  refine w_region (n' := 5) (by kernel_rfl) (by kernel_rfl) ?_
  refine aops_n hTT (M := []) (n := 1) [pv (10 : Nat) (V.i (-32767 : Int))] (by kernel_rfl) (by kernel_rfl) True.intro ?_
  refine aops_nil ?_
  refine xt_n ?_
  refine hK _ ?_
  clear hK K
  refine aw_block ?_
  refine w_loop (fun x : Int => [(1, .i half), (3, .ptr [.i c.half, .i c.gain, .i c.thin, .i c.wide, .i c.slope, .i c.jerk, .i c.sty]), (5, .ptr [.i lo, .i hi]), (6, .ref 6 0), (8, .ref 8 0), (9, .b (fo s x)), (10, .i x)])
    (fun x => [(6, .box 70 [.i 0, .i 0]), (8, .box 70 [.i (if fo s x then s.F else 0), .i (if fo s x then min (x - 1) (s.G - 1) else 0)])]) (fun x => -32767 ≤ x ∧ x ≤ 32768) (fun x => (32768 - x).toNat) (-32767) ⟨by omega, by omega⟩ ?_ ?_
  · have e : fo s (-32767) = false := by simp [fo]; omega
    show Le _ ⟨mkT [(1, .i half), (3, .ptr [.i c.half, .i c.gain, .i c.thin, .i c.wide, .i c.slope, .i c.jerk, .i c.sty]), (5, .ptr [.i lo, .i hi]), (6, .ref 6 0), (8, .ref 8 0), (9, .b (fo s (-32767))), (10, .i (-32767))], mkS [(6, .box 70 [.i 0, .i 0]), (8, .box 70 [.i (if fo s (-32767) then s.F else 0), .i (if fo s (-32767) then min ((-32767) - 1) (s.G - 1) else 0)])], 1⟩
    rw [e]
    refine le_ren (sl := [(6, Ob.box (70 : Nat) [V.i (0 : Int), V.i (0 : Int)]), (8, Ob.box (70 : Nat) [V.i (if false = true then Fs.F s else (0 : Int)), V.i (if false = true then min ((-32767 : Int) - (1 : Int)) (Fs.G s - (1 : Int)) else (0 : Int))])]) [(6, 100006), (8, 200008)] (.cons (by kernel_rfl) (.cons (by kernel_rfl) (.cons (by kernel_rfl) (.cons (by kernel_rfl) (.cons (by kernel_rfl) (.cons (by kernel_rfl) (.cons (by kernel_rfl) .nil))))))) (.cons ⟨Ob.box (70 : Nat) [V.i (0 : Int), V.i (0 : Int)], (by kernel_rfl), .box (by kernel_rfl)⟩ (.cons ⟨Ob.box (70 : Nat) [V.i (0 : Int), V.i (0 : Int)], (by kernel_rfl), .box (by kernel_rfl)⟩ .nil)) (by kernel_rfl) (by kernel_rfl)
  rintro x ⟨hx1, hx2⟩
  obtain ⟨_, ⟨q1, q2⟩, _⟩ := cutE_ok.1 hc
  have h1 : x * c.gain ≤ 32768 * 100000 := Int.le_trans (Int.mul_le_mul_of_nonneg_right hx2 q1) (Int.mul_le_mul_of_nonneg_left q2 (by decide))
  have h2 : (-32767) * 100000 ≤ x * c.gain := Int.le_trans (Int.mul_le_mul_of_nonpos_left (by decide) q2) (Int.mul_le_mul_of_nonneg_right hx1 q1)
  have h3 := tdiv_bd (x * c.gain) (m := 1000) (by decide)
  refine aw_seq_k fun K hK => ?_
  refine aw_seq_k fun K hK => ?_
  refine w_region (n' := 2) (by kernel_rfl) (by kernel_rfl) ?_
  refine aops_n hTT (M := []) (n := 2) [pv (13 : Nat) (V.i x), pv (14 : Nat) (V.b (decide (x ≤ (32767 : Int))))] (by kernel_rfl) (by kernel_rfl) True.intro ?_
  refine aops_nil ?_
  refine xt_n ?_
  refine hK _ ?_
  clear hK K
  refine w_cond (t := decide (x ≤ (32767 : Int))) (by kernel_rfl) (fun h => ?_) (fun h => ?_)
  · simp at h
    refine aw_skip ?_
    refine xt_n ?_
    refine hK _ ?_
    clear hK K
    refine aw_seq_k fun K hK => ?_
    refine aw_block ?_
    refine aw_seq_k fun K hK => ?_
    refine w_region (n' := 3) (by kernel_rfl) (by kernel_rfl) ?_
    refine aops_n hTT (M := []) (n := 8) [pv (17 : Nat) (V.i half), pv (18 : Nat) (V.i x), pv (19 : Nat) (V.ptr [V.i (Cut.gain c), V.i (Cut.thin c), V.i (Cut.wide c), V.i (Cut.slope c), V.i (Cut.jerk c), V.i (Cut.sty c)]), pv (20 : Nat) (V.i (Cut.gain c)), pc (21 : Nat) ((-9223372036854775808 : Int) ≤ x * Cut.gain c ∧ x * Cut.gain c ≤ (9223372036854775807 : Int)) (V.i (x * Cut.gain c)), pc (22 : Nat) ((0 : Int) < (1000 : Int) ∧ (-9223372036854775808 : Int) ≤ x * Cut.gain c ∧ x * Cut.gain c ≤ (9223372036854775807 : Int)) (V.i (Int.tdiv (x * Cut.gain c) (1000 : Int))), pc (23 : Nat) ((-9223372036854775808 : Int) ≤ half + Int.tdiv (x * Cut.gain c) (1000 : Int) ∧ half + Int.tdiv (x * Cut.gain c) (1000 : Int) ≤ (9223372036854775807 : Int)) (V.i (half + Int.tdiv (x * Cut.gain c) (1000 : Int))), pv (11 : Nat) (V.i (half + Int.tdiv (x * Cut.gain c) (1000 : Int)))] (by kernel_rfl) (by kernel_rfl) ⟨(by omega), ⟨(by omega), (by omega)⟩, (by omega), True.intro⟩ ?_
    refine aops_nil ?_
    refine xt_n ?_
    refine hK _ ?_
    clear hK K
    refine aw_seq_k fun K hK => ?_
    refine aw_seq_k fun K hK => ?_
    refine w_region (n' := 4) (by kernel_rfl) (by kernel_rfl) ?_
    refine aops_n hTT (M := []) (n := 10) [pv (24 : Nat) (V.i (half + Int.tdiv (x * Cut.gain c) (1000 : Int))), pv (25 : Nat) (V.ptr [V.i lo, V.i hi]), pv (26 : Nat) (V.i lo), pv (27 : Nat) (V.b (decide (half + Int.tdiv (x * Cut.gain c) (1000 : Int) < lo))), pv (28 : Nat) (V.b (decide (half + Int.tdiv (x * Cut.gain c) (1000 : Int) < lo))), pc (29 : Nat) ((True ∧ True) ∧ ((decide (half + Int.tdiv (x * Cut.gain c) (1000 : Int) < lo) == false) = true → True)) (V.gd (decide (half + Int.tdiv (x * Cut.gain c) (1000 : Int) < lo) == false) (V.i (half + Int.tdiv (x * Cut.gain c) (1000 : Int)))), pc (30 : Nat) ((True ∧ True) ∧ ((decide (half + Int.tdiv (x * Cut.gain c) (1000 : Int) < lo) == false) = true → True)) (V.gd (decide (half + Int.tdiv (x * Cut.gain c) (1000 : Int) < lo) == false) (V.ptr [V.i hi])), pc (31 : Nat) ((((decide (half + Int.tdiv (x * Cut.gain c) (1000 : Int) < lo) == false) = true → (decide (half + Int.tdiv (x * Cut.gain c) (1000 : Int) < lo) == false) = true) ∧ True) ∧ ((decide (half + Int.tdiv (x * Cut.gain c) (1000 : Int) < lo) == false) = true → True)) (V.gd (decide (half + Int.tdiv (x * Cut.gain c) (1000 : Int) < lo) == false) (V.i hi)), pc (32 : Nat) ((((decide (half + Int.tdiv (x * Cut.gain c) (1000 : Int) < lo) == false) = true → (decide (half + Int.tdiv (x * Cut.gain c) (1000 : Int) < lo) == false) = true) ∧ ((decide (half + Int.tdiv (x * Cut.gain c) (1000 : Int) < lo) == false) = true → (decide (half + Int.tdiv (x * Cut.gain c) (1000 : Int) < lo) == false) = true) ∧ True) ∧ ((decide (half + Int.tdiv (x * Cut.gain c) (1000 : Int) < lo) == false) = true → True)) (V.gd (decide (half + Int.tdiv (x * Cut.gain c) (1000 : Int) < lo) == false) (V.b (decide (hi < half + Int.tdiv (x * Cut.gain c) (1000 : Int))))), pc (33 : Nat) (True ∧ (decide (half + Int.tdiv (x * Cut.gain c) (1000 : Int) < lo) = false → (decide (half + Int.tdiv (x * Cut.gain c) (1000 : Int) < lo) == false) = true)) (V.b (decide (half + Int.tdiv (x * Cut.gain c) (1000 : Int) < lo) || decide (hi < half + Int.tdiv (x * Cut.gain c) (1000 : Int))))] (by kernel_rfl) (by kernel_rfl) ⟨⟨⟨True.intro, True.intro⟩, (fun _ => True.intro)⟩, ⟨⟨True.intro, True.intro⟩, (fun _ => True.intro)⟩, ⟨⟨(by (exact fun h => h)), True.intro⟩, (fun _ => True.intro)⟩, ⟨⟨(by (exact fun h => h)), ⟨(by (exact fun h => h)), True.intro⟩⟩, (fun _ => True.intro)⟩, ⟨True.intro, (by (intro h; rw [h]; rfl))⟩, True.intro⟩ ?_
    refine aops_nil ?_
    refine xt_n ?_
    refine hK _ ?_
    clear hK K
    have he : half + (x * c.gain).tdiv 1000 = edgeI half c.gain x := rfl
    rw [he]
    refine w_cond (t := decide (edgeI half c.gain x < lo) || decide (hi < edgeI half c.gain x)) (by kernel_rfl) (fun h5 => ?_) (fun h5 => ?_)
    · have hk : x < s.F ∨ s.G ≤ x := by
        by_cases k1 : x < s.F
        · exact .inl k1
        · by_cases k2 : s.G ≤ x
          · exact .inr k2
          · have k3 := f4 x (by omega) (by omega)
            have k4 := g3 x (by omega) (by omega)
            simp at h5 k3 k4
            omega
      obtain ⟨e1, e2⟩ := fo_skip hk
      refine aw_exit ?_
      refine xt_x ?_
      refine xb_same ?_
      refine xt_n ?_
      clear hK K
      refine hK _ ?_
      clear hK K
      refine w_region (n' := 5) (by kernel_rfl) (by kernel_rfl) ?_
      refine aops_n hTT (M := []) (n := 3) [pv (15 : Nat) (V.i x), pc (16 : Nat) ((-9223372036854775808 : Int) ≤ x + (1 : Int) ∧ x + (1 : Int) ≤ (9223372036854775807 : Int)) (V.i (x + (1 : Int))), pv (10 : Nat) (V.i (x + (1 : Int)))] (by kernel_rfl) (by kernel_rfl) ⟨(by omega), True.intro⟩ ?_
      refine aops_nil ?_
      refine xt_n ?_
      refine ⟨x + 1, ⟨by omega, by omega⟩, ?_, by omega⟩
      rw [e1]
      refine le_ren (tl := [(1, V.i half), (3, V.ptr [V.i (Cut.half c), V.i (Cut.gain c), V.i (Cut.thin c), V.i (Cut.wide c), V.i (Cut.slope c), V.i (Cut.jerk c), V.i (Cut.sty c)]), (5, V.ptr [V.i lo, V.i hi]), (6, V.ref (6 : Nat) (0 : Nat)), (8, V.ref (8 : Nat) (0 : Nat)), (9, V.b (fo s x)), (10, V.i (x + (1 : Int)))]) (sl := [(6, Ob.box (70 : Nat) [V.i (0 : Int), V.i (0 : Int)]), (8, Ob.box (70 : Nat) [V.i (if fo s x = true then Fs.F s else (0 : Int)), V.i (if fo s x = true then min (x + (1 : Int) - (1 : Int)) (Fs.G s - (1 : Int)) else (0 : Int))])]) [(6, 6), (8, 8)] (.cons (by kernel_rfl) (.cons (by kernel_rfl) (.cons (by kernel_rfl) (.cons (by kernel_rfl) (.cons (by kernel_rfl) (.cons (by kernel_rfl) (.cons (by kernel_rfl) .nil))))))) (.cons ⟨Ob.box (70 : Nat) [V.i (0 : Int), V.i (0 : Int)], (by kernel_rfl), .box (by kernel_rfl)⟩ (.cons ⟨Ob.box (70 : Nat) [V.i (if fo s x = true then Fs.F s else (0 : Int)), V.i (if fo s x = true then min (x - (1 : Int)) (Fs.G s - (1 : Int)) else (0 : Int))], (by kernel_rfl), .box ?_⟩ .nil)) (by kernel_rfl) (by kernel_rfl)
      have e4 : (if fo s x = true then min (x - 1) (s.G - 1) else 0) = (if fo s x = true then min (x + 1 - 1) (s.G - 1) else 0) := by
        split
        · rw [Int.add_sub_cancel, e2 (by assumption)]
        · rfl
      rw [e4]
      rfl
    · have hk : s.F ≤ x ∧ x < s.G := by
        simp at h5
        constructor
        · by_cases k1 : s.F ≤ x
          · exact k1
          · have := f3 x (by omega) (by omega); simp at this; omega
        · by_cases k1 : x < s.G
          · exact k1
          · have := g4 x (by omega) (by omega); simp at this; omega
      obtain ⟨e1, e2, e3⟩ := fo_in hk
      refine aw_skip ?_
      refine xt_n ?_
      refine hK _ ?_
      clear hK K
      refine aw_seq_k fun K hK => ?_
      refine aw_seq_k fun K hK => ?_
      refine w_region (n' := 5) (by kernel_rfl) (by kernel_rfl) ?_
      refine aops_n hTT (M := []) (n := 2) [pv (34 : Nat) (V.b (fo s x)), pv (35 : Nat) (V.b !fo s x)] (by kernel_rfl) (by kernel_rfl) True.intro ?_
      refine aops_nil ?_
      refine xt_n ?_
      refine hK _ ?_
      clear hK K
      refine w_cond (t := !fo s x) (by kernel_rfl) (fun h6 => ?_) (fun h6 => ?_)
      · refine w_region (n' := 6) (by kernel_rfl) (by kernel_rfl) ?_
        refine aops_n hTT (M := []) (n := 3) [pv (36 : Nat) (V.i x), pv (37 : Nat) (V.ref (8 : Nat) (0 : Nat)), pw ((0 : Nat) + (1 : Nat) ≤ (2 : Nat)) (8 : Nat) (Ob.box (70 : Nat) [V.i x, V.i (if fo s x = true then min (x - (1 : Int)) (Fs.G s - (1 : Int)) else (0 : Int))])] (by kernel_rfl) (by kernel_rfl) ⟨(by omega), True.intro⟩ ?_
        refine aops_nil ?_
        refine xt_n ?_
        refine hK _ ?_
        clear hK K
        refine aw_seq_k fun K hK => ?_
        refine w_region (n' := 7) (by kernel_rfl) (by kernel_rfl) ?_
        refine aops_n hTT (M := []) (n := 3) [pv (38 : Nat) (V.i x), pv (39 : Nat) (V.ref (8 : Nat) (1 : Nat)), pw ((1 : Nat) + (1 : Nat) ≤ (2 : Nat)) (8 : Nat) (Ob.box (70 : Nat) [V.i x, V.i x])] (by kernel_rfl) (by kernel_rfl) ⟨(by omega), True.intro⟩ ?_
        refine aops_nil ?_
        refine xt_n ?_
        refine hK _ ?_
        clear hK K
        refine w_region (n' := 8) (by kernel_rfl) (by kernel_rfl) ?_
        refine aops_n hTT (M := []) (n := 1) [pv (9 : Nat) (V.b true)] (by kernel_rfl) (by kernel_rfl) True.intro ?_
        refine aops_nil ?_
        refine xb_n ?_
        refine xt_n ?_
        refine hK _ ?_
        clear hK K
        refine w_region (n' := 9) (by kernel_rfl) (by kernel_rfl) ?_
        refine aops_n hTT (M := []) (n := 3) [pv (15 : Nat) (V.i x), pc (16 : Nat) ((-9223372036854775808 : Int) ≤ x + (1 : Int) ∧ x + (1 : Int) ≤ (9223372036854775807 : Int)) (V.i (x + (1 : Int))), pv (10 : Nat) (V.i (x + (1 : Int)))] (by kernel_rfl) (by kernel_rfl) ⟨(by omega), True.intro⟩ ?_
        refine aops_nil ?_
        refine xt_n ?_
        refine ⟨x + 1, ⟨by omega, by omega⟩, ?_, by omega⟩
        rw [e1]
        refine le_ren (tl := [(1, V.i half), (3, V.ptr [V.i (Cut.half c), V.i (Cut.gain c), V.i (Cut.thin c), V.i (Cut.wide c), V.i (Cut.slope c), V.i (Cut.jerk c), V.i (Cut.sty c)]), (5, V.ptr [V.i lo, V.i hi]), (6, V.ref (6 : Nat) (0 : Nat)), (8, V.ref (8 : Nat) (0 : Nat)), (9, V.b true), (10, V.i (x + (1 : Int)))]) (sl := [(6, Ob.box (70 : Nat) [V.i (0 : Int), V.i (0 : Int)]), (8, Ob.box (70 : Nat) [V.i (if true = true then Fs.F s else (0 : Int)), V.i (if true = true then min (x + (1 : Int) - (1 : Int)) (Fs.G s - (1 : Int)) else (0 : Int))])]) [(6, 6), (8, 8)] (.cons (by kernel_rfl) (.cons (by kernel_rfl) (.cons (by kernel_rfl) (.cons (by kernel_rfl) (.cons (by kernel_rfl) (.cons (by kernel_rfl) (.cons (by kernel_rfl) .nil))))))) (.cons ⟨Ob.box (70 : Nat) [V.i (0 : Int), V.i (0 : Int)], (by kernel_rfl), .box (by kernel_rfl)⟩ (.cons ⟨Ob.box (70 : Nat) [V.i x, V.i x], (by kernel_rfl), .box ?_⟩ .nil)) (by kernel_rfl) (by kernel_rfl)
        show [V.i x, V.i x] = [V.i (if true = true then s.F else 0), V.i (if true = true then min (x + 1 - 1) (s.G - 1) else 0)]
        rw [if_pos rfl, if_pos rfl, Int.add_sub_cancel, e2, ← e3 (by simpa using h6)]
      · refine aw_skip ?_
        refine xt_n ?_
        refine hK _ ?_
        clear hK K
        refine aw_seq_k fun K hK => ?_
        refine w_region (n' := 6) (by kernel_rfl) (by kernel_rfl) ?_
        refine aops_n hTT (M := []) (n := 3) [pv (38 : Nat) (V.i x), pv (39 : Nat) (V.ref (8 : Nat) (1 : Nat)), pw ((1 : Nat) + (1 : Nat) ≤ (2 : Nat)) (8 : Nat) (Ob.box (70 : Nat) [V.i (if fo s x = true then Fs.F s else (0 : Int)), V.i x])] (by kernel_rfl) (by kernel_rfl) ⟨(by omega), True.intro⟩ ?_
        refine aops_nil ?_
        refine xt_n ?_
        refine hK _ ?_
        clear hK K
        refine w_region (n' := 7) (by kernel_rfl) (by kernel_rfl) ?_
        refine aops_n hTT (M := []) (n := 1) [pv (9 : Nat) (V.b true)] (by kernel_rfl) (by kernel_rfl) True.intro ?_
        refine aops_nil ?_
        refine xb_n ?_
        refine xt_n ?_
        refine hK _ ?_
        clear hK K
        refine w_region (n' := 8) (by kernel_rfl) (by kernel_rfl) ?_
        refine aops_n hTT (M := []) (n := 3) [pv (15 : Nat) (V.i x), pc (16 : Nat) ((-9223372036854775808 : Int) ≤ x + (1 : Int) ∧ x + (1 : Int) ≤ (9223372036854775807 : Int)) (V.i (x + (1 : Int))), pv (10 : Nat) (V.i (x + (1 : Int)))] (by kernel_rfl) (by kernel_rfl) ⟨(by omega), True.intro⟩ ?_
        refine aops_nil ?_
        refine xt_n ?_
        refine ⟨x + 1, ⟨by omega, by omega⟩, ?_, by omega⟩
        rw [e1]
        refine le_ren (tl := [(1, V.i half), (3, V.ptr [V.i (Cut.half c), V.i (Cut.gain c), V.i (Cut.thin c), V.i (Cut.wide c), V.i (Cut.slope c), V.i (Cut.jerk c), V.i (Cut.sty c)]), (5, V.ptr [V.i lo, V.i hi]), (6, V.ref (6 : Nat) (0 : Nat)), (8, V.ref (8 : Nat) (0 : Nat)), (9, V.b true), (10, V.i (x + (1 : Int)))]) (sl := [(6, Ob.box (70 : Nat) [V.i (0 : Int), V.i (0 : Int)]), (8, Ob.box (70 : Nat) [V.i (if true = true then Fs.F s else (0 : Int)), V.i (if true = true then min (x + (1 : Int) - (1 : Int)) (Fs.G s - (1 : Int)) else (0 : Int))])]) [(6, 6), (8, 8)] (.cons (by kernel_rfl) (.cons (by kernel_rfl) (.cons (by kernel_rfl) (.cons (by kernel_rfl) (.cons (by kernel_rfl) (.cons (by kernel_rfl) (.cons (by kernel_rfl) .nil))))))) (.cons ⟨Ob.box (70 : Nat) [V.i (0 : Int), V.i (0 : Int)], (by kernel_rfl), .box (by kernel_rfl)⟩ (.cons ⟨Ob.box (70 : Nat) [V.i (if fo s x = true then Fs.F s else (0 : Int)), V.i x], (by kernel_rfl), .box ?_⟩ .nil)) (by kernel_rfl) (by kernel_rfl)
        show [V.i (if fo s x = true then s.F else 0), V.i x] = [V.i (if true = true then s.F else 0), V.i (if true = true then min (x + 1 - 1) (s.G - 1) else 0)]
        rw [if_pos rfl, if_pos rfl, Int.add_sub_cancel, e2, if_pos (by simpa using h6)]
  simp at h
  obtain rfl : x = 32768 := by omega
  refine aw_exit ?_
  refine xt_x ?_
  refine xt_x ?_
  refine xb_same ?_
  refine xt_n ?_
  clear hK K
  refine hK _ ?_
  clear hK K
  refine aw_seq_k fun K hK => ?_
  refine w_region (n' := 3) (by kernel_rfl) (by kernel_rfl) ?_
  refine aops_n hTT (M := []) (n := 4) [pc (40 : Nat) ((0 : Nat) ≤ (2 : Nat)) (V.agg [V.i (if fo s (32768 : Int) = true then Fs.F s else (0 : Int)), V.i (if fo s (32768 : Int) = true then min ((32768 : Int) - (1 : Int)) (Fs.G s - (1 : Int)) else (0 : Int))]), pv (41 : Nat) (V.b (fo s (32768 : Int))), pw ((0 : Nat) + (2 : Nat) ≤ (2 : Nat)) (6 : Nat) (Ob.box (70 : Nat) [V.i (if fo s (32768 : Int) = true then Fs.F s else (0 : Int)), V.i (if fo s (32768 : Int) = true then min ((32768 : Int) - (1 : Int)) (Fs.G s - (1 : Int)) else (0 : Int))]), pv (7 : Nat) (V.b (fo s (32768 : Int)))] (by kernel_rfl) (by kernel_rfl) ⟨(by omega), (by omega), True.intro⟩ ?_
  refine aops_nil ?_
  refine xt_n ?_
  refine hK _ ?_
  clear hK K
  refine aw_ret ?_
  refine ret_pure (v' := V.tup [V.agg [V.i (if fo s (32768 : Int) = true then Fs.F s else (0 : Int)), V.i (if fo s (32768 : Int) = true then min ((32768 : Int) - (1 : Int)) (Fs.G s - (1 : Int)) else (0 : Int))], V.b (fo s (32768 : Int))]) (.inr rfl) (by kernel_rfl) ?_ (by kernel_rfl)
  have e5 : fo s 32768 = isB s := by rw [Bool.eq_iff_iff]; simp [fo, isB]; omega
  rw [e5, show (32768 : Int) - 1 = 32767 by decide, show min 32767 (s.G - 1) = s.G - 1 by omega]
set_option maxRecDepth 100000 in
theorem refChannels_ac (c : Cut) (a b x y : Int) (s t : Fs) (hst : cutE c = 0 → s.ok c c.half x y ∧ t.ok c (-c.half) a b) : AC Try.prog 45 [c.v, .agg [.i a, .i b, .i x, .i y]] (chanV c a b x y s t) [] := by
  refine ac_intro hTT hMX (fn := Try.f45) (N := _) ⟨Try.func45, rfl, Try.ntmps45, by kernel_rfl⟩ (by simp) fun C hC hF => ?_
  refine aw_seq_k fun K hK => ?_
  refine w_region (n' := 2) (by kernel_rfl) (by kernel_rfl) ?_
  refine aops_n hTT (M := []) (n := 5) [pv (2 : Nat) (V.ptr [V.i (Cut.half c), V.i (Cut.gain c), V.i (Cut.thin c), V.i (Cut.wide c), V.i (Cut.slope c), V.i (Cut.jerk c), V.i (Cut.sty c)]), pv (3 : Nat) (V.ptr [V.i a, V.i b, V.i x, V.i y]), pn (4 : Nat) (V.ref (100004 : Nat) (0 : Nat)) (100004 : Nat) (Ob.box (70 : Nat) [V.i (0 : Int), V.i (0 : Int)]), pn (5 : Nat) (V.ref (100005 : Nat) (0 : Nat)) (100005 : Nat) (Ob.box (70 : Nat) [V.i (0 : Int), V.i (0 : Int)]), pv (6 : Nat) (V.i (0 : Int))] (by kernel_rfl) (by kernel_rfl) True.intro ?_
  refine aops_nil ?_
  refine xt_n ?_
  refine hK _ ?_
  clear hK K
  refine aw_seq_k fun K hK => ?_
  refine w_region (n' := 3) (by kernel_rfl) (by kernel_rfl) ?_
  refine aops_n hTT (M := []) (n := 1) [pv (12 : Nat) (V.agg [V.i (Cut.half c), V.i (Cut.gain c), V.i (Cut.thin c), V.i (Cut.wide c), V.i (Cut.slope c), V.i (Cut.jerk c), V.i (Cut.sty c)])] (by kernel_rfl) (by kernel_rfl) True.intro ?_
  refine e_call (first := []) (caps := []) (refCheck_ac c) (by kernel_rfl) (by kernel_rfl) (by kernel_rfl) (by kernel_rfl) (by kernel_rfl) ?_
  refine aops_n hTT (M := []) (n := 1) [pv (7 : Nat) (V.i (cutE c))] (by kernel_rfl) (by kernel_rfl) True.intro ?_
  refine aops_nil ?_
  refine xt_n ?_
  refine hK _ ?_
  clear hK K
  refine aw_seq_k fun K hK => ?_
  refine aw_seq_k fun K hK => ?_
  refine w_region (n' := 4) (by kernel_rfl) (by kernel_rfl) ?_
  refine aops_n hTT (M := []) (n := 2) [pv (14 : Nat) (V.i (cutE c)), pv (15 : Nat) (V.b !decide (cutE c = (0 : Int)))] (by kernel_rfl) (by kernel_rfl) True.intro ?_
  refine aops_nil ?_
  refine xt_n ?_
  refine hK _ ?_
  clear hK K
  refine w_cond (t := !decide (cutE c = (0 : Int))) (by kernel_rfl) (fun h1 => ?_) (fun h1 => ?_)
  · simp at h1
    refine aw_seq_k fun K hK => ?_
    refine w_region (n' := 5) (by kernel_rfl) (by kernel_rfl) ?_
    refine aops_n hTT (M := []) (n := 6) [pv (16 : Nat) (V.agg [V.i (0 : Int), V.i (0 : Int)]), pv (17 : Nat) (V.agg [V.i (0 : Int), V.i (0 : Int)]), pv (18 : Nat) (V.i (cutE c)), pw ((0 : Nat) + (2 : Nat) ≤ (2 : Nat)) (100004 : Nat) (Ob.box (70 : Nat) [V.i (0 : Int), V.i (0 : Int)]), pw ((0 : Nat) + (2 : Nat) ≤ (2 : Nat)) (100005 : Nat) (Ob.box (70 : Nat) [V.i (0 : Int), V.i (0 : Int)]), pv (6 : Nat) (V.i (cutE c))] (by kernel_rfl) (by kernel_rfl) ⟨(by omega), (by omega), True.intro⟩ ?_
    refine aops_nil ?_
    refine xt_n ?_
    refine hK _ ?_
    clear hK K
    refine aw_ret ?_
    refine xt_r ?_
    rw [chanV_1 h1]
    refine ret_pure (v' := V.tup [V.agg [V.i (0 : Int), V.i (0 : Int)], V.agg [V.i (0 : Int), V.i (0 : Int)], V.i (cutE c)]) (.inr rfl) (by kernel_rfl) (by kernel_rfl) (by kernel_rfl)
  simp at h1
  obtain ⟨hs, ht⟩ := hst h1
  have hh := (cutE_ok.1 h1).1
  refine aw_skip ?_
  refine xt_n ?_
  refine hK _ ?_
  clear hK K
  refine aw_seq_k fun K hK => ?_
  refine aw_seq_k fun K hK => ?_
  refine w_region (n' := 5) (by kernel_rfl) (by kernel_rfl) ?_
  refine aops_n hTT (M := []) (n := 16) [pv (19 : Nat) (V.ptr [V.i a, V.i b, V.i x, V.i y]), pv (20 : Nat) (V.ptr [V.i a, V.i b, V.i x, V.i y]), pv (21 : Nat) (V.i a), pv (22 : Nat) (V.ptr [V.i a, V.i b, V.i x, V.i y]), pv (23 : Nat) (V.ptr [V.i b, V.i x, V.i y]), pv (24 : Nat) (V.i b), pv (25 : Nat) (V.b (decide (b < a))), pv (26 : Nat) (V.b (decide (b < a))), pc (27 : Nat) ((True ∧ True) ∧ ((decide (b < a) == false) = true → True)) (V.gd (decide (b < a) == false) (V.ptr [V.i x, V.i y])), pc (28 : Nat) ((((decide (b < a) == false) = true → (decide (b < a) == false) = true) ∧ True) ∧ ((decide (b < a) == false) = true → True)) (V.gd (decide (b < a) == false) (V.ptr [V.i x, V.i y])), pc (29 : Nat) ((((decide (b < a) == false) = true → (decide (b < a) == false) = true) ∧ True) ∧ ((decide (b < a) == false) = true → True)) (V.gd (decide (b < a) == false) (V.i x)), pc (30 : Nat) ((True ∧ True) ∧ ((decide (b < a) == false) = true → True)) (V.gd (decide (b < a) == false) (V.ptr [V.i x, V.i y])), pc (31 : Nat) ((((decide (b < a) == false) = true → (decide (b < a) == false) = true) ∧ True) ∧ ((decide (b < a) == false) = true → True)) (V.gd (decide (b < a) == false) (V.ptr [V.i y])), pc (32 : Nat) ((((decide (b < a) == false) = true → (decide (b < a) == false) = true) ∧ True) ∧ ((decide (b < a) == false) = true → True)) (V.gd (decide (b < a) == false) (V.i y)), pc (33 : Nat) ((((decide (b < a) == false) = true → (decide (b < a) == false) = true) ∧ ((decide (b < a) == false) = true → (decide (b < a) == false) = true) ∧ True) ∧ ((decide (b < a) == false) = true → True)) (V.gd (decide (b < a) == false) (V.b (decide (y < x)))), pc (34 : Nat) (True ∧ (decide (b < a) = false → (decide (b < a) == false) = true)) (V.b (decide (b < a) || decide (y < x)))] (by kernel_rfl) (by kernel_rfl) ⟨⟨⟨True.intro, True.intro⟩, (fun _ => True.intro)⟩, ⟨⟨(by (exact fun h => h)), True.intro⟩, (fun _ => True.intro)⟩, ⟨⟨(by (exact fun h => h)), True.intro⟩, (fun _ => True.intro)⟩, ⟨⟨True.intro, True.intro⟩, (fun _ => True.intro)⟩, ⟨⟨(by (exact fun h => h)), True.intro⟩, (fun _ => True.intro)⟩, ⟨⟨(by (exact fun h => h)), True.intro⟩, (fun _ => True.intro)⟩, ⟨⟨(by (exact fun h => h)), ⟨(by (exact fun h => h)), True.intro⟩⟩, (fun _ => True.intro)⟩, ⟨True.intro, (by (intro h; rw [h]; rfl))⟩, True.intro⟩ ?_
  refine aops_nil ?_
  refine xt_n ?_
  refine hK _ ?_
  clear hK K
  refine w_cond (t := decide (b < a) || decide (y < x)) (by kernel_rfl) (fun h2 => ?_) (fun h2 => ?_)
  · simp at h2
    refine aw_seq_k fun K hK => ?_
    refine w_region (n' := 6) (by kernel_rfl) (by kernel_rfl) ?_
    refine aops_n hTT (M := []) (n := 5) [pv (35 : Nat) (V.agg [V.i (0 : Int), V.i (0 : Int)]), pv (36 : Nat) (V.agg [V.i (0 : Int), V.i (0 : Int)]), pw ((0 : Nat) + (2 : Nat) ≤ (2 : Nat)) (100004 : Nat) (Ob.box (70 : Nat) [V.i (0 : Int), V.i (0 : Int)]), pw ((0 : Nat) + (2 : Nat) ≤ (2 : Nat)) (100005 : Nat) (Ob.box (70 : Nat) [V.i (0 : Int), V.i (0 : Int)]), pv (6 : Nat) (V.i (2 : Int))] (by kernel_rfl) (by kernel_rfl) ⟨(by omega), (by omega), True.intro⟩ ?_
    refine aops_nil ?_
    refine xt_n ?_
    refine hK _ ?_
    clear hK K
    refine aw_ret ?_
    refine xt_r ?_
    rw [chanV_2 h1 (by omega)]
    refine ret_pure (v' := V.tup [V.agg [V.i (0 : Int), V.i (0 : Int)], V.agg [V.i (0 : Int), V.i (0 : Int)], V.i (2 : Int)]) (.inr rfl) (by kernel_rfl) (by kernel_rfl) (by kernel_rfl)
  simp at h2
  refine aw_skip ?_
  refine xt_n ?_
  refine hK _ ?_
  clear hK K
  refine aw_seq_k fun K hK => ?_
  refine w_region (n' := 6) (by kernel_rfl) (by kernel_rfl) ?_
  refine aops_n hTT (M := []) (n := 5) [pv (38 : Nat) (V.agg [V.i (Cut.half c), V.i (Cut.gain c), V.i (Cut.thin c), V.i (Cut.wide c), V.i (Cut.slope c), V.i (Cut.jerk c), V.i (Cut.sty c)]), pv (39 : Nat) (V.ptr [V.i (Cut.half c), V.i (Cut.gain c), V.i (Cut.thin c), V.i (Cut.wide c), V.i (Cut.slope c), V.i (Cut.jerk c), V.i (Cut.sty c)]), pv (40 : Nat) (V.i (Cut.half c)), pv (41 : Nat) (V.ptr [V.i x, V.i y]), pv (42 : Nat) (V.agg [V.i x, V.i y])] (by kernel_rfl) (by kernel_rfl) True.intro ?_
  refine e_call (first := []) (caps := []) (refsamples_ac c c.half x y s h1 (by omega) hs) (by kernel_rfl) (by kernel_rfl) (by kernel_rfl) (by kernel_rfl) (by kernel_rfl) ?_
  refine aops_n hTT (M := []) (n := 6) [pv (37 : Nat) (V.tup [V.agg [V.i (if isB s = true then Fs.F s else (0 : Int)), V.i (if isB s = true then Fs.G s - (1 : Int) else (0 : Int))], V.b (isB s)]), pv (44 : Nat) (V.agg [V.i (if isB s = true then Fs.F s else (0 : Int)), V.i (if isB s = true then Fs.G s - (1 : Int) else (0 : Int))]), pv (45 : Nat) (V.b (isB s)), pn (8 : Nat) (V.ref (500008 : Nat) (0 : Nat)) (500008 : Nat) (Ob.box (70 : Nat) [V.i (0 : Int), V.i (0 : Int)]), pw ((0 : Nat) + (2 : Nat) ≤ (2 : Nat)) (500008 : Nat) (Ob.box (70 : Nat) [V.i (if isB s = true then Fs.F s else (0 : Int)), V.i (if isB s = true then Fs.G s - (1 : Int) else (0 : Int))]), pv (9 : Nat) (V.b (isB s))] (by kernel_rfl) (by kernel_rfl) ⟨(by omega), True.intro⟩ ?_
  refine aops_nil ?_
  refine xt_n ?_
  refine hK _ ?_
  clear hK K
  refine aw_seq_k fun K hK => ?_
  refine w_region (n' := 7) (by kernel_rfl) (by kernel_rfl) ?_
  refine aops_n hTT (M := []) (n := 6) [pv (47 : Nat) (V.agg [V.i (Cut.half c), V.i (Cut.gain c), V.i (Cut.thin c), V.i (Cut.wide c), V.i (Cut.slope c), V.i (Cut.jerk c), V.i (Cut.sty c)]), pv (48 : Nat) (V.ptr [V.i (Cut.half c), V.i (Cut.gain c), V.i (Cut.thin c), V.i (Cut.wide c), V.i (Cut.slope c), V.i (Cut.jerk c), V.i (Cut.sty c)]), pv (49 : Nat) (V.i (Cut.half c)), pc (50 : Nat) ((-9223372036854775808 : Int) ≤ -Cut.half c ∧ -Cut.half c ≤ (9223372036854775807 : Int)) (V.i (-Cut.half c)), pv (51 : Nat) (V.ptr [V.i a, V.i b, V.i x, V.i y]), pv (52 : Nat) (V.agg [V.i a, V.i b])] (by kernel_rfl) (by kernel_rfl) ⟨(by omega), True.intro⟩ ?_
  refine e_call (first := []) (caps := []) (refsamples_ac c (-c.half) a b t h1 (by omega) ht) (by kernel_rfl) (by kernel_rfl) (by kernel_rfl) (by kernel_rfl) (by kernel_rfl) ?_
  refine aops_n hTT (M := []) (n := 6) [pv (46 : Nat) (V.tup [V.agg [V.i (if isB t = true then Fs.F t else (0 : Int)), V.i (if isB t = true then Fs.G t - (1 : Int) else (0 : Int))], V.b (isB t)]), pv (54 : Nat) (V.agg [V.i (if isB t = true then Fs.F t else (0 : Int)), V.i (if isB t = true then Fs.G t - (1 : Int) else (0 : Int))]), pv (55 : Nat) (V.b (isB t)), pn (10 : Nat) (V.ref (600010 : Nat) (0 : Nat)) (600010 : Nat) (Ob.box (70 : Nat) [V.i (0 : Int), V.i (0 : Int)]), pw ((0 : Nat) + (2 : Nat) ≤ (2 : Nat)) (600010 : Nat) (Ob.box (70 : Nat) [V.i (if isB t = true then Fs.F t else (0 : Int)), V.i (if isB t = true then Fs.G t - (1 : Int) else (0 : Int))]), pv (11 : Nat) (V.b (isB t))] (by kernel_rfl) (by kernel_rfl) ⟨(by omega), True.intro⟩ ?_
  refine aops_nil ?_
  refine xt_n ?_
  refine hK _ ?_
  clear hK K
  refine aw_seq_k fun K hK => ?_
  refine aw_seq_k fun K hK => ?_
  refine w_region (n' := 8) (by kernel_rfl) (by kernel_rfl) ?_
  refine aops_n hTT (M := []) (n := 6) [pv (56 : Nat) (V.b (isB s)), pv (57 : Nat) (V.b !isB s), pv (58 : Nat) (V.b !isB s), pc (59 : Nat) ((True ∧ True) ∧ (((!isB s) == false) = true → True)) (V.gd ((!isB s) == false) (V.b (isB t))), pc (60 : Nat) (((((!isB s) == false) = true → ((!isB s) == false) = true) ∧ True) ∧ (((!isB s) == false) = true → True)) (V.gd ((!isB s) == false) (V.b !isB t)), pc (61 : Nat) (True ∧ ((!isB s) = false → ((!isB s) == false) = true)) (V.b (!isB s || !isB t))] (by kernel_rfl) (by kernel_rfl) ⟨⟨⟨True.intro, True.intro⟩, (fun _ => True.intro)⟩, ⟨⟨(by (exact fun h => h)), True.intro⟩, (fun _ => True.intro)⟩, ⟨True.intro, (by (intro h; rw [h]; rfl))⟩, True.intro⟩ ?_
  refine aops_nil ?_
  refine xt_n ?_
  refine hK _ ?_
  clear hK K
  refine w_cond (t := !isB s || !isB t) (by kernel_rfl) (fun h3 => ?_) (fun h3 => ?_)
  · refine aw_seq_k fun K hK => ?_
    refine w_region (n' := 9) (by kernel_rfl) (by kernel_rfl) ?_
    refine aops_n hTT (M := []) (n := 5) [pv (62 : Nat) (V.agg [V.i (0 : Int), V.i (0 : Int)]), pv (63 : Nat) (V.agg [V.i (0 : Int), V.i (0 : Int)]), pw ((0 : Nat) + (2 : Nat) ≤ (2 : Nat)) (100004 : Nat) (Ob.box (70 : Nat) [V.i (0 : Int), V.i (0 : Int)]), pw ((0 : Nat) + (2 : Nat) ≤ (2 : Nat)) (100005 : Nat) (Ob.box (70 : Nat) [V.i (0 : Int), V.i (0 : Int)]), pv (6 : Nat) (V.i (5 : Int))] (by kernel_rfl) (by kernel_rfl) ⟨(by omega), (by omega), True.intro⟩ ?_
    refine aops_nil ?_
    refine xt_n ?_
    refine hK _ ?_
    clear hK K
    refine aw_ret ?_
    refine xt_r ?_
    rw [chanV_3 h1 (by omega) (by simp at h3 ⊢; rcases h3 with h3 | h3 <;> simp [h3])]
    refine ret_pure (v' := V.tup [V.agg [V.i (0 : Int), V.i (0 : Int)], V.agg [V.i (0 : Int), V.i (0 : Int)], V.i (5 : Int)]) (.inr rfl) (by kernel_rfl) (by kernel_rfl) (by kernel_rfl)
  simp at h3
  refine aw_skip ?_
  refine xt_n ?_
  refine hK _ ?_
  clear hK K
  refine aw_seq_k fun K hK => ?_
  refine w_regionD (n' := 9) (by kernel_rfl) (by kernel_rfl) ?_
  refine aops_n hTT (M := []) (n := 5) [pc (64 : Nat) ((0 : Nat) ≤ (2 : Nat)) (V.agg [V.i (if isB s = true then Fs.F s else (0 : Int)), V.i (if isB s = true then Fs.G s - (1 : Int) else (0 : Int))]), pc (65 : Nat) ((0 : Nat) ≤ (2 : Nat)) (V.agg [V.i (if isB t = true then Fs.F t else (0 : Int)), V.i (if isB t = true then Fs.G t - (1 : Int) else (0 : Int))]), pw ((0 : Nat) + (2 : Nat) ≤ (2 : Nat)) (100004 : Nat) (Ob.box (70 : Nat) [V.i (if isB s = true then Fs.F s else (0 : Int)), V.i (if isB s = true then Fs.G s - (1 : Int) else (0 : Int))]), pw ((0 : Nat) + (2 : Nat) ≤ (2 : Nat)) (100005 : Nat) (Ob.box (70 : Nat) [V.i (if isB t = true then Fs.F t else (0 : Int)), V.i (if isB t = true then Fs.G t - (1 : Int) else (0 : Int))]), pv (6 : Nat) (V.i (0 : Int))] (by kernel_rfl) (by kernel_rfl) ⟨(by omega), (by omega), (by omega), (by omega), True.intro⟩ ?_
  refine aops_nil ⟨by kernel_rfl, ?_⟩
  refine xt_n ?_
  refine hK _ ?_
  clear hK K
  refine aw_ret ?_
  rw [chanV_4 h1 (by omega) h3]
  refine ret_pure (v' := V.tup [V.agg [V.i (if isB s = true then Fs.F s else (0 : Int)), V.i (if isB s = true then Fs.G s - (1 : Int) else (0 : Int))], V.agg [V.i (if isB t = true then Fs.F t else (0 : Int)), V.i (if isB t = true then Fs.G t - (1 : Int) else (0 : Int))], V.i (0 : Int)]) (.inr rfl) (by kernel_rfl) ?_ (by kernel_rfl)
  simp [h3]
end Go.Proofs.Ytlfaaddoemcokaa
