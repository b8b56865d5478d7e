/-
  PlaySamples: the walk of the law. No condition.
-/
import Derived.Test.YtlfaaddoemcokaaPAb19
import Derived.Test.YtlfaaddoemcokaaPC
import Derived.Test.YtlfaaddoemcokaaGPl5
import Derived.Test.YtlfaaddoemcokaaMC
namespace Go.Proofs.Ytlfaaddoemcokaa
open Go.Ab Go.RowKit Go.Dw Go.Shelf

theorem edge_chE (half g n : Int) : edgeI half g n = half + chE g n := rfl
theorem chE_lt {g m n : Int} (h1 : 1000 ≤ g) (h : m < n) : chE g m < chE g n := by
  have hg : 0 ≤ g := by omega
  have st : ∀ a b : Int, 0 ≤ a → a < b → chE g a < chE g b := fun a b ha hab => by
    have s1 : chE g a + 1 ≤ chE g (a + 1) := by
      rw [chE_nn hg ha, chE_nn hg (by omega), Int.add_mul, Int.one_mul]
      omega
    have := chE_mono' (g := g) (m := a + 1) (n := b) hg (by omega) (by omega)
    omega
  rcases Int.lt_or_le m 0 with hm | hm
  · rcases Int.lt_or_le 0 n with hn | hn
    · have a := st 0 (-m) (by omega) (by omega)
      have b := st 0 n (by omega) hn
      rw [chE_opp] at a
      have : chE g 0 = 0 := by unfold chE; simp
      omega
    · have a := st (-n) (-m) (by omega) (by omega)
      rw [chE_opp, chE_opp] at a
      omega
  · exact st m n hm h
/-- a number whose edge lies between two bounds is among those told -/
theorem fs_in {c : Cut} {half lo hi n : Int} {s : Fs} (h : s.ok c half lo hi) (hn : -32767 ≤ n ∧ n ≤ 32767) (h1 : lo ≤ edgeI half c.gain n) (h2 : edgeI half c.gain n ≤ hi) : s.F ≤ n ∧ n < s.G := by
  obtain ⟨⟨_, _, a3, a4⟩, ⟨_, _, b3, b4⟩⟩ := h
  constructor
  · refine Int.not_lt.1 fun hlt => ?_
    have := a3 n hn.1 hlt
    simp at this
    omega
  · refine Int.not_le.1 fun hle => ?_
    have := b4 n hle hn.2
    simp at this
    omega
theorem fs_one {c : Cut} {half n : Int} {s : Fs} (hg : 1000 ≤ c.gain) (h : s.ok c half (edgeI half c.gain n) (edgeI half c.gain n)) (hn : -32767 ≤ n ∧ n ≤ 32767) : s.F = n ∧ s.G = n + 1 := by
  obtain ⟨i1, i2⟩ := fs_in h hn (Int.le_refl _) (Int.le_refl _)
  obtain ⟨⟨a1, a2, a3, a4⟩, ⟨b1, b2, b3, b4⟩⟩ := h
  constructor
  · refine Int.le_antisymm i1 (Int.not_lt.1 fun hlt => ?_)
    have h1 : edgeI half c.gain n ≤ edgeI half c.gain s.F := of_decide_eq_true (a4 s.F (Int.le_refl _) (by omega))
    have := chE_lt hg hlt
    rw [edge_chE, edge_chE] at h1
    omega
  · refine Int.le_antisymm (Int.not_lt.1 fun hlt => ?_) (by omega)
    have h1 : ¬ edgeI half c.gain n < edgeI half c.gain (n + 1) := of_decide_eq_false (b3 (n + 1) (by omega) hlt)
    have := chE_lt hg (show n < n + 1 by omega)
    rw [edge_chE, edge_chE] at h1
    omega

set_option maxRecDepth 100000 in
theorem samples_law (c : Cut) (s : Pt) (n0 n1 n2 n3 : Int) (hs : inR2 s) (h0 : 0 ≤ n0 ∧ n0 ≤ 65535) (h1 : 0 ≤ n1 ∧ n1 ≤ 65535) (h2 : 0 ≤ n2 ∧ n2 ≤ 65535) (h3 : 0 ≤ n3 ∧ n3 ≤ 65535) : AC Try.prog 17 [c.v, .agg [.i s.1, .i s.2], .agg [.c (.int .u16 n0), .c (.int .u16 n1), .c (.int .u16 n2), .c (.int .u16 n3)]] (.b true) [] := by
  refine ac_intro hTT hMX (fn := Try.f17) (N := _) ⟨Try.func17, rfl, Try.ntmps17, by kernel_rfl⟩ (by simp) fun C hC hF => ?_
  refine aw_seq_k fun K hK => ?_
  refine w_region (n' := 2) (by kernel_rfl) (by kernel_rfl) ?_
  refine aops_n hTT (M := []) (n := 4) [pv (3 : Nat) (V.ptr [V.i (Cut.half c), V.i (Cut.gain c), V.i (Cut.thin c), V.i (Cut.wide c), V.i (Cut.slope c), V.i (Cut.jerk c), V.i (Cut.sty c)]), pv (4 : Nat) (V.ptr [V.i (Prod.fst s), V.i (Prod.snd s)]), pv (5 : Nat) (V.ptr [V.c (Value.int IntKind.u16 n0), V.c (Value.int IntKind.u16 n1), V.c (Value.int IntKind.u16 n2), V.c (Value.int IntKind.u16 n3)]), pv (6 : Nat) (V.b false)] (by kernel_rfl) (by kernel_rfl) True.intro ?_
  refine aops_nil ?_
  refine xt_n ?_
  refine hK _ ?_
  clear hK K
  refine aw_seq_k fun K hK => ?_
  refine aw_seq_k fun K hK => ?_
  refine w_region (n' := 3) (by kernel_rfl) (by kernel_rfl) ?_
  refine aops_n hTT (M := []) (n := 1) [pv (13 : Nat) (V.agg [V.i (Cut.half c), V.i (Cut.gain c), V.i (Cut.thin c), V.i (Cut.wide c), V.i (Cut.slope c), V.i (Cut.jerk c), V.i (Cut.sty c)])] (by kernel_rfl) (by kernel_rfl) True.intro ?_
  refine e_call (first := []) (caps := []) (refCheck_ac c) (by kernel_rfl) (by kernel_rfl) (by kernel_rfl) (by kernel_rfl) (by kernel_rfl) ?_
  refine aops_n hTT (M := []) (n := 1) [pv (15 : Nat) (V.b !decide (cutE c = (0 : Int)))] (by kernel_rfl) (by kernel_rfl) True.intro ?_
  refine aops_nil ?_
  refine xt_n ?_
  refine hK _ ?_
  clear hK K
  refine w_cond (t := !decide (cutE c = (0 : Int))) (by kernel_rfl) (fun c1 => ?_) (fun c1 => ?_)
  · refine aw_seq_k fun K hK => ?_
    refine w_region (n' := 4) (by kernel_rfl) (by kernel_rfl) ?_
    refine e_call (first := []) (caps := []) (works_ac) (by kernel_rfl) (by kernel_rfl) (by kernel_rfl) (by kernel_rfl) (by kernel_rfl) ?_
    refine aops_n hTT (M := []) (n := 1) [pv (6 : Nat) (V.b true)] (by kernel_rfl) (by kernel_rfl) True.intro ?_
    refine aops_nil ?_
    refine xt_n ?_
    refine hK _ ?_
    clear hK K
    refine aw_ret ?_
    refine xt_r ?_
    refine ret_pure (v' := V.b true) (.inr rfl) (by kernel_rfl) (by kernel_rfl) (by kernel_rfl)
  have hc : cutE c = 0 := by simpa using c1
  refine aw_skip ?_
  refine xt_n ?_
  refine hK _ ?_
  clear hK K
  refine aw_seq_k fun K hK => ?_
  refine w_region (n' := 4) (by kernel_rfl) (by kernel_rfl) ?_
  refine aops_n hTT (M := []) (n := 2) [pv (18 : Nat) (V.agg [V.i (Cut.half c), V.i (Cut.gain c), V.i (Cut.thin c), V.i (Cut.wide c), V.i (Cut.slope c), V.i (Cut.jerk c), V.i (Cut.sty c)]), pv (19 : Nat) (V.agg [V.i (Prod.fst s), V.i (Prod.snd s)])] (by kernel_rfl) (by kernel_rfl) True.intro ?_
  refine e_call (first := []) (caps := []) (Wall_ac c s) (by kernel_rfl) (by kernel_rfl) (by kernel_rfl) (by kernel_rfl) (by kernel_rfl) ?_
  refine aops_n hTT (M := []) (n := 6) [pv (17 : Nat) (V.tup [V.agg [V.i (Prod.fst (Prod.fst (wallR c s))), V.i (Prod.snd (Prod.fst (wallR c s)))], V.i (Prod.snd (wallR c s))]), pv (21 : Nat) (V.agg [V.i (Prod.fst (Prod.fst (wallR c s))), V.i (Prod.snd (Prod.fst (wallR c s)))]), pv (22 : Nat) (V.i (Prod.snd (wallR c s))), pn (7 : Nat) (V.ref (300007 : Nat) (0 : Nat)) (300007 : Nat) (Ob.box (29 : Nat) [V.i (0 : Int), V.i (0 : Int)]), pw ((0 : Nat) + (2 : Nat) ≤ (2 : Nat)) (300007 : Nat) (Ob.box (29 : Nat) [V.i (Prod.fst (Prod.fst (wallR c s))), V.i (Prod.snd (Prod.fst (wallR c s)))]), pv (8 : Nat) (V.i (Prod.snd (wallR c s)))] (by kernel_rfl) (by kernel_rfl) ⟨(by omega), True.intro⟩ ?_
  refine aops_nil ?_
  refine xt_n ?_
  refine hK _ ?_
  clear hK K
  refine aw_seq_k fun K hK => ?_
  refine aw_seq_k fun K hK => ?_
  refine w_region (n' := 5) (by kernel_rfl) (by kernel_rfl) ?_
  refine aops_n hTT (M := []) (n := 2) [pv (23 : Nat) (V.i (Prod.snd (wallR c s))), pv (24 : Nat) (V.b !decide (Prod.snd (wallR c s) = (0 : Int)))] (by kernel_rfl) (by kernel_rfl) True.intro ?_
  refine aops_nil ?_
  refine xt_n ?_
  refine hK _ ?_
  clear hK K
  refine w_cond (t := !decide (Prod.snd (wallR c s) = (0 : Int))) (by kernel_rfl) (fun c2 => ?_) (fun c2 => ?_)
  · have hE : ¬ sE s = true := fun h => by
      rw [wallR_3 hc h] at c2
      simp at c2
    rw [wallR_2 hE]
    refine aw_seq_k fun K hK => ?_
    refine w_region (n' := 6) (by kernel_rfl) (by kernel_rfl) ?_
    refine aops_n hTT (M := []) (n := 3) [pv (25 : Nat) (V.i (2 : Int)), pv (26 : Nat) (V.b true), pv (27 : Nat) (V.b true)] (by kernel_rfl) (by kernel_rfl) True.intro ?_
    refine e_callG 0 (g := true == true) (first := []) (caps := []) (by kernel_rfl) (fun _ => works_ac) (by kernel_rfl) (by kernel_rfl) (by kernel_rfl) (by kernel_rfl) (by kernel_rfl) (by kernel_rfl) ?_
    refine aops_n hTT (M := []) (n := 2) [pc (29 : Nat) ((true = true → (true == true) = true) ∧ True) (V.b true), pv (6 : Nat) (V.b true)] (by kernel_rfl) (by kernel_rfl) ⟨⟨(by (exact fun h => h)), True.intro⟩, True.intro⟩ ?_
    refine aops_nil ?_
    refine xt_n ?_
    refine hK _ ?_
    clear hK K
    refine aw_ret ?_
    refine xt_r ?_
    refine ret_pure (v' := V.b true) (.inr rfl) (by kernel_rfl) (by kernel_rfl) (by kernel_rfl)
  have hsE : sE s = true := by
    cases h : sE s with
    | true => rfl
    | false =>
      rw [wallR_2 (by simp [h])] at c2
      simp at c2
  have sb := sE_iff.1 hsE
  rw [wallR_3 hc hsE]
  obtain ⟨_, ⟨g1, g2⟩, _⟩ := cutE_ok.1 hc
  obtain ⟨⟨q1, q2⟩, _⟩ := cutE_ok.1 hc
  have x1 := chE_bd (n := s.1) ⟨g1, g2⟩ (by omega)
  have x2 := chE_bd (n := s.2) ⟨g1, g2⟩ (by omega)
  obtain ⟨F, hF1⟩ := fs_exists c hc c.half ((wallP c s).2 - n2) ((wallP c s).2 + n3)
  obtain ⟨G, hG1⟩ := fs_exists c hc (-c.half) ((wallP c s).1 - n0) ((wallP c s).1 + n1)
  have fF := fs_in hF1 sb.1 (by simp only [wallP, edge_chE]; omega) (by simp only [wallP, edge_chE]; omega)
  have fG := fs_in hG1 sb.2 (by simp only [wallP, edge_chE]; omega) (by simp only [wallP, edge_chE]; omega)
  obtain ⟨F', hF2⟩ := fs_exists c hc c.half (wallP c s).2 (wallP c s).2
  obtain ⟨G', hG2⟩ := fs_exists c hc (-c.half) (wallP c s).1 (wallP c s).1
  have fF' := fs_in hF2 sb.1 (by simp only [wallP, edge_chE]; omega) (by simp only [wallP, edge_chE]; omega)
  have fG' := fs_in hG2 sb.2 (by simp only [wallP, edge_chE]; omega) (by simp only [wallP, edge_chE]; omega)
  have A := Channels_ac c ((wallP c s).1 - n0) ((wallP c s).1 + n1) ((wallP c s).2 - n2) ((wallP c s).2 + n3) F G (fun _ => ⟨hF1, hG1⟩)
  have B := Channels_ac c (wallP c s).1 (wallP c s).1 (wallP c s).2 (wallP c s).2 F' G' (fun _ => ⟨hF2, hG2⟩)
  rw [chanV_4 hc (by omega) (by simp [isB]; omega)] at A B
  have w1 : -4194304 ≤ (wallP c s).1 ∧ (wallP c s).1 ≤ 4194304 := by simp only [wallP]; omega
  have w2 : -4194304 ≤ (wallP c s).2 ∧ (wallP c s).2 ≤ 4194304 := by simp only [wallP]; omega
  refine aw_skip ?_
  refine xt_n ?_
  refine hK _ ?_
  clear hK K
  refine aw_seq_k fun K hK => ?_
  refine w_region (n' := 6) (by kernel_rfl) (by kernel_rfl) ?_
  refine aops_n hTT (M := []) (n := 29) [pv (30 : Nat) (V.ref (300007 : Nat) (0 : Nat)), pc (31 : Nat) ((0 : Nat) ≤ (2 : Nat)) (V.i (Prod.fst (wallP c s))), pc (32 : Nat) ((0 : Int) ≤ (0 : Int) ∧ (0 : Int) < (↑(4 : Nat) : Int)) (V.ptr [V.c (Value.int IntKind.u16 n0), V.c (Value.int IntKind.u16 n1), V.c (Value.int IntKind.u16 n2), V.c (Value.int IntKind.u16 n3)]), pv (33 : Nat) (V.c (Value.int IntKind.u16 n0)), pc (34 : Nat) ((-9223372036854775808 : Int) ≤ n0 ∧ n0 ≤ (9223372036854775807 : Int)) (V.i n0), pc (35 : Nat) ((-9223372036854775808 : Int) ≤ Prod.fst (wallP c s) - n0 ∧ Prod.fst (wallP c s) - n0 ≤ (9223372036854775807 : Int)) (V.i (Prod.fst (wallP c s) - n0)), pv (36 : Nat) (V.ref (300007 : Nat) (0 : Nat)), pc (37 : Nat) ((0 : Nat) ≤ (2 : Nat)) (V.i (Prod.fst (wallP c s))), pc (38 : Nat) ((0 : Int) ≤ (1 : Int) ∧ (1 : Int) < (↑(4 : Nat) : Int)) (V.ptr [V.c (Value.int IntKind.u16 n1), V.c (Value.int IntKind.u16 n2), V.c (Value.int IntKind.u16 n3)]), pv (39 : Nat) (V.c (Value.int IntKind.u16 n1)), pc (40 : Nat) ((-9223372036854775808 : Int) ≤ n1 ∧ n1 ≤ (9223372036854775807 : Int)) (V.i n1), pc (41 : Nat) ((-9223372036854775808 : Int) ≤ Prod.fst (wallP c s) + n1 ∧ Prod.fst (wallP c s) + n1 ≤ (9223372036854775807 : Int)) (V.i (Prod.fst (wallP c s) + n1)), pv (42 : Nat) (V.agg [V.i (Prod.fst (wallP c s) - n0), V.i (Prod.fst (wallP c s) + n1)]), pv (43 : Nat) (V.ref (300007 : Nat) (1 : Nat)), pc (44 : Nat) ((1 : Nat) ≤ (2 : Nat)) (V.i (Prod.snd (wallP c s))), pc (45 : Nat) ((0 : Int) ≤ (2 : Int) ∧ (2 : Int) < (↑(4 : Nat) : Int)) (V.ptr [V.c (Value.int IntKind.u16 n2), V.c (Value.int IntKind.u16 n3)]), pv (46 : Nat) (V.c (Value.int IntKind.u16 n2)), pc (47 : Nat) ((-9223372036854775808 : Int) ≤ n2 ∧ n2 ≤ (9223372036854775807 : Int)) (V.i n2), pc (48 : Nat) ((-9223372036854775808 : Int) ≤ Prod.snd (wallP c s) - n2 ∧ Prod.snd (wallP c s) - n2 ≤ (9223372036854775807 : Int)) (V.i (Prod.snd (wallP c s) - n2)), pv (49 : Nat) (V.ref (300007 : Nat) (1 : Nat)), pc (50 : Nat) ((1 : Nat) ≤ (2 : Nat)) (V.i (Prod.snd (wallP c s))), pc (51 : Nat) ((0 : Int) ≤ (3 : Int) ∧ (3 : Int) < (↑(4 : Nat) : Int)) (V.ptr [V.c (Value.int IntKind.u16 n3)]), pv (52 : Nat) (V.c (Value.int IntKind.u16 n3)), pc (53 : Nat) ((-9223372036854775808 : Int) ≤ n3 ∧ n3 ≤ (9223372036854775807 : Int)) (V.i n3), pc (54 : Nat) ((-9223372036854775808 : Int) ≤ Prod.snd (wallP c s) + n3 ∧ Prod.snd (wallP c s) + n3 ≤ (9223372036854775807 : Int)) (V.i (Prod.snd (wallP c s) + n3)), pv (55 : Nat) (V.agg [V.i (Prod.snd (wallP c s) - n2), V.i (Prod.snd (wallP c s) + n3)]), pv (56 : Nat) (V.agg [V.i (Prod.fst (wallP c s) - n0), V.i (Prod.fst (wallP c s) + n1), V.i (Prod.snd (wallP c s) - n2), V.i (Prod.snd (wallP c s) + n3)]), pn (9 : Nat) (V.ref (500009 : Nat) (0 : Nat)) (500009 : Nat) (Ob.box (72 : Nat) [V.i (0 : Int), V.i (0 : Int), V.i (0 : Int), V.i (0 : Int)]), pw ((0 : Nat) + (4 : Nat) ≤ (4 : Nat)) (500009 : Nat) (Ob.box (72 : Nat) [V.i (Prod.fst (wallP c s) - n0), V.i (Prod.fst (wallP c s) + n1), V.i (Prod.snd (wallP c s) - n2), V.i (Prod.snd (wallP c s) + n3)])] (by kernel_rfl) (by kernel_rfl) ⟨(by omega), (by omega), (by omega), (by omega), (by omega), (by omega), (by omega), (by omega), (by omega), (by omega), (by omega), (by omega), (by omega), (by omega), (by omega), (by omega), (by omega), True.intro⟩ ?_
  refine aops_nil ?_
  refine xt_n ?_
  refine hK _ ?_
  clear hK K
  refine aw_seq_k fun K hK => ?_
  refine w_region (n' := 7) (by kernel_rfl) (by kernel_rfl) ?_
  refine aops_n hTT (M := []) (n := 2) [pv (58 : Nat) (V.agg [V.i (Cut.half c), V.i (Cut.gain c), V.i (Cut.thin c), V.i (Cut.wide c), V.i (Cut.slope c), V.i (Cut.jerk c), V.i (Cut.sty c)]), pc (59 : Nat) ((0 : Nat) ≤ (4 : Nat)) (V.agg [V.i (Prod.fst (wallP c s) - n0), V.i (Prod.fst (wallP c s) + n1), V.i (Prod.snd (wallP c s) - n2), V.i (Prod.snd (wallP c s) + n3)])] (by kernel_rfl) (by kernel_rfl) ⟨(by omega), True.intro⟩ ?_
  refine e_call (first := []) (caps := []) (A) (by kernel_rfl) (by kernel_rfl) (by kernel_rfl) (by kernel_rfl) (by kernel_rfl) ?_
  refine aops_n hTT (M := []) (n := 9) [pv (57 : Nat) (V.tup [V.agg [V.i (Fs.F F), V.i (Fs.G F - (1 : Int))], V.agg [V.i (Fs.F G), V.i (Fs.G G - (1 : Int))], V.i (0 : Int)]), pv (61 : Nat) (V.agg [V.i (Fs.F F), V.i (Fs.G F - (1 : Int))]), pv (62 : Nat) (V.agg [V.i (Fs.F G), V.i (Fs.G G - (1 : Int))]), pv (63 : Nat) (V.i (0 : Int)), pn (10 : Nat) (V.ref (600010 : Nat) (0 : Nat)) (600010 : Nat) (Ob.box (70 : Nat) [V.i (0 : Int), V.i (0 : Int)]), pn (11 : Nat) (V.ref (600011 : Nat) (0 : Nat)) (600011 : Nat) (Ob.box (70 : Nat) [V.i (0 : Int), V.i (0 : Int)]), pw ((0 : Nat) + (2 : Nat) ≤ (2 : Nat)) (600010 : Nat) (Ob.box (70 : Nat) [V.i (Fs.F F), V.i (Fs.G F - (1 : Int))]), pw ((0 : Nat) + (2 : Nat) ≤ (2 : Nat)) (600011 : Nat) (Ob.box (70 : Nat) [V.i (Fs.F G), V.i (Fs.G G - (1 : Int))]), pv (8 : Nat) (V.i (0 : Int))] (by kernel_rfl) (by kernel_rfl) ⟨(by omega), (by omega), True.intro⟩ ?_
  refine aops_nil ?_
  refine xt_n ?_
  refine hK _ ?_
  clear hK K
  refine aw_seq_k fun K hK => ?_
  refine aw_seq_k fun K hK => ?_
  refine w_region (n' := 8) (by kernel_rfl) (by kernel_rfl) ?_
  refine aops_n hTT (M := []) (n := 30) [pv (64 : Nat) (V.i (0 : Int)), pv (65 : Nat) (V.b false), pv (66 : Nat) (V.b false), pc (67 : Nat) ((True ∧ True) ∧ ((false == false) = true → True)) (V.gd (false == false) (V.ptr [V.i (Prod.fst s), V.i (Prod.snd s)])), pc (68 : Nat) ((((false == false) = true → (false == false) = true) ∧ True) ∧ ((false == false) = true → True)) (V.gd (false == false) (V.i (Prod.fst s))), pc (69 : Nat) ((True ∧ True) ∧ ((false == false) = true → True)) (V.gd (false == false) (V.ref (600010 : Nat) (0 : Nat))), pc (70 : Nat) ((((false == false) = true → (false == false) = true) ∧ True) ∧ ((false == false) = true → (0 : Nat) ≤ (2 : Nat))) (V.gd (false == false) (V.i (Fs.F F))), pc (71 : Nat) ((((false == false) = true → (false == false) = true) ∧ ((false == false) = true → (false == false) = true) ∧ True) ∧ ((false == false) = true → True)) (V.gd (false == false) (V.b (decide (Prod.fst s < Fs.F F)))), pc (72 : Nat) (True ∧ (false = false → (false == false) = true)) (V.b (decide (Prod.fst s < Fs.F F))), pv (73 : Nat) (V.b (decide (Prod.fst s < Fs.F F))), pc (74 : Nat) ((True ∧ True) ∧ ((decide (Prod.fst s < Fs.F F) == false) = true → True)) (V.gd (decide (Prod.fst s < Fs.F F) == false) (V.ptr [V.i (Prod.fst s), V.i (Prod.snd s)])), pc (75 : Nat) ((((decide (Prod.fst s < Fs.F F) == false) = true → (decide (Prod.fst s < Fs.F F) == false) = true) ∧ True) ∧ ((decide (Prod.fst s < Fs.F F) == false) = true → True)) (V.gd (decide (Prod.fst s < Fs.F F) == false) (V.i (Prod.fst s))), pc (76 : Nat) ((True ∧ True) ∧ ((decide (Prod.fst s < Fs.F F) == false) = true → True)) (V.gd (decide (Prod.fst s < Fs.F F) == false) (V.ref (600010 : Nat) (1 : Nat))), pc (77 : Nat) ((((decide (Prod.fst s < Fs.F F) == false) = true → (decide (Prod.fst s < Fs.F F) == false) = true) ∧ True) ∧ ((decide (Prod.fst s < Fs.F F) == false) = true → (1 : Nat) ≤ (2 : Nat))) (V.gd (decide (Prod.fst s < Fs.F F) == false) (V.i (Fs.G F - (1 : Int)))), pc (78 : Nat) ((((decide (Prod.fst s < Fs.F F) == false) = true → (decide (Prod.fst s < Fs.F F) == false) = true) ∧ ((decide (Prod.fst s < Fs.F F) == false) = true → (decide (Prod.fst s < Fs.F F) == false) = true) ∧ True) ∧ ((decide (Prod.fst s < Fs.F F) == false) = true → True)) (V.gd (decide (Prod.fst s < Fs.F F) == false) (V.b (decide (Fs.G F - (1 : Int) < Prod.fst s)))), pc (79 : Nat) (True ∧ (decide (Prod.fst s < Fs.F F) = false → (decide (Prod.fst s < Fs.F F) == false) = true)) (V.b (decide (Prod.fst s < Fs.F F) || decide (Fs.G F - (1 : Int) < Prod.fst s))), pv (80 : Nat) (V.b (decide (Prod.fst s < Fs.F F) || decide (Fs.G F - (1 : Int) < Prod.fst s))), pc (81 : Nat) ((True ∧ True) ∧ (((decide (Prod.fst s < Fs.F F) || decide (Fs.G F - (1 : Int) < Prod.fst s)) == false) = true → True)) (V.gd ((decide (Prod.fst s < Fs.F F) || decide (Fs.G F - (1 : Int) < Prod.fst s)) == false) (V.ptr [V.i (Prod.snd s)])), pc (82 : Nat) (((((decide (Prod.fst s < Fs.F F) || decide (Fs.G F - (1 : Int) < Prod.fst s)) == false) = true → ((decide (Prod.fst s < Fs.F F) || decide (Fs.G F - (1 : Int) < Prod.fst s)) == false) = true) ∧ True) ∧ (((decide (Prod.fst s < Fs.F F) || decide (Fs.G F - (1 : Int) < Prod.fst s)) == false) = true → True)) (V.gd ((decide (Prod.fst s < Fs.F F) || decide (Fs.G F - (1 : Int) < Prod.fst s)) == false) (V.i (Prod.snd s))), pc (83 : Nat) ((True ∧ True) ∧ (((decide (Prod.fst s < Fs.F F) || decide (Fs.G F - (1 : Int) < Prod.fst s)) == false) = true → True)) (V.gd ((decide (Prod.fst s < Fs.F F) || decide (Fs.G F - (1 : Int) < Prod.fst s)) == false) (V.ref (600011 : Nat) (0 : Nat))), pc (84 : Nat) (((((decide (Prod.fst s < Fs.F F) || decide (Fs.G F - (1 : Int) < Prod.fst s)) == false) = true → ((decide (Prod.fst s < Fs.F F) || decide (Fs.G F - (1 : Int) < Prod.fst s)) == false) = true) ∧ True) ∧ (((decide (Prod.fst s < Fs.F F) || decide (Fs.G F - (1 : Int) < Prod.fst s)) == false) = true → (0 : Nat) ≤ (2 : Nat))) (V.gd ((decide (Prod.fst s < Fs.F F) || decide (Fs.G F - (1 : Int) < Prod.fst s)) == false) (V.i (Fs.F G))), pc (85 : Nat) (((((decide (Prod.fst s < Fs.F F) || decide (Fs.G F - (1 : Int) < Prod.fst s)) == false) = true → ((decide (Prod.fst s < Fs.F F) || decide (Fs.G F - (1 : Int) < Prod.fst s)) == false) = true) ∧ (((decide (Prod.fst s < Fs.F F) || decide (Fs.G F - (1 : Int) < Prod.fst s)) == false) = true → ((decide (Prod.fst s < Fs.F F) || decide (Fs.G F - (1 : Int) < Prod.fst s)) == false) = true) ∧ True) ∧ (((decide (Prod.fst s < Fs.F F) || decide (Fs.G F - (1 : Int) < Prod.fst s)) == false) = true → True)) (V.gd ((decide (Prod.fst s < Fs.F F) || decide (Fs.G F - (1 : Int) < Prod.fst s)) == false) (V.b (decide (Prod.snd s < Fs.F G)))), pc (86 : Nat) (True ∧ ((decide (Prod.fst s < Fs.F F) || decide (Fs.G F - (1 : Int) < Prod.fst s)) = false → ((decide (Prod.fst s < Fs.F F) || decide (Fs.G F - (1 : Int) < Prod.fst s)) == false) = true)) (V.b (decide (Prod.fst s < Fs.F F) || decide (Fs.G F - (1 : Int) < Prod.fst s) || decide (Prod.snd s < Fs.F G))), pv (87 : Nat) (V.b (decide (Prod.fst s < Fs.F F) || decide (Fs.G F - (1 : Int) < Prod.fst s) || decide (Prod.snd s < Fs.F G))), pc (88 : Nat) ((True ∧ True) ∧ (((decide (Prod.fst s < Fs.F F) || decide (Fs.G F - (1 : Int) < Prod.fst s) || decide (Prod.snd s < Fs.F G)) == false) = true → True)) (V.gd ((decide (Prod.fst s < Fs.F F) || decide (Fs.G F - (1 : Int) < Prod.fst s) || decide (Prod.snd s < Fs.F G)) == false) (V.ptr [V.i (Prod.snd s)])), pc (89 : Nat) (((((decide (Prod.fst s < Fs.F F) || decide (Fs.G F - (1 : Int) < Prod.fst s) || decide (Prod.snd s < Fs.F G)) == false) = true → ((decide (Prod.fst s < Fs.F F) || decide (Fs.G F - (1 : Int) < Prod.fst s) || decide (Prod.snd s < Fs.F G)) == false) = true) ∧ True) ∧ (((decide (Prod.fst s < Fs.F F) || decide (Fs.G F - (1 : Int) < Prod.fst s) || decide (Prod.snd s < Fs.F G)) == false) = true → True)) (V.gd ((decide (Prod.fst s < Fs.F F) || decide (Fs.G F - (1 : Int) < Prod.fst s) || decide (Prod.snd s < Fs.F G)) == false) (V.i (Prod.snd s))), pc (90 : Nat) ((True ∧ True) ∧ (((decide (Prod.fst s < Fs.F F) || decide (Fs.G F - (1 : Int) < Prod.fst s) || decide (Prod.snd s < Fs.F G)) == false) = true → True)) (V.gd ((decide (Prod.fst s < Fs.F F) || decide (Fs.G F - (1 : Int) < Prod.fst s) || decide (Prod.snd s < Fs.F G)) == false) (V.ref (600011 : Nat) (1 : Nat))), pc (91 : Nat) (((((decide (Prod.fst s < Fs.F F) || decide (Fs.G F - (1 : Int) < Prod.fst s) || decide (Prod.snd s < Fs.F G)) == false) = true → ((decide (Prod.fst s < Fs.F F) || decide (Fs.G F - (1 : Int) < Prod.fst s) || decide (Prod.snd s < Fs.F G)) == false) = true) ∧ True) ∧ (((decide (Prod.fst s < Fs.F F) || decide (Fs.G F - (1 : Int) < Prod.fst s) || decide (Prod.snd s < Fs.F G)) == false) = true → (1 : Nat) ≤ (2 : Nat))) (V.gd ((decide (Prod.fst s < Fs.F F) || decide (Fs.G F - (1 : Int) < Prod.fst s) || decide (Prod.snd s < Fs.F G)) == false) (V.i (Fs.G G - (1 : Int)))), pc (92 : Nat) (((((decide (Prod.fst s < Fs.F F) || decide (Fs.G F - (1 : Int) < Prod.fst s) || decide (Prod.snd s < Fs.F G)) == false) = true → ((decide (Prod.fst s < Fs.F F) || decide (Fs.G F - (1 : Int) < Prod.fst s) || decide (Prod.snd s < Fs.F G)) == false) = true) ∧ (((decide (Prod.fst s < Fs.F F) || decide (Fs.G F - (1 : Int) < Prod.fst s) || decide (Prod.snd s < Fs.F G)) == false) = true → ((decide (Prod.fst s < Fs.F F) || decide (Fs.G F - (1 : Int) < Prod.fst s) || decide (Prod.snd s < Fs.F G)) == false) = true) ∧ True) ∧ (((decide (Prod.fst s < Fs.F F) || decide (Fs.G F - (1 : Int) < Prod.fst s) || decide (Prod.snd s < Fs.F G)) == false) = true → True)) (V.gd ((decide (Prod.fst s < Fs.F F) || decide (Fs.G F - (1 : Int) < Prod.fst s) || decide (Prod.snd s < Fs.F G)) == false) (V.b (decide (Fs.G G - (1 : Int) < Prod.snd s)))), pc (93 : Nat) (True ∧ ((decide (Prod.fst s < Fs.F F) || decide (Fs.G F - (1 : Int) < Prod.fst s) || decide (Prod.snd s < Fs.F G)) = false → ((decide (Prod.fst s < Fs.F F) || decide (Fs.G F - (1 : Int) < Prod.fst s) || decide (Prod.snd s < Fs.F G)) == false) = true)) (V.b (decide (Prod.fst s < Fs.F F) || decide (Fs.G F - (1 : Int) < Prod.fst s) || decide (Prod.snd s < Fs.F G) || decide (Fs.G G - (1 : Int) < Prod.snd s)))] (by kernel_rfl) (by kernel_rfl) ⟨⟨⟨True.intro, True.intro⟩, (fun _ => True.intro)⟩, ⟨⟨(by (exact fun h => h)), True.intro⟩, (fun _ => True.intro)⟩, ⟨⟨True.intro, True.intro⟩, (fun _ => True.intro)⟩, ⟨⟨(by (exact fun h => h)), True.intro⟩, (by (intro _; simp; done))⟩, ⟨⟨(by (exact fun h => h)), ⟨(by (exact fun h => h)), True.intro⟩⟩, (fun _ => True.intro)⟩, ⟨True.intro, (by (intro h; rw [h]; rfl))⟩, ⟨⟨True.intro, True.intro⟩, (fun _ => True.intro)⟩, ⟨⟨(by (exact fun h => h)), True.intro⟩, (fun _ => True.intro)⟩, ⟨⟨True.intro, True.intro⟩, (fun _ => True.intro)⟩, ⟨⟨(by (exact fun h => h)), True.intro⟩, (by (intro _; simp; done))⟩, ⟨⟨(by (exact fun h => h)), ⟨(by (exact fun h => h)), True.intro⟩⟩, (fun _ => True.intro)⟩, ⟨True.intro, (by (intro h; rw [h]; rfl))⟩, ⟨⟨True.intro, True.intro⟩, (fun _ => True.intro)⟩, ⟨⟨(by (exact fun h => h)), True.intro⟩, (fun _ => True.intro)⟩, ⟨⟨True.intro, True.intro⟩, (fun _ => True.intro)⟩, ⟨⟨(by (exact fun h => h)), True.intro⟩, (by (intro _; simp; done))⟩, ⟨⟨(by (exact fun h => h)), ⟨(by (exact fun h => h)), True.intro⟩⟩, (fun _ => True.intro)⟩, ⟨True.intro, (by (intro h; rw [h]; rfl))⟩, ⟨⟨True.intro, True.intro⟩, (fun _ => True.intro)⟩, ⟨⟨(by (exact fun h => h)), True.intro⟩, (fun _ => True.intro)⟩, ⟨⟨True.intro, True.intro⟩, (fun _ => True.intro)⟩, ⟨⟨(by (exact fun h => h)), True.intro⟩, (by (intro _; simp; done))⟩, ⟨⟨(by (exact fun h => h)), ⟨(by (exact fun h => h)), True.intro⟩⟩, (fun _ => True.intro)⟩, ⟨True.intro, (by (intro h; rw [h]; rfl))⟩, True.intro⟩ ?_
  refine aops_nil ?_
  refine xt_n ?_
  refine hK _ ?_
  clear hK K
  refine w_cond (t := decide (Prod.fst s < Fs.F F) || decide (Fs.G F - (1 : Int) < Prod.fst s) || decide (Prod.snd s < Fs.F G) || decide (Fs.G G - (1 : Int) < Prod.snd s)) (by kernel_rfl) (fun c3 => ?_) (fun c3 => ?_)
  · exfalso
    simp at c3
    omega
  refine aw_skip ?_
  refine xt_n ?_
  refine hK _ ?_
  clear hK K
  refine aw_seq_k fun K hK => ?_
  refine w_region (n' := 9) (by kernel_rfl) (by kernel_rfl) ?_
  refine aops_n hTT (M := []) (n := 12) [pv (94 : Nat) (V.ref (300007 : Nat) (0 : Nat)), pc (95 : Nat) ((0 : Nat) ≤ (2 : Nat)) (V.i (Prod.fst (wallP c s))), pv (96 : Nat) (V.ref (300007 : Nat) (0 : Nat)), pc (97 : Nat) ((0 : Nat) ≤ (2 : Nat)) (V.i (Prod.fst (wallP c s))), pv (98 : Nat) (V.agg [V.i (Prod.fst (wallP c s)), V.i (Prod.fst (wallP c s))]), pv (99 : Nat) (V.ref (300007 : Nat) (1 : Nat)), pc (100 : Nat) ((1 : Nat) ≤ (2 : Nat)) (V.i (Prod.snd (wallP c s))), pv (101 : Nat) (V.ref (300007 : Nat) (1 : Nat)), pc (102 : Nat) ((1 : Nat) ≤ (2 : Nat)) (V.i (Prod.snd (wallP c s))), pv (103 : Nat) (V.agg [V.i (Prod.snd (wallP c s)), V.i (Prod.snd (wallP c s))]), pv (104 : Nat) (V.agg [V.i (Prod.fst (wallP c s)), V.i (Prod.fst (wallP c s)), V.i (Prod.snd (wallP c s)), V.i (Prod.snd (wallP c s))]), pw ((0 : Nat) + (4 : Nat) ≤ (4 : Nat)) (500009 : Nat) (Ob.box (72 : Nat) [V.i (Prod.fst (wallP c s)), V.i (Prod.fst (wallP c s)), V.i (Prod.snd (wallP c s)), V.i (Prod.snd (wallP c s))])] (by kernel_rfl) (by kernel_rfl) ⟨(by omega), (by omega), (by omega), (by omega), (by omega), True.intro⟩ ?_
  refine aops_nil ?_
  refine xt_n ?_
  refine hK _ ?_
  clear hK K
  refine aw_seq_k fun K hK => ?_
  refine w_region (n' := 10) (by kernel_rfl) (by kernel_rfl) ?_
  refine aops_n hTT (M := []) (n := 2) [pv (106 : Nat) (V.agg [V.i (Cut.half c), V.i (Cut.gain c), V.i (Cut.thin c), V.i (Cut.wide c), V.i (Cut.slope c), V.i (Cut.jerk c), V.i (Cut.sty c)]), pc (107 : Nat) ((0 : Nat) ≤ (4 : Nat)) (V.agg [V.i (Prod.fst (wallP c s)), V.i (Prod.fst (wallP c s)), V.i (Prod.snd (wallP c s)), V.i (Prod.snd (wallP c s))])] (by kernel_rfl) (by kernel_rfl) ⟨(by omega), True.intro⟩ ?_
  refine e_call (first := []) (caps := []) (B) (by kernel_rfl) (by kernel_rfl) (by kernel_rfl) (by kernel_rfl) (by kernel_rfl) ?_
  refine aops_n hTT (M := []) (n := 7) [pv (105 : Nat) (V.tup [V.agg [V.i (Fs.F F'), V.i (Fs.G F' - (1 : Int))], V.agg [V.i (Fs.F G'), V.i (Fs.G G' - (1 : Int))], V.i (0 : Int)]), pv (109 : Nat) (V.agg [V.i (Fs.F F'), V.i (Fs.G F' - (1 : Int))]), pv (110 : Nat) (V.agg [V.i (Fs.F G'), V.i (Fs.G G' - (1 : Int))]), pv (111 : Nat) (V.i (0 : Int)), pw ((0 : Nat) + (2 : Nat) ≤ (2 : Nat)) (600010 : Nat) (Ob.box (70 : Nat) [V.i (Fs.F F'), V.i (Fs.G F' - (1 : Int))]), pw ((0 : Nat) + (2 : Nat) ≤ (2 : Nat)) (600011 : Nat) (Ob.box (70 : Nat) [V.i (Fs.F G'), V.i (Fs.G G' - (1 : Int))]), pv (8 : Nat) (V.i (0 : Int))] (by kernel_rfl) (by kernel_rfl) ⟨(by omega), (by omega), True.intro⟩ ?_
  refine aops_nil ?_
  refine xt_n ?_
  refine hK _ ?_
  clear hK K
  refine aw_seq_k fun K hK => ?_
  refine aw_seq_k fun K hK => ?_
  refine w_region (n' := 11) (by kernel_rfl) (by kernel_rfl) ?_
  refine aops_n hTT (M := []) (n := 30) [pv (112 : Nat) (V.i (0 : Int)), pv (113 : Nat) (V.b false), pv (114 : Nat) (V.b false), pc (115 : Nat) ((True ∧ True) ∧ ((false == false) = true → True)) (V.gd (false == false) (V.ptr [V.i (Prod.fst s), V.i (Prod.snd s)])), pc (116 : Nat) ((((false == false) = true → (false == false) = true) ∧ True) ∧ ((false == false) = true → True)) (V.gd (false == false) (V.i (Prod.fst s))), pc (117 : Nat) ((True ∧ True) ∧ ((false == false) = true → True)) (V.gd (false == false) (V.ref (600010 : Nat) (0 : Nat))), pc (118 : Nat) ((((false == false) = true → (false == false) = true) ∧ True) ∧ ((false == false) = true → (0 : Nat) ≤ (2 : Nat))) (V.gd (false == false) (V.i (Fs.F F'))), pc (119 : Nat) ((((false == false) = true → (false == false) = true) ∧ ((false == false) = true → (false == false) = true) ∧ True) ∧ ((false == false) = true → True)) (V.gd (false == false) (V.b (decide (Prod.fst s < Fs.F F')))), pc (120 : Nat) (True ∧ (false = false → (false == false) = true)) (V.b (decide (Prod.fst s < Fs.F F'))), pv (121 : Nat) (V.b (decide (Prod.fst s < Fs.F F'))), pc (122 : Nat) ((True ∧ True) ∧ ((decide (Prod.fst s < Fs.F F') == false) = true → True)) (V.gd (decide (Prod.fst s < Fs.F F') == false) (V.ptr [V.i (Prod.fst s), V.i (Prod.snd s)])), pc (123 : Nat) ((((decide (Prod.fst s < Fs.F F') == false) = true → (decide (Prod.fst s < Fs.F F') == false) = true) ∧ True) ∧ ((decide (Prod.fst s < Fs.F F') == false) = true → True)) (V.gd (decide (Prod.fst s < Fs.F F') == false) (V.i (Prod.fst s))), pc (124 : Nat) ((True ∧ True) ∧ ((decide (Prod.fst s < Fs.F F') == false) = true → True)) (V.gd (decide (Prod.fst s < Fs.F F') == false) (V.ref (600010 : Nat) (1 : Nat))), pc (125 : Nat) ((((decide (Prod.fst s < Fs.F F') == false) = true → (decide (Prod.fst s < Fs.F F') == false) = true) ∧ True) ∧ ((decide (Prod.fst s < Fs.F F') == false) = true → (1 : Nat) ≤ (2 : Nat))) (V.gd (decide (Prod.fst s < Fs.F F') == false) (V.i (Fs.G F' - (1 : Int)))), pc (126 : Nat) ((((decide (Prod.fst s < Fs.F F') == false) = true → (decide (Prod.fst s < Fs.F F') == false) = true) ∧ ((decide (Prod.fst s < Fs.F F') == false) = true → (decide (Prod.fst s < Fs.F F') == false) = true) ∧ True) ∧ ((decide (Prod.fst s < Fs.F F') == false) = true → True)) (V.gd (decide (Prod.fst s < Fs.F F') == false) (V.b (decide (Fs.G F' - (1 : Int) < Prod.fst s)))), pc (127 : Nat) (True ∧ (decide (Prod.fst s < Fs.F F') = false → (decide (Prod.fst s < Fs.F F') == false) = true)) (V.b (decide (Prod.fst s < Fs.F F') || decide (Fs.G F' - (1 : Int) < Prod.fst s))), pv (128 : Nat) (V.b (decide (Prod.fst s < Fs.F F') || decide (Fs.G F' - (1 : Int) < Prod.fst s))), pc (129 : Nat) ((True ∧ True) ∧ (((decide (Prod.fst s < Fs.F F') || decide (Fs.G F' - (1 : Int) < Prod.fst s)) == false) = true → True)) (V.gd ((decide (Prod.fst s < Fs.F F') || decide (Fs.G F' - (1 : Int) < Prod.fst s)) == false) (V.ptr [V.i (Prod.snd s)])), pc (130 : Nat) (((((decide (Prod.fst s < Fs.F F') || decide (Fs.G F' - (1 : Int) < Prod.fst s)) == false) = true → ((decide (Prod.fst s < Fs.F F') || decide (Fs.G F' - (1 : Int) < Prod.fst s)) == false) = true) ∧ True) ∧ (((decide (Prod.fst s < Fs.F F') || decide (Fs.G F' - (1 : Int) < Prod.fst s)) == false) = true → True)) (V.gd ((decide (Prod.fst s < Fs.F F') || decide (Fs.G F' - (1 : Int) < Prod.fst s)) == false) (V.i (Prod.snd s))), pc (131 : Nat) ((True ∧ True) ∧ (((decide (Prod.fst s < Fs.F F') || decide (Fs.G F' - (1 : Int) < Prod.fst s)) == false) = true → True)) (V.gd ((decide (Prod.fst s < Fs.F F') || decide (Fs.G F' - (1 : Int) < Prod.fst s)) == false) (V.ref (600011 : Nat) (0 : Nat))), pc (132 : Nat) (((((decide (Prod.fst s < Fs.F F') || decide (Fs.G F' - (1 : Int) < Prod.fst s)) == false) = true → ((decide (Prod.fst s < Fs.F F') || decide (Fs.G F' - (1 : Int) < Prod.fst s)) == false) = true) ∧ True) ∧ (((decide (Prod.fst s < Fs.F F') || decide (Fs.G F' - (1 : Int) < Prod.fst s)) == false) = true → (0 : Nat) ≤ (2 : Nat))) (V.gd ((decide (Prod.fst s < Fs.F F') || decide (Fs.G F' - (1 : Int) < Prod.fst s)) == false) (V.i (Fs.F G'))), pc (133 : Nat) (((((decide (Prod.fst s < Fs.F F') || decide (Fs.G F' - (1 : Int) < Prod.fst s)) == false) = true → ((decide (Prod.fst s < Fs.F F') || decide (Fs.G F' - (1 : Int) < Prod.fst s)) == false) = true) ∧ (((decide (Prod.fst s < Fs.F F') || decide (Fs.G F' - (1 : Int) < Prod.fst s)) == false) = true → ((decide (Prod.fst s < Fs.F F') || decide (Fs.G F' - (1 : Int) < Prod.fst s)) == false) = true) ∧ True) ∧ (((decide (Prod.fst s < Fs.F F') || decide (Fs.G F' - (1 : Int) < Prod.fst s)) == false) = true → True)) (V.gd ((decide (Prod.fst s < Fs.F F') || decide (Fs.G F' - (1 : Int) < Prod.fst s)) == false) (V.b (decide (Prod.snd s < Fs.F G')))), pc (134 : Nat) (True ∧ ((decide (Prod.fst s < Fs.F F') || decide (Fs.G F' - (1 : Int) < Prod.fst s)) = false → ((decide (Prod.fst s < Fs.F F') || decide (Fs.G F' - (1 : Int) < Prod.fst s)) == false) = true)) (V.b (decide (Prod.fst s < Fs.F F') || decide (Fs.G F' - (1 : Int) < Prod.fst s) || decide (Prod.snd s < Fs.F G'))), pv (135 : Nat) (V.b (decide (Prod.fst s < Fs.F F') || decide (Fs.G F' - (1 : Int) < Prod.fst s) || decide (Prod.snd s < Fs.F G'))), pc (136 : Nat) ((True ∧ True) ∧ (((decide (Prod.fst s < Fs.F F') || decide (Fs.G F' - (1 : Int) < Prod.fst s) || decide (Prod.snd s < Fs.F G')) == false) = true → True)) (V.gd ((decide (Prod.fst s < Fs.F F') || decide (Fs.G F' - (1 : Int) < Prod.fst s) || decide (Prod.snd s < Fs.F G')) == false) (V.ptr [V.i (Prod.snd s)])), pc (137 : Nat) (((((decide (Prod.fst s < Fs.F F') || decide (Fs.G F' - (1 : Int) < Prod.fst s) || decide (Prod.snd s < Fs.F G')) == false) = true → ((decide (Prod.fst s < Fs.F F') || decide (Fs.G F' - (1 : Int) < Prod.fst s) || decide (Prod.snd s < Fs.F G')) == false) = true) ∧ True) ∧ (((decide (Prod.fst s < Fs.F F') || decide (Fs.G F' - (1 : Int) < Prod.fst s) || decide (Prod.snd s < Fs.F G')) == false) = true → True)) (V.gd ((decide (Prod.fst s < Fs.F F') || decide (Fs.G F' - (1 : Int) < Prod.fst s) || decide (Prod.snd s < Fs.F G')) == false) (V.i (Prod.snd s))), pc (138 : Nat) ((True ∧ True) ∧ (((decide (Prod.fst s < Fs.F F') || decide (Fs.G F' - (1 : Int) < Prod.fst s) || decide (Prod.snd s < Fs.F G')) == false) = true → True)) (V.gd ((decide (Prod.fst s < Fs.F F') || decide (Fs.G F' - (1 : Int) < Prod.fst s) || decide (Prod.snd s < Fs.F G')) == false) (V.ref (600011 : Nat) (1 : Nat))), pc (139 : Nat) (((((decide (Prod.fst s < Fs.F F') || decide (Fs.G F' - (1 : Int) < Prod.fst s) || decide (Prod.snd s < Fs.F G')) == false) = true → ((decide (Prod.fst s < Fs.F F') || decide (Fs.G F' - (1 : Int) < Prod.fst s) || decide (Prod.snd s < Fs.F G')) == false) = true) ∧ True) ∧ (((decide (Prod.fst s < Fs.F F') || decide (Fs.G F' - (1 : Int) < Prod.fst s) || decide (Prod.snd s < Fs.F G')) == false) = true → (1 : Nat) ≤ (2 : Nat))) (V.gd ((decide (Prod.fst s < Fs.F F') || decide (Fs.G F' - (1 : Int) < Prod.fst s) || decide (Prod.snd s < Fs.F G')) == false) (V.i (Fs.G G' - (1 : Int)))), pc (140 : Nat) (((((decide (Prod.fst s < Fs.F F') || decide (Fs.G F' - (1 : Int) < Prod.fst s) || decide (Prod.snd s < Fs.F G')) == false) = true → ((decide (Prod.fst s < Fs.F F') || decide (Fs.G F' - (1 : Int) < Prod.fst s) || decide (Prod.snd s < Fs.F G')) == false) = true) ∧ (((decide (Prod.fst s < Fs.F F') || decide (Fs.G F' - (1 : Int) < Prod.fst s) || decide (Prod.snd s < Fs.F G')) == false) = true → ((decide (Prod.fst s < Fs.F F') || decide (Fs.G F' - (1 : Int) < Prod.fst s) || decide (Prod.snd s < Fs.F G')) == false) = true) ∧ True) ∧ (((decide (Prod.fst s < Fs.F F') || decide (Fs.G F' - (1 : Int) < Prod.fst s) || decide (Prod.snd s < Fs.F G')) == false) = true → True)) (V.gd ((decide (Prod.fst s < Fs.F F') || decide (Fs.G F' - (1 : Int) < Prod.fst s) || decide (Prod.snd s < Fs.F G')) == false) (V.b (decide (Fs.G G' - (1 : Int) < Prod.snd s)))), pc (141 : Nat) (True ∧ ((decide (Prod.fst s < Fs.F F') || decide (Fs.G F' - (1 : Int) < Prod.fst s) || decide (Prod.snd s < Fs.F G')) = false → ((decide (Prod.fst s < Fs.F F') || decide (Fs.G F' - (1 : Int) < Prod.fst s) || decide (Prod.snd s < Fs.F G')) == false) = true)) (V.b (decide (Prod.fst s < Fs.F F') || decide (Fs.G F' - (1 : Int) < Prod.fst s) || decide (Prod.snd s < Fs.F G') || decide (Fs.G G' - (1 : Int) < Prod.snd s)))] (by kernel_rfl) (by kernel_rfl) ⟨⟨⟨True.intro, True.intro⟩, (fun _ => True.intro)⟩, ⟨⟨(by (exact fun h => h)), True.intro⟩, (fun _ => True.intro)⟩, ⟨⟨True.intro, True.intro⟩, (fun _ => True.intro)⟩, ⟨⟨(by (exact fun h => h)), True.intro⟩, (by (intro _; simp; done))⟩, ⟨⟨(by (exact fun h => h)), ⟨(by (exact fun h => h)), True.intro⟩⟩, (fun _ => True.intro)⟩, ⟨True.intro, (by (intro h; rw [h]; rfl))⟩, ⟨⟨True.intro, True.intro⟩, (fun _ => True.intro)⟩, ⟨⟨(by (exact fun h => h)), True.intro⟩, (fun _ => True.intro)⟩, ⟨⟨True.intro, True.intro⟩, (fun _ => True.intro)⟩, ⟨⟨(by (exact fun h => h)), True.intro⟩, (by (intro _; simp; done))⟩, ⟨⟨(by (exact fun h => h)), ⟨(by (exact fun h => h)), True.intro⟩⟩, (fun _ => True.intro)⟩, ⟨True.intro, (by (intro h; rw [h]; rfl))⟩, ⟨⟨True.intro, True.intro⟩, (fun _ => True.intro)⟩, ⟨⟨(by (exact fun h => h)), True.intro⟩, (fun _ => True.intro)⟩, ⟨⟨True.intro, True.intro⟩, (fun _ => True.intro)⟩, ⟨⟨(by (exact fun h => h)), True.intro⟩, (by (intro _; simp; done))⟩, ⟨⟨(by (exact fun h => h)), ⟨(by (exact fun h => h)), True.intro⟩⟩, (fun _ => True.intro)⟩, ⟨True.intro, (by (intro h; rw [h]; rfl))⟩, ⟨⟨True.intro, True.intro⟩, (fun _ => True.intro)⟩, ⟨⟨(by (exact fun h => h)), True.intro⟩, (fun _ => True.intro)⟩, ⟨⟨True.intro, True.intro⟩, (fun _ => True.intro)⟩, ⟨⟨(by (exact fun h => h)), True.intro⟩, (by (intro _; simp; done))⟩, ⟨⟨(by (exact fun h => h)), ⟨(by (exact fun h => h)), True.intro⟩⟩, (fun _ => True.intro)⟩, ⟨True.intro, (by (intro h; rw [h]; rfl))⟩, True.intro⟩ ?_
  refine aops_nil ?_
  refine xt_n ?_
  refine hK _ ?_
  clear hK K
  refine w_cond (t := decide (Prod.fst s < Fs.F F') || decide (Fs.G F' - (1 : Int) < Prod.fst s) || decide (Prod.snd s < Fs.F G') || decide (Fs.G G' - (1 : Int) < Prod.snd s)) (by kernel_rfl) (fun c4 => ?_) (fun c4 => ?_)
  · exfalso
    simp at c4
    omega
  refine aw_skip ?_
  refine xt_n ?_
  refine hK _ ?_
  clear hK K
  refine aw_seq_k fun K hK => ?_
  refine aw_seq_k fun K hK => ?_
  refine w_region (n' := 12) (by kernel_rfl) (by kernel_rfl) ?_
  refine aops_n hTT (M := []) (n := 3) [pv (142 : Nat) (V.ptr [V.i (Cut.gain c), V.i (Cut.thin c), V.i (Cut.wide c), V.i (Cut.slope c), V.i (Cut.jerk c), V.i (Cut.sty c)]), pv (143 : Nat) (V.i (Cut.gain c)), pv (144 : Nat) (V.b (decide (Cut.gain c < (1000 : Int))))] (by kernel_rfl) (by kernel_rfl) True.intro ?_
  refine aops_nil ?_
  refine xt_n ?_
  refine hK _ ?_
  clear hK K
  refine w_cond (t := decide (Cut.gain c < (1000 : Int))) (by kernel_rfl) (fun c5 => ?_) (fun c5 => ?_)
  · refine aw_seq_k fun K hK => ?_
    refine w_region (n' := 13) (by kernel_rfl) (by kernel_rfl) ?_
    refine e_call (first := []) (caps := []) (works_ac) (by kernel_rfl) (by kernel_rfl) (by kernel_rfl) (by kernel_rfl) (by kernel_rfl) ?_
    refine aops_n hTT (M := []) (n := 1) [pv (6 : Nat) (V.b true)] (by kernel_rfl) (by kernel_rfl) True.intro ?_
    refine aops_nil ?_
    refine xt_n ?_
    refine hK _ ?_
    clear hK K
    refine aw_ret ?_
    refine xt_r ?_
    refine ret_pure (v' := V.b true) (.inr rfl) (by kernel_rfl) (by kernel_rfl) (by kernel_rfl)
  have h1000 : 1000 ≤ c.gain := by simpa using c5
  obtain ⟨e1, e2⟩ := fs_one (half := c.half) h1000 (by simpa only [wallP, edge_chE, Int.add_comm] using hF2) sb.1
  obtain ⟨e3, e4⟩ := fs_one (half := -c.half) h1000 (by simpa only [wallP, edge_chE, Int.add_comm, Int.sub_eq_add_neg] using hG2) sb.2
  obtain ⟨P, Q, hb⟩ := bOk_ex c (wallP c s)
  obtain ⟨t, hv, _, _, _, _, ts⟩ := back_of_wall hc hsE hb
  have B2 := Back_ac c (wallP c s) P Q hb
  rw [hv, ts h1000] at B2
  refine aw_skip ?_
  refine xt_n ?_
  refine hK _ ?_
  clear hK K
  refine aw_seq_k fun K hK => ?_
  refine w_region (n' := 13) (by kernel_rfl) (by kernel_rfl) ?_
  refine aops_n hTT (M := []) (n := 2) [pv (147 : Nat) (V.agg [V.i (Cut.half c), V.i (Cut.gain c), V.i (Cut.thin c), V.i (Cut.wide c), V.i (Cut.slope c), V.i (Cut.jerk c), V.i (Cut.sty c)]), pc (148 : Nat) ((0 : Nat) ≤ (2 : Nat)) (V.agg [V.i (Prod.fst (wallP c s)), V.i (Prod.snd (wallP c s))])] (by kernel_rfl) (by kernel_rfl) ⟨(by omega), True.intro⟩ ?_
  refine e_call (first := []) (caps := []) (B2) (by kernel_rfl) (by kernel_rfl) (by kernel_rfl) (by kernel_rfl) (by kernel_rfl) ?_
  refine aops_n hTT (M := []) (n := 6) [pv (146 : Nat) (V.tup [V.agg [V.i (Prod.fst s), V.i (Prod.snd s)], V.i (0 : Int)]), pv (150 : Nat) (V.agg [V.i (Prod.fst s), V.i (Prod.snd s)]), pv (151 : Nat) (V.i (0 : Int)), pn (12 : Nat) (V.ref (1200012 : Nat) (0 : Nat)) (1200012 : Nat) (Ob.box (87 : Nat) [V.i (0 : Int), V.i (0 : Int)]), pw ((0 : Nat) + (2 : Nat) ≤ (2 : Nat)) (1200012 : Nat) (Ob.box (87 : Nat) [V.i (Prod.fst s), V.i (Prod.snd s)]), pv (8 : Nat) (V.i (0 : Int))] (by kernel_rfl) (by kernel_rfl) ⟨(by omega), True.intro⟩ ?_
  refine aops_nil ?_
  refine xt_n ?_
  refine hK _ ?_
  clear hK K
  refine aw_seq_k fun K hK => ?_
  refine w_region (n' := 14) (by kernel_rfl) (by kernel_rfl) ?_
  refine aops_n hTT (M := []) (n := 26) [pv (152 : Nat) (V.i (0 : Int)), pv (153 : Nat) (V.b true), pv (154 : Nat) (V.b true), pc (155 : Nat) ((True ∧ True) ∧ ((true == true) = true → (0 : Nat) ≤ (2 : Nat))) (V.gd (true == true) (V.agg [V.i (Prod.fst s), V.i (Prod.snd s)])), pc (156 : Nat) ((True ∧ True) ∧ ((true == true) = true → True)) (V.gd (true == true) (V.agg [V.i (Prod.fst s), V.i (Prod.snd s)])), pc (157 : Nat) ((((true == true) = true → (true == true) = true) ∧ ((true == true) = true → (true == true) = true) ∧ True) ∧ ((true == true) = true → True)) (V.gd (true == true) (V.b (decide (Prod.fst s = Prod.fst s) && (decide (Prod.snd s = Prod.snd s) && true)))), pc (158 : Nat) ((true = true → (true == true) = true) ∧ True) (V.b (decide (Prod.fst s = Prod.fst s) && (decide (Prod.snd s = Prod.snd s) && true))), pv (159 : Nat) (V.b (decide (Prod.fst s = Prod.fst s) && (decide (Prod.snd s = Prod.snd s) && true))), pc (160 : Nat) ((True ∧ True) ∧ (((decide (Prod.fst s = Prod.fst s) && (decide (Prod.snd s = Prod.snd s) && true)) == true) = true → (0 : Nat) ≤ (2 : Nat))) (V.gd ((decide (Prod.fst s = Prod.fst s) && (decide (Prod.snd s = Prod.snd s) && true)) == true) (V.agg [V.i (Fs.F F'), V.i (Fs.G F' - (1 : Int))])), pc (161 : Nat) ((True ∧ True) ∧ (((decide (Prod.fst s = Prod.fst s) && (decide (Prod.snd s = Prod.snd s) && true)) == true) = true → True)) (V.gd ((decide (Prod.fst s = Prod.fst s) && (decide (Prod.snd s = Prod.snd s) && true)) == true) (V.ptr [V.i (Prod.fst s), V.i (Prod.snd s)])), pc (162 : Nat) (((((decide (Prod.fst s = Prod.fst s) && (decide (Prod.snd s = Prod.snd s) && true)) == true) = true → ((decide (Prod.fst s = Prod.fst s) && (decide (Prod.snd s = Prod.snd s) && true)) == true) = true) ∧ True) ∧ (((decide (Prod.fst s = Prod.fst s) && (decide (Prod.snd s = Prod.snd s) && true)) == true) = true → True)) (V.gd ((decide (Prod.fst s = Prod.fst s) && (decide (Prod.snd s = Prod.snd s) && true)) == true) (V.i (Prod.fst s))), pc (163 : Nat) ((True ∧ True) ∧ (((decide (Prod.fst s = Prod.fst s) && (decide (Prod.snd s = Prod.snd s) && true)) == true) = true → True)) (V.gd ((decide (Prod.fst s = Prod.fst s) && (decide (Prod.snd s = Prod.snd s) && true)) == true) (V.ptr [V.i (Prod.fst s), V.i (Prod.snd s)])), pc (164 : Nat) (((((decide (Prod.fst s = Prod.fst s) && (decide (Prod.snd s = Prod.snd s) && true)) == true) = true → ((decide (Prod.fst s = Prod.fst s) && (decide (Prod.snd s = Prod.snd s) && true)) == true) = true) ∧ True) ∧ (((decide (Prod.fst s = Prod.fst s) && (decide (Prod.snd s = Prod.snd s) && true)) == true) = true → True)) (V.gd ((decide (Prod.fst s = Prod.fst s) && (decide (Prod.snd s = Prod.snd s) && true)) == true) (V.i (Prod.fst s))), pc (165 : Nat) (((((decide (Prod.fst s = Prod.fst s) && (decide (Prod.snd s = Prod.snd s) && true)) == true) = true → ((decide (Prod.fst s = Prod.fst s) && (decide (Prod.snd s = Prod.snd s) && true)) == true) = true) ∧ (((decide (Prod.fst s = Prod.fst s) && (decide (Prod.snd s = Prod.snd s) && true)) == true) = true → ((decide (Prod.fst s = Prod.fst s) && (decide (Prod.snd s = Prod.snd s) && true)) == true) = true) ∧ True) ∧ (((decide (Prod.fst s = Prod.fst s) && (decide (Prod.snd s = Prod.snd s) && true)) == true) = true → True)) (V.gd ((decide (Prod.fst s = Prod.fst s) && (decide (Prod.snd s = Prod.snd s) && true)) == true) (V.agg [V.i (Prod.fst s), V.i (Prod.fst s)])), pc (166 : Nat) (((((decide (Prod.fst s = Prod.fst s) && (decide (Prod.snd s = Prod.snd s) && true)) == true) = true → ((decide (Prod.fst s = Prod.fst s) && (decide (Prod.snd s = Prod.snd s) && true)) == true) = true) ∧ (((decide (Prod.fst s = Prod.fst s) && (decide (Prod.snd s = Prod.snd s) && true)) == true) = true → ((decide (Prod.fst s = Prod.fst s) && (decide (Prod.snd s = Prod.snd s) && true)) == true) = true) ∧ True) ∧ (((decide (Prod.fst s = Prod.fst s) && (decide (Prod.snd s = Prod.snd s) && true)) == true) = true → True)) (V.gd ((decide (Prod.fst s = Prod.fst s) && (decide (Prod.snd s = Prod.snd s) && true)) == true) (V.b (decide (Fs.F F' = Prod.fst s) && (decide (Fs.G F' - (1 : Int) = Prod.fst s) && true)))), pc (167 : Nat) (((decide (Prod.fst s = Prod.fst s) && (decide (Prod.snd s = Prod.snd s) && true)) = true → ((decide (Prod.fst s = Prod.fst s) && (decide (Prod.snd s = Prod.snd s) && true)) == true) = true) ∧ True) (V.b (decide (Prod.fst s = Prod.fst s) && (decide (Prod.snd s = Prod.snd s) && true) && (decide (Fs.F F' = Prod.fst s) && (decide (Fs.G F' - (1 : Int) = Prod.fst s) && true)))), pv (168 : Nat) (V.b (decide (Prod.fst s = Prod.fst s) && (decide (Prod.snd s = Prod.snd s) && true) && (decide (Fs.F F' = Prod.fst s) && (decide (Fs.G F' - (1 : Int) = Prod.fst s) && true)))), pc (169 : Nat) ((True ∧ True) ∧ (((decide (Prod.fst s = Prod.fst s) && (decide (Prod.snd s = Prod.snd s) && true) && (decide (Fs.F F' = Prod.fst s) && (decide (Fs.G F' - (1 : Int) = Prod.fst s) && true))) == true) = true → (0 : Nat) ≤ (2 : Nat))) (V.gd ((decide (Prod.fst s = Prod.fst s) && (decide (Prod.snd s = Prod.snd s) && true) && (decide (Fs.F F' = Prod.fst s) && (decide (Fs.G F' - (1 : Int) = Prod.fst s) && true))) == true) (V.agg [V.i (Fs.F G'), V.i (Fs.G G' - (1 : Int))])), pc (170 : Nat) ((True ∧ True) ∧ (((decide (Prod.fst s = Prod.fst s) && (decide (Prod.snd s = Prod.snd s) && true) && (decide (Fs.F F' = Prod.fst s) && (decide (Fs.G F' - (1 : Int) = Prod.fst s) && true))) == true) = true → True)) (V.gd ((decide (Prod.fst s = Prod.fst s) && (decide (Prod.snd s = Prod.snd s) && true) && (decide (Fs.F F' = Prod.fst s) && (decide (Fs.G F' - (1 : Int) = Prod.fst s) && true))) == true) (V.ptr [V.i (Prod.snd s)])), pc (171 : Nat) (((((decide (Prod.fst s = Prod.fst s) && (decide (Prod.snd s = Prod.snd s) && true) && (decide (Fs.F F' = Prod.fst s) && (decide (Fs.G F' - (1 : Int) = Prod.fst s) && true))) == true) = true → ((decide (Prod.fst s = Prod.fst s) && (decide (Prod.snd s = Prod.snd s) && true) && (decide (Fs.F F' = Prod.fst s) && (decide (Fs.G F' - (1 : Int) = Prod.fst s) && true))) == true) = true) ∧ True) ∧ (((decide (Prod.fst s = Prod.fst s) && (decide (Prod.snd s = Prod.snd s) && true) && (decide (Fs.F F' = Prod.fst s) && (decide (Fs.G F' - (1 : Int) = Prod.fst s) && true))) == true) = true → True)) (V.gd ((decide (Prod.fst s = Prod.fst s) && (decide (Prod.snd s = Prod.snd s) && true) && (decide (Fs.F F' = Prod.fst s) && (decide (Fs.G F' - (1 : Int) = Prod.fst s) && true))) == true) (V.i (Prod.snd s))), pc (172 : Nat) ((True ∧ True) ∧ (((decide (Prod.fst s = Prod.fst s) && (decide (Prod.snd s = Prod.snd s) && true) && (decide (Fs.F F' = Prod.fst s) && (decide (Fs.G F' - (1 : Int) = Prod.fst s) && true))) == true) = true → True)) (V.gd ((decide (Prod.fst s = Prod.fst s) && (decide (Prod.snd s = Prod.snd s) && true) && (decide (Fs.F F' = Prod.fst s) && (decide (Fs.G F' - (1 : Int) = Prod.fst s) && true))) == true) (V.ptr [V.i (Prod.snd s)])), pc (173 : Nat) (((((decide (Prod.fst s = Prod.fst s) && (decide (Prod.snd s = Prod.snd s) && true) && (decide (Fs.F F' = Prod.fst s) && (decide (Fs.G F' - (1 : Int) = Prod.fst s) && true))) == true) = true → ((decide (Prod.fst s = Prod.fst s) && (decide (Prod.snd s = Prod.snd s) && true) && (decide (Fs.F F' = Prod.fst s) && (decide (Fs.G F' - (1 : Int) = Prod.fst s) && true))) == true) = true) ∧ True) ∧ (((decide (Prod.fst s = Prod.fst s) && (decide (Prod.snd s = Prod.snd s) && true) && (decide (Fs.F F' = Prod.fst s) && (decide (Fs.G F' - (1 : Int) = Prod.fst s) && true))) == true) = true → True)) (V.gd ((decide (Prod.fst s = Prod.fst s) && (decide (Prod.snd s = Prod.snd s) && true) && (decide (Fs.F F' = Prod.fst s) && (decide (Fs.G F' - (1 : Int) = Prod.fst s) && true))) == true) (V.i (Prod.snd s))), pc (174 : Nat) (((((decide (Prod.fst s = Prod.fst s) && (decide (Prod.snd s = Prod.snd s) && true) && (decide (Fs.F F' = Prod.fst s) && (decide (Fs.G F' - (1 : Int) = Prod.fst s) && true))) == true) = true → ((decide (Prod.fst s = Prod.fst s) && (decide (Prod.snd s = Prod.snd s) && true) && (decide (Fs.F F' = Prod.fst s) && (decide (Fs.G F' - (1 : Int) = Prod.fst s) && true))) == true) = true) ∧ (((decide (Prod.fst s = Prod.fst s) && (decide (Prod.snd s = Prod.snd s) && true) && (decide (Fs.F F' = Prod.fst s) && (decide (Fs.G F' - (1 : Int) = Prod.fst s) && true))) == true) = true → ((decide (Prod.fst s = Prod.fst s) && (decide (Prod.snd s = Prod.snd s) && true) && (decide (Fs.F F' = Prod.fst s) && (decide (Fs.G F' - (1 : Int) = Prod.fst s) && true))) == true) = true) ∧ True) ∧ (((decide (Prod.fst s = Prod.fst s) && (decide (Prod.snd s = Prod.snd s) && true) && (decide (Fs.F F' = Prod.fst s) && (decide (Fs.G F' - (1 : Int) = Prod.fst s) && true))) == true) = true → True)) (V.gd ((decide (Prod.fst s = Prod.fst s) && (decide (Prod.snd s = Prod.snd s) && true) && (decide (Fs.F F' = Prod.fst s) && (decide (Fs.G F' - (1 : Int) = Prod.fst s) && true))) == true) (V.agg [V.i (Prod.snd s), V.i (Prod.snd s)])), pc (175 : Nat) (((((decide (Prod.fst s = Prod.fst s) && (decide (Prod.snd s = Prod.snd s) && true) && (decide (Fs.F F' = Prod.fst s) && (decide (Fs.G F' - (1 : Int) = Prod.fst s) && true))) == true) = true → ((decide (Prod.fst s = Prod.fst s) && (decide (Prod.snd s = Prod.snd s) && true) && (decide (Fs.F F' = Prod.fst s) && (decide (Fs.G F' - (1 : Int) = Prod.fst s) && true))) == true) = true) ∧ (((decide (Prod.fst s = Prod.fst s) && (decide (Prod.snd s = Prod.snd s) && true) && (decide (Fs.F F' = Prod.fst s) && (decide (Fs.G F' - (1 : Int) = Prod.fst s) && true))) == true) = true → ((decide (Prod.fst s = Prod.fst s) && (decide (Prod.snd s = Prod.snd s) && true) && (decide (Fs.F F' = Prod.fst s) && (decide (Fs.G F' - (1 : Int) = Prod.fst s) && true))) == true) = true) ∧ True) ∧ (((decide (Prod.fst s = Prod.fst s) && (decide (Prod.snd s = Prod.snd s) && true) && (decide (Fs.F F' = Prod.fst s) && (decide (Fs.G F' - (1 : Int) = Prod.fst s) && true))) == true) = true → True)) (V.gd ((decide (Prod.fst s = Prod.fst s) && (decide (Prod.snd s = Prod.snd s) && true) && (decide (Fs.F F' = Prod.fst s) && (decide (Fs.G F' - (1 : Int) = Prod.fst s) && true))) == true) (V.b (decide (Fs.F G' = Prod.snd s) && (decide (Fs.G G' - (1 : Int) = Prod.snd s) && true)))), pc (176 : Nat) (((decide (Prod.fst s = Prod.fst s) && (decide (Prod.snd s = Prod.snd s) && true) && (decide (Fs.F F' = Prod.fst s) && (decide (Fs.G F' - (1 : Int) = Prod.fst s) && true))) = true → ((decide (Prod.fst s = Prod.fst s) && (decide (Prod.snd s = Prod.snd s) && true) && (decide (Fs.F F' = Prod.fst s) && (decide (Fs.G F' - (1 : Int) = Prod.fst s) && true))) == true) = true) ∧ True) (V.b (decide (Prod.fst s = Prod.fst s) && (decide (Prod.snd s = Prod.snd s) && true) && (decide (Fs.F F' = Prod.fst s) && (decide (Fs.G F' - (1 : Int) = Prod.fst s) && true)) && (decide (Fs.F G' = Prod.snd s) && (decide (Fs.G G' - (1 : Int) = Prod.snd s) && true)))), pv (177 : Nat) (V.b (decide (Prod.fst s = Prod.fst s) && (decide (Prod.snd s = Prod.snd s) && true) && (decide (Fs.F F' = Prod.fst s) && (decide (Fs.G F' - (1 : Int) = Prod.fst s) && true)) && (decide (Fs.F G' = Prod.snd s) && (decide (Fs.G G' - (1 : Int) = Prod.snd s) && true))))] (by kernel_rfl) (by kernel_rfl) ⟨⟨⟨True.intro, True.intro⟩, (by (intro _; simp; done))⟩, ⟨⟨True.intro, True.intro⟩, (fun _ => True.intro)⟩, ⟨⟨(by (exact fun h => h)), ⟨(by (exact fun h => h)), True.intro⟩⟩, (fun _ => True.intro)⟩, ⟨(by (exact fun h => h)), True.intro⟩, ⟨⟨True.intro, True.intro⟩, (by (simp only [inR]; omega))⟩, ⟨⟨True.intro, True.intro⟩, (fun _ => True.intro)⟩, ⟨⟨(by (exact fun h => h)), True.intro⟩, (fun _ => True.intro)⟩, ⟨⟨True.intro, True.intro⟩, (fun _ => True.intro)⟩, ⟨⟨(by (exact fun h => h)), True.intro⟩, (fun _ => True.intro)⟩, ⟨⟨(by (exact fun h => h)), ⟨(by (exact fun h => h)), True.intro⟩⟩, (fun _ => True.intro)⟩, ⟨⟨(by (exact fun h => h)), ⟨(by (exact fun h => h)), True.intro⟩⟩, (fun _ => True.intro)⟩, ⟨(by (intro h; rw [h]; rfl)), True.intro⟩, ⟨⟨True.intro, True.intro⟩, (by (simp only [inR]; omega))⟩, ⟨⟨True.intro, True.intro⟩, (fun _ => True.intro)⟩, ⟨⟨(by (exact fun h => h)), True.intro⟩, (fun _ => True.intro)⟩, ⟨⟨True.intro, True.intro⟩, (fun _ => True.intro)⟩, ⟨⟨(by (exact fun h => h)), True.intro⟩, (fun _ => True.intro)⟩, ⟨⟨(by (exact fun h => h)), ⟨(by (exact fun h => h)), True.intro⟩⟩, (fun _ => True.intro)⟩, ⟨⟨(by (exact fun h => h)), ⟨(by (exact fun h => h)), True.intro⟩⟩, (fun _ => True.intro)⟩, ⟨(by (intro h; rw [h]; rfl)), True.intro⟩, True.intro⟩ ?_
  refine e_callG 0 (g := (decide (Prod.fst s = Prod.fst s) && (decide (Prod.snd s = Prod.snd s) && true) && (decide (Fs.F F' = Prod.fst s) && (decide (Fs.G F' - (1 : Int) = Prod.fst s) && true)) && (decide (Fs.F G' = Prod.snd s) && (decide (Fs.G G' - (1 : Int) = Prod.snd s) && true))) == true) (first := []) (caps := []) (by kernel_rfl) (fun _ => works_ac) (by kernel_rfl) (by kernel_rfl) (by kernel_rfl) (by kernel_rfl) (by kernel_rfl) (by kernel_rfl) ?_
  refine aops_n hTT (M := []) (n := 2) [pc (179 : Nat) (((decide (Prod.fst s = Prod.fst s) && (decide (Prod.snd s = Prod.snd s) && true) && (decide (Fs.F F' = Prod.fst s) && (decide (Fs.G F' - (1 : Int) = Prod.fst s) && true)) && (decide (Fs.F G' = Prod.snd s) && (decide (Fs.G G' - (1 : Int) = Prod.snd s) && true))) = true → ((decide (Prod.fst s = Prod.fst s) && (decide (Prod.snd s = Prod.snd s) && true) && (decide (Fs.F F' = Prod.fst s) && (decide (Fs.G F' - (1 : Int) = Prod.fst s) && true)) && (decide (Fs.F G' = Prod.snd s) && (decide (Fs.G G' - (1 : Int) = Prod.snd s) && true))) == true) = true) ∧ True) (V.b (decide (Prod.fst s = Prod.fst s) && (decide (Prod.snd s = Prod.snd s) && true) && (decide (Fs.F F' = Prod.fst s) && (decide (Fs.G F' - (1 : Int) = Prod.fst s) && true)) && (decide (Fs.F G' = Prod.snd s) && (decide (Fs.G G' - (1 : Int) = Prod.snd s) && true)) && true)), pv (6 : Nat) (V.b (decide (Prod.fst s = Prod.fst s) && (decide (Prod.snd s = Prod.snd s) && true) && (decide (Fs.F F' = Prod.fst s) && (decide (Fs.G F' - (1 : Int) = Prod.fst s) && true)) && (decide (Fs.F G' = Prod.snd s) && (decide (Fs.G G' - (1 : Int) = Prod.snd s) && true)) && true))] (by kernel_rfl) (by kernel_rfl) ⟨⟨(by (intro h; rw [h]; rfl)), True.intro⟩, True.intro⟩ ?_
  refine aops_nil ?_
  refine xt_n ?_
  refine hK _ ?_
  clear hK K
  refine aw_ret ?_
  refine ret_pure (v' := V.b (decide (Prod.fst s = Prod.fst s) && (decide (Prod.snd s = Prod.snd s) && true) && (decide (Fs.F F' = Prod.fst s) && (decide (Fs.G F' - (1 : Int) = Prod.fst s) && true)) && (decide (Fs.F G' = Prod.snd s) && (decide (Fs.G G' - (1 : Int) = Prod.snd s) && true)) && true)) (.inr rfl) (by kernel_rfl) ?_ (by kernel_rfl)
  simp [e1, e2, e3, e4]
def samplesSh : List Sh := [(.fld (.int .i64) (.fld (.int .i64) (.fld (.int .i64) (.fld (.int .i64) (.fld (.int .i64) (.fld (.int .i64) (.lst (.int .i64)))))))), (.fld (.int .i64) (.lst (.int .i64))), (.arr 4 (.int .u16))]
theorem wf_u16s {x : Int} (h : (Lit.int .u16 x).wf = true) : 0 ≤ x ∧ x ≤ 65535 := by
  simp [Lit.wf, IntKind.min, IntKind.max, IntKind.signed, IntKind.bits] at h; omega
theorem samples_all (x : TL samplesSh) (hx : wfL samplesSh x) : AC Try.prog 17 (valL samplesSh x) (V.b true) [] := by
  obtain ⟨⟨h, g, th, wi, sl, je, st⟩, s, l4, _⟩ := x
  obtain ⟨_, ⟨h1, h2⟩, ⟨h5, h6⟩, _⟩ := hx
  have h5 : l4.length = 4 := h5
  have q1 := wf_i64 h1
  have q2 := wf_i64 h2
  match l4, h5, h6 with
  | [b0, b1, b2, b3], _, h6 =>
    exact samples_law ⟨h, g, th, wi, sl, je, st⟩ s b0 b1 b2 b3 ⟨by simp only [inR]; omega, by simp only [inR]; omega⟩ (wf_u16s (h6 b0 (by simp))) (wf_u16s (h6 b1 (by simp))) (wf_u16s (h6 b2 (by simp))) (wf_u16s (h6 b3 (by simp)))
end Go.Proofs.Ytlfaaddoemcokaa
