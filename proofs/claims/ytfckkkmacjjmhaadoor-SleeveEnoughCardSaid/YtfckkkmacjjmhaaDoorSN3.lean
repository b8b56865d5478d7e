/-
  Rectangles that hang, and that are folded: the walks of both copies. Conditions: told in each theorem.
-/
import Derived.Test.YtfckkkmacjjmhaaDoorSN2
namespace Go.Proofs.YtfckkkmacjjmhaaDoor
open Go.Ab Go.RowKit Go.Dw Go.Shelf

theorem hang_eq {b : Rc} {p : Pan} {x y : Int} (hx : x = hangX b p) (hy : y = hangY b p) : [V.i x, V.i y, V.i (x + p.wide), V.i (y + p.high), V.b false] = (hangR b p).c := by
  rw [hx, hy]; rfl
set_option maxRecDepth 100000 in
theorem hang_ac (b : Rc) (p : Pan) (hb : b.bd 1073741824) (hp : p.szOk) (ho : -65536 ≤ p.off ∧ p.off ≤ 65536) : AC Tryd.prog 84 [.agg b.c, .agg p.c] (.agg (hangR b p).c) [] := by
  obtain ⟨⟨a1, a2⟩, ⟨a3, a4⟩, ⟨a5, a6⟩, a7, a8⟩ := hb
  obtain ⟨⟨s1, s2⟩, s3, s4⟩ := hp
  obtain ⟨o1, o2⟩ := ho
  refine ac_intro hTT hMX (fn := Tryd.f84) (N := _) ⟨Tryd.func84, rfl, Tryd.ntmps84, by kernel_rfl⟩ (by simp) fun C hC hF => ?_
  refine aw_seq_k fun K hK => ?_
  refine w_region (n' := 2) (by kernel_rfl) (by kernel_rfl) ?_
  refine aops_n hTT (M := []) (n := 3) [pv (2 : Nat) (V.ptr [V.i (Rc.x0 b), V.i (Rc.y0 b), V.i (Rc.x1 b), V.i (Rc.y1 b), V.b (Rc.down b)]), pv (3 : Nat) (V.ptr [V.i (Pan.on p), V.i (Pan.edge p), V.i (Pan.off p), V.i (Pan.wide p), V.i (Pan.high p)]), pn (4 : Nat) (V.ref (100004 : Nat) (0 : Nat)) (100004 : Nat) (Ob.box (95 : Nat) [V.i (0 : Int), V.i (0 : Int), V.i (0 : Int), V.i (0 : Int), V.b false])] (by kernel_rfl) (by kernel_rfl) True.intro ?_
  refine aops_nil ?_
  refine xt_n ?_
  refine hK _ ?_
  clear hK K
  refine aw_seq_k fun K hK => ?_
  refine w_regionD (n' := 3) (by kernel_rfl) (by kernel_rfl) ?_
  refine aops_n hTT (M := []) (n := 14) [pv (7 : Nat) (V.ptr [V.i (Rc.x0 b), V.i (Rc.y0 b), V.i (Rc.x1 b), V.i (Rc.y1 b), V.b (Rc.down b)]), pv (8 : Nat) (V.ptr [V.i (Rc.x0 b), V.i (Rc.y0 b), V.i (Rc.x1 b), V.i (Rc.y1 b), V.b (Rc.down b)]), pv (9 : Nat) (V.i (Rc.x0 b)), pv (10 : Nat) (V.ptr [V.i (Pan.off p), V.i (Pan.wide p), V.i (Pan.high p)]), pv (11 : Nat) (V.i (Pan.off p)), pc (12 : Nat) ((-9223372036854775808 : Int) ≤ Rc.x0 b + Pan.off p ∧ Rc.x0 b + Pan.off p ≤ (9223372036854775807 : Int)) (V.i (Rc.x0 b + Pan.off p)), pv (13 : Nat) (V.ptr [V.i (Rc.x0 b), V.i (Rc.y0 b), V.i (Rc.x1 b), V.i (Rc.y1 b), V.b (Rc.down b)]), pv (14 : Nat) (V.ptr [V.i (Rc.y0 b), V.i (Rc.x1 b), V.i (Rc.y1 b), V.b (Rc.down b)]), pv (15 : Nat) (V.i (Rc.y0 b)), pv (16 : Nat) (V.ptr [V.i (Pan.off p), V.i (Pan.wide p), V.i (Pan.high p)]), pv (17 : Nat) (V.i (Pan.off p)), pc (18 : Nat) ((-9223372036854775808 : Int) ≤ Rc.y0 b + Pan.off p ∧ Rc.y0 b + Pan.off p ≤ (9223372036854775807 : Int)) (V.i (Rc.y0 b + Pan.off p)), pv (5 : Nat) (V.i (Rc.x0 b + Pan.off p)), pv (6 : Nat) (V.i (Rc.y0 b + Pan.off p))] (by kernel_rfl) (by kernel_rfl) ⟨(by omega), (by omega), True.intro⟩ ?_
  refine aops_nil ⟨by kernel_rfl, ?_⟩
  refine xt_n ?_
  refine hK _ ?_
  clear hK K
  refine aw_seq_k fun K hK => ?_
  refine aw_seq_k fun K hK => ?_
  refine w_region (n' := 4) (by kernel_rfl) (by kernel_rfl) ?_
  refine aops_n hTT (M := []) (n := 2) [pv (19 : Nat) (V.ptr [V.i (Pan.edge p), V.i (Pan.off p), V.i (Pan.wide p), V.i (Pan.high p)]), pv (20 : Nat) (V.i (Pan.edge p))] (by kernel_rfl) (by kernel_rfl) True.intro ?_
  refine aops_nil ?_
  refine xt_n ?_
  refine hK _ ?_
  clear hK K
  refine aw_block ?_
  refine aw_seq_k fun K hK => ?_
  refine w_region (n' := 5) (by kernel_rfl) (by kernel_rfl) ?_
  refine aops_n hTT (M := []) (n := 2) [pv (22 : Nat) (V.b (decide (Pan.edge p = (0 : Int)))), pv (21 : Nat) (V.b (decide (Pan.edge p = (0 : Int))))] (by kernel_rfl) (by kernel_rfl) True.intro ?_
  refine aops_nil ?_
  refine xt_n ?_
  refine hK _ ?_
  clear hK K
  refine w_cond (t := decide (Pan.edge p = (0 : Int))) (by kernel_rfl) (fun c0 => ?_) (fun c0 => ?_)
  · simp at c0
    refine w_region (n' := 6) (by kernel_rfl) (by kernel_rfl) ?_
    refine aops_n hTT (M := []) (n := 4) [pv (23 : Nat) (V.ptr [V.i (Rc.x0 b), V.i (Rc.y0 b), V.i (Rc.x1 b), V.i (Rc.y1 b), V.b (Rc.down b)]), pv (24 : Nat) (V.ptr [V.i (Rc.x1 b), V.i (Rc.y1 b), V.b (Rc.down b)]), pv (25 : Nat) (V.i (Rc.x1 b)), pv (5 : Nat) (V.i (Rc.x1 b))] (by kernel_rfl) (by kernel_rfl) True.intro ?_
    refine aops_nil ?_
    refine xb_n ?_
    refine xt_n ?_
    refine hK _ ?_
    clear hK K
    refine aw_seq_k fun K hK => ?_
    refine w_region (n' := 7) (by kernel_rfl) (by kernel_rfl) ?_
    refine aops_n hTT (M := []) (n := 13) [pv (47 : Nat) (V.i (Rc.x1 b)), pv (48 : Nat) (V.i (Rc.y0 b + Pan.off p)), pv (49 : Nat) (V.i (Rc.x1 b)), pv (50 : Nat) (V.ptr [V.i (Pan.wide p), V.i (Pan.high p)]), pv (51 : Nat) (V.i (Pan.wide p)), pc (52 : Nat) ((-9223372036854775808 : Int) ≤ Rc.x1 b + Pan.wide p ∧ Rc.x1 b + Pan.wide p ≤ (9223372036854775807 : Int)) (V.i (Rc.x1 b + Pan.wide p)), pv (53 : Nat) (V.i (Rc.y0 b + Pan.off p)), pv (54 : Nat) (V.ptr [V.i (Pan.high p)]), pv (55 : Nat) (V.i (Pan.high p)), pc (56 : Nat) ((-9223372036854775808 : Int) ≤ Rc.y0 b + Pan.off p + Pan.high p ∧ Rc.y0 b + Pan.off p + Pan.high p ≤ (9223372036854775807 : Int)) (V.i (Rc.y0 b + Pan.off p + Pan.high p)), pv (57 : Nat) (V.agg [V.i (Rc.x1 b), V.i (Rc.y0 b + Pan.off p), V.i (Rc.x1 b + Pan.wide p), V.i (Rc.y0 b + Pan.off p + Pan.high p), V.b false]), pv (58 : Nat) (V.agg [V.i (Rc.x1 b), V.i (Rc.y0 b + Pan.off p), V.i (Rc.x1 b + Pan.wide p), V.i (Rc.y0 b + Pan.off p + Pan.high p), V.b false]), pw ((0 : Nat) + (5 : Nat) ≤ (5 : Nat)) (100004 : Nat) (Ob.box (95 : Nat) [V.i (Rc.x1 b), V.i (Rc.y0 b + Pan.off p), V.i (Rc.x1 b + Pan.wide p), V.i (Rc.y0 b + Pan.off p + Pan.high p), V.b false])] (by kernel_rfl) (by kernel_rfl) ⟨(by omega), (by omega), (by omega), True.intro⟩ ?_
    refine aops_nil ?_
    refine xt_n ?_
    refine hK _ ?_
    clear hK K
    refine aw_ret ?_
    refine ret_of_le (le_freezeBox (t := (95 : Nat)) (cs := [V.i (Rc.x1 b), V.i (Rc.y0 b + Pan.off p), V.i (Rc.x1 b + Pan.wide p), V.i (Rc.y0 b + Pan.off p + Pan.high p), V.b false]) 100004 (by kernel_rfl) (by kernel_rfl)) ?_
    rw [← hang_eq (b := b) (p := p) rfl rfl, show hangX b p = b.x1 by simp [hangX, c0], show hangY b p = b.y0 + p.off by simp [hangY, c0]]
    refine ret_pure (v' := V.agg [V.i (Rc.x1 b), V.i (Rc.y0 b + Pan.off p), V.i (Rc.x1 b + Pan.wide p), V.i (Rc.y0 b + Pan.off p + Pan.high p), V.b false]) (.inr rfl) (by kernel_rfl) (by kernel_rfl) (by kernel_rfl)
  simp at c0
  refine aw_seq_k fun K hK => ?_
  refine w_region (n' := 6) (by kernel_rfl) (by kernel_rfl) ?_
  refine aops_n hTT (M := []) (n := 2) [pv (27 : Nat) (V.b (decide (Pan.edge p = (1 : Int)))), pv (26 : Nat) (V.b (decide (Pan.edge p = (1 : Int))))] (by kernel_rfl) (by kernel_rfl) True.intro ?_
  refine aops_nil ?_
  refine xt_n ?_
  refine hK _ ?_
  clear hK K
  refine w_cond (t := decide (Pan.edge p = (1 : Int))) (by kernel_rfl) (fun c1 => ?_) (fun c1 => ?_)
  · simp at c1
    refine w_region (n' := 7) (by kernel_rfl) (by kernel_rfl) ?_
    refine aops_n hTT (M := []) (n := 4) [pv (28 : Nat) (V.ptr [V.i (Rc.x0 b), V.i (Rc.y0 b), V.i (Rc.x1 b), V.i (Rc.y1 b), V.b (Rc.down b)]), pv (29 : Nat) (V.ptr [V.i (Rc.y1 b), V.b (Rc.down b)]), pv (30 : Nat) (V.i (Rc.y1 b)), pv (6 : Nat) (V.i (Rc.y1 b))] (by kernel_rfl) (by kernel_rfl) True.intro ?_
    refine aops_nil ?_
    refine xb_n ?_
    refine xt_n ?_
    refine hK _ ?_
    clear hK K
    refine aw_seq_k fun K hK => ?_
    refine w_region (n' := 8) (by kernel_rfl) (by kernel_rfl) ?_
    refine aops_n hTT (M := []) (n := 13) [pv (47 : Nat) (V.i (Rc.x0 b + Pan.off p)), pv (48 : Nat) (V.i (Rc.y1 b)), pv (49 : Nat) (V.i (Rc.x0 b + Pan.off p)), pv (50 : Nat) (V.ptr [V.i (Pan.wide p), V.i (Pan.high p)]), pv (51 : Nat) (V.i (Pan.wide p)), pc (52 : Nat) ((-9223372036854775808 : Int) ≤ Rc.x0 b + Pan.off p + Pan.wide p ∧ Rc.x0 b + Pan.off p + Pan.wide p ≤ (9223372036854775807 : Int)) (V.i (Rc.x0 b + Pan.off p + Pan.wide p)), pv (53 : Nat) (V.i (Rc.y1 b)), pv (54 : Nat) (V.ptr [V.i (Pan.high p)]), pv (55 : Nat) (V.i (Pan.high p)), pc (56 : Nat) ((-9223372036854775808 : Int) ≤ Rc.y1 b + Pan.high p ∧ Rc.y1 b + Pan.high p ≤ (9223372036854775807 : Int)) (V.i (Rc.y1 b + Pan.high p)), pv (57 : Nat) (V.agg [V.i (Rc.x0 b + Pan.off p), V.i (Rc.y1 b), V.i (Rc.x0 b + Pan.off p + Pan.wide p), V.i (Rc.y1 b + Pan.high p), V.b false]), pv (58 : Nat) (V.agg [V.i (Rc.x0 b + Pan.off p), V.i (Rc.y1 b), V.i (Rc.x0 b + Pan.off p + Pan.wide p), V.i (Rc.y1 b + Pan.high p), V.b false]), pw ((0 : Nat) + (5 : Nat) ≤ (5 : Nat)) (100004 : Nat) (Ob.box (95 : Nat) [V.i (Rc.x0 b + Pan.off p), V.i (Rc.y1 b), V.i (Rc.x0 b + Pan.off p + Pan.wide p), V.i (Rc.y1 b + Pan.high p), V.b false])] (by kernel_rfl) (by kernel_rfl) ⟨(by omega), (by omega), (by omega), True.intro⟩ ?_
    refine aops_nil ?_
    refine xt_n ?_
    refine hK _ ?_
    clear hK K
    refine aw_ret ?_
    refine ret_of_le (le_freezeBox (t := (95 : Nat)) (cs := [V.i (Rc.x0 b + Pan.off p), V.i (Rc.y1 b), V.i (Rc.x0 b + Pan.off p + Pan.wide p), V.i (Rc.y1 b + Pan.high p), V.b false]) 100004 (by kernel_rfl) (by kernel_rfl)) ?_
    rw [← hang_eq (b := b) (p := p) rfl rfl, show hangX b p = b.x0 + p.off by simp [hangX, c1], show hangY b p = b.y1 by simp [hangY, c1]]
    refine ret_pure (v' := V.agg [V.i (Rc.x0 b + Pan.off p), V.i (Rc.y1 b), V.i (Rc.x0 b + Pan.off p + Pan.wide p), V.i (Rc.y1 b + Pan.high p), V.b false]) (.inr rfl) (by kernel_rfl) (by kernel_rfl) (by kernel_rfl)
  simp at c1
  refine aw_seq_k fun K hK => ?_
  refine w_region (n' := 7) (by kernel_rfl) (by kernel_rfl) ?_
  refine aops_n hTT (M := []) (n := 2) [pv (32 : Nat) (V.b (decide (Pan.edge p = (2 : Int)))), pv (31 : Nat) (V.b (decide (Pan.edge p = (2 : Int))))] (by kernel_rfl) (by kernel_rfl) True.intro ?_
  refine aops_nil ?_
  refine xt_n ?_
  refine hK _ ?_
  clear hK K
  refine w_cond (t := decide (Pan.edge p = (2 : Int))) (by kernel_rfl) (fun c2 => ?_) (fun c2 => ?_)
  · simp at c2
    refine w_region (n' := 8) (by kernel_rfl) (by kernel_rfl) ?_
    refine aops_n hTT (M := []) (n := 7) [pv (33 : Nat) (V.ptr [V.i (Rc.x0 b), V.i (Rc.y0 b), V.i (Rc.x1 b), V.i (Rc.y1 b), V.b (Rc.down b)]), pv (34 : Nat) (V.ptr [V.i (Rc.x0 b), V.i (Rc.y0 b), V.i (Rc.x1 b), V.i (Rc.y1 b), V.b (Rc.down b)]), pv (35 : Nat) (V.i (Rc.x0 b)), pv (36 : Nat) (V.ptr [V.i (Pan.wide p), V.i (Pan.high p)]), pv (37 : Nat) (V.i (Pan.wide p)), pc (38 : Nat) ((-9223372036854775808 : Int) ≤ Rc.x0 b - Pan.wide p ∧ Rc.x0 b - Pan.wide p ≤ (9223372036854775807 : Int)) (V.i (Rc.x0 b - Pan.wide p)), pv (5 : Nat) (V.i (Rc.x0 b - Pan.wide p))] (by kernel_rfl) (by kernel_rfl) ⟨(by omega), True.intro⟩ ?_
    refine aops_nil ?_
    refine xb_n ?_
    refine xt_n ?_
    refine hK _ ?_
    clear hK K
    refine aw_seq_k fun K hK => ?_
    refine w_region (n' := 9) (by kernel_rfl) (by kernel_rfl) ?_
    refine aops_n hTT (M := []) (n := 13) [pv (47 : Nat) (V.i (Rc.x0 b - Pan.wide p)), pv (48 : Nat) (V.i (Rc.y0 b + Pan.off p)), pv (49 : Nat) (V.i (Rc.x0 b - Pan.wide p)), pv (50 : Nat) (V.ptr [V.i (Pan.wide p), V.i (Pan.high p)]), pv (51 : Nat) (V.i (Pan.wide p)), pc (52 : Nat) ((-9223372036854775808 : Int) ≤ Rc.x0 b - Pan.wide p + Pan.wide p ∧ Rc.x0 b - Pan.wide p + Pan.wide p ≤ (9223372036854775807 : Int)) (V.i (Rc.x0 b - Pan.wide p + Pan.wide p)), pv (53 : Nat) (V.i (Rc.y0 b + Pan.off p)), pv (54 : Nat) (V.ptr [V.i (Pan.high p)]), pv (55 : Nat) (V.i (Pan.high p)), pc (56 : Nat) ((-9223372036854775808 : Int) ≤ Rc.y0 b + Pan.off p + Pan.high p ∧ Rc.y0 b + Pan.off p + Pan.high p ≤ (9223372036854775807 : Int)) (V.i (Rc.y0 b + Pan.off p + Pan.high p)), pv (57 : Nat) (V.agg [V.i (Rc.x0 b - Pan.wide p), V.i (Rc.y0 b + Pan.off p), V.i (Rc.x0 b - Pan.wide p + Pan.wide p), V.i (Rc.y0 b + Pan.off p + Pan.high p), V.b false]), pv (58 : Nat) (V.agg [V.i (Rc.x0 b - Pan.wide p), V.i (Rc.y0 b + Pan.off p), V.i (Rc.x0 b - Pan.wide p + Pan.wide p), V.i (Rc.y0 b + Pan.off p + Pan.high p), V.b false]), pw ((0 : Nat) + (5 : Nat) ≤ (5 : Nat)) (100004 : Nat) (Ob.box (95 : Nat) [V.i (Rc.x0 b - Pan.wide p), V.i (Rc.y0 b + Pan.off p), V.i (Rc.x0 b - Pan.wide p + Pan.wide p), V.i (Rc.y0 b + Pan.off p + Pan.high p), V.b false])] (by kernel_rfl) (by kernel_rfl) ⟨(by omega), (by omega), (by omega), True.intro⟩ ?_
    refine aops_nil ?_
    refine xt_n ?_
    refine hK _ ?_
    clear hK K
    refine aw_ret ?_
    refine ret_of_le (le_freezeBox (t := (95 : Nat)) (cs := [V.i (Rc.x0 b - Pan.wide p), V.i (Rc.y0 b + Pan.off p), V.i (Rc.x0 b - Pan.wide p + Pan.wide p), V.i (Rc.y0 b + Pan.off p + Pan.high p), V.b false]) 100004 (by kernel_rfl) (by kernel_rfl)) ?_
    rw [← hang_eq (b := b) (p := p) rfl rfl, show hangX b p = b.x0 - p.wide by simp [hangX, c2], show hangY b p = b.y0 + p.off by simp [hangY, c2]]
    refine ret_pure (v' := V.agg [V.i (Rc.x0 b - Pan.wide p), V.i (Rc.y0 b + Pan.off p), V.i (Rc.x0 b - Pan.wide p + Pan.wide p), V.i (Rc.y0 b + Pan.off p + Pan.high p), V.b false]) (.inr rfl) (by kernel_rfl) (by kernel_rfl) (by kernel_rfl)
  simp at c2
  refine aw_seq_k fun K hK => ?_
  refine w_region (n' := 8) (by kernel_rfl) (by kernel_rfl) ?_
  refine aops_n hTT (M := []) (n := 2) [pv (40 : Nat) (V.b (decide (Pan.edge p = (3 : Int)))), pv (39 : Nat) (V.b (decide (Pan.edge p = (3 : Int))))] (by kernel_rfl) (by kernel_rfl) True.intro ?_
  refine aops_nil ?_
  refine xt_n ?_
  refine hK _ ?_
  clear hK K
  refine w_cond (t := decide (Pan.edge p = (3 : Int))) (by kernel_rfl) (fun c3 => ?_) (fun c3 => ?_)
  · simp at c3
    refine w_region (n' := 9) (by kernel_rfl) (by kernel_rfl) ?_
    refine aops_n hTT (M := []) (n := 7) [pv (41 : Nat) (V.ptr [V.i (Rc.x0 b), V.i (Rc.y0 b), V.i (Rc.x1 b), V.i (Rc.y1 b), V.b (Rc.down b)]), pv (42 : Nat) (V.ptr [V.i (Rc.y0 b), V.i (Rc.x1 b), V.i (Rc.y1 b), V.b (Rc.down b)]), pv (43 : Nat) (V.i (Rc.y0 b)), pv (44 : Nat) (V.ptr [V.i (Pan.high p)]), pv (45 : Nat) (V.i (Pan.high p)), pc (46 : Nat) ((-9223372036854775808 : Int) ≤ Rc.y0 b - Pan.high p ∧ Rc.y0 b - Pan.high p ≤ (9223372036854775807 : Int)) (V.i (Rc.y0 b - Pan.high p)), pv (6 : Nat) (V.i (Rc.y0 b - Pan.high p))] (by kernel_rfl) (by kernel_rfl) ⟨(by omega), True.intro⟩ ?_
    refine aops_nil ?_
    refine xb_n ?_
    refine xt_n ?_
    refine hK _ ?_
    clear hK K
    refine aw_seq_k fun K hK => ?_
    refine w_region (n' := 10) (by kernel_rfl) (by kernel_rfl) ?_
    refine aops_n hTT (M := []) (n := 13) [pv (47 : Nat) (V.i (Rc.x0 b + Pan.off p)), pv (48 : Nat) (V.i (Rc.y0 b - Pan.high p)), pv (49 : Nat) (V.i (Rc.x0 b + Pan.off p)), pv (50 : Nat) (V.ptr [V.i (Pan.wide p), V.i (Pan.high p)]), pv (51 : Nat) (V.i (Pan.wide p)), pc (52 : Nat) ((-9223372036854775808 : Int) ≤ Rc.x0 b + Pan.off p + Pan.wide p ∧ Rc.x0 b + Pan.off p + Pan.wide p ≤ (9223372036854775807 : Int)) (V.i (Rc.x0 b + Pan.off p + Pan.wide p)), pv (53 : Nat) (V.i (Rc.y0 b - Pan.high p)), pv (54 : Nat) (V.ptr [V.i (Pan.high p)]), pv (55 : Nat) (V.i (Pan.high p)), pc (56 : Nat) ((-9223372036854775808 : Int) ≤ Rc.y0 b - Pan.high p + Pan.high p ∧ Rc.y0 b - Pan.high p + Pan.high p ≤ (9223372036854775807 : Int)) (V.i (Rc.y0 b - Pan.high p + Pan.high p)), pv (57 : Nat) (V.agg [V.i (Rc.x0 b + Pan.off p), V.i (Rc.y0 b - Pan.high p), V.i (Rc.x0 b + Pan.off p + Pan.wide p), V.i (Rc.y0 b - Pan.high p + Pan.high p), V.b false]), pv (58 : Nat) (V.agg [V.i (Rc.x0 b + Pan.off p), V.i (Rc.y0 b - Pan.high p), V.i (Rc.x0 b + Pan.off p + Pan.wide p), V.i (Rc.y0 b - Pan.high p + Pan.high p), V.b false]), pw ((0 : Nat) + (5 : Nat) ≤ (5 : Nat)) (100004 : Nat) (Ob.box (95 : Nat) [V.i (Rc.x0 b + Pan.off p), V.i (Rc.y0 b - Pan.high p), V.i (Rc.x0 b + Pan.off p + Pan.wide p), V.i (Rc.y0 b - Pan.high p + Pan.high p), V.b false])] (by kernel_rfl) (by kernel_rfl) ⟨(by omega), (by omega), (by omega), True.intro⟩ ?_
    refine aops_nil ?_
    refine xt_n ?_
    refine hK _ ?_
    clear hK K
    refine aw_ret ?_
    refine ret_of_le (le_freezeBox (t := (95 : Nat)) (cs := [V.i (Rc.x0 b + Pan.off p), V.i (Rc.y0 b - Pan.high p), V.i (Rc.x0 b + Pan.off p + Pan.wide p), V.i (Rc.y0 b - Pan.high p + Pan.high p), V.b false]) 100004 (by kernel_rfl) (by kernel_rfl)) ?_
    rw [← hang_eq (b := b) (p := p) rfl rfl, show hangX b p = b.x0 + p.off by simp [hangX, c3], show hangY b p = b.y0 - p.high by simp [hangY, c3]]
    refine ret_pure (v' := V.agg [V.i (Rc.x0 b + Pan.off p), V.i (Rc.y0 b - Pan.high p), V.i (Rc.x0 b + Pan.off p + Pan.wide p), V.i (Rc.y0 b - Pan.high p + Pan.high p), V.b false]) (.inr rfl) (by kernel_rfl) (by kernel_rfl) (by kernel_rfl)
  simp at c3
  refine aw_skip ?_
  refine xb_n ?_
  refine xt_n ?_
  refine hK _ ?_
  clear hK K
  refine aw_seq_k fun K hK => ?_
  refine w_region (n' := 9) (by kernel_rfl) (by kernel_rfl) ?_
  refine aops_n hTT (M := []) (n := 13) [pv (47 : Nat) (V.i (Rc.x0 b + Pan.off p)), pv (48 : Nat) (V.i (Rc.y0 b + Pan.off p)), pv (49 : Nat) (V.i (Rc.x0 b + Pan.off p)), pv (50 : Nat) (V.ptr [V.i (Pan.wide p), V.i (Pan.high p)]), pv (51 : Nat) (V.i (Pan.wide p)), pc (52 : Nat) ((-9223372036854775808 : Int) ≤ Rc.x0 b + Pan.off p + Pan.wide p ∧ Rc.x0 b + Pan.off p + Pan.wide p ≤ (9223372036854775807 : Int)) (V.i (Rc.x0 b + Pan.off p + Pan.wide p)), pv (53 : Nat) (V.i (Rc.y0 b + Pan.off p)), pv (54 : Nat) (V.ptr [V.i (Pan.high p)]), pv (55 : Nat) (V.i (Pan.high p)), pc (56 : Nat) ((-9223372036854775808 : Int) ≤ Rc.y0 b + Pan.off p + Pan.high p ∧ Rc.y0 b + Pan.off p + Pan.high p ≤ (9223372036854775807 : Int)) (V.i (Rc.y0 b + Pan.off p + Pan.high p)), pv (57 : Nat) (V.agg [V.i (Rc.x0 b + Pan.off p), V.i (Rc.y0 b + Pan.off p), V.i (Rc.x0 b + Pan.off p + Pan.wide p), V.i (Rc.y0 b + Pan.off p + Pan.high p), V.b false]), pv (58 : Nat) (V.agg [V.i (Rc.x0 b + Pan.off p), V.i (Rc.y0 b + Pan.off p), V.i (Rc.x0 b + Pan.off p + Pan.wide p), V.i (Rc.y0 b + Pan.off p + Pan.high p), V.b false]), pw ((0 : Nat) + (5 : Nat) ≤ (5 : Nat)) (100004 : Nat) (Ob.box (95 : Nat) [V.i (Rc.x0 b + Pan.off p), V.i (Rc.y0 b + Pan.off p), V.i (Rc.x0 b + Pan.off p + Pan.wide p), V.i (Rc.y0 b + Pan.off p + Pan.high p), V.b false])] (by kernel_rfl) (by kernel_rfl) ⟨(by omega), (by omega), (by omega), True.intro⟩ ?_
  refine aops_nil ?_
  refine xt_n ?_
  refine hK _ ?_
  clear hK K
  refine aw_ret ?_
  refine ret_of_le (le_freezeBox (t := (95 : Nat)) (cs := [V.i (Rc.x0 b + Pan.off p), V.i (Rc.y0 b + Pan.off p), V.i (Rc.x0 b + Pan.off p + Pan.wide p), V.i (Rc.y0 b + Pan.off p + Pan.high p), V.b false]) 100004 (by kernel_rfl) (by kernel_rfl)) ?_
  rw [← hang_eq (b := b) (p := p) rfl rfl, show hangX b p = b.x0 + p.off by simp [hangX, c0, c2], show hangY b p = b.y0 + p.off by simp [hangY, c1, c3]]
  refine ret_pure (v' := V.agg [V.i (Rc.x0 b + Pan.off p), V.i (Rc.y0 b + Pan.off p), V.i (Rc.x0 b + Pan.off p + Pan.wide p), V.i (Rc.y0 b + Pan.off p + Pan.high p), V.b false]) (.inr rfl) (by kernel_rfl) (by kernel_rfl) (by kernel_rfl)
set_option maxRecDepth 100000 in
theorem rhang_ac (b : Rc) (p : Pan) (hb : b.bd 1073741824) (hp : p.szOk) (ho : -65536 ≤ p.off ∧ p.off ≤ 65536) : AC Tryd.prog 85 [.agg b.c, .agg p.c] (.agg (hangR b p).c) [] := by
  obtain ⟨⟨a1, a2⟩, ⟨a3, a4⟩, ⟨a5, a6⟩, a7, a8⟩ := hb
  obtain ⟨⟨s1, s2⟩, s3, s4⟩ := hp
  obtain ⟨o1, o2⟩ := ho
  refine ac_intro hTT hMX (fn := Tryd.f85) (N := _) ⟨Tryd.func85, rfl, Tryd.ntmps85, by kernel_rfl⟩ (by simp) fun C hC hF => ?_
  refine aw_seq_k fun K hK => ?_
  refine w_region (n' := 2) (by kernel_rfl) (by kernel_rfl) ?_
  refine aops_n hTT (M := []) (n := 3) [pv (2 : Nat) (V.ptr [V.i (Rc.x0 b), V.i (Rc.y0 b), V.i (Rc.x1 b), V.i (Rc.y1 b), V.b (Rc.down b)]), pv (3 : Nat) (V.ptr [V.i (Pan.on p), V.i (Pan.edge p), V.i (Pan.off p), V.i (Pan.wide p), V.i (Pan.high p)]), pn (4 : Nat) (V.ref (100004 : Nat) (0 : Nat)) (100004 : Nat) (Ob.box (52 : Nat) [V.i (0 : Int), V.i (0 : Int), V.i (0 : Int), V.i (0 : Int), V.b false])] (by kernel_rfl) (by kernel_rfl) True.intro ?_
  refine aops_nil ?_
  refine xt_n ?_
  refine hK _ ?_
  clear hK K
  refine aw_seq_k fun K hK => ?_
  refine w_regionD (n' := 3) (by kernel_rfl) (by kernel_rfl) ?_
  refine aops_n hTT (M := []) (n := 12) [pv (7 : Nat) (V.ptr [V.i (Rc.x0 b), V.i (Rc.y0 b), V.i (Rc.x1 b), V.i (Rc.y1 b), V.b (Rc.down b)]), pv (8 : Nat) (V.i (Rc.x0 b)), pv (9 : Nat) (V.ptr [V.i (Pan.off p), V.i (Pan.wide p), V.i (Pan.high p)]), pv (10 : Nat) (V.i (Pan.off p)), pc (11 : Nat) ((-9223372036854775808 : Int) ≤ Rc.x0 b + Pan.off p ∧ Rc.x0 b + Pan.off p ≤ (9223372036854775807 : Int)) (V.i (Rc.x0 b + Pan.off p)), pv (12 : Nat) (V.ptr [V.i (Rc.y0 b), V.i (Rc.x1 b), V.i (Rc.y1 b), V.b (Rc.down b)]), pv (13 : Nat) (V.i (Rc.y0 b)), pv (14 : Nat) (V.ptr [V.i (Pan.off p), V.i (Pan.wide p), V.i (Pan.high p)]), pv (15 : Nat) (V.i (Pan.off p)), pc (16 : Nat) ((-9223372036854775808 : Int) ≤ Rc.y0 b + Pan.off p ∧ Rc.y0 b + Pan.off p ≤ (9223372036854775807 : Int)) (V.i (Rc.y0 b + Pan.off p)), pv (5 : Nat) (V.i (Rc.x0 b + Pan.off p)), pv (6 : Nat) (V.i (Rc.y0 b + Pan.off p))] (by kernel_rfl) (by kernel_rfl) ⟨(by omega), (by omega), True.intro⟩ ?_
  refine aops_nil ⟨by kernel_rfl, ?_⟩
  refine xt_n ?_
  refine hK _ ?_
  clear hK K
  refine aw_seq_k fun K hK => ?_
  refine aw_seq_k fun K hK => ?_
  refine w_region (n' := 4) (by kernel_rfl) (by kernel_rfl) ?_
  refine aops_n hTT (M := []) (n := 2) [pv (17 : Nat) (V.ptr [V.i (Pan.edge p), V.i (Pan.off p), V.i (Pan.wide p), V.i (Pan.high p)]), pv (18 : Nat) (V.i (Pan.edge p))] (by kernel_rfl) (by kernel_rfl) True.intro ?_
  refine aops_nil ?_
  refine xt_n ?_
  refine hK _ ?_
  clear hK K
  refine aw_block ?_
  refine aw_seq_k fun K hK => ?_
  refine w_region (n' := 5) (by kernel_rfl) (by kernel_rfl) ?_
  refine aops_n hTT (M := []) (n := 2) [pv (20 : Nat) (V.b (decide (Pan.edge p = (0 : Int)))), pv (19 : Nat) (V.b (decide (Pan.edge p = (0 : Int))))] (by kernel_rfl) (by kernel_rfl) True.intro ?_
  refine aops_nil ?_
  refine xt_n ?_
  refine hK _ ?_
  clear hK K
  refine w_cond (t := decide (Pan.edge p = (0 : Int))) (by kernel_rfl) (fun c0 => ?_) (fun c0 => ?_)
  · simp at c0
    refine w_region (n' := 6) (by kernel_rfl) (by kernel_rfl) ?_
    refine aops_n hTT (M := []) (n := 3) [pv (21 : Nat) (V.ptr [V.i (Rc.x1 b), V.i (Rc.y1 b), V.b (Rc.down b)]), pv (22 : Nat) (V.i (Rc.x1 b)), pv (5 : Nat) (V.i (Rc.x1 b))] (by kernel_rfl) (by kernel_rfl) True.intro ?_
    refine aops_nil ?_
    refine xb_n ?_
    refine xt_n ?_
    refine hK _ ?_
    clear hK K
    refine aw_seq_k fun K hK => ?_
    refine w_region (n' := 7) (by kernel_rfl) (by kernel_rfl) ?_
    refine aops_n hTT (M := []) (n := 12) [pv (41 : Nat) (V.i (Rc.x1 b)), pv (42 : Nat) (V.i (Rc.y0 b + Pan.off p)), pv (43 : Nat) (V.i (Rc.x1 b)), pv (44 : Nat) (V.ptr [V.i (Pan.wide p), V.i (Pan.high p)]), pv (45 : Nat) (V.i (Pan.wide p)), pc (46 : Nat) ((-9223372036854775808 : Int) ≤ Rc.x1 b + Pan.wide p ∧ Rc.x1 b + Pan.wide p ≤ (9223372036854775807 : Int)) (V.i (Rc.x1 b + Pan.wide p)), pv (47 : Nat) (V.i (Rc.y0 b + Pan.off p)), pv (48 : Nat) (V.ptr [V.i (Pan.high p)]), pv (49 : Nat) (V.i (Pan.high p)), pc (50 : Nat) ((-9223372036854775808 : Int) ≤ Rc.y0 b + Pan.off p + Pan.high p ∧ Rc.y0 b + Pan.off p + Pan.high p ≤ (9223372036854775807 : Int)) (V.i (Rc.y0 b + Pan.off p + Pan.high p)), pv (51 : Nat) (V.agg [V.i (Rc.x1 b), V.i (Rc.y0 b + Pan.off p), V.i (Rc.x1 b + Pan.wide p), V.i (Rc.y0 b + Pan.off p + Pan.high p), V.b false]), pw ((0 : Nat) + (5 : Nat) ≤ (5 : Nat)) (100004 : Nat) (Ob.box (52 : Nat) [V.i (Rc.x1 b), V.i (Rc.y0 b + Pan.off p), V.i (Rc.x1 b + Pan.wide p), V.i (Rc.y0 b + Pan.off p + Pan.high p), V.b false])] (by kernel_rfl) (by kernel_rfl) ⟨(by omega), (by omega), (by omega), True.intro⟩ ?_
    refine aops_nil ?_
    refine xt_n ?_
    refine hK _ ?_
    clear hK K
    refine aw_ret ?_
    refine ret_of_le (le_freezeBox (t := (52 : Nat)) (cs := [V.i (Rc.x1 b), V.i (Rc.y0 b + Pan.off p), V.i (Rc.x1 b + Pan.wide p), V.i (Rc.y0 b + Pan.off p + Pan.high p), V.b false]) 100004 (by kernel_rfl) (by kernel_rfl)) ?_
    rw [← hang_eq (b := b) (p := p) rfl rfl, show hangX b p = b.x1 by simp [hangX, c0], show hangY b p = b.y0 + p.off by simp [hangY, c0]]
    refine ret_pure (v' := V.agg [V.i (Rc.x1 b), V.i (Rc.y0 b + Pan.off p), V.i (Rc.x1 b + Pan.wide p), V.i (Rc.y0 b + Pan.off p + Pan.high p), V.b false]) (.inr rfl) (by kernel_rfl) (by kernel_rfl) (by kernel_rfl)
  simp at c0
  refine aw_seq_k fun K hK => ?_
  refine w_region (n' := 6) (by kernel_rfl) (by kernel_rfl) ?_
  refine aops_n hTT (M := []) (n := 2) [pv (24 : Nat) (V.b (decide (Pan.edge p = (1 : Int)))), pv (23 : Nat) (V.b (decide (Pan.edge p = (1 : Int))))] (by kernel_rfl) (by kernel_rfl) True.intro ?_
  refine aops_nil ?_
  refine xt_n ?_
  refine hK _ ?_
  clear hK K
  refine w_cond (t := decide (Pan.edge p = (1 : Int))) (by kernel_rfl) (fun c1 => ?_) (fun c1 => ?_)
  · simp at c1
    refine w_region (n' := 7) (by kernel_rfl) (by kernel_rfl) ?_
    refine aops_n hTT (M := []) (n := 3) [pv (25 : Nat) (V.ptr [V.i (Rc.y1 b), V.b (Rc.down b)]), pv (26 : Nat) (V.i (Rc.y1 b)), pv (6 : Nat) (V.i (Rc.y1 b))] (by kernel_rfl) (by kernel_rfl) True.intro ?_
    refine aops_nil ?_
    refine xb_n ?_
    refine xt_n ?_
    refine hK _ ?_
    clear hK K
    refine aw_seq_k fun K hK => ?_
    refine w_region (n' := 8) (by kernel_rfl) (by kernel_rfl) ?_
    refine aops_n hTT (M := []) (n := 12) [pv (41 : Nat) (V.i (Rc.x0 b + Pan.off p)), pv (42 : Nat) (V.i (Rc.y1 b)), pv (43 : Nat) (V.i (Rc.x0 b + Pan.off p)), pv (44 : Nat) (V.ptr [V.i (Pan.wide p), V.i (Pan.high p)]), pv (45 : Nat) (V.i (Pan.wide p)), pc (46 : Nat) ((-9223372036854775808 : Int) ≤ Rc.x0 b + Pan.off p + Pan.wide p ∧ Rc.x0 b + Pan.off p + Pan.wide p ≤ (9223372036854775807 : Int)) (V.i (Rc.x0 b + Pan.off p + Pan.wide p)), pv (47 : Nat) (V.i (Rc.y1 b)), pv (48 : Nat) (V.ptr [V.i (Pan.high p)]), pv (49 : Nat) (V.i (Pan.high p)), pc (50 : Nat) ((-9223372036854775808 : Int) ≤ Rc.y1 b + Pan.high p ∧ Rc.y1 b + Pan.high p ≤ (9223372036854775807 : Int)) (V.i (Rc.y1 b + Pan.high p)), pv (51 : Nat) (V.agg [V.i (Rc.x0 b + Pan.off p), V.i (Rc.y1 b), V.i (Rc.x0 b + Pan.off p + Pan.wide p), V.i (Rc.y1 b + Pan.high p), V.b false]), pw ((0 : Nat) + (5 : Nat) ≤ (5 : Nat)) (100004 : Nat) (Ob.box (52 : Nat) [V.i (Rc.x0 b + Pan.off p), V.i (Rc.y1 b), V.i (Rc.x0 b + Pan.off p + Pan.wide p), V.i (Rc.y1 b + Pan.high p), V.b false])] (by kernel_rfl) (by kernel_rfl) ⟨(by omega), (by omega), (by omega), True.intro⟩ ?_
    refine aops_nil ?_
    refine xt_n ?_
    refine hK _ ?_
    clear hK K
    refine aw_ret ?_
    refine ret_of_le (le_freezeBox (t := (52 : Nat)) (cs := [V.i (Rc.x0 b + Pan.off p), V.i (Rc.y1 b), V.i (Rc.x0 b + Pan.off p + Pan.wide p), V.i (Rc.y1 b + Pan.high p), V.b false]) 100004 (by kernel_rfl) (by kernel_rfl)) ?_
    rw [← hang_eq (b := b) (p := p) rfl rfl, show hangX b p = b.x0 + p.off by simp [hangX, c1], show hangY b p = b.y1 by simp [hangY, c1]]
    refine ret_pure (v' := V.agg [V.i (Rc.x0 b + Pan.off p), V.i (Rc.y1 b), V.i (Rc.x0 b + Pan.off p + Pan.wide p), V.i (Rc.y1 b + Pan.high p), V.b false]) (.inr rfl) (by kernel_rfl) (by kernel_rfl) (by kernel_rfl)
  simp at c1
  refine aw_seq_k fun K hK => ?_
  refine w_region (n' := 7) (by kernel_rfl) (by kernel_rfl) ?_
  refine aops_n hTT (M := []) (n := 2) [pv (28 : Nat) (V.b (decide (Pan.edge p = (2 : Int)))), pv (27 : Nat) (V.b (decide (Pan.edge p = (2 : Int))))] (by kernel_rfl) (by kernel_rfl) True.intro ?_
  refine aops_nil ?_
  refine xt_n ?_
  refine hK _ ?_
  clear hK K
  refine w_cond (t := decide (Pan.edge p = (2 : Int))) (by kernel_rfl) (fun c2 => ?_) (fun c2 => ?_)
  · simp at c2
    refine w_region (n' := 8) (by kernel_rfl) (by kernel_rfl) ?_
    refine aops_n hTT (M := []) (n := 6) [pv (29 : Nat) (V.ptr [V.i (Rc.x0 b), V.i (Rc.y0 b), V.i (Rc.x1 b), V.i (Rc.y1 b), V.b (Rc.down b)]), pv (30 : Nat) (V.i (Rc.x0 b)), pv (31 : Nat) (V.ptr [V.i (Pan.wide p), V.i (Pan.high p)]), pv (32 : Nat) (V.i (Pan.wide p)), pc (33 : Nat) ((-9223372036854775808 : Int) ≤ Rc.x0 b - Pan.wide p ∧ Rc.x0 b - Pan.wide p ≤ (9223372036854775807 : Int)) (V.i (Rc.x0 b - Pan.wide p)), pv (5 : Nat) (V.i (Rc.x0 b - Pan.wide p))] (by kernel_rfl) (by kernel_rfl) ⟨(by omega), True.intro⟩ ?_
    refine aops_nil ?_
    refine xb_n ?_
    refine xt_n ?_
    refine hK _ ?_
    clear hK K
    refine aw_seq_k fun K hK => ?_
    refine w_region (n' := 9) (by kernel_rfl) (by kernel_rfl) ?_
    refine aops_n hTT (M := []) (n := 12) [pv (41 : Nat) (V.i (Rc.x0 b - Pan.wide p)), pv (42 : Nat) (V.i (Rc.y0 b + Pan.off p)), pv (43 : Nat) (V.i (Rc.x0 b - Pan.wide p)), pv (44 : Nat) (V.ptr [V.i (Pan.wide p), V.i (Pan.high p)]), pv (45 : Nat) (V.i (Pan.wide p)), pc (46 : Nat) ((-9223372036854775808 : Int) ≤ Rc.x0 b - Pan.wide p + Pan.wide p ∧ Rc.x0 b - Pan.wide p + Pan.wide p ≤ (9223372036854775807 : Int)) (V.i (Rc.x0 b - Pan.wide p + Pan.wide p)), pv (47 : Nat) (V.i (Rc.y0 b + Pan.off p)), pv (48 : Nat) (V.ptr [V.i (Pan.high p)]), pv (49 : Nat) (V.i (Pan.high p)), pc (50 : Nat) ((-9223372036854775808 : Int) ≤ Rc.y0 b + Pan.off p + Pan.high p ∧ Rc.y0 b + Pan.off p + Pan.high p ≤ (9223372036854775807 : Int)) (V.i (Rc.y0 b + Pan.off p + Pan.high p)), pv (51 : Nat) (V.agg [V.i (Rc.x0 b - Pan.wide p), V.i (Rc.y0 b + Pan.off p), V.i (Rc.x0 b - Pan.wide p + Pan.wide p), V.i (Rc.y0 b + Pan.off p + Pan.high p), V.b false]), pw ((0 : Nat) + (5 : Nat) ≤ (5 : Nat)) (100004 : Nat) (Ob.box (52 : Nat) [V.i (Rc.x0 b - Pan.wide p), V.i (Rc.y0 b + Pan.off p), V.i (Rc.x0 b - Pan.wide p + Pan.wide p), V.i (Rc.y0 b + Pan.off p + Pan.high p), V.b false])] (by kernel_rfl) (by kernel_rfl) ⟨(by omega), (by omega), (by omega), True.intro⟩ ?_
    refine aops_nil ?_
    refine xt_n ?_
    refine hK _ ?_
    clear hK K
    refine aw_ret ?_
    refine ret_of_le (le_freezeBox (t := (52 : Nat)) (cs := [V.i (Rc.x0 b - Pan.wide p), V.i (Rc.y0 b + Pan.off p), V.i (Rc.x0 b - Pan.wide p + Pan.wide p), V.i (Rc.y0 b + Pan.off p + Pan.high p), V.b false]) 100004 (by kernel_rfl) (by kernel_rfl)) ?_
    rw [← hang_eq (b := b) (p := p) rfl rfl, show hangX b p = b.x0 - p.wide by simp [hangX, c2], show hangY b p = b.y0 + p.off by simp [hangY, c2]]
    refine ret_pure (v' := V.agg [V.i (Rc.x0 b - Pan.wide p), V.i (Rc.y0 b + Pan.off p), V.i (Rc.x0 b - Pan.wide p + Pan.wide p), V.i (Rc.y0 b + Pan.off p + Pan.high p), V.b false]) (.inr rfl) (by kernel_rfl) (by kernel_rfl) (by kernel_rfl)
  simp at c2
  refine aw_seq_k fun K hK => ?_
  refine w_region (n' := 8) (by kernel_rfl) (by kernel_rfl) ?_
  refine aops_n hTT (M := []) (n := 2) [pv (35 : Nat) (V.b (decide (Pan.edge p = (3 : Int)))), pv (34 : Nat) (V.b (decide (Pan.edge p = (3 : Int))))] (by kernel_rfl) (by kernel_rfl) True.intro ?_
  refine aops_nil ?_
  refine xt_n ?_
  refine hK _ ?_
  clear hK K
  refine w_cond (t := decide (Pan.edge p = (3 : Int))) (by kernel_rfl) (fun c3 => ?_) (fun c3 => ?_)
  · simp at c3
    refine w_region (n' := 9) (by kernel_rfl) (by kernel_rfl) ?_
    refine aops_n hTT (M := []) (n := 6) [pv (36 : Nat) (V.ptr [V.i (Rc.y0 b), V.i (Rc.x1 b), V.i (Rc.y1 b), V.b (Rc.down b)]), pv (37 : Nat) (V.i (Rc.y0 b)), pv (38 : Nat) (V.ptr [V.i (Pan.high p)]), pv (39 : Nat) (V.i (Pan.high p)), pc (40 : Nat) ((-9223372036854775808 : Int) ≤ Rc.y0 b - Pan.high p ∧ Rc.y0 b - Pan.high p ≤ (9223372036854775807 : Int)) (V.i (Rc.y0 b - Pan.high p)), pv (6 : Nat) (V.i (Rc.y0 b - Pan.high p))] (by kernel_rfl) (by kernel_rfl) ⟨(by omega), True.intro⟩ ?_
    refine aops_nil ?_
    refine xb_n ?_
    refine xt_n ?_
    refine hK _ ?_
    clear hK K
    refine aw_seq_k fun K hK => ?_
    refine w_region (n' := 10) (by kernel_rfl) (by kernel_rfl) ?_
    refine aops_n hTT (M := []) (n := 12) [pv (41 : Nat) (V.i (Rc.x0 b + Pan.off p)), pv (42 : Nat) (V.i (Rc.y0 b - Pan.high p)), pv (43 : Nat) (V.i (Rc.x0 b + Pan.off p)), pv (44 : Nat) (V.ptr [V.i (Pan.wide p), V.i (Pan.high p)]), pv (45 : Nat) (V.i (Pan.wide p)), pc (46 : Nat) ((-9223372036854775808 : Int) ≤ Rc.x0 b + Pan.off p + Pan.wide p ∧ Rc.x0 b + Pan.off p + Pan.wide p ≤ (9223372036854775807 : Int)) (V.i (Rc.x0 b + Pan.off p + Pan.wide p)), pv (47 : Nat) (V.i (Rc.y0 b - Pan.high p)), pv (48 : Nat) (V.ptr [V.i (Pan.high p)]), pv (49 : Nat) (V.i (Pan.high p)), pc (50 : Nat) ((-9223372036854775808 : Int) ≤ Rc.y0 b - Pan.high p + Pan.high p ∧ Rc.y0 b - Pan.high p + Pan.high p ≤ (9223372036854775807 : Int)) (V.i (Rc.y0 b - Pan.high p + Pan.high p)), pv (51 : Nat) (V.agg [V.i (Rc.x0 b + Pan.off p), V.i (Rc.y0 b - Pan.high p), V.i (Rc.x0 b + Pan.off p + Pan.wide p), V.i (Rc.y0 b - Pan.high p + Pan.high p), V.b false]), pw ((0 : Nat) + (5 : Nat) ≤ (5 : Nat)) (100004 : Nat) (Ob.box (52 : Nat) [V.i (Rc.x0 b + Pan.off p), V.i (Rc.y0 b - Pan.high p), V.i (Rc.x0 b + Pan.off p + Pan.wide p), V.i (Rc.y0 b - Pan.high p + Pan.high p), V.b false])] (by kernel_rfl) (by kernel_rfl) ⟨(by omega), (by omega), (by omega), True.intro⟩ ?_
    refine aops_nil ?_
    refine xt_n ?_
    refine hK _ ?_
    clear hK K
    refine aw_ret ?_
    refine ret_of_le (le_freezeBox (t := (52 : Nat)) (cs := [V.i (Rc.x0 b + Pan.off p), V.i (Rc.y0 b - Pan.high p), V.i (Rc.x0 b + Pan.off p + Pan.wide p), V.i (Rc.y0 b - Pan.high p + Pan.high p), V.b false]) 100004 (by kernel_rfl) (by kernel_rfl)) ?_
    rw [← hang_eq (b := b) (p := p) rfl rfl, show hangX b p = b.x0 + p.off by simp [hangX, c3], show hangY b p = b.y0 - p.high by simp [hangY, c3]]
    refine ret_pure (v' := V.agg [V.i (Rc.x0 b + Pan.off p), V.i (Rc.y0 b - Pan.high p), V.i (Rc.x0 b + Pan.off p + Pan.wide p), V.i (Rc.y0 b - Pan.high p + Pan.high p), V.b false]) (.inr rfl) (by kernel_rfl) (by kernel_rfl) (by kernel_rfl)
  simp at c3
  refine aw_skip ?_
  refine xb_n ?_
  refine xt_n ?_
  refine hK _ ?_
  clear hK K
  refine aw_seq_k fun K hK => ?_
  refine w_region (n' := 9) (by kernel_rfl) (by kernel_rfl) ?_
  refine aops_n hTT (M := []) (n := 12) [pv (41 : Nat) (V.i (Rc.x0 b + Pan.off p)), pv (42 : Nat) (V.i (Rc.y0 b + Pan.off p)), pv (43 : Nat) (V.i (Rc.x0 b + Pan.off p)), pv (44 : Nat) (V.ptr [V.i (Pan.wide p), V.i (Pan.high p)]), pv (45 : Nat) (V.i (Pan.wide p)), pc (46 : Nat) ((-9223372036854775808 : Int) ≤ Rc.x0 b + Pan.off p + Pan.wide p ∧ Rc.x0 b + Pan.off p + Pan.wide p ≤ (9223372036854775807 : Int)) (V.i (Rc.x0 b + Pan.off p + Pan.wide p)), pv (47 : Nat) (V.i (Rc.y0 b + Pan.off p)), pv (48 : Nat) (V.ptr [V.i (Pan.high p)]), pv (49 : Nat) (V.i (Pan.high p)), pc (50 : Nat) ((-9223372036854775808 : Int) ≤ Rc.y0 b + Pan.off p + Pan.high p ∧ Rc.y0 b + Pan.off p + Pan.high p ≤ (9223372036854775807 : Int)) (V.i (Rc.y0 b + Pan.off p + Pan.high p)), pv (51 : Nat) (V.agg [V.i (Rc.x0 b + Pan.off p), V.i (Rc.y0 b + Pan.off p), V.i (Rc.x0 b + Pan.off p + Pan.wide p), V.i (Rc.y0 b + Pan.off p + Pan.high p), V.b false]), pw ((0 : Nat) + (5 : Nat) ≤ (5 : Nat)) (100004 : Nat) (Ob.box (52 : Nat) [V.i (Rc.x0 b + Pan.off p), V.i (Rc.y0 b + Pan.off p), V.i (Rc.x0 b + Pan.off p + Pan.wide p), V.i (Rc.y0 b + Pan.off p + Pan.high p), V.b false])] (by kernel_rfl) (by kernel_rfl) ⟨(by omega), (by omega), (by omega), True.intro⟩ ?_
  refine aops_nil ?_
  refine xt_n ?_
  refine hK _ ?_
  clear hK K
  refine aw_ret ?_
  refine ret_of_le (le_freezeBox (t := (52 : Nat)) (cs := [V.i (Rc.x0 b + Pan.off p), V.i (Rc.y0 b + Pan.off p), V.i (Rc.x0 b + Pan.off p + Pan.wide p), V.i (Rc.y0 b + Pan.off p + Pan.high p), V.b false]) 100004 (by kernel_rfl) (by kernel_rfl)) ?_
  rw [← hang_eq (b := b) (p := p) rfl rfl, show hangX b p = b.x0 + p.off by simp [hangX, c0, c2], show hangY b p = b.y0 + p.off by simp [hangY, c1, c3]]
  refine ret_pure (v' := V.agg [V.i (Rc.x0 b + Pan.off p), V.i (Rc.y0 b + Pan.off p), V.i (Rc.x0 b + Pan.off p + Pan.wide p), V.i (Rc.y0 b + Pan.off p + Pan.high p), V.b false]) (.inr rfl) (by kernel_rfl) (by kernel_rfl) (by kernel_rfl)
set_option maxRecDepth 100000 in
theorem flipX_ac (a : Rc) (x : Int) (ha : a.bd 1099511627776) (hx : -1099511627776 ≤ x ∧ x ≤ 1099511627776) : AC Tryd.prog 88 [.agg a.c, .i x] (.agg (flipXR a x).c) [] := by
  obtain ⟨⟨a1, a2⟩, ⟨a3, a4⟩, ⟨a5, a6⟩, a7, a8⟩ := ha
  obtain ⟨x1, x2⟩ := hx
  refine ac_intro hTT hMX (fn := Tryd.f88) (N := _) ⟨Tryd.func88, rfl, Tryd.ntmps88, by kernel_rfl⟩ (by simp) fun C hC hF => ?_
  refine aw_seq_k fun K hK => ?_
  refine w_region (n' := 2) (by kernel_rfl) (by kernel_rfl) ?_
  refine aops_n hTT (M := [2]) (n := 2) [pn (2 : Nat) (V.ref (100002 : Nat) (0 : Nat)) (100002 : Nat) (Ob.box (95 : Nat) [V.i (Rc.x0 a), V.i (Rc.y0 a), V.i (Rc.x1 a), V.i (Rc.y1 a), V.b (Rc.down a)]), pn (4 : Nat) (V.ref (100004 : Nat) (0 : Nat)) (100004 : Nat) (Ob.box (95 : Nat) [V.i (0 : Int), V.i (0 : Int), V.i (0 : Int), V.i (0 : Int), V.b false])] (by kernel_rfl) (by kernel_rfl) True.intro ?_
  refine aops_nil ?_
  refine xt_n ?_
  refine hK _ ?_
  clear hK K
  refine aw_seq_k fun K hK => ?_
  refine w_region (n' := 3) (by kernel_rfl) (by kernel_rfl) ?_
  refine aops_n hTT (M := [2]) (n := 18) [pv (5 : Nat) (V.i x), pc (6 : Nat) ((-9223372036854775808 : Int) ≤ (2 : Int) * x ∧ (2 : Int) * x ≤ (9223372036854775807 : Int)) (V.i ((2 : Int) * x)), pv (7 : Nat) (V.ref (100002 : Nat) (0 : Nat)), pv (8 : Nat) (V.ref (100002 : Nat) (2 : Nat)), pc (9 : Nat) ((2 : Nat) ≤ (5 : Nat)) (V.i (Rc.x1 a)), pc (10 : Nat) ((-9223372036854775808 : Int) ≤ (2 : Int) * x - Rc.x1 a ∧ (2 : Int) * x - Rc.x1 a ≤ (9223372036854775807 : Int)) (V.i ((2 : Int) * x - Rc.x1 a)), pv (11 : Nat) (V.i x), pc (12 : Nat) ((-9223372036854775808 : Int) ≤ (2 : Int) * x ∧ (2 : Int) * x ≤ (9223372036854775807 : Int)) (V.i ((2 : Int) * x)), pv (13 : Nat) (V.ref (100002 : Nat) (0 : Nat)), pv (14 : Nat) (V.ref (100002 : Nat) (0 : Nat)), pc (15 : Nat) ((0 : Nat) ≤ (5 : Nat)) (V.i (Rc.x0 a)), pc (16 : Nat) ((-9223372036854775808 : Int) ≤ (2 : Int) * x - Rc.x0 a ∧ (2 : Int) * x - Rc.x0 a ≤ (9223372036854775807 : Int)) (V.i ((2 : Int) * x - Rc.x0 a)), pv (17 : Nat) (V.ref (100002 : Nat) (0 : Nat)), pv (18 : Nat) (V.ref (100002 : Nat) (0 : Nat)), pw ((0 : Nat) + (1 : Nat) ≤ (5 : Nat)) (100002 : Nat) (Ob.box (95 : Nat) [V.i ((2 : Int) * x - Rc.x1 a), V.i (Rc.y0 a), V.i (Rc.x1 a), V.i (Rc.y1 a), V.b (Rc.down a)]), pv (19 : Nat) (V.ref (100002 : Nat) (0 : Nat)), pv (20 : Nat) (V.ref (100002 : Nat) (2 : Nat)), pw ((2 : Nat) + (1 : Nat) ≤ (5 : Nat)) (100002 : Nat) (Ob.box (95 : Nat) [V.i ((2 : Int) * x - Rc.x1 a), V.i (Rc.y0 a), V.i ((2 : Int) * x - Rc.x0 a), V.i (Rc.y1 a), V.b (Rc.down a)])] (by kernel_rfl) (by kernel_rfl) ⟨(by omega), (by omega), (by omega), (by omega), (by omega), (by omega), (by omega), (by omega), True.intro⟩ ?_
  refine aops_nil ?_
  refine xt_n ?_
  refine hK _ ?_
  clear hK K
  refine aw_seq_k fun K hK => ?_
  refine w_region (n' := 4) (by kernel_rfl) (by kernel_rfl) ?_
  refine aops_n hTT (M := [2]) (n := 2) [pc (21 : Nat) ((0 : Nat) ≤ (5 : Nat)) (V.agg [V.i ((2 : Int) * x - Rc.x1 a), V.i (Rc.y0 a), V.i ((2 : Int) * x - Rc.x0 a), V.i (Rc.y1 a), V.b (Rc.down a)]), pw ((0 : Nat) + (5 : Nat) ≤ (5 : Nat)) (100004 : Nat) (Ob.box (95 : Nat) [V.i ((2 : Int) * x - Rc.x1 a), V.i (Rc.y0 a), V.i ((2 : Int) * x - Rc.x0 a), V.i (Rc.y1 a), V.b (Rc.down a)])] (by kernel_rfl) (by kernel_rfl) ⟨(by omega), (by omega), True.intro⟩ ?_
  refine aops_nil ?_
  refine xt_n ?_
  refine hK _ ?_
  clear hK K
  refine aw_ret ?_
  refine ret_of_le (le_freezeBox (t := (95 : Nat)) (cs := [V.i ((2 : Int) * x - Rc.x1 a), V.i (Rc.y0 a), V.i ((2 : Int) * x - Rc.x0 a), V.i (Rc.y1 a), V.b (Rc.down a)]) 100004 (by kernel_rfl) (by kernel_rfl)) ?_
  refine ret_pure (v' := V.agg [V.i ((2 : Int) * x - Rc.x1 a), V.i (Rc.y0 a), V.i ((2 : Int) * x - Rc.x0 a), V.i (Rc.y1 a), V.b (Rc.down a)]) (.inr rfl) (by kernel_rfl) (by kernel_rfl) (by kernel_rfl)
set_option maxRecDepth 100000 in
theorem flipY_ac (a : Rc) (x : Int) (ha : a.bd 1099511627776) (hx : -1099511627776 ≤ x ∧ x ≤ 1099511627776) : AC Tryd.prog 89 [.agg a.c, .i x] (.agg (flipYR a x).c) [] := by
  obtain ⟨⟨a1, a2⟩, ⟨a3, a4⟩, ⟨a5, a6⟩, a7, a8⟩ := ha
  obtain ⟨x1, x2⟩ := hx
  refine ac_intro hTT hMX (fn := Tryd.f89) (N := _) ⟨Tryd.func89, rfl, Tryd.ntmps89, by kernel_rfl⟩ (by simp) fun C hC hF => ?_
  refine aw_seq_k fun K hK => ?_
  refine w_region (n' := 2) (by kernel_rfl) (by kernel_rfl) ?_
  refine aops_n hTT (M := [2]) (n := 2) [pn (2 : Nat) (V.ref (100002 : Nat) (0 : Nat)) (100002 : Nat) (Ob.box (95 : Nat) [V.i (Rc.x0 a), V.i (Rc.y0 a), V.i (Rc.x1 a), V.i (Rc.y1 a), V.b (Rc.down a)]), pn (4 : Nat) (V.ref (100004 : Nat) (0 : Nat)) (100004 : Nat) (Ob.box (95 : Nat) [V.i (0 : Int), V.i (0 : Int), V.i (0 : Int), V.i (0 : Int), V.b false])] (by kernel_rfl) (by kernel_rfl) True.intro ?_
  refine aops_nil ?_
  refine xt_n ?_
  refine hK _ ?_
  clear hK K
  refine aw_seq_k fun K hK => ?_
  refine w_region (n' := 3) (by kernel_rfl) (by kernel_rfl) ?_
  refine aops_n hTT (M := [2]) (n := 18) [pv (5 : Nat) (V.i x), pc (6 : Nat) ((-9223372036854775808 : Int) ≤ (2 : Int) * x ∧ (2 : Int) * x ≤ (9223372036854775807 : Int)) (V.i ((2 : Int) * x)), pv (7 : Nat) (V.ref (100002 : Nat) (0 : Nat)), pv (8 : Nat) (V.ref (100002 : Nat) (3 : Nat)), pc (9 : Nat) ((3 : Nat) ≤ (5 : Nat)) (V.i (Rc.y1 a)), pc (10 : Nat) ((-9223372036854775808 : Int) ≤ (2 : Int) * x - Rc.y1 a ∧ (2 : Int) * x - Rc.y1 a ≤ (9223372036854775807 : Int)) (V.i ((2 : Int) * x - Rc.y1 a)), pv (11 : Nat) (V.i x), pc (12 : Nat) ((-9223372036854775808 : Int) ≤ (2 : Int) * x ∧ (2 : Int) * x ≤ (9223372036854775807 : Int)) (V.i ((2 : Int) * x)), pv (13 : Nat) (V.ref (100002 : Nat) (0 : Nat)), pv (14 : Nat) (V.ref (100002 : Nat) (1 : Nat)), pc (15 : Nat) ((1 : Nat) ≤ (5 : Nat)) (V.i (Rc.y0 a)), pc (16 : Nat) ((-9223372036854775808 : Int) ≤ (2 : Int) * x - Rc.y0 a ∧ (2 : Int) * x - Rc.y0 a ≤ (9223372036854775807 : Int)) (V.i ((2 : Int) * x - Rc.y0 a)), pv (17 : Nat) (V.ref (100002 : Nat) (0 : Nat)), pv (18 : Nat) (V.ref (100002 : Nat) (1 : Nat)), pw ((1 : Nat) + (1 : Nat) ≤ (5 : Nat)) (100002 : Nat) (Ob.box (95 : Nat) [V.i (Rc.x0 a), V.i ((2 : Int) * x - Rc.y1 a), V.i (Rc.x1 a), V.i (Rc.y1 a), V.b (Rc.down a)]), pv (19 : Nat) (V.ref (100002 : Nat) (0 : Nat)), pv (20 : Nat) (V.ref (100002 : Nat) (3 : Nat)), pw ((3 : Nat) + (1 : Nat) ≤ (5 : Nat)) (100002 : Nat) (Ob.box (95 : Nat) [V.i (Rc.x0 a), V.i ((2 : Int) * x - Rc.y1 a), V.i (Rc.x1 a), V.i ((2 : Int) * x - Rc.y0 a), V.b (Rc.down a)])] (by kernel_rfl) (by kernel_rfl) ⟨(by omega), (by omega), (by omega), (by omega), (by omega), (by omega), (by omega), (by omega), True.intro⟩ ?_
  refine aops_nil ?_
  refine xt_n ?_
  refine hK _ ?_
  clear hK K
  refine aw_seq_k fun K hK => ?_
  refine w_region (n' := 4) (by kernel_rfl) (by kernel_rfl) ?_
  refine aops_n hTT (M := [2]) (n := 2) [pc (21 : Nat) ((0 : Nat) ≤ (5 : Nat)) (V.agg [V.i (Rc.x0 a), V.i ((2 : Int) * x - Rc.y1 a), V.i (Rc.x1 a), V.i ((2 : Int) * x - Rc.y0 a), V.b (Rc.down a)]), pw ((0 : Nat) + (5 : Nat) ≤ (5 : Nat)) (100004 : Nat) (Ob.box (95 : Nat) [V.i (Rc.x0 a), V.i ((2 : Int) * x - Rc.y1 a), V.i (Rc.x1 a), V.i ((2 : Int) * x - Rc.y0 a), V.b (Rc.down a)])] (by kernel_rfl) (by kernel_rfl) ⟨(by omega), (by omega), True.intro⟩ ?_
  refine aops_nil ?_
  refine xt_n ?_
  refine hK _ ?_
  clear hK K
  refine aw_ret ?_
  refine ret_of_le (le_freezeBox (t := (95 : Nat)) (cs := [V.i (Rc.x0 a), V.i ((2 : Int) * x - Rc.y1 a), V.i (Rc.x1 a), V.i ((2 : Int) * x - Rc.y0 a), V.b (Rc.down a)]) 100004 (by kernel_rfl) (by kernel_rfl)) ?_
  refine ret_pure (v' := V.agg [V.i (Rc.x0 a), V.i ((2 : Int) * x - Rc.y1 a), V.i (Rc.x1 a), V.i ((2 : Int) * x - Rc.y0 a), V.b (Rc.down a)]) (.inr rfl) (by kernel_rfl) (by kernel_rfl) (by kernel_rfl)
set_option maxRecDepth 100000 in
theorem over_ac (a b : Rc) (e : Int) (ha : a.bd 1099511627776) (hb : b.bd 1099511627776) : AC Tryd.prog 81 [.agg a.c, .agg b.c, .i e] (.agg (mirR a b e).c) [] := by
  have hb' := hb
  obtain ⟨⟨b1, b2⟩, ⟨b3, b4⟩, ⟨b5, b6⟩, b7, b8⟩ := hb'
  refine ac_intro hTT hMX (fn := Tryd.f81) (N := _) ⟨Tryd.func81, rfl, Tryd.ntmps81, by kernel_rfl⟩ (by simp) fun C hC hF => ?_
  refine aw_seq_k fun K hK => ?_
  refine w_region (n' := 2) (by kernel_rfl) (by kernel_rfl) ?_
  refine aops_n hTT (M := []) (n := 3) [pv (3 : Nat) (V.ptr [V.i (Rc.x0 a), V.i (Rc.y0 a), V.i (Rc.x1 a), V.i (Rc.y1 a), V.b (Rc.down a)]), pv (4 : Nat) (V.ptr [V.i (Rc.x0 b), V.i (Rc.y0 b), V.i (Rc.x1 b), V.i (Rc.y1 b), V.b (Rc.down b)]), pn (6 : Nat) (V.ref (100006 : Nat) (0 : Nat)) (100006 : Nat) (Ob.box (95 : Nat) [V.i (0 : Int), V.i (0 : Int), V.i (0 : Int), V.i (0 : Int), V.b false])] (by kernel_rfl) (by kernel_rfl) True.intro ?_
  refine aops_nil ?_
  refine xt_n ?_
  refine hK _ ?_
  clear hK K
  refine aw_seq_k fun K hK => ?_
  refine w_regionD (n' := 3) (by kernel_rfl) (by kernel_rfl) ?_
  refine aops_n hTT (M := []) (n := 7) [pv (10 : Nat) (V.agg [V.i (Rc.x0 a), V.i (Rc.y0 a), V.i (Rc.x1 a), V.i (Rc.y1 a), V.b (Rc.down a)]), pv (11 : Nat) (V.fn (Fn.func (88 : Nat)) [V.agg [V.i (Rc.x0 a), V.i (Rc.y0 a), V.i (Rc.x1 a), V.i (Rc.y1 a), V.b (Rc.down a)]] []), pv (12 : Nat) (V.ptr [V.i (Rc.x0 b), V.i (Rc.y0 b), V.i (Rc.x1 b), V.i (Rc.y1 b), V.b (Rc.down b)]), pv (13 : Nat) (V.ptr [V.i (Rc.x1 b), V.i (Rc.y1 b), V.b (Rc.down b)]), pv (14 : Nat) (V.i (Rc.x1 b)), pv (7 : Nat) (V.fn (Fn.func (88 : Nat)) [V.agg [V.i (Rc.x0 a), V.i (Rc.y0 a), V.i (Rc.x1 a), V.i (Rc.y1 a), V.b (Rc.down a)]] []), pv (8 : Nat) (V.i (Rc.x1 b))] (by kernel_rfl) (by kernel_rfl) True.intro ?_
  refine aops_nil ⟨by kernel_rfl, ?_⟩
  refine xt_n ?_
  refine hK _ ?_
  clear hK K
  refine aw_seq_k fun K hK => ?_
  refine aw_seq_k fun K hK => ?_
  refine w_region (n' := 4) (by kernel_rfl) (by kernel_rfl) ?_
  refine aops_n hTT (M := []) (n := 1) [pv (15 : Nat) (V.i e)] (by kernel_rfl) (by kernel_rfl) True.intro ?_
  refine aops_nil ?_
  refine xt_n ?_
  refine hK _ ?_
  clear hK K
  refine aw_block ?_
  refine aw_seq_k fun K hK => ?_
  refine w_region (n' := 5) (by kernel_rfl) (by kernel_rfl) ?_
  refine aops_n hTT (M := []) (n := 2) [pv (17 : Nat) (V.b (decide (e = (1 : Int)))), pv (16 : Nat) (V.b (decide (e = (1 : Int))))] (by kernel_rfl) (by kernel_rfl) True.intro ?_
  refine aops_nil ?_
  refine xt_n ?_
  refine hK _ ?_
  clear hK K
  refine w_cond (t := decide (e = (1 : Int))) (by kernel_rfl) (fun c1 => ?_) (fun c1 => ?_)
  · simp at c1
    refine w_regionD (n' := 6) (by kernel_rfl) (by kernel_rfl) ?_
    refine aops_n hTT (M := []) (n := 7) [pv (18 : Nat) (V.agg [V.i (Rc.x0 a), V.i (Rc.y0 a), V.i (Rc.x1 a), V.i (Rc.y1 a), V.b (Rc.down a)]), pv (19 : Nat) (V.fn (Fn.func (89 : Nat)) [V.agg [V.i (Rc.x0 a), V.i (Rc.y0 a), V.i (Rc.x1 a), V.i (Rc.y1 a), V.b (Rc.down a)]] []), pv (20 : Nat) (V.ptr [V.i (Rc.x0 b), V.i (Rc.y0 b), V.i (Rc.x1 b), V.i (Rc.y1 b), V.b (Rc.down b)]), pv (21 : Nat) (V.ptr [V.i (Rc.y1 b), V.b (Rc.down b)]), pv (22 : Nat) (V.i (Rc.y1 b)), pv (7 : Nat) (V.fn (Fn.func (89 : Nat)) [V.agg [V.i (Rc.x0 a), V.i (Rc.y0 a), V.i (Rc.x1 a), V.i (Rc.y1 a), V.b (Rc.down a)]] []), pv (8 : Nat) (V.i (Rc.y1 b))] (by kernel_rfl) (by kernel_rfl) True.intro ?_
    refine aops_nil ⟨by kernel_rfl, ?_⟩
    refine xb_n ?_
    refine xt_n ?_
    refine hK _ ?_
    clear hK K
    refine aw_seq_k fun K hK => ?_
    refine w_region (n' := 7) (by kernel_rfl) (by kernel_rfl) ?_
    refine aops_n hTT (M := []) (n := 2) [pv (35 : Nat) (V.fn (Fn.func (89 : Nat)) [V.agg [V.i (Rc.x0 a), V.i (Rc.y0 a), V.i (Rc.x1 a), V.i (Rc.y1 a), V.b (Rc.down a)]] []), pv (36 : Nat) (V.i (Rc.y1 b))] (by kernel_rfl) (by kernel_rfl) True.intro ?_
    refine e_call (first := [V.agg [V.i (Rc.x0 a), V.i (Rc.y0 a), V.i (Rc.x1 a), V.i (Rc.y1 a), V.b (Rc.down a)]]) (caps := []) (flipY_ac a b.y1 ha ⟨b7, b8⟩) (by kernel_rfl) (by kernel_rfl) (by kernel_rfl) (by kernel_rfl) (by kernel_rfl) ?_
    refine aops_n hTT (M := []) (n := 2) [pn (9 : Nat) (V.ref (600009 : Nat) (0 : Nat)) (600009 : Nat) (Ob.box (95 : Nat) [V.i (0 : Int), V.i (0 : Int), V.i (0 : Int), V.i (0 : Int), V.b false]), pw ((0 : Nat) + (5 : Nat) ≤ (5 : Nat)) (600009 : Nat) (Ob.box (95 : Nat) [V.i (Rc.x0 (flipYR a (Rc.y1 b))), V.i (Rc.y0 (flipYR a (Rc.y1 b))), V.i (Rc.x1 (flipYR a (Rc.y1 b))), V.i (Rc.y1 (flipYR a (Rc.y1 b))), V.b (Rc.down (flipYR a (Rc.y1 b)))])] (by kernel_rfl) (by kernel_rfl) ⟨(by omega), True.intro⟩ ?_
    refine aops_nil ?_
    refine xt_n ?_
    refine hK _ ?_
    clear hK K
    refine aw_seq_k fun K hK => ?_
    refine w_region (n' := 8) (by kernel_rfl) (by kernel_rfl) ?_
    refine aops_n hTT (M := []) (n := 7) [pv (38 : Nat) (V.ptr [V.i (Rc.x0 a), V.i (Rc.y0 a), V.i (Rc.x1 a), V.i (Rc.y1 a), V.b (Rc.down a)]), pv (39 : Nat) (V.ptr [V.b (Rc.down a)]), pv (40 : Nat) (V.b (Rc.down a)), pv (41 : Nat) (V.b !Rc.down a), pv (42 : Nat) (V.ref (600009 : Nat) (0 : Nat)), pv (43 : Nat) (V.ref (600009 : Nat) (4 : Nat)), pw ((4 : Nat) + (1 : Nat) ≤ (5 : Nat)) (600009 : Nat) (Ob.box (95 : Nat) [V.i (Rc.x0 (flipYR a (Rc.y1 b))), V.i (Rc.y0 (flipYR a (Rc.y1 b))), V.i (Rc.x1 (flipYR a (Rc.y1 b))), V.i (Rc.y1 (flipYR a (Rc.y1 b))), V.b !Rc.down a])] (by kernel_rfl) (by kernel_rfl) ⟨(by omega), True.intro⟩ ?_
    refine aops_nil ?_
    refine xt_n ?_
    refine hK _ ?_
    clear hK K
    refine aw_seq_k fun K hK => ?_
    refine w_region (n' := 9) (by kernel_rfl) (by kernel_rfl) ?_
    refine aops_n hTT (M := []) (n := 2) [pc (44 : Nat) ((0 : Nat) ≤ (5 : Nat)) (V.agg [V.i (Rc.x0 (flipYR a (Rc.y1 b))), V.i (Rc.y0 (flipYR a (Rc.y1 b))), V.i (Rc.x1 (flipYR a (Rc.y1 b))), V.i (Rc.y1 (flipYR a (Rc.y1 b))), V.b !Rc.down a]), pw ((0 : Nat) + (5 : Nat) ≤ (5 : Nat)) (100006 : Nat) (Ob.box (95 : Nat) [V.i (Rc.x0 (flipYR a (Rc.y1 b))), V.i (Rc.y0 (flipYR a (Rc.y1 b))), V.i (Rc.x1 (flipYR a (Rc.y1 b))), V.i (Rc.y1 (flipYR a (Rc.y1 b))), V.b !Rc.down a])] (by kernel_rfl) (by kernel_rfl) ⟨(by omega), (by omega), True.intro⟩ ?_
    refine aops_nil ?_
    refine xt_n ?_
    refine hK _ ?_
    clear hK K
    refine aw_ret ?_
    refine ret_of_le (le_freezeBox (t := (95 : Nat)) (cs := [V.i (Rc.x0 (flipYR a (Rc.y1 b))), V.i (Rc.y0 (flipYR a (Rc.y1 b))), V.i (Rc.x1 (flipYR a (Rc.y1 b))), V.i (Rc.y1 (flipYR a (Rc.y1 b))), V.b !Rc.down a]) 100006 (by kernel_rfl) (by kernel_rfl)) ?_
    rw [show mirR a b e = ⟨a.x0, 2 * b.y1 - a.y1, a.x1, 2 * b.y1 - a.y0, !a.down⟩ by simp [mirR, c1]]
    refine ret_pure (v' := V.agg [V.i (Rc.x0 (flipYR a (Rc.y1 b))), V.i (Rc.y0 (flipYR a (Rc.y1 b))), V.i (Rc.x1 (flipYR a (Rc.y1 b))), V.i (Rc.y1 (flipYR a (Rc.y1 b))), V.b !Rc.down a]) (.inr rfl) (by kernel_rfl) (by kernel_rfl) (by kernel_rfl)
  simp at c1
  refine aw_seq_k fun K hK => ?_
  refine w_region (n' := 6) (by kernel_rfl) (by kernel_rfl) ?_
  refine aops_n hTT (M := []) (n := 2) [pv (24 : Nat) (V.b (decide (e = (2 : Int)))), pv (23 : Nat) (V.b (decide (e = (2 : Int))))] (by kernel_rfl) (by kernel_rfl) True.intro ?_
  refine aops_nil ?_
  refine xt_n ?_
  refine hK _ ?_
  clear hK K
  refine w_cond (t := decide (e = (2 : Int))) (by kernel_rfl) (fun c2 => ?_) (fun c2 => ?_)
  · simp at c2
    refine w_region (n' := 7) (by kernel_rfl) (by kernel_rfl) ?_
    refine aops_n hTT (M := []) (n := 4) [pv (25 : Nat) (V.ptr [V.i (Rc.x0 b), V.i (Rc.y0 b), V.i (Rc.x1 b), V.i (Rc.y1 b), V.b (Rc.down b)]), pv (26 : Nat) (V.ptr [V.i (Rc.x0 b), V.i (Rc.y0 b), V.i (Rc.x1 b), V.i (Rc.y1 b), V.b (Rc.down b)]), pv (27 : Nat) (V.i (Rc.x0 b)), pv (8 : Nat) (V.i (Rc.x0 b))] (by kernel_rfl) (by kernel_rfl) True.intro ?_
    refine aops_nil ?_
    refine xb_n ?_
    refine xt_n ?_
    refine hK _ ?_
    clear hK K
    refine aw_seq_k fun K hK => ?_
    refine w_region (n' := 8) (by kernel_rfl) (by kernel_rfl) ?_
    refine aops_n hTT (M := []) (n := 2) [pv (35 : Nat) (V.fn (Fn.func (88 : Nat)) [V.agg [V.i (Rc.x0 a), V.i (Rc.y0 a), V.i (Rc.x1 a), V.i (Rc.y1 a), V.b (Rc.down a)]] []), pv (36 : Nat) (V.i (Rc.x0 b))] (by kernel_rfl) (by kernel_rfl) True.intro ?_
    refine e_call (first := [V.agg [V.i (Rc.x0 a), V.i (Rc.y0 a), V.i (Rc.x1 a), V.i (Rc.y1 a), V.b (Rc.down a)]]) (caps := []) (flipX_ac a b.x0 ha ⟨b1, b2⟩) (by kernel_rfl) (by kernel_rfl) (by kernel_rfl) (by kernel_rfl) (by kernel_rfl) ?_
    refine aops_n hTT (M := []) (n := 2) [pn (9 : Nat) (V.ref (700009 : Nat) (0 : Nat)) (700009 : Nat) (Ob.box (95 : Nat) [V.i (0 : Int), V.i (0 : Int), V.i (0 : Int), V.i (0 : Int), V.b false]), pw ((0 : Nat) + (5 : Nat) ≤ (5 : Nat)) (700009 : Nat) (Ob.box (95 : Nat) [V.i (Rc.x0 (flipXR a (Rc.x0 b))), V.i (Rc.y0 (flipXR a (Rc.x0 b))), V.i (Rc.x1 (flipXR a (Rc.x0 b))), V.i (Rc.y1 (flipXR a (Rc.x0 b))), V.b (Rc.down (flipXR a (Rc.x0 b)))])] (by kernel_rfl) (by kernel_rfl) ⟨(by omega), True.intro⟩ ?_
    refine aops_nil ?_
    refine xt_n ?_
    refine hK _ ?_
    clear hK K
    refine aw_seq_k fun K hK => ?_
    refine w_region (n' := 9) (by kernel_rfl) (by kernel_rfl) ?_
    refine aops_n hTT (M := []) (n := 7) [pv (38 : Nat) (V.ptr [V.i (Rc.x0 a), V.i (Rc.y0 a), V.i (Rc.x1 a), V.i (Rc.y1 a), V.b (Rc.down a)]), pv (39 : Nat) (V.ptr [V.b (Rc.down a)]), pv (40 : Nat) (V.b (Rc.down a)), pv (41 : Nat) (V.b !Rc.down a), pv (42 : Nat) (V.ref (700009 : Nat) (0 : Nat)), pv (43 : Nat) (V.ref (700009 : Nat) (4 : Nat)), pw ((4 : Nat) + (1 : Nat) ≤ (5 : Nat)) (700009 : Nat) (Ob.box (95 : Nat) [V.i (Rc.x0 (flipXR a (Rc.x0 b))), V.i (Rc.y0 (flipXR a (Rc.x0 b))), V.i (Rc.x1 (flipXR a (Rc.x0 b))), V.i (Rc.y1 (flipXR a (Rc.x0 b))), V.b !Rc.down a])] (by kernel_rfl) (by kernel_rfl) ⟨(by omega), True.intro⟩ ?_
    refine aops_nil ?_
    refine xt_n ?_
    refine hK _ ?_
    clear hK K
    refine aw_seq_k fun K hK => ?_
    refine w_region (n' := 10) (by kernel_rfl) (by kernel_rfl) ?_
    refine aops_n hTT (M := []) (n := 2) [pc (44 : Nat) ((0 : Nat) ≤ (5 : Nat)) (V.agg [V.i (Rc.x0 (flipXR a (Rc.x0 b))), V.i (Rc.y0 (flipXR a (Rc.x0 b))), V.i (Rc.x1 (flipXR a (Rc.x0 b))), V.i (Rc.y1 (flipXR a (Rc.x0 b))), V.b !Rc.down a]), pw ((0 : Nat) + (5 : Nat) ≤ (5 : Nat)) (100006 : Nat) (Ob.box (95 : Nat) [V.i (Rc.x0 (flipXR a (Rc.x0 b))), V.i (Rc.y0 (flipXR a (Rc.x0 b))), V.i (Rc.x1 (flipXR a (Rc.x0 b))), V.i (Rc.y1 (flipXR a (Rc.x0 b))), V.b !Rc.down a])] (by kernel_rfl) (by kernel_rfl) ⟨(by omega), (by omega), True.intro⟩ ?_
    refine aops_nil ?_
    refine xt_n ?_
    refine hK _ ?_
    clear hK K
    refine aw_ret ?_
    refine ret_of_le (le_freezeBox (t := (95 : Nat)) (cs := [V.i (Rc.x0 (flipXR a (Rc.x0 b))), V.i (Rc.y0 (flipXR a (Rc.x0 b))), V.i (Rc.x1 (flipXR a (Rc.x0 b))), V.i (Rc.y1 (flipXR a (Rc.x0 b))), V.b !Rc.down a]) 100006 (by kernel_rfl) (by kernel_rfl)) ?_
    rw [show mirR a b e = ⟨2 * b.x0 - a.x1, a.y0, 2 * b.x0 - a.x0, a.y1, !a.down⟩ by simp [mirR, c2]]
    refine ret_pure (v' := V.agg [V.i (Rc.x0 (flipXR a (Rc.x0 b))), V.i (Rc.y0 (flipXR a (Rc.x0 b))), V.i (Rc.x1 (flipXR a (Rc.x0 b))), V.i (Rc.y1 (flipXR a (Rc.x0 b))), V.b !Rc.down a]) (.inr rfl) (by kernel_rfl) (by kernel_rfl) (by kernel_rfl)
  simp at c2
  refine aw_seq_k fun K hK => ?_
  refine w_region (n' := 7) (by kernel_rfl) (by kernel_rfl) ?_
  refine aops_n hTT (M := []) (n := 2) [pv (29 : Nat) (V.b (decide (e = (3 : Int)))), pv (28 : Nat) (V.b (decide (e = (3 : Int))))] (by kernel_rfl) (by kernel_rfl) True.intro ?_
  refine aops_nil ?_
  refine xt_n ?_
  refine hK _ ?_
  clear hK K
  refine w_cond (t := decide (e = (3 : Int))) (by kernel_rfl) (fun c3 => ?_) (fun c3 => ?_)
  · simp at c3
    refine w_regionD (n' := 8) (by kernel_rfl) (by kernel_rfl) ?_
    refine aops_n hTT (M := []) (n := 7) [pv (30 : Nat) (V.agg [V.i (Rc.x0 a), V.i (Rc.y0 a), V.i (Rc.x1 a), V.i (Rc.y1 a), V.b (Rc.down a)]), pv (31 : Nat) (V.fn (Fn.func (89 : Nat)) [V.agg [V.i (Rc.x0 a), V.i (Rc.y0 a), V.i (Rc.x1 a), V.i (Rc.y1 a), V.b (Rc.down a)]] []), pv (32 : Nat) (V.ptr [V.i (Rc.x0 b), V.i (Rc.y0 b), V.i (Rc.x1 b), V.i (Rc.y1 b), V.b (Rc.down b)]), pv (33 : Nat) (V.ptr [V.i (Rc.y0 b), V.i (Rc.x1 b), V.i (Rc.y1 b), V.b (Rc.down b)]), pv (34 : Nat) (V.i (Rc.y0 b)), pv (7 : Nat) (V.fn (Fn.func (89 : Nat)) [V.agg [V.i (Rc.x0 a), V.i (Rc.y0 a), V.i (Rc.x1 a), V.i (Rc.y1 a), V.b (Rc.down a)]] []), pv (8 : Nat) (V.i (Rc.y0 b))] (by kernel_rfl) (by kernel_rfl) True.intro ?_
    refine aops_nil ⟨by kernel_rfl, ?_⟩
    refine xb_n ?_
    refine xt_n ?_
    refine hK _ ?_
    clear hK K
    refine aw_seq_k fun K hK => ?_
    refine w_region (n' := 9) (by kernel_rfl) (by kernel_rfl) ?_
    refine aops_n hTT (M := []) (n := 2) [pv (35 : Nat) (V.fn (Fn.func (89 : Nat)) [V.agg [V.i (Rc.x0 a), V.i (Rc.y0 a), V.i (Rc.x1 a), V.i (Rc.y1 a), V.b (Rc.down a)]] []), pv (36 : Nat) (V.i (Rc.y0 b))] (by kernel_rfl) (by kernel_rfl) True.intro ?_
    refine e_call (first := [V.agg [V.i (Rc.x0 a), V.i (Rc.y0 a), V.i (Rc.x1 a), V.i (Rc.y1 a), V.b (Rc.down a)]]) (caps := []) (flipY_ac a b.y0 ha ⟨b3, b4⟩) (by kernel_rfl) (by kernel_rfl) (by kernel_rfl) (by kernel_rfl) (by kernel_rfl) ?_
    refine aops_n hTT (M := []) (n := 2) [pn (9 : Nat) (V.ref (800009 : Nat) (0 : Nat)) (800009 : Nat) (Ob.box (95 : Nat) [V.i (0 : Int), V.i (0 : Int), V.i (0 : Int), V.i (0 : Int), V.b false]), pw ((0 : Nat) + (5 : Nat) ≤ (5 : Nat)) (800009 : Nat) (Ob.box (95 : Nat) [V.i (Rc.x0 (flipYR a (Rc.y0 b))), V.i (Rc.y0 (flipYR a (Rc.y0 b))), V.i (Rc.x1 (flipYR a (Rc.y0 b))), V.i (Rc.y1 (flipYR a (Rc.y0 b))), V.b (Rc.down (flipYR a (Rc.y0 b)))])] (by kernel_rfl) (by kernel_rfl) ⟨(by omega), True.intro⟩ ?_
    refine aops_nil ?_
    refine xt_n ?_
    refine hK _ ?_
    clear hK K
    refine aw_seq_k fun K hK => ?_
    refine w_region (n' := 10) (by kernel_rfl) (by kernel_rfl) ?_
    refine aops_n hTT (M := []) (n := 7) [pv (38 : Nat) (V.ptr [V.i (Rc.x0 a), V.i (Rc.y0 a), V.i (Rc.x1 a), V.i (Rc.y1 a), V.b (Rc.down a)]), pv (39 : Nat) (V.ptr [V.b (Rc.down a)]), pv (40 : Nat) (V.b (Rc.down a)), pv (41 : Nat) (V.b !Rc.down a), pv (42 : Nat) (V.ref (800009 : Nat) (0 : Nat)), pv (43 : Nat) (V.ref (800009 : Nat) (4 : Nat)), pw ((4 : Nat) + (1 : Nat) ≤ (5 : Nat)) (800009 : Nat) (Ob.box (95 : Nat) [V.i (Rc.x0 (flipYR a (Rc.y0 b))), V.i (Rc.y0 (flipYR a (Rc.y0 b))), V.i (Rc.x1 (flipYR a (Rc.y0 b))), V.i (Rc.y1 (flipYR a (Rc.y0 b))), V.b !Rc.down a])] (by kernel_rfl) (by kernel_rfl) ⟨(by omega), True.intro⟩ ?_
    refine aops_nil ?_
    refine xt_n ?_
    refine hK _ ?_
    clear hK K
    refine aw_seq_k fun K hK => ?_
    refine w_region (n' := 11) (by kernel_rfl) (by kernel_rfl) ?_
    refine aops_n hTT (M := []) (n := 2) [pc (44 : Nat) ((0 : Nat) ≤ (5 : Nat)) (V.agg [V.i (Rc.x0 (flipYR a (Rc.y0 b))), V.i (Rc.y0 (flipYR a (Rc.y0 b))), V.i (Rc.x1 (flipYR a (Rc.y0 b))), V.i (Rc.y1 (flipYR a (Rc.y0 b))), V.b !Rc.down a]), pw ((0 : Nat) + (5 : Nat) ≤ (5 : Nat)) (100006 : Nat) (Ob.box (95 : Nat) [V.i (Rc.x0 (flipYR a (Rc.y0 b))), V.i (Rc.y0 (flipYR a (Rc.y0 b))), V.i (Rc.x1 (flipYR a (Rc.y0 b))), V.i (Rc.y1 (flipYR a (Rc.y0 b))), V.b !Rc.down a])] (by kernel_rfl) (by kernel_rfl) ⟨(by omega), (by omega), True.intro⟩ ?_
    refine aops_nil ?_
    refine xt_n ?_
    refine hK _ ?_
    clear hK K
    refine aw_ret ?_
    refine ret_of_le (le_freezeBox (t := (95 : Nat)) (cs := [V.i (Rc.x0 (flipYR a (Rc.y0 b))), V.i (Rc.y0 (flipYR a (Rc.y0 b))), V.i (Rc.x1 (flipYR a (Rc.y0 b))), V.i (Rc.y1 (flipYR a (Rc.y0 b))), V.b !Rc.down a]) 100006 (by kernel_rfl) (by kernel_rfl)) ?_
    rw [show mirR a b e = ⟨a.x0, 2 * b.y0 - a.y1, a.x1, 2 * b.y0 - a.y0, !a.down⟩ by simp [mirR, c3]]
    refine ret_pure (v' := V.agg [V.i (Rc.x0 (flipYR a (Rc.y0 b))), V.i (Rc.y0 (flipYR a (Rc.y0 b))), V.i (Rc.x1 (flipYR a (Rc.y0 b))), V.i (Rc.y1 (flipYR a (Rc.y0 b))), V.b !Rc.down a]) (.inr rfl) (by kernel_rfl) (by kernel_rfl) (by kernel_rfl)
  simp at c3
  refine aw_skip ?_
  refine xb_n ?_
  refine xt_n ?_
  refine hK _ ?_
  clear hK K
  refine aw_seq_k fun K hK => ?_
  refine w_region (n' := 8) (by kernel_rfl) (by kernel_rfl) ?_
  refine aops_n hTT (M := []) (n := 2) [pv (35 : Nat) (V.fn (Fn.func (88 : Nat)) [V.agg [V.i (Rc.x0 a), V.i (Rc.y0 a), V.i (Rc.x1 a), V.i (Rc.y1 a), V.b (Rc.down a)]] []), pv (36 : Nat) (V.i (Rc.x1 b))] (by kernel_rfl) (by kernel_rfl) True.intro ?_
  refine e_call (first := [V.agg [V.i (Rc.x0 a), V.i (Rc.y0 a), V.i (Rc.x1 a), V.i (Rc.y1 a), V.b (Rc.down a)]]) (caps := []) (flipX_ac a b.x1 ha ⟨b5, b6⟩) (by kernel_rfl) (by kernel_rfl) (by kernel_rfl) (by kernel_rfl) (by kernel_rfl) ?_
  refine aops_n hTT (M := []) (n := 2) [pn (9 : Nat) (V.ref (700009 : Nat) (0 : Nat)) (700009 : Nat) (Ob.box (95 : Nat) [V.i (0 : Int), V.i (0 : Int), V.i (0 : Int), V.i (0 : Int), V.b false]), pw ((0 : Nat) + (5 : Nat) ≤ (5 : Nat)) (700009 : Nat) (Ob.box (95 : Nat) [V.i (Rc.x0 (flipXR a (Rc.x1 b))), V.i (Rc.y0 (flipXR a (Rc.x1 b))), V.i (Rc.x1 (flipXR a (Rc.x1 b))), V.i (Rc.y1 (flipXR a (Rc.x1 b))), V.b (Rc.down (flipXR a (Rc.x1 b)))])] (by kernel_rfl) (by kernel_rfl) ⟨(by omega), True.intro⟩ ?_
  refine aops_nil ?_
  refine xt_n ?_
  refine hK _ ?_
  clear hK K
  refine aw_seq_k fun K hK => ?_
  refine w_region (n' := 9) (by kernel_rfl) (by kernel_rfl) ?_
  refine aops_n hTT (M := []) (n := 7) [pv (38 : Nat) (V.ptr [V.i (Rc.x0 a), V.i (Rc.y0 a), V.i (Rc.x1 a), V.i (Rc.y1 a), V.b (Rc.down a)]), pv (39 : Nat) (V.ptr [V.b (Rc.down a)]), pv (40 : Nat) (V.b (Rc.down a)), pv (41 : Nat) (V.b !Rc.down a), pv (42 : Nat) (V.ref (700009 : Nat) (0 : Nat)), pv (43 : Nat) (V.ref (700009 : Nat) (4 : Nat)), pw ((4 : Nat) + (1 : Nat) ≤ (5 : Nat)) (700009 : Nat) (Ob.box (95 : Nat) [V.i (Rc.x0 (flipXR a (Rc.x1 b))), V.i (Rc.y0 (flipXR a (Rc.x1 b))), V.i (Rc.x1 (flipXR a (Rc.x1 b))), V.i (Rc.y1 (flipXR a (Rc.x1 b))), V.b !Rc.down a])] (by kernel_rfl) (by kernel_rfl) ⟨(by omega), True.intro⟩ ?_
  refine aops_nil ?_
  refine xt_n ?_
  refine hK _ ?_
  clear hK K
  refine aw_seq_k fun K hK => ?_
  refine w_region (n' := 10) (by kernel_rfl) (by kernel_rfl) ?_
  refine aops_n hTT (M := []) (n := 2) [pc (44 : Nat) ((0 : Nat) ≤ (5 : Nat)) (V.agg [V.i (Rc.x0 (flipXR a (Rc.x1 b))), V.i (Rc.y0 (flipXR a (Rc.x1 b))), V.i (Rc.x1 (flipXR a (Rc.x1 b))), V.i (Rc.y1 (flipXR a (Rc.x1 b))), V.b !Rc.down a]), pw ((0 : Nat) + (5 : Nat) ≤ (5 : Nat)) (100006 : Nat) (Ob.box (95 : Nat) [V.i (Rc.x0 (flipXR a (Rc.x1 b))), V.i (Rc.y0 (flipXR a (Rc.x1 b))), V.i (Rc.x1 (flipXR a (Rc.x1 b))), V.i (Rc.y1 (flipXR a (Rc.x1 b))), V.b !Rc.down a])] (by kernel_rfl) (by kernel_rfl) ⟨(by omega), (by omega), True.intro⟩ ?_
  refine aops_nil ?_
  refine xt_n ?_
  refine hK _ ?_
  clear hK K
  refine aw_ret ?_
  refine ret_of_le (le_freezeBox (t := (95 : Nat)) (cs := [V.i (Rc.x0 (flipXR a (Rc.x1 b))), V.i (Rc.y0 (flipXR a (Rc.x1 b))), V.i (Rc.x1 (flipXR a (Rc.x1 b))), V.i (Rc.y1 (flipXR a (Rc.x1 b))), V.b !Rc.down a]) 100006 (by kernel_rfl) (by kernel_rfl)) ?_
  rw [show mirR a b e = ⟨2 * b.x1 - a.x1, a.y0, 2 * b.x1 - a.x0, a.y1, !a.down⟩ by simp [mirR, c1, c2, c3]]
  refine ret_pure (v' := V.agg [V.i (Rc.x0 (flipXR a (Rc.x1 b))), V.i (Rc.y0 (flipXR a (Rc.x1 b))), V.i (Rc.x1 (flipXR a (Rc.x1 b))), V.i (Rc.y1 (flipXR a (Rc.x1 b))), V.b !Rc.down a]) (.inr rfl) (by kernel_rfl) (by kernel_rfl) (by kernel_rfl)
set_option maxRecDepth 100000 in
theorem mirror_ac (a b : Rc) (e : Int) (ha : a.bd 1099511627776) (hb : b.bd 1099511627776) (he : 0 ≤ e ∧ e ≤ 3) : AC Tryd.prog 66 [.agg a.c, .agg b.c, .i e] (.agg (mirR a b e).c) [] := by
  obtain ⟨⟨a1, a2⟩, ⟨a3, a4⟩, ⟨a5, a6⟩, a7, a8⟩ := ha
  obtain ⟨⟨b1, b2⟩, ⟨b3, b4⟩, ⟨b5, b6⟩, b7, b8⟩ := hb
  refine ac_intro hTT hMX (fn := Tryd.f66) (N := _) ⟨Tryd.func66, rfl, Tryd.ntmps66, by kernel_rfl⟩ (by simp) fun C hC hF => ?_
  refine aw_seq_k fun K hK => ?_
  refine w_region (n' := 2) (by kernel_rfl) (by kernel_rfl) ?_
  refine aops_n hTT (M := []) (n := 3) [pv (3 : Nat) (V.ptr [V.i (Rc.x0 a), V.i (Rc.y0 a), V.i (Rc.x1 a), V.i (Rc.y1 a), V.b (Rc.down a)]), pv (4 : Nat) (V.ptr [V.i (Rc.x0 b), V.i (Rc.y0 b), V.i (Rc.x1 b), V.i (Rc.y1 b), V.b (Rc.down b)]), pn (6 : Nat) (V.ref (100006 : Nat) (0 : Nat)) (100006 : Nat) (Ob.box (52 : Nat) [V.i (0 : Int), V.i (0 : Int), V.i (0 : Int), V.i (0 : Int), V.b false])] (by kernel_rfl) (by kernel_rfl) True.intro ?_
  refine aops_nil ?_
  refine xt_n ?_
  refine hK _ ?_
  clear hK K
  refine aw_seq_k fun K hK => ?_
  refine w_region (n' := 3) (by kernel_rfl) (by kernel_rfl) ?_
  refine aops_n hTT (M := []) (n := 3) [pv (8 : Nat) (V.agg [V.i (Rc.x0 a), V.i (Rc.y0 a), V.i (Rc.x1 a), V.i (Rc.y1 a), V.b (Rc.down a)]), pn (7 : Nat) (V.ref (200007 : Nat) (0 : Nat)) (200007 : Nat) (Ob.box (52 : Nat) [V.i (0 : Int), V.i (0 : Int), V.i (0 : Int), V.i (0 : Int), V.b false]), pw ((0 : Nat) + (5 : Nat) ≤ (5 : Nat)) (200007 : Nat) (Ob.box (52 : Nat) [V.i (Rc.x0 a), V.i (Rc.y0 a), V.i (Rc.x1 a), V.i (Rc.y1 a), V.b (Rc.down a)])] (by kernel_rfl) (by kernel_rfl) ⟨(by omega), True.intro⟩ ?_
  refine aops_nil ?_
  refine xt_n ?_
  refine hK _ ?_
  clear hK K
  refine aw_seq_k fun K hK => ?_
  refine w_region (n' := 4) (by kernel_rfl) (by kernel_rfl) ?_
  refine aops_n hTT (M := []) (n := 5) [pv (9 : Nat) (V.ptr [V.b (Rc.down a)]), pv (10 : Nat) (V.b (Rc.down a)), pv (11 : Nat) (V.b !Rc.down a), pv (12 : Nat) (V.ref (200007 : Nat) (4 : Nat)), pw ((4 : Nat) + (1 : Nat) ≤ (5 : Nat)) (200007 : Nat) (Ob.box (52 : Nat) [V.i (Rc.x0 a), V.i (Rc.y0 a), V.i (Rc.x1 a), V.i (Rc.y1 a), V.b !Rc.down a])] (by kernel_rfl) (by kernel_rfl) ⟨(by omega), True.intro⟩ ?_
  refine aops_nil ?_
  refine xt_n ?_
  refine hK _ ?_
  clear hK K
  refine aw_seq_k fun K hK => ?_
  refine aw_seq_k fun K hK => ?_
  refine w_region (n' := 5) (by kernel_rfl) (by kernel_rfl) ?_
  refine aops_n hTT (M := []) (n := 1) [pv (13 : Nat) (V.i e)] (by kernel_rfl) (by kernel_rfl) True.intro ?_
  refine aops_nil ?_
  refine xt_n ?_
  refine hK _ ?_
  clear hK K
  refine aw_block ?_
  refine aw_seq_k fun K hK => ?_
  refine w_region (n' := 6) (by kernel_rfl) (by kernel_rfl) ?_
  refine aops_n hTT (M := []) (n := 2) [pv (15 : Nat) (V.b (decide (e = (0 : Int)))), pv (14 : Nat) (V.b (decide (e = (0 : Int))))] (by kernel_rfl) (by kernel_rfl) True.intro ?_
  refine aops_nil ?_
  refine xt_n ?_
  refine hK _ ?_
  clear hK K
  refine w_cond (t := decide (e = (0 : Int))) (by kernel_rfl) (fun c0 => ?_) (fun c0 => ?_)
  · simp at c0
    refine w_regionD (n' := 7) (by kernel_rfl) (by kernel_rfl) ?_
    refine aops_n hTT (M := []) (n := 16) [pv (16 : Nat) (V.ptr [V.i (Rc.x1 b), V.i (Rc.y1 b), V.b (Rc.down b)]), pv (17 : Nat) (V.i (Rc.x1 b)), pc (18 : Nat) ((-9223372036854775808 : Int) ≤ (2 : Int) * Rc.x1 b ∧ (2 : Int) * Rc.x1 b ≤ (9223372036854775807 : Int)) (V.i ((2 : Int) * Rc.x1 b)), pv (19 : Nat) (V.ptr [V.i (Rc.x1 a), V.i (Rc.y1 a), V.b (Rc.down a)]), pv (20 : Nat) (V.i (Rc.x1 a)), pc (21 : Nat) ((-9223372036854775808 : Int) ≤ (2 : Int) * Rc.x1 b - Rc.x1 a ∧ (2 : Int) * Rc.x1 b - Rc.x1 a ≤ (9223372036854775807 : Int)) (V.i ((2 : Int) * Rc.x1 b - Rc.x1 a)), pv (22 : Nat) (V.ptr [V.i (Rc.x1 b), V.i (Rc.y1 b), V.b (Rc.down b)]), pv (23 : Nat) (V.i (Rc.x1 b)), pc (24 : Nat) ((-9223372036854775808 : Int) ≤ (2 : Int) * Rc.x1 b ∧ (2 : Int) * Rc.x1 b ≤ (9223372036854775807 : Int)) (V.i ((2 : Int) * Rc.x1 b)), pv (25 : Nat) (V.ptr [V.i (Rc.x0 a), V.i (Rc.y0 a), V.i (Rc.x1 a), V.i (Rc.y1 a), V.b (Rc.down a)]), pv (26 : Nat) (V.i (Rc.x0 a)), pc (27 : Nat) ((-9223372036854775808 : Int) ≤ (2 : Int) * Rc.x1 b - Rc.x0 a ∧ (2 : Int) * Rc.x1 b - Rc.x0 a ≤ (9223372036854775807 : Int)) (V.i ((2 : Int) * Rc.x1 b - Rc.x0 a)), pv (28 : Nat) (V.ref (200007 : Nat) (0 : Nat)), pw ((0 : Nat) + (1 : Nat) ≤ (5 : Nat)) (200007 : Nat) (Ob.box (52 : Nat) [V.i ((2 : Int) * Rc.x1 b - Rc.x1 a), V.i (Rc.y0 a), V.i (Rc.x1 a), V.i (Rc.y1 a), V.b !Rc.down a]), pv (29 : Nat) (V.ref (200007 : Nat) (2 : Nat)), pw ((2 : Nat) + (1 : Nat) ≤ (5 : Nat)) (200007 : Nat) (Ob.box (52 : Nat) [V.i ((2 : Int) * Rc.x1 b - Rc.x1 a), V.i (Rc.y0 a), V.i ((2 : Int) * Rc.x1 b - Rc.x0 a), V.i (Rc.y1 a), V.b !Rc.down a])] (by kernel_rfl) (by kernel_rfl) ⟨(by omega), (by omega), (by omega), (by omega), (by omega), (by omega), True.intro⟩ ?_
    refine aops_nil ⟨by kernel_rfl, ?_⟩
    refine xb_n ?_
    refine xt_n ?_
    refine hK _ ?_
    clear hK K
    refine aw_seq_k fun K hK => ?_
    refine w_region (n' := 8) (by kernel_rfl) (by kernel_rfl) ?_
    refine aops_n hTT (M := []) (n := 2) [pc (78 : Nat) ((0 : Nat) ≤ (5 : Nat)) (V.agg [V.i ((2 : Int) * Rc.x1 b - Rc.x1 a), V.i (Rc.y0 a), V.i ((2 : Int) * Rc.x1 b - Rc.x0 a), V.i (Rc.y1 a), V.b !Rc.down a]), pw ((0 : Nat) + (5 : Nat) ≤ (5 : Nat)) (100006 : Nat) (Ob.box (52 : Nat) [V.i ((2 : Int) * Rc.x1 b - Rc.x1 a), V.i (Rc.y0 a), V.i ((2 : Int) * Rc.x1 b - Rc.x0 a), V.i (Rc.y1 a), V.b !Rc.down a])] (by kernel_rfl) (by kernel_rfl) ⟨(by omega), (by omega), True.intro⟩ ?_
    refine aops_nil ?_
    refine xt_n ?_
    refine hK _ ?_
    clear hK K
    refine aw_ret ?_
    refine ret_of_le (le_freezeBox (t := (52 : Nat)) (cs := [V.i ((2 : Int) * Rc.x1 b - Rc.x1 a), V.i (Rc.y0 a), V.i ((2 : Int) * Rc.x1 b - Rc.x0 a), V.i (Rc.y1 a), V.b !Rc.down a]) 100006 (by kernel_rfl) (by kernel_rfl)) ?_
    rw [show mirR a b e = ⟨2 * b.x1 - a.x1, a.y0, 2 * b.x1 - a.x0, a.y1, !a.down⟩ by simp [mirR, c0]]
    refine ret_pure (v' := V.agg [V.i ((2 : Int) * Rc.x1 b - Rc.x1 a), V.i (Rc.y0 a), V.i ((2 : Int) * Rc.x1 b - Rc.x0 a), V.i (Rc.y1 a), V.b !Rc.down a]) (.inr rfl) (by kernel_rfl) (by kernel_rfl) (by kernel_rfl)
  simp at c0
  refine aw_seq_k fun K hK => ?_
  refine w_region (n' := 7) (by kernel_rfl) (by kernel_rfl) ?_
  refine aops_n hTT (M := []) (n := 2) [pv (31 : Nat) (V.b (decide (e = (2 : Int)))), pv (30 : Nat) (V.b (decide (e = (2 : Int))))] (by kernel_rfl) (by kernel_rfl) True.intro ?_
  refine aops_nil ?_
  refine xt_n ?_
  refine hK _ ?_
  clear hK K
  refine w_cond (t := decide (e = (2 : Int))) (by kernel_rfl) (fun c2 => ?_) (fun c2 => ?_)
  · simp at c2
    refine w_regionD (n' := 8) (by kernel_rfl) (by kernel_rfl) ?_
    refine aops_n hTT (M := []) (n := 16) [pv (32 : Nat) (V.ptr [V.i (Rc.x0 b), V.i (Rc.y0 b), V.i (Rc.x1 b), V.i (Rc.y1 b), V.b (Rc.down b)]), pv (33 : Nat) (V.i (Rc.x0 b)), pc (34 : Nat) ((-9223372036854775808 : Int) ≤ (2 : Int) * Rc.x0 b ∧ (2 : Int) * Rc.x0 b ≤ (9223372036854775807 : Int)) (V.i ((2 : Int) * Rc.x0 b)), pv (35 : Nat) (V.ptr [V.i (Rc.x1 a), V.i (Rc.y1 a), V.b (Rc.down a)]), pv (36 : Nat) (V.i (Rc.x1 a)), pc (37 : Nat) ((-9223372036854775808 : Int) ≤ (2 : Int) * Rc.x0 b - Rc.x1 a ∧ (2 : Int) * Rc.x0 b - Rc.x1 a ≤ (9223372036854775807 : Int)) (V.i ((2 : Int) * Rc.x0 b - Rc.x1 a)), pv (38 : Nat) (V.ptr [V.i (Rc.x0 b), V.i (Rc.y0 b), V.i (Rc.x1 b), V.i (Rc.y1 b), V.b (Rc.down b)]), pv (39 : Nat) (V.i (Rc.x0 b)), pc (40 : Nat) ((-9223372036854775808 : Int) ≤ (2 : Int) * Rc.x0 b ∧ (2 : Int) * Rc.x0 b ≤ (9223372036854775807 : Int)) (V.i ((2 : Int) * Rc.x0 b)), pv (41 : Nat) (V.ptr [V.i (Rc.x0 a), V.i (Rc.y0 a), V.i (Rc.x1 a), V.i (Rc.y1 a), V.b (Rc.down a)]), pv (42 : Nat) (V.i (Rc.x0 a)), pc (43 : Nat) ((-9223372036854775808 : Int) ≤ (2 : Int) * Rc.x0 b - Rc.x0 a ∧ (2 : Int) * Rc.x0 b - Rc.x0 a ≤ (9223372036854775807 : Int)) (V.i ((2 : Int) * Rc.x0 b - Rc.x0 a)), pv (44 : Nat) (V.ref (200007 : Nat) (0 : Nat)), pw ((0 : Nat) + (1 : Nat) ≤ (5 : Nat)) (200007 : Nat) (Ob.box (52 : Nat) [V.i ((2 : Int) * Rc.x0 b - Rc.x1 a), V.i (Rc.y0 a), V.i (Rc.x1 a), V.i (Rc.y1 a), V.b !Rc.down a]), pv (45 : Nat) (V.ref (200007 : Nat) (2 : Nat)), pw ((2 : Nat) + (1 : Nat) ≤ (5 : Nat)) (200007 : Nat) (Ob.box (52 : Nat) [V.i ((2 : Int) * Rc.x0 b - Rc.x1 a), V.i (Rc.y0 a), V.i ((2 : Int) * Rc.x0 b - Rc.x0 a), V.i (Rc.y1 a), V.b !Rc.down a])] (by kernel_rfl) (by kernel_rfl) ⟨(by omega), (by omega), (by omega), (by omega), (by omega), (by omega), True.intro⟩ ?_
    refine aops_nil ⟨by kernel_rfl, ?_⟩
    refine xb_n ?_
    refine xt_n ?_
    refine hK _ ?_
    clear hK K
    refine aw_seq_k fun K hK => ?_
    refine w_region (n' := 9) (by kernel_rfl) (by kernel_rfl) ?_
    refine aops_n hTT (M := []) (n := 2) [pc (78 : Nat) ((0 : Nat) ≤ (5 : Nat)) (V.agg [V.i ((2 : Int) * Rc.x0 b - Rc.x1 a), V.i (Rc.y0 a), V.i ((2 : Int) * Rc.x0 b - Rc.x0 a), V.i (Rc.y1 a), V.b !Rc.down a]), pw ((0 : Nat) + (5 : Nat) ≤ (5 : Nat)) (100006 : Nat) (Ob.box (52 : Nat) [V.i ((2 : Int) * Rc.x0 b - Rc.x1 a), V.i (Rc.y0 a), V.i ((2 : Int) * Rc.x0 b - Rc.x0 a), V.i (Rc.y1 a), V.b !Rc.down a])] (by kernel_rfl) (by kernel_rfl) ⟨(by omega), (by omega), True.intro⟩ ?_
    refine aops_nil ?_
    refine xt_n ?_
    refine hK _ ?_
    clear hK K
    refine aw_ret ?_
    refine ret_of_le (le_freezeBox (t := (52 : Nat)) (cs := [V.i ((2 : Int) * Rc.x0 b - Rc.x1 a), V.i (Rc.y0 a), V.i ((2 : Int) * Rc.x0 b - Rc.x0 a), V.i (Rc.y1 a), V.b !Rc.down a]) 100006 (by kernel_rfl) (by kernel_rfl)) ?_
    rw [show mirR a b e = ⟨2 * b.x0 - a.x1, a.y0, 2 * b.x0 - a.x0, a.y1, !a.down⟩ by simp [mirR, c2]]
    refine ret_pure (v' := V.agg [V.i ((2 : Int) * Rc.x0 b - Rc.x1 a), V.i (Rc.y0 a), V.i ((2 : Int) * Rc.x0 b - Rc.x0 a), V.i (Rc.y1 a), V.b !Rc.down a]) (.inr rfl) (by kernel_rfl) (by kernel_rfl) (by kernel_rfl)
  simp at c2
  refine aw_seq_k fun K hK => ?_
  refine w_region (n' := 8) (by kernel_rfl) (by kernel_rfl) ?_
  refine aops_n hTT (M := []) (n := 2) [pv (47 : Nat) (V.b (decide (e = (1 : Int)))), pv (46 : Nat) (V.b (decide (e = (1 : Int))))] (by kernel_rfl) (by kernel_rfl) True.intro ?_
  refine aops_nil ?_
  refine xt_n ?_
  refine hK _ ?_
  clear hK K
  refine w_cond (t := decide (e = (1 : Int))) (by kernel_rfl) (fun c1 => ?_) (fun c1 => ?_)
  · simp at c1
    refine w_regionD (n' := 9) (by kernel_rfl) (by kernel_rfl) ?_
    refine aops_n hTT (M := []) (n := 16) [pv (48 : Nat) (V.ptr [V.i (Rc.y1 b), V.b (Rc.down b)]), pv (49 : Nat) (V.i (Rc.y1 b)), pc (50 : Nat) ((-9223372036854775808 : Int) ≤ (2 : Int) * Rc.y1 b ∧ (2 : Int) * Rc.y1 b ≤ (9223372036854775807 : Int)) (V.i ((2 : Int) * Rc.y1 b)), pv (51 : Nat) (V.ptr [V.i (Rc.y1 a), V.b (Rc.down a)]), pv (52 : Nat) (V.i (Rc.y1 a)), pc (53 : Nat) ((-9223372036854775808 : Int) ≤ (2 : Int) * Rc.y1 b - Rc.y1 a ∧ (2 : Int) * Rc.y1 b - Rc.y1 a ≤ (9223372036854775807 : Int)) (V.i ((2 : Int) * Rc.y1 b - Rc.y1 a)), pv (54 : Nat) (V.ptr [V.i (Rc.y1 b), V.b (Rc.down b)]), pv (55 : Nat) (V.i (Rc.y1 b)), pc (56 : Nat) ((-9223372036854775808 : Int) ≤ (2 : Int) * Rc.y1 b ∧ (2 : Int) * Rc.y1 b ≤ (9223372036854775807 : Int)) (V.i ((2 : Int) * Rc.y1 b)), pv (57 : Nat) (V.ptr [V.i (Rc.y0 a), V.i (Rc.x1 a), V.i (Rc.y1 a), V.b (Rc.down a)]), pv (58 : Nat) (V.i (Rc.y0 a)), pc (59 : Nat) ((-9223372036854775808 : Int) ≤ (2 : Int) * Rc.y1 b - Rc.y0 a ∧ (2 : Int) * Rc.y1 b - Rc.y0 a ≤ (9223372036854775807 : Int)) (V.i ((2 : Int) * Rc.y1 b - Rc.y0 a)), pv (60 : Nat) (V.ref (200007 : Nat) (1 : Nat)), pw ((1 : Nat) + (1 : Nat) ≤ (5 : Nat)) (200007 : Nat) (Ob.box (52 : Nat) [V.i (Rc.x0 a), V.i ((2 : Int) * Rc.y1 b - Rc.y1 a), V.i (Rc.x1 a), V.i (Rc.y1 a), V.b !Rc.down a]), pv (61 : Nat) (V.ref (200007 : Nat) (3 : Nat)), pw ((3 : Nat) + (1 : Nat) ≤ (5 : Nat)) (200007 : Nat) (Ob.box (52 : Nat) [V.i (Rc.x0 a), V.i ((2 : Int) * Rc.y1 b - Rc.y1 a), V.i (Rc.x1 a), V.i ((2 : Int) * Rc.y1 b - Rc.y0 a), V.b !Rc.down a])] (by kernel_rfl) (by kernel_rfl) ⟨(by omega), (by omega), (by omega), (by omega), (by omega), (by omega), True.intro⟩ ?_
    refine aops_nil ⟨by kernel_rfl, ?_⟩
    refine xb_n ?_
    refine xt_n ?_
    refine hK _ ?_
    clear hK K
    refine aw_seq_k fun K hK => ?_
    refine w_region (n' := 10) (by kernel_rfl) (by kernel_rfl) ?_
    refine aops_n hTT (M := []) (n := 2) [pc (78 : Nat) ((0 : Nat) ≤ (5 : Nat)) (V.agg [V.i (Rc.x0 a), V.i ((2 : Int) * Rc.y1 b - Rc.y1 a), V.i (Rc.x1 a), V.i ((2 : Int) * Rc.y1 b - Rc.y0 a), V.b !Rc.down a]), pw ((0 : Nat) + (5 : Nat) ≤ (5 : Nat)) (100006 : Nat) (Ob.box (52 : Nat) [V.i (Rc.x0 a), V.i ((2 : Int) * Rc.y1 b - Rc.y1 a), V.i (Rc.x1 a), V.i ((2 : Int) * Rc.y1 b - Rc.y0 a), V.b !Rc.down a])] (by kernel_rfl) (by kernel_rfl) ⟨(by omega), (by omega), True.intro⟩ ?_
    refine aops_nil ?_
    refine xt_n ?_
    refine hK _ ?_
    clear hK K
    refine aw_ret ?_
    refine ret_of_le (le_freezeBox (t := (52 : Nat)) (cs := [V.i (Rc.x0 a), V.i ((2 : Int) * Rc.y1 b - Rc.y1 a), V.i (Rc.x1 a), V.i ((2 : Int) * Rc.y1 b - Rc.y0 a), V.b !Rc.down a]) 100006 (by kernel_rfl) (by kernel_rfl)) ?_
    rw [show mirR a b e = ⟨a.x0, 2 * b.y1 - a.y1, a.x1, 2 * b.y1 - a.y0, !a.down⟩ by simp [mirR, c1]]
    refine ret_pure (v' := V.agg [V.i (Rc.x0 a), V.i ((2 : Int) * Rc.y1 b - Rc.y1 a), V.i (Rc.x1 a), V.i ((2 : Int) * Rc.y1 b - Rc.y0 a), V.b !Rc.down a]) (.inr rfl) (by kernel_rfl) (by kernel_rfl) (by kernel_rfl)
  simp at c1
  refine aw_seq_k fun K hK => ?_
  refine w_region (n' := 9) (by kernel_rfl) (by kernel_rfl) ?_
  refine aops_n hTT (M := []) (n := 2) [pv (63 : Nat) (V.b (decide (e = (3 : Int)))), pv (62 : Nat) (V.b (decide (e = (3 : Int))))] (by kernel_rfl) (by kernel_rfl) True.intro ?_
  refine aops_nil ?_
  refine xt_n ?_
  refine hK _ ?_
  clear hK K
  refine w_cond (t := decide (e = (3 : Int))) (by kernel_rfl) (fun c3 => ?_) (fun c3 => ?_)
  · simp at c3
    refine w_regionD (n' := 10) (by kernel_rfl) (by kernel_rfl) ?_
    refine aops_n hTT (M := []) (n := 16) [pv (64 : Nat) (V.ptr [V.i (Rc.y0 b), V.i (Rc.x1 b), V.i (Rc.y1 b), V.b (Rc.down b)]), pv (65 : Nat) (V.i (Rc.y0 b)), pc (66 : Nat) ((-9223372036854775808 : Int) ≤ (2 : Int) * Rc.y0 b ∧ (2 : Int) * Rc.y0 b ≤ (9223372036854775807 : Int)) (V.i ((2 : Int) * Rc.y0 b)), pv (67 : Nat) (V.ptr [V.i (Rc.y1 a), V.b (Rc.down a)]), pv (68 : Nat) (V.i (Rc.y1 a)), pc (69 : Nat) ((-9223372036854775808 : Int) ≤ (2 : Int) * Rc.y0 b - Rc.y1 a ∧ (2 : Int) * Rc.y0 b - Rc.y1 a ≤ (9223372036854775807 : Int)) (V.i ((2 : Int) * Rc.y0 b - Rc.y1 a)), pv (70 : Nat) (V.ptr [V.i (Rc.y0 b), V.i (Rc.x1 b), V.i (Rc.y1 b), V.b (Rc.down b)]), pv (71 : Nat) (V.i (Rc.y0 b)), pc (72 : Nat) ((-9223372036854775808 : Int) ≤ (2 : Int) * Rc.y0 b ∧ (2 : Int) * Rc.y0 b ≤ (9223372036854775807 : Int)) (V.i ((2 : Int) * Rc.y0 b)), pv (73 : Nat) (V.ptr [V.i (Rc.y0 a), V.i (Rc.x1 a), V.i (Rc.y1 a), V.b (Rc.down a)]), pv (74 : Nat) (V.i (Rc.y0 a)), pc (75 : Nat) ((-9223372036854775808 : Int) ≤ (2 : Int) * Rc.y0 b - Rc.y0 a ∧ (2 : Int) * Rc.y0 b - Rc.y0 a ≤ (9223372036854775807 : Int)) (V.i ((2 : Int) * Rc.y0 b - Rc.y0 a)), pv (76 : Nat) (V.ref (200007 : Nat) (1 : Nat)), pw ((1 : Nat) + (1 : Nat) ≤ (5 : Nat)) (200007 : Nat) (Ob.box (52 : Nat) [V.i (Rc.x0 a), V.i ((2 : Int) * Rc.y0 b - Rc.y1 a), V.i (Rc.x1 a), V.i (Rc.y1 a), V.b !Rc.down a]), pv (77 : Nat) (V.ref (200007 : Nat) (3 : Nat)), pw ((3 : Nat) + (1 : Nat) ≤ (5 : Nat)) (200007 : Nat) (Ob.box (52 : Nat) [V.i (Rc.x0 a), V.i ((2 : Int) * Rc.y0 b - Rc.y1 a), V.i (Rc.x1 a), V.i ((2 : Int) * Rc.y0 b - Rc.y0 a), V.b !Rc.down a])] (by kernel_rfl) (by kernel_rfl) ⟨(by omega), (by omega), (by omega), (by omega), (by omega), (by omega), True.intro⟩ ?_
    refine aops_nil ⟨by kernel_rfl, ?_⟩
    refine xb_n ?_
    refine xt_n ?_
    refine hK _ ?_
    clear hK K
    refine aw_seq_k fun K hK => ?_
    refine w_region (n' := 11) (by kernel_rfl) (by kernel_rfl) ?_
    refine aops_n hTT (M := []) (n := 2) [pc (78 : Nat) ((0 : Nat) ≤ (5 : Nat)) (V.agg [V.i (Rc.x0 a), V.i ((2 : Int) * Rc.y0 b - Rc.y1 a), V.i (Rc.x1 a), V.i ((2 : Int) * Rc.y0 b - Rc.y0 a), V.b !Rc.down a]), pw ((0 : Nat) + (5 : Nat) ≤ (5 : Nat)) (100006 : Nat) (Ob.box (52 : Nat) [V.i (Rc.x0 a), V.i ((2 : Int) * Rc.y0 b - Rc.y1 a), V.i (Rc.x1 a), V.i ((2 : Int) * Rc.y0 b - Rc.y0 a), V.b !Rc.down a])] (by kernel_rfl) (by kernel_rfl) ⟨(by omega), (by omega), True.intro⟩ ?_
    refine aops_nil ?_
    refine xt_n ?_
    refine hK _ ?_
    clear hK K
    refine aw_ret ?_
    refine ret_of_le (le_freezeBox (t := (52 : Nat)) (cs := [V.i (Rc.x0 a), V.i ((2 : Int) * Rc.y0 b - Rc.y1 a), V.i (Rc.x1 a), V.i ((2 : Int) * Rc.y0 b - Rc.y0 a), V.b !Rc.down a]) 100006 (by kernel_rfl) (by kernel_rfl)) ?_
    rw [show mirR a b e = ⟨a.x0, 2 * b.y0 - a.y1, a.x1, 2 * b.y0 - a.y0, !a.down⟩ by simp [mirR, c3]]
    refine ret_pure (v' := V.agg [V.i (Rc.x0 a), V.i ((2 : Int) * Rc.y0 b - Rc.y1 a), V.i (Rc.x1 a), V.i ((2 : Int) * Rc.y0 b - Rc.y0 a), V.b !Rc.down a]) (.inr rfl) (by kernel_rfl) (by kernel_rfl) (by kernel_rfl)
  simp at c3
  omega
end Go.Proofs.YtfckkkmacjjmhaaDoor
