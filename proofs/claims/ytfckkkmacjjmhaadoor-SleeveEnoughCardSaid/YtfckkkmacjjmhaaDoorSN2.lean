/-
  Rectangles: the walks of both copies. Conditions: told in each theorem.
-/
import Derived.Test.YtfckkkmacjjmhaaDoorSPl1
import Derived.Test.YtfckkkmacjjmhaaDoorSN1
namespace Go.Proofs.YtfckkkmacjjmhaaDoor
open Go.Ab Go.RowKit Go.Dw Go.Shelf

set_option maxRecDepth 100000 in
theorem soutside_ac (n lo hi : Int) : AC Tryd.prog 59 [.i n, .i lo, .i hi] (.b (decide (n < lo) || decide (hi < n))) [] := by
  refine ac_intro hTT hMX (fn := Tryd.f59) (N := _) ⟨Tryd.func59, rfl, Tryd.ntmps59, by kernel_rfl⟩ (by simp) fun C hC hF => ?_
  refine aw_seq_k fun K hK => ?_
  refine w_region (n' := 2) (by kernel_rfl) (by kernel_rfl) ?_
  refine aops_n hTT (M := []) (n := 1) [pv (6 : Nat) (V.b false)] (by kernel_rfl) (by kernel_rfl) True.intro ?_
  refine aops_nil ?_
  refine xt_n ?_
  refine hK _ ?_
  clear hK K
  refine aw_seq_k fun K hK => ?_
  refine w_region (n' := 3) (by kernel_rfl) (by kernel_rfl) ?_
  refine aops_n hTT (M := []) (n := 9) [pv (7 : Nat) (V.i n), pv (8 : Nat) (V.i lo), pv (9 : Nat) (V.b (decide (n < lo))), pv (10 : Nat) (V.b (decide (n < lo))), pc (11 : Nat) ((True ∧ True) ∧ ((decide (n < lo) == false) = true → True)) (V.gd (decide (n < lo) == false) (V.i n)), pc (12 : Nat) ((True ∧ True) ∧ ((decide (n < lo) == false) = true → True)) (V.gd (decide (n < lo) == false) (V.i hi)), pc (13 : Nat) ((((decide (n < lo) == false) = true → (decide (n < lo) == false) = true) ∧ ((decide (n < lo) == false) = true → (decide (n < lo) == false) = true) ∧ True) ∧ ((decide (n < lo) == false) = true → True)) (V.gd (decide (n < lo) == false) (V.b (decide (hi < n)))), pc (14 : Nat) (True ∧ (decide (n < lo) = false → (decide (n < lo) == false) = true)) (V.b (decide (n < lo) || decide (hi < n))), pv (6 : Nat) (V.b (decide (n < lo) || decide (hi < n)))] (by kernel_rfl) (by kernel_rfl) ⟨⟨⟨True.intro, True.intro⟩, (fun _ => True.intro)⟩, ⟨⟨True.intro, True.intro⟩, (fun _ => True.intro)⟩, ⟨⟨(by (exact fun h => h)), ⟨(by (exact fun h => h)), True.intro⟩⟩, (fun _ => True.intro)⟩, ⟨True.intro, (by (intro h; rw [h]; rfl))⟩, True.intro⟩ ?_
  refine aops_nil ?_
  refine xt_n ?_
  refine hK _ ?_
  clear hK K
  refine aw_ret ?_
  refine ret_pure (v' := V.b (decide (n < lo) || decide (hi < n))) (.inr rfl) (by kernel_rfl) (by kernel_rfl) (by kernel_rfl)
set_option maxRecDepth 100000 in
theorem rwithin_ac (n lo hi : Int) : AC Tryd.prog 60 [.i n, .i lo, .i hi] (.b (decide (lo ≤ n) && decide (n ≤ hi))) [] := by
  refine ac_intro hTT hMX (fn := Tryd.f60) (N := _) ⟨Tryd.func60, rfl, Tryd.ntmps60, by kernel_rfl⟩ (by simp) fun C hC hF => ?_
  refine aw_seq_k fun K hK => ?_
  refine w_region (n' := 2) (by kernel_rfl) (by kernel_rfl) ?_
  refine aops_n hTT (M := []) (n := 1) [pv (6 : Nat) (V.b false)] (by kernel_rfl) (by kernel_rfl) True.intro ?_
  refine aops_nil ?_
  refine xt_n ?_
  refine hK _ ?_
  clear hK K
  refine aw_seq_k fun K hK => ?_
  refine w_region (n' := 3) (by kernel_rfl) (by kernel_rfl) ?_
  refine aops_n hTT (M := []) (n := 9) [pv (7 : Nat) (V.i n), pv (8 : Nat) (V.i lo), pv (9 : Nat) (V.b (decide (lo ≤ n))), pv (10 : Nat) (V.b (decide (lo ≤ n))), pc (11 : Nat) ((True ∧ True) ∧ ((decide (lo ≤ n) == true) = true → True)) (V.gd (decide (lo ≤ n) == true) (V.i n)), pc (12 : Nat) ((True ∧ True) ∧ ((decide (lo ≤ n) == true) = true → True)) (V.gd (decide (lo ≤ n) == true) (V.i hi)), pc (13 : Nat) ((((decide (lo ≤ n) == true) = true → (decide (lo ≤ n) == true) = true) ∧ ((decide (lo ≤ n) == true) = true → (decide (lo ≤ n) == true) = true) ∧ True) ∧ ((decide (lo ≤ n) == true) = true → True)) (V.gd (decide (lo ≤ n) == true) (V.b (decide (n ≤ hi)))), pc (14 : Nat) ((decide (lo ≤ n) = true → (decide (lo ≤ n) == true) = true) ∧ True) (V.b (decide (lo ≤ n) && decide (n ≤ hi))), pv (6 : Nat) (V.b (decide (lo ≤ n) && decide (n ≤ hi)))] (by kernel_rfl) (by kernel_rfl) ⟨⟨⟨True.intro, True.intro⟩, (fun _ => True.intro)⟩, ⟨⟨True.intro, True.intro⟩, (fun _ => True.intro)⟩, ⟨⟨(by (exact fun h => h)), ⟨(by (exact fun h => h)), True.intro⟩⟩, (fun _ => True.intro)⟩, ⟨(by (intro h; rw [h]; rfl)), True.intro⟩, True.intro⟩ ?_
  refine aops_nil ?_
  refine xt_n ?_
  refine hK _ ?_
  clear hK K
  refine aw_ret ?_
  refine ret_pure (v' := V.b (decide (lo ≤ n) && decide (n ≤ hi))) (.inr rfl) (by kernel_rfl) (by kernel_rfl) (by kernel_rfl)
set_option maxRecDepth 100000 in
theorem common_ac (a b : Rc) (ha : a.bd 1099511627776) (hb : b.bd 1099511627776) : AC Tryd.prog 65 [.agg a.c, .agg b.c] (.tup [.i (comW a b), .i (comH a b)]) [] := by
  obtain ⟨⟨a1, a2⟩, ⟨a3, a4⟩, ⟨a5, a6⟩, a7, a8⟩ := ha
  obtain ⟨⟨b1, b2⟩, ⟨b3, b4⟩, ⟨b5, b6⟩, b7, b8⟩ := hb
  refine ac_intro hTT hMX (fn := Tryd.f65) (N := _) ⟨Tryd.func65, rfl, Tryd.ntmps65, by kernel_rfl⟩ (by simp) fun C hC hF => ?_
  refine aw_seq_k fun K hK => ?_
  refine w_region (n' := 2) (by kernel_rfl) (by kernel_rfl) ?_
  refine aops_n hTT (M := []) (n := 4) [pv (2 : Nat) (V.ptr [V.i (Rc.x0 a), V.i (Rc.y0 a), V.i (Rc.x1 a), V.i (Rc.y1 a), V.b (Rc.down a)]), pv (3 : Nat) (V.ptr [V.i (Rc.x0 b), V.i (Rc.y0 b), V.i (Rc.x1 b), V.i (Rc.y1 b), V.b (Rc.down b)]), pv (4 : Nat) (V.i (0 : Int)), pv (5 : Nat) (V.i (0 : Int))] (by kernel_rfl) (by kernel_rfl) True.intro ?_
  refine aops_nil ?_
  refine xt_n ?_
  refine hK _ ?_
  clear hK K
  refine aw_seq_k fun K hK => ?_
  refine w_regionD (n' := 3) (by kernel_rfl) (by kernel_rfl) ?_
  refine aops_n hTT (M := []) (n := 32) [pv (6 : Nat) (V.ptr [V.i (Rc.x0 a), V.i (Rc.y0 a), V.i (Rc.x1 a), V.i (Rc.y1 a), V.b (Rc.down a)]), pv (7 : Nat) (V.ptr [V.i (Rc.x1 a), V.i (Rc.y1 a), V.b (Rc.down a)]), pv (8 : Nat) (V.i (Rc.x1 a)), pv (9 : Nat) (V.ptr [V.i (Rc.x0 b), V.i (Rc.y0 b), V.i (Rc.x1 b), V.i (Rc.y1 b), V.b (Rc.down b)]), pv (10 : Nat) (V.ptr [V.i (Rc.x1 b), V.i (Rc.y1 b), V.b (Rc.down b)]), pv (11 : Nat) (V.i (Rc.x1 b)), pv (12 : Nat) (V.i (min (Rc.x1 a) (Rc.x1 b))), pv (13 : Nat) (V.ptr [V.i (Rc.x0 a), V.i (Rc.y0 a), V.i (Rc.x1 a), V.i (Rc.y1 a), V.b (Rc.down a)]), pv (14 : Nat) (V.ptr [V.i (Rc.x0 a), V.i (Rc.y0 a), V.i (Rc.x1 a), V.i (Rc.y1 a), V.b (Rc.down a)]), pv (15 : Nat) (V.i (Rc.x0 a)), pv (16 : Nat) (V.ptr [V.i (Rc.x0 b), V.i (Rc.y0 b), V.i (Rc.x1 b), V.i (Rc.y1 b), V.b (Rc.down b)]), pv (17 : Nat) (V.ptr [V.i (Rc.x0 b), V.i (Rc.y0 b), V.i (Rc.x1 b), V.i (Rc.y1 b), V.b (Rc.down b)]), pv (18 : Nat) (V.i (Rc.x0 b)), pv (19 : Nat) (V.i (max (Rc.x0 a) (Rc.x0 b))), pc (20 : Nat) ((-9223372036854775808 : Int) ≤ min (Rc.x1 a) (Rc.x1 b) - max (Rc.x0 a) (Rc.x0 b) ∧ min (Rc.x1 a) (Rc.x1 b) - max (Rc.x0 a) (Rc.x0 b) ≤ (9223372036854775807 : Int)) (V.i (min (Rc.x1 a) (Rc.x1 b) - max (Rc.x0 a) (Rc.x0 b))), pv (21 : Nat) (V.ptr [V.i (Rc.x0 a), V.i (Rc.y0 a), V.i (Rc.x1 a), V.i (Rc.y1 a), V.b (Rc.down a)]), pv (22 : Nat) (V.ptr [V.i (Rc.y1 a), V.b (Rc.down a)]), pv (23 : Nat) (V.i (Rc.y1 a)), pv (24 : Nat) (V.ptr [V.i (Rc.x0 b), V.i (Rc.y0 b), V.i (Rc.x1 b), V.i (Rc.y1 b), V.b (Rc.down b)]), pv (25 : Nat) (V.ptr [V.i (Rc.y1 b), V.b (Rc.down b)]), pv (26 : Nat) (V.i (Rc.y1 b)), pv (27 : Nat) (V.i (min (Rc.y1 a) (Rc.y1 b))), pv (28 : Nat) (V.ptr [V.i (Rc.x0 a), V.i (Rc.y0 a), V.i (Rc.x1 a), V.i (Rc.y1 a), V.b (Rc.down a)]), pv (29 : Nat) (V.ptr [V.i (Rc.y0 a), V.i (Rc.x1 a), V.i (Rc.y1 a), V.b (Rc.down a)]), pv (30 : Nat) (V.i (Rc.y0 a)), pv (31 : Nat) (V.ptr [V.i (Rc.x0 b), V.i (Rc.y0 b), V.i (Rc.x1 b), V.i (Rc.y1 b), V.b (Rc.down b)]), pv (32 : Nat) (V.ptr [V.i (Rc.y0 b), V.i (Rc.x1 b), V.i (Rc.y1 b), V.b (Rc.down b)]), pv (33 : Nat) (V.i (Rc.y0 b)), pv (34 : Nat) (V.i (max (Rc.y0 a) (Rc.y0 b))), pc (35 : Nat) ((-9223372036854775808 : Int) ≤ min (Rc.y1 a) (Rc.y1 b) - max (Rc.y0 a) (Rc.y0 b) ∧ min (Rc.y1 a) (Rc.y1 b) - max (Rc.y0 a) (Rc.y0 b) ≤ (9223372036854775807 : Int)) (V.i (min (Rc.y1 a) (Rc.y1 b) - max (Rc.y0 a) (Rc.y0 b))), pv (4 : Nat) (V.i (min (Rc.x1 a) (Rc.x1 b) - max (Rc.x0 a) (Rc.x0 b))), pv (5 : Nat) (V.i (min (Rc.y1 a) (Rc.y1 b) - max (Rc.y0 a) (Rc.y0 b)))] (by kernel_rfl) (by kernel_rfl) ⟨(by omega), (by omega), True.intro⟩ ?_
  refine aops_nil ⟨by kernel_rfl, ?_⟩
  refine xt_n ?_
  refine hK _ ?_
  clear hK K
  refine aw_ret ?_
  refine ret_pure (v' := V.tup [V.i (min (Rc.x1 a) (Rc.x1 b) - max (Rc.x0 a) (Rc.x0 b)), V.i (min (Rc.y1 a) (Rc.y1 b) - max (Rc.y0 a) (Rc.y0 b))]) (.inr rfl) (by kernel_rfl) (by kernel_rfl) (by kernel_rfl)
set_option maxRecDepth 100000 in
theorem rcommon_ac (a b : Rc) (ha : a.bd 1099511627776) (hb : b.bd 1099511627776) : AC Tryd.prog 67 [.agg a.c, .agg b.c] (.tup [.i (comW a b), .i (comH a b)]) [] := by
  obtain ⟨⟨a1, a2⟩, ⟨a3, a4⟩, ⟨a5, a6⟩, a7, a8⟩ := ha
  obtain ⟨⟨b1, b2⟩, ⟨b3, b4⟩, ⟨b5, b6⟩, b7, b8⟩ := hb
  refine ac_intro hTT hMX (fn := Tryd.f67) (N := _) ⟨Tryd.func67, rfl, Tryd.ntmps67, by kernel_rfl⟩ (by simp) fun C hC hF => ?_
  refine aw_seq_k fun K hK => ?_
  refine w_region (n' := 2) (by kernel_rfl) (by kernel_rfl) ?_
  refine aops_n hTT (M := []) (n := 4) [pv (2 : Nat) (V.ptr [V.i (Rc.x0 a), V.i (Rc.y0 a), V.i (Rc.x1 a), V.i (Rc.y1 a), V.b (Rc.down a)]), pv (3 : Nat) (V.ptr [V.i (Rc.x0 b), V.i (Rc.y0 b), V.i (Rc.x1 b), V.i (Rc.y1 b), V.b (Rc.down b)]), pv (4 : Nat) (V.i (0 : Int)), pv (5 : Nat) (V.i (0 : Int))] (by kernel_rfl) (by kernel_rfl) True.intro ?_
  refine aops_nil ?_
  refine xt_n ?_
  refine hK _ ?_
  clear hK K
  refine aw_seq_k fun K hK => ?_
  refine w_regionD (n' := 3) (by kernel_rfl) (by kernel_rfl) ?_
  refine aops_n hTT (M := []) (n := 24) [pv (6 : Nat) (V.ptr [V.i (Rc.x1 a), V.i (Rc.y1 a), V.b (Rc.down a)]), pv (7 : Nat) (V.i (Rc.x1 a)), pv (8 : Nat) (V.ptr [V.i (Rc.x1 b), V.i (Rc.y1 b), V.b (Rc.down b)]), pv (9 : Nat) (V.i (Rc.x1 b)), pv (10 : Nat) (V.i (min (Rc.x1 a) (Rc.x1 b))), pv (11 : Nat) (V.ptr [V.i (Rc.x0 a), V.i (Rc.y0 a), V.i (Rc.x1 a), V.i (Rc.y1 a), V.b (Rc.down a)]), pv (12 : Nat) (V.i (Rc.x0 a)), pv (13 : Nat) (V.ptr [V.i (Rc.x0 b), V.i (Rc.y0 b), V.i (Rc.x1 b), V.i (Rc.y1 b), V.b (Rc.down b)]), pv (14 : Nat) (V.i (Rc.x0 b)), pv (15 : Nat) (V.i (max (Rc.x0 a) (Rc.x0 b))), pc (16 : Nat) ((-9223372036854775808 : Int) ≤ min (Rc.x1 a) (Rc.x1 b) - max (Rc.x0 a) (Rc.x0 b) ∧ min (Rc.x1 a) (Rc.x1 b) - max (Rc.x0 a) (Rc.x0 b) ≤ (9223372036854775807 : Int)) (V.i (min (Rc.x1 a) (Rc.x1 b) - max (Rc.x0 a) (Rc.x0 b))), pv (17 : Nat) (V.ptr [V.i (Rc.y1 a), V.b (Rc.down a)]), pv (18 : Nat) (V.i (Rc.y1 a)), pv (19 : Nat) (V.ptr [V.i (Rc.y1 b), V.b (Rc.down b)]), pv (20 : Nat) (V.i (Rc.y1 b)), pv (21 : Nat) (V.i (min (Rc.y1 a) (Rc.y1 b))), pv (22 : Nat) (V.ptr [V.i (Rc.y0 a), V.i (Rc.x1 a), V.i (Rc.y1 a), V.b (Rc.down a)]), pv (23 : Nat) (V.i (Rc.y0 a)), pv (24 : Nat) (V.ptr [V.i (Rc.y0 b), V.i (Rc.x1 b), V.i (Rc.y1 b), V.b (Rc.down b)]), pv (25 : Nat) (V.i (Rc.y0 b)), pv (26 : Nat) (V.i (max (Rc.y0 a) (Rc.y0 b))), pc (27 : Nat) ((-9223372036854775808 : Int) ≤ min (Rc.y1 a) (Rc.y1 b) - max (Rc.y0 a) (Rc.y0 b) ∧ min (Rc.y1 a) (Rc.y1 b) - max (Rc.y0 a) (Rc.y0 b) ≤ (9223372036854775807 : Int)) (V.i (min (Rc.y1 a) (Rc.y1 b) - max (Rc.y0 a) (Rc.y0 b))), pv (4 : Nat) (V.i (min (Rc.x1 a) (Rc.x1 b) - max (Rc.x0 a) (Rc.x0 b))), pv (5 : Nat) (V.i (min (Rc.y1 a) (Rc.y1 b) - max (Rc.y0 a) (Rc.y0 b)))] (by kernel_rfl) (by kernel_rfl) ⟨(by omega), (by omega), True.intro⟩ ?_
  refine aops_nil ⟨by kernel_rfl, ?_⟩
  refine xt_n ?_
  refine hK _ ?_
  clear hK K
  refine aw_ret ?_
  refine ret_pure (v' := V.tup [V.i (min (Rc.x1 a) (Rc.x1 b) - max (Rc.x0 a) (Rc.x0 b)), V.i (min (Rc.y1 a) (Rc.y1 b) - max (Rc.y0 a) (Rc.y0 b))]) (.inr rfl) (by kernel_rfl) (by kernel_rfl) (by kernel_rfl)
end Go.Proofs.YtfckkkmacjjmhaaDoor
