/-
  Folded sheets: the walks of the program's copy. No condition but the length of a list that is in memory.
-/
import Derived.Test.YtfckkkmacjjmhaaDoorAbs37
import Derived.Test.YtfckkkmacjjmhaaDoorAbs29
import Derived.Test.YtfckkkmacjjmhaaDoorAbs27
import Derived.Test.YtfckkkmacjjmhaaDoorSPl2
import Derived.Test.YtfckkkmacjjmhaaDoorSN5
namespace Go.Proofs.YtfckkkmacjjmhaaDoor
open Go.Ab Go.RowKit Go.Dw Go.Shelf

theorem RImp_int {a b : Int} (h : a = b) : RImp (V.i a) (V.i b) := by subst h; exact RImp.refl _
def bwV (f : List Int) : List (List V) := (List.range f.length).map fun k : Nat => [V.i ((f.length : Int) - 1 - k), V.i (gi f (f.length - 1 - k))]
theorem bwV_get {f : List Int} {k : Nat} (h : k < f.length) : (bwV f)[k]? = some [V.i ((f.length : Int) - 1 - k), V.i (gi f (f.length - 1 - k))] := by simp [bwV, h]
theorem bwV_len (f : List Int) : (bwV f).length = f.length := by simp [bwV]
set_option maxRecDepth 100000 in
theorem backward_it (f : List Int) (hl : f.length ≤ 4611686018427387904) : AIt4 Tryd.prog 87 [.ptr [V.ints f]] (bwV f) := by
  refine ait4_intro hTT hMX (fn := Tryd.f87) (N := _) ⟨Tryd.func87, rfl, Tryd.ntmps87, by kernel_rfl⟩ rfl (by simp) fun Y => ?_
  rw [bwV_len]
  refine awj4_seq_a fun C hF hC K hK => ?_
  refine w_region (n' := 2) (by kernel_rfl) (by kernel_rfl) ?_
  refine aops_n hTT (M := []) (n := 4) [pv (4 : Nat) (V.sl (1 : Nat) (List.length f) fun (k : Nat) => [V.i (gi f k)]), pv (5 : Nat) (V.i (↑(List.length f) : Int)), pc (6 : Nat) ((-9223372036854775808 : Int) ≤ (↑(List.length f) : Int) - (1 : Int) ∧ (↑(List.length f) : Int) - (1 : Int) ≤ (9223372036854775807 : Int)) (V.i ((↑(List.length f) : Int) - (1 : Int))), pv (3 : Nat) (V.i ((↑(List.length f) : Int) - (1 : Int)))] (by kernel_rfl) (by kernel_rfl) ⟨(by omega), True.intro⟩ ?_
  refine aops_nil ?_
  refine xt_n ?_
  refine hK _ ?_
  clear hK K
  refine awj4_block ?_
  refine awj4_loop (ι := Nat) (fun k => ⟨mkT [(0, .c (.func (.yield Y.l) #[] #[])), (1, .ptr [V.ints f]), (3, .i ((f.length : Int) - 1 - k))], mkS [], 1⟩) (fun k => k) (fun k => k ≤ f.length) (fun k => f.length - k) 0 (Nat.zero_le _) ?_ rfl ?_
  · refine le_ren (tl := [(0, V.c (Value.func (Fn.yield (YE4.l Y)) #[] #[])), (1, V.ptr [V.sl (1 : Nat) (List.length f) fun (k : Nat) => [V.i (gi f k)]]), (3, V.i ((↑(List.length f) : Int) - (1 : Int) - (↑(0 : Nat) : Int)))]) [] (.cons (by kernel_rfl) (.cons (by kernel_rfl) (.cons ?_ .nil))) .nil (by kernel_rfl) (by kernel_rfl)
    exact congrArg V.i (show (f.length : Int) - 1 = (f.length : Int) - 1 - (0 : Nat) by omega)
  intro k hk
  refine awj4_seq_a fun C hF hC K hK => ?_
  refine aw_seq_k fun K hK => ?_
  refine w_region (n' := 2) (by kernel_rfl) (by kernel_rfl) ?_
  refine aops_n hTT (M := []) (n := 2) [pv (7 : Nat) (V.i ((↑(List.length f) : Int) - (1 : Int) - (↑k : Int))), pv (8 : Nat) (V.b (decide ((0 : Int) ≤ (↑(List.length f) : Int) - (1 : Int) - (↑k : Int))))] (by kernel_rfl) (by kernel_rfl) True.intro ?_
  refine aops_nil ?_
  refine xt_n ?_
  refine hK _ ?_
  clear hK K
  refine w_cond (t := decide ((0 : Int) ≤ (↑(List.length f) : Int) - (1 : Int) - (↑k : Int))) (by kernel_rfl) (fun c1 => ?_) (fun c1 => ?_)
  · have h1 : k < f.length := by simp at c1; omega
    refine aw_skip ?_
    refine xt_n ?_
    refine hK _ ?_
    clear hK K
    refine awj4_seq ?_
    refine awj4_block ?_
    refine awj4_seq (awj4_yield 6 (by kernel_rfl) rfl fun C hF hC => ?_)
    refine aops_n hTT (M := []) (n := 6) [pv (11 : Nat) (V.c (Value.func (Fn.yield (YE4.l Y)) #[] #[])), pv (12 : Nat) (V.i ((↑(List.length f) : Int) - (1 : Int) - (↑k : Int))), pv (13 : Nat) (V.sl (1 : Nat) (List.length f) fun (k : Nat) => [V.i (gi f k)]), pv (14 : Nat) (V.i ((↑(List.length f) : Int) - (1 : Int) - (↑k : Int))), pc (15 : Nat) ((0 : Int) ≤ (↑(List.length f) : Int) - (1 : Int) - (↑k : Int) ∧ (↑(List.length f) : Int) - (1 : Int) - (↑k : Int) < (↑(List.length f) : Int)) (V.ptr [V.i (gi f (Int.toNat ((↑(List.length f) : Int) - (1 : Int) - (↑k : Int))))]), pv (16 : Nat) (V.i (gi f (Int.toNat ((↑(List.length f) : Int) - (1 : Int) - (↑k : Int)))))] (by kernel_rfl) (by kernel_rfl) ⟨(by omega), True.intro⟩ ?_
    refine aops_nil ?_
    refine ⟨by kernel_rfl, ⟨_, bwV_get h1, RImp.refl _, RImp_int (congrArg (gi f) (by omega)), trivial⟩, ⟨by kernel_rfl, fun v hv => by rw [bwV_get h1] at hv; injection hv with hv; subst hv; rfl⟩, fun C hF hC => ?_, fun C hF hC => ?_⟩
    · refine aops_n hTT (M := []) (n := 1) [pv (18 : Nat) (V.b false)] (by kernel_rfl) (by kernel_rfl) True.intro ?_
      refine aops_nil ?_
      refine xjt_n ?_
      refine awj4_cond (t := false) (by kernel_rfl) (fun h => by cases h) (fun _ => ?_)
      refine awj4_skip ?_
      refine xjb_n ?_
      refine xjt_n ?_
      refine awj4_aw fun C hF hC => ?_
      refine w_region (n' := 4) (by kernel_rfl) (by kernel_rfl) ?_
      refine aops_n hTT (M := []) (n := 3) [pv (9 : Nat) (V.i ((↑(List.length f) : Int) - (1 : Int) - (↑k : Int))), pc (10 : Nat) ((-9223372036854775808 : Int) ≤ (↑(List.length f) : Int) - (1 : Int) - (↑k : Int) - (1 : Int) ∧ (↑(List.length f) : Int) - (1 : Int) - (↑k : Int) - (1 : Int) ≤ (9223372036854775807 : Int)) (V.i ((↑(List.length f) : Int) - (1 : Int) - (↑k : Int) - (1 : Int))), pv (3 : Nat) (V.i ((↑(List.length f) : Int) - (1 : Int) - (↑k : Int) - (1 : Int)))] (by kernel_rfl) (by kernel_rfl) ⟨(by omega), True.intro⟩ ?_
      refine aops_nil ?_
      refine xjt_n ?_
      refine ⟨rfl, k + 1, by omega, ?_, rfl, by omega⟩
      refine le_ren (tl := [(0, V.c (Value.func (Fn.yield (YE4.l Y)) #[] #[])), (1, V.ptr [V.sl (1 : Nat) (List.length f) fun (k : Nat) => [V.i (gi f k)]]), (3, V.i ((↑(List.length f) : Int) - (1 : Int) - (↑(k + (1 : Nat)) : Int)))]) [] (.cons (by kernel_rfl) (.cons (by kernel_rfl) (.cons ?_ .nil))) .nil (by kernel_rfl) (by kernel_rfl)
      exact congrArg V.i (by omega)
    · refine aops_n hTT (M := []) (n := 1) [pv (18 : Nat) (V.b true)] (by kernel_rfl) (by kernel_rfl) True.intro ?_
      refine aops_nil ?_
      refine xjt_n ?_
      refine awj4_cond (t := true) (by kernel_rfl) (fun _ => ?_) (fun h => by cases h)
      refine awj4_ret ?_
      refine xjb_r ?_
      refine xjt_r ?_
      refine xjt_r ?_
      refine xjb_r ?_
      exact ⟨.inr rfl, fun h => (by cases h), fun _ => h1⟩
  · have h1 : k = f.length := by simp at c1; omega
    refine aw_exit ?_
    refine xt_x ?_
    refine xjt_x ?_
    refine xjb_same ?_
    exact ⟨.inl rfl, fun _ => h1, fun h => by cases h⟩
set_option maxRecDepth 100000 in
theorem Backward_ac (f : List Int) : AC Tryd.prog 74 [V.ints f] (.fn (.func 87) [] [.ptr [V.ints f]]) [] := by
  refine ac_intro hTT hMX (fn := Tryd.f74) (N := _) ⟨Tryd.func74, rfl, Tryd.ntmps74, by kernel_rfl⟩ (by simp) fun C hC hF => ?_
  refine aw_seq_k fun K hK => ?_
  refine w_region (n' := 2) (by kernel_rfl) (by kernel_rfl) ?_
  refine aops_n hTT (M := []) (n := 2) [pv (1 : Nat) (V.ptr [V.sl (1 : Nat) (List.length f) fun (k : Nat) => [V.i (gi f k)]]), pv (2 : Nat) (V.c Value.nilFunc)] (by kernel_rfl) (by kernel_rfl) True.intro ?_
  refine aops_nil ?_
  refine xt_n ?_
  refine hK _ ?_
  clear hK K
  refine aw_seq_k fun K hK => ?_
  refine w_region (n' := 3) (by kernel_rfl) (by kernel_rfl) ?_
  refine aops_n hTT (M := []) (n := 2) [pv (3 : Nat) (V.fn (Fn.func (87 : Nat)) [] [V.ptr [V.sl (1 : Nat) (List.length f) fun (k : Nat) => [V.i (gi f k)]]]), pv (2 : Nat) (V.fn (Fn.func (87 : Nat)) [] [V.ptr [V.sl (1 : Nat) (List.length f) fun (k : Nat) => [V.i (gi f k)]]])] (by kernel_rfl) (by kernel_rfl) True.intro ?_
  refine aops_nil ?_
  refine xt_n ?_
  refine hK _ ?_
  clear hK K
  refine aw_ret ?_
  refine ret_pure (v' := V.fn (Fn.func (87 : Nat)) [] [V.ptr [V.sl (1 : Nat) (List.length f) fun (k : Nat) => [V.i (gi f k)]]]) (.inr rfl) (by kernel_rfl) (by kernel_rfl) (by kernel_rfl)
theorem unf_1 {l : List Lf} {F R K : Int} {k : Nat} (h : k < l.length) (hb : (glf l k).back = true) {G : Nat → List V} {r : Nat → Nat} (g0 : G 0 = (glf l k).c) (g1 : G 1 = (othL (glf l k) F R K).c) :
    ∀ i, i < 2 * k + 2 → appRow (2 * k) (fun j => (glf (unfL l F R K) j).c) G i = V.renL r (glf (unfL l F R K) i).c := by
  obtain ⟨h1, h2⟩ := unfL_at (fold := F) (rows := R) (cols := K) h
  rw [if_pos hb] at h1 h2
  intro i hi
  by_cases h3 : i < 2 * k
  · rw [appRow, if_pos h3]; rfl
  · rw [appRow, if_neg h3]
    by_cases h4 : i = 2 * k
    · subst h4; rw [Nat.sub_self, g0, h1]; rfl
    · obtain rfl : i = 2 * k + 1 := by omega
      rw [show 2 * k + 1 - 2 * k = 1 by omega, g1, h2]; rfl
theorem unf_2 {l : List Lf} {F R K : Int} {k : Nat} (h : k < l.length) (hb : ¬ (glf l k).back = true) {G : Nat → List V} {r : Nat → Nat} (g1 : G 1 = (glf l k).c) (g0 : G 0 = (othL (glf l k) F R K).c) :
    ∀ i, i < 2 * k + 2 → appRow (2 * k) (fun j => (glf (unfL l F R K) j).c) G i = V.renL r (glf (unfL l F R K) i).c := by
  obtain ⟨h1, h2⟩ := unfL_at (fold := F) (rows := R) (cols := K) h
  rw [if_neg hb] at h1 h2
  intro i hi
  by_cases h3 : i < 2 * k
  · rw [appRow, if_pos h3]; rfl
  · rw [appRow, if_neg h3]
    by_cases h4 : i = 2 * k
    · subst h4; rw [Nat.sub_self, g0, h1]; rfl
    · obtain rfl : i = 2 * k + 1 := by omega
      rw [show 2 * k + 1 - 2 * k = 1 by omega, g1, h2]; rfl
set_option maxHeartbeats 4000000 in
set_option maxRecDepth 100000 in
theorem unfold_ac (l : List Lf) (F R M : Int) (hl : l.length ≤ 4096) (hR : 0 ≤ R ∧ R ≤ 65536) (hM : 0 ≤ M ∧ M ≤ 65536) (hb : ∀ k, k < l.length → (0 ≤ (glf l k).row ∧ (glf l k).row ≤ 65536) ∧ (0 ≤ (glf l k).col ∧ (glf l k).col ≤ 65536)) :
    AC Tryd.prog 75 [V.lfs l, .i F, .i R, .i M] (.own 0) [.row 31 4 (2 * l.length) fun j => (glf (unfL l F R M) j).c] := by
  refine ac_intro hTT hMX (fn := Tryd.f75) (N := _) ⟨Tryd.func75, rfl, Tryd.ntmps75, by kernel_rfl⟩ (by simp) fun C hC hF => ?_
  refine aw_seq_k fun K hK => ?_
  refine w_region (n' := 2) (by kernel_rfl) (by kernel_rfl) ?_
  refine aops_n hTT (M := []) (n := 1) [pv (8 : Nat) V.nil] (by kernel_rfl) (by kernel_rfl) True.intro ?_
  refine aops_nil ?_
  refine xt_n ?_
  refine hK _ ?_
  clear hK K
  refine aw_seq_k fun K hK => ?_
  refine w_region (n' := 3) (by kernel_rfl) (by kernel_rfl) ?_
  refine aops_n hTT (M := []) (n := 1) [pv (9 : Nat) V.nil] (by kernel_rfl) (by kernel_rfl) True.intro ?_
  refine aops_nil ?_
  refine xt_n ?_
  refine hK _ ?_
  clear hK K
  refine aw_seq_k fun K hK => ?_
  refine aw_seq_k fun K hK => ?_
  refine w_region (n' := 4) (by kernel_rfl) (by kernel_rfl) ?_
  refine aops_n hTT (M := []) (n := 3) [pv (13 : Nat) (V.sl (4 : Nat) (List.length l) fun (k : Nat) => Lf.c (glf l k)), pv (14 : Nat) (V.i (↑(List.length l) : Int)), pv (15 : Nat) (V.i (0 : Int))] (by kernel_rfl) (by kernel_rfl) True.intro ?_
  refine aops_nil ?_
  refine xt_n ?_
  refine hK _ ?_
  clear hK K
  refine aw_block ?_
  refine w_le (le_open 9 31 4 (fun k => (glf (unfL l F R M) k).c) (by kernel_rfl) rfl) ?_
  refine w_loop (ι := Nat) (fun k => [(1, .i F), (2, .i R), (3, .i M), (9, .own 9), (13, V.lfs l), (14, .i l.length), (15, .i k)]) (fun k => [(9, .row 31 4 (2 * k) fun j => (glf (unfL l F R M) j).c)]) (fun k => k ≤ l.length) (fun k => l.length - k) 0 (Nat.zero_le _) ?_ ?_
  · refine le_ren (sl := [(9, Ob.row (31 : Nat) (4 : Nat) (0 : Nat) fun (j : Nat) => Lf.c (glf (unfL l F R M) j))]) [(9, 400009)] (.cons (by kernel_rfl) (.cons (by kernel_rfl) (.cons (by kernel_rfl) (.cons (by kernel_rfl) (.cons (by kernel_rfl) (.cons (by kernel_rfl) (.cons (by kernel_rfl) .nil))))))) (.cons ⟨Ob.row (31 : Nat) (4 : Nat) (0 : Nat) fun (k : Nat) => Lf.c (glf (unfL l F R M) k), (by kernel_rfl), .row (by kernel_rfl) (fun _ _ => rfl)⟩ .nil) (by kernel_rfl) (by kernel_rfl)
  intro k hk
  refine aw_seq_k fun K hK => ?_
  refine w_region (n' := 2) (by kernel_rfl) (by kernel_rfl) ?_
  refine aops_n hTT (M := []) (n := 1) [pv (16 : Nat) (V.b (decide ((↑k : Int) < (↑(List.length l) : Int))))] (by kernel_rfl) (by kernel_rfl) True.intro ?_
  refine aops_nil ?_
  refine xt_n ?_
  refine hK _ ?_
  clear hK K
  refine aw_seq_k fun K hK => ?_
  refine w_cond (t := decide ((↑k : Int) < (↑(List.length l) : Int))) (by kernel_rfl) (fun c1 => ?_) (fun c1 => ?_)
  · simp at c1
    obtain ⟨q1, q2⟩ := hb k c1
    refine aw_skip ?_
    refine xt_n ?_
    refine hK _ ?_
    clear hK K
    refine aw_seq_k fun K hK => ?_
    refine aw_block ?_
    refine aw_seq_k fun K hK => ?_
    refine w_region (n' := 3) (by kernel_rfl) (by kernel_rfl) ?_
    refine aops_n hTT (M := []) (n := 4) [pc (17 : Nat) ((0 : Int) ≤ (↑k : Int) ∧ (↑k : Int) < (↑(List.length l) : Int)) (V.ptr [V.i (Lf.row (glf l k)), V.i (Lf.col (glf l k)), V.b (Lf.back (glf l k)), V.b (Lf.turned (glf l k))]), pv (18 : Nat) (V.agg [V.i (Lf.row (glf l k)), V.i (Lf.col (glf l k)), V.b (Lf.back (glf l k)), V.b (Lf.turned (glf l k))]), pn (11 : Nat) (V.ref (200011 : Nat) (0 : Nat)) (200011 : Nat) (Ob.box (31 : Nat) [V.i (0 : Int), V.i (0 : Int), V.b false, V.b false]), pw ((0 : Nat) + (4 : Nat) ≤ (4 : Nat)) (200011 : Nat) (Ob.box (31 : Nat) [V.i (Lf.row (glf l k)), V.i (Lf.col (glf l k)), V.b (Lf.back (glf l k)), V.b (Lf.turned (glf l k))])] (by kernel_rfl) (by kernel_rfl) ⟨(by omega), (by omega), True.intro⟩ ?_
    refine aops_nil ?_
    refine xt_n ?_
    refine hK _ ?_
    clear hK K
    refine aw_seq_k fun K hK => ?_
    refine w_region (n' := 4) (by kernel_rfl) (by kernel_rfl) ?_
    refine aops_n hTT (M := []) (n := 3) [pc (19 : Nat) ((0 : Nat) ≤ (4 : Nat)) (V.agg [V.i (Lf.row (glf l k)), V.i (Lf.col (glf l k)), V.b (Lf.back (glf l k)), V.b (Lf.turned (glf l k))]), pn (12 : Nat) (V.ref (300012 : Nat) (0 : Nat)) (300012 : Nat) (Ob.box (31 : Nat) [V.i (0 : Int), V.i (0 : Int), V.b false, V.b false]), pw ((0 : Nat) + (4 : Nat) ≤ (4 : Nat)) (300012 : Nat) (Ob.box (31 : Nat) [V.i (Lf.row (glf l k)), V.i (Lf.col (glf l k)), V.b (Lf.back (glf l k)), V.b (Lf.turned (glf l k))])] (by kernel_rfl) (by kernel_rfl) ⟨(by omega), (by omega), True.intro⟩ ?_
    refine aops_nil ?_
    refine xt_n ?_
    refine hK _ ?_
    clear hK K
    refine aw_seq_k fun K hK => ?_
    refine w_region (n' := 5) (by kernel_rfl) (by kernel_rfl) ?_
    refine aops_n hTT (M := []) (n := 5) [pv (20 : Nat) (V.ref (200011 : Nat) (2 : Nat)), pc (21 : Nat) ((2 : Nat) ≤ (4 : Nat)) (V.b (Lf.back (glf l k))), pv (22 : Nat) (V.b !Lf.back (glf l k)), pv (23 : Nat) (V.ref (300012 : Nat) (2 : Nat)), pw ((2 : Nat) + (1 : Nat) ≤ (4 : Nat)) (300012 : Nat) (Ob.box (31 : Nat) [V.i (Lf.row (glf l k)), V.i (Lf.col (glf l k)), V.b !Lf.back (glf l k), V.b (Lf.turned (glf l k))])] (by kernel_rfl) (by kernel_rfl) ⟨(by omega), (by omega), True.intro⟩ ?_
    refine aops_nil ?_
    refine xt_n ?_
    refine hK _ ?_
    clear hK K
    refine aw_seq_k fun K hK => ?_
    refine aw_seq_k fun K hK => ?_
    refine w_region (n' := 6) (by kernel_rfl) (by kernel_rfl) ?_
    refine aops_n hTT (M := []) (n := 2) [pv (24 : Nat) (V.i F), pv (25 : Nat) (V.b (decide (F = (2 : Int))))] (by kernel_rfl) (by kernel_rfl) True.intro ?_
    refine aops_nil ?_
    refine xt_n ?_
    refine hK _ ?_
    clear hK K
    refine w_cond (t := decide (F = (2 : Int))) (by kernel_rfl) (fun c2 => ?_) (fun c2 => ?_)
    · simp at c2
      have e1 : othL (glf l k) F R M = ⟨2 * R - 1 - (glf l k).row, (glf l k).col, !(glf l k).back, !(glf l k).turned⟩ := by rw [othL, if_pos c2]
      refine w_regionD (n' := 7) (by kernel_rfl) (by kernel_rfl) ?_
      refine aops_n hTT (M := []) (n := 13) [pv (26 : Nat) (V.i R), pc (27 : Nat) ((-9223372036854775808 : Int) ≤ (2 : Int) * R ∧ (2 : Int) * R ≤ (9223372036854775807 : Int)) (V.i ((2 : Int) * R)), pc (28 : Nat) ((-9223372036854775808 : Int) ≤ (2 : Int) * R - (1 : Int) ∧ (2 : Int) * R - (1 : Int) ≤ (9223372036854775807 : Int)) (V.i ((2 : Int) * R - (1 : Int))), pv (29 : Nat) (V.ref (200011 : Nat) (0 : Nat)), pc (30 : Nat) ((0 : Nat) ≤ (4 : Nat)) (V.i (Lf.row (glf l k))), pc (31 : Nat) ((-9223372036854775808 : Int) ≤ (2 : Int) * R - (1 : Int) - Lf.row (glf l k) ∧ (2 : Int) * R - (1 : Int) - Lf.row (glf l k) ≤ (9223372036854775807 : Int)) (V.i ((2 : Int) * R - (1 : Int) - Lf.row (glf l k))), pv (32 : Nat) (V.ref (200011 : Nat) (3 : Nat)), pc (33 : Nat) ((3 : Nat) ≤ (4 : Nat)) (V.b (Lf.turned (glf l k))), pv (34 : Nat) (V.b !Lf.turned (glf l k)), pv (35 : Nat) (V.ref (300012 : Nat) (0 : Nat)), pw ((0 : Nat) + (1 : Nat) ≤ (4 : Nat)) (300012 : Nat) (Ob.box (31 : Nat) [V.i ((2 : Int) * R - (1 : Int) - Lf.row (glf l k)), V.i (Lf.col (glf l k)), V.b !Lf.back (glf l k), V.b (Lf.turned (glf l k))]), pv (36 : Nat) (V.ref (300012 : Nat) (3 : Nat)), pw ((3 : Nat) + (1 : Nat) ≤ (4 : Nat)) (300012 : Nat) (Ob.box (31 : Nat) [V.i ((2 : Int) * R - (1 : Int) - Lf.row (glf l k)), V.i (Lf.col (glf l k)), V.b !Lf.back (glf l k), V.b !Lf.turned (glf l k)])] (by kernel_rfl) (by kernel_rfl) ⟨(by omega), (by omega), (by omega), (by omega), (by omega), (by omega), (by omega), True.intro⟩ ?_
      refine aops_nil ⟨by kernel_rfl, ?_⟩
      refine xt_n ?_
      refine hK _ ?_
      clear hK K
      refine aw_seq_k fun K hK => ?_
      refine w_region (n' := 8) (by kernel_rfl) (by kernel_rfl) ?_
      refine aops_n hTT (M := []) (n := 2) [pv (44 : Nat) (V.ref (200011 : Nat) (2 : Nat)), pc (45 : Nat) ((2 : Nat) ≤ (4 : Nat)) (V.b (Lf.back (glf l k)))] (by kernel_rfl) (by kernel_rfl) ⟨(by omega), True.intro⟩ ?_
      refine aops_nil ?_
      refine xt_n ?_
      refine hK _ ?_
      clear hK K
      refine w_cond (t := Lf.back (glf l k)) (by kernel_rfl) (fun c3 => ?_) (fun c3 => ?_)
      · refine w_region (n' := 9) (by kernel_rfl) (by kernel_rfl) ?_
        refine aops_n hTT (M := []) (n := 6) [pv (46 : Nat) (V.own (9 : Nat)), pc (47 : Nat) ((0 : Nat) ≤ (4 : Nat)) (V.agg [V.i (Lf.row (glf l k)), V.i (Lf.col (glf l k)), V.b (Lf.back (glf l k)), V.b (Lf.turned (glf l k))]), pc (48 : Nat) ((0 : Nat) ≤ (4 : Nat)) (V.agg [V.i ((2 : Int) * R - (1 : Int) - Lf.row (glf l k)), V.i (Lf.col (glf l k)), V.b !Lf.back (glf l k), V.b !Lf.turned (glf l k)]), pv (49 : Nat) (V.sl (4 : Nat) (2 : Nat) fun (i : Nat) => List.take (4 : Nat) (List.drop (i * (4 : Nat)) [V.i (Lf.row (glf l k)), V.i (Lf.col (glf l k)), V.b (Lf.back (glf l k)), V.b (Lf.turned (glf l k)), V.i ((2 : Int) * R - (1 : Int) - Lf.row (glf l k)), V.i (Lf.col (glf l k)), V.b !Lf.back (glf l k), V.b !Lf.turned (glf l k)])), PR.mk (some (50 : Nat)) (some ((2 : Nat) * k + (2 : Nat) ≤ (1099511627776 : Nat))) (V.own (800050 : Nat)) [((9 : Nat), none), ((800050 : Nat), some (Ob.row (31 : Nat) (4 : Nat) ((2 : Nat) * k + (2 : Nat)) (appRow ((2 : Nat) * k) (fun (j : Nat) => Lf.c (glf (unfL l F R M) j)) fun (i : Nat) => List.take (4 : Nat) (List.drop (i * (4 : Nat)) [V.i (Lf.row (glf l k)), V.i (Lf.col (glf l k)), V.b (Lf.back (glf l k)), V.b (Lf.turned (glf l k)), V.i ((2 : Int) * R - (1 : Int) - Lf.row (glf l k)), V.i (Lf.col (glf l k)), V.b !Lf.back (glf l k), V.b !Lf.turned (glf l k)]))))] false, pv (9 : Nat) (V.own (800050 : Nat))] (by kernel_rfl) (by kernel_rfl) ⟨(by omega), (by omega), (by omega), True.intro⟩ ?_
        refine aops_nil ?_
        refine xb_n ?_
        refine xt_n ?_
        refine hK _ ?_
        clear hK K
        refine w_region (n' := 10) (by kernel_rfl) (by kernel_rfl) ?_
        refine aops_n hTT (M := []) (n := 2) [pc (56 : Nat) ((-9223372036854775808 : Int) ≤ (↑k : Int) + (1 : Int) ∧ (↑k : Int) + (1 : Int) ≤ (9223372036854775807 : Int)) (V.i ((↑k : Int) + (1 : Int))), pv (15 : Nat) (V.i ((↑k : Int) + (1 : Int)))] (by kernel_rfl) (by kernel_rfl) ⟨(by omega), True.intro⟩ ?_
        refine aops_nil ?_
        refine xt_n ?_
        refine ⟨k + 1, by omega, ?_, by omega⟩
        refine le_ren (tl := [(1, V.i F), (2, V.i R), (3, V.i M), (9, V.own (9 : Nat)), (13, V.sl (4 : Nat) (List.length l) fun (k : Nat) => Lf.c (glf l k)), (14, V.i (↑(List.length l) : Int)), (15, V.i (↑(k + (1 : Nat)) : Int))]) (sl := [(9, Ob.row (31 : Nat) (4 : Nat) ((2 : Nat) * (k + (1 : Nat))) fun (j : Nat) => Lf.c (glf (unfL l F R M) j))]) [(9, 800050)] (.cons (by kernel_rfl) (.cons (by kernel_rfl) (.cons (by kernel_rfl) (.cons (by kernel_rfl) (.cons (by kernel_rfl) (.cons (by kernel_rfl) (.cons (by kernel_rfl) .nil))))))) (.cons ⟨Ob.row (31 : Nat) (4 : Nat) ((2 : Nat) * k + (2 : Nat)) (appRow ((2 : Nat) * k) (fun (j : Nat) => Lf.c (glf (unfL l F R M) j)) fun (i : Nat) => List.take (4 : Nat) (List.drop (i * (4 : Nat)) [V.i (Lf.row (glf l k)), V.i (Lf.col (glf l k)), V.b (Lf.back (glf l k)), V.b (Lf.turned (glf l k)), V.i ((2 : Int) * R - (1 : Int) - Lf.row (glf l k)), V.i (Lf.col (glf l k)), V.b !Lf.back (glf l k), V.b !Lf.turned (glf l k)])), (by kernel_rfl), .row (by kernel_rfl) ?_⟩ .nil) (by kernel_rfl) (by kernel_rfl)
        exact unf_1 c1 (by simpa using c3) rfl (by rw [e1]; rfl)
      · refine w_region (n' := 9) (by kernel_rfl) (by kernel_rfl) ?_
        refine aops_n hTT (M := []) (n := 6) [pv (51 : Nat) (V.own (9 : Nat)), pc (52 : Nat) ((0 : Nat) ≤ (4 : Nat)) (V.agg [V.i ((2 : Int) * R - (1 : Int) - Lf.row (glf l k)), V.i (Lf.col (glf l k)), V.b !Lf.back (glf l k), V.b !Lf.turned (glf l k)]), pc (53 : Nat) ((0 : Nat) ≤ (4 : Nat)) (V.agg [V.i (Lf.row (glf l k)), V.i (Lf.col (glf l k)), V.b (Lf.back (glf l k)), V.b (Lf.turned (glf l k))]), pv (54 : Nat) (V.sl (4 : Nat) (2 : Nat) fun (i : Nat) => List.take (4 : Nat) (List.drop (i * (4 : Nat)) [V.i ((2 : Int) * R - (1 : Int) - Lf.row (glf l k)), V.i (Lf.col (glf l k)), V.b !Lf.back (glf l k), V.b !Lf.turned (glf l k), V.i (Lf.row (glf l k)), V.i (Lf.col (glf l k)), V.b (Lf.back (glf l k)), V.b (Lf.turned (glf l k))])), PR.mk (some (55 : Nat)) (some ((2 : Nat) * k + (2 : Nat) ≤ (1099511627776 : Nat))) (V.own (800055 : Nat)) [((9 : Nat), none), ((800055 : Nat), some (Ob.row (31 : Nat) (4 : Nat) ((2 : Nat) * k + (2 : Nat)) (appRow ((2 : Nat) * k) (fun (j : Nat) => Lf.c (glf (unfL l F R M) j)) fun (i : Nat) => List.take (4 : Nat) (List.drop (i * (4 : Nat)) [V.i ((2 : Int) * R - (1 : Int) - Lf.row (glf l k)), V.i (Lf.col (glf l k)), V.b !Lf.back (glf l k), V.b !Lf.turned (glf l k), V.i (Lf.row (glf l k)), V.i (Lf.col (glf l k)), V.b (Lf.back (glf l k)), V.b (Lf.turned (glf l k))]))))] false, pv (9 : Nat) (V.own (800055 : Nat))] (by kernel_rfl) (by kernel_rfl) ⟨(by omega), (by omega), (by omega), True.intro⟩ ?_
        refine aops_nil ?_
        refine xb_n ?_
        refine xt_n ?_
        refine hK _ ?_
        clear hK K
        refine w_region (n' := 10) (by kernel_rfl) (by kernel_rfl) ?_
        refine aops_n hTT (M := []) (n := 2) [pc (56 : Nat) ((-9223372036854775808 : Int) ≤ (↑k : Int) + (1 : Int) ∧ (↑k : Int) + (1 : Int) ≤ (9223372036854775807 : Int)) (V.i ((↑k : Int) + (1 : Int))), pv (15 : Nat) (V.i ((↑k : Int) + (1 : Int)))] (by kernel_rfl) (by kernel_rfl) ⟨(by omega), True.intro⟩ ?_
        refine aops_nil ?_
        refine xt_n ?_
        refine ⟨k + 1, by omega, ?_, by omega⟩
        refine le_ren (tl := [(1, V.i F), (2, V.i R), (3, V.i M), (9, V.own (9 : Nat)), (13, V.sl (4 : Nat) (List.length l) fun (k : Nat) => Lf.c (glf l k)), (14, V.i (↑(List.length l) : Int)), (15, V.i (↑(k + (1 : Nat)) : Int))]) (sl := [(9, Ob.row (31 : Nat) (4 : Nat) ((2 : Nat) * (k + (1 : Nat))) fun (j : Nat) => Lf.c (glf (unfL l F R M) j))]) [(9, 800055)] (.cons (by kernel_rfl) (.cons (by kernel_rfl) (.cons (by kernel_rfl) (.cons (by kernel_rfl) (.cons (by kernel_rfl) (.cons (by kernel_rfl) (.cons (by kernel_rfl) .nil))))))) (.cons ⟨Ob.row (31 : Nat) (4 : Nat) ((2 : Nat) * k + (2 : Nat)) (appRow ((2 : Nat) * k) (fun (j : Nat) => Lf.c (glf (unfL l F R M) j)) fun (i : Nat) => List.take (4 : Nat) (List.drop (i * (4 : Nat)) [V.i ((2 : Int) * R - (1 : Int) - Lf.row (glf l k)), V.i (Lf.col (glf l k)), V.b !Lf.back (glf l k), V.b !Lf.turned (glf l k), V.i (Lf.row (glf l k)), V.i (Lf.col (glf l k)), V.b (Lf.back (glf l k)), V.b (Lf.turned (glf l k))])), (by kernel_rfl), .row (by kernel_rfl) ?_⟩ .nil) (by kernel_rfl) (by kernel_rfl)
        exact unf_2 c1 (by simpa using c3) rfl (by rw [e1]; rfl)
    · simp at c2
      have e1 : othL (glf l k) F R M = ⟨(glf l k).row, 2 * M - 1 - (glf l k).col, !(glf l k).back, (glf l k).turned⟩ := by rw [othL, if_neg c2]
      refine w_region (n' := 7) (by kernel_rfl) (by kernel_rfl) ?_
      refine aops_n hTT (M := []) (n := 8) [pv (37 : Nat) (V.i M), pc (38 : Nat) ((-9223372036854775808 : Int) ≤ (2 : Int) * M ∧ (2 : Int) * M ≤ (9223372036854775807 : Int)) (V.i ((2 : Int) * M)), pc (39 : Nat) ((-9223372036854775808 : Int) ≤ (2 : Int) * M - (1 : Int) ∧ (2 : Int) * M - (1 : Int) ≤ (9223372036854775807 : Int)) (V.i ((2 : Int) * M - (1 : Int))), pv (40 : Nat) (V.ref (200011 : Nat) (1 : Nat)), pc (41 : Nat) ((1 : Nat) ≤ (4 : Nat)) (V.i (Lf.col (glf l k))), pc (42 : Nat) ((-9223372036854775808 : Int) ≤ (2 : Int) * M - (1 : Int) - Lf.col (glf l k) ∧ (2 : Int) * M - (1 : Int) - Lf.col (glf l k) ≤ (9223372036854775807 : Int)) (V.i ((2 : Int) * M - (1 : Int) - Lf.col (glf l k))), pv (43 : Nat) (V.ref (300012 : Nat) (1 : Nat)), pw ((1 : Nat) + (1 : Nat) ≤ (4 : Nat)) (300012 : Nat) (Ob.box (31 : Nat) [V.i (Lf.row (glf l k)), V.i ((2 : Int) * M - (1 : Int) - Lf.col (glf l k)), V.b !Lf.back (glf l k), V.b (Lf.turned (glf l k))])] (by kernel_rfl) (by kernel_rfl) ⟨(by omega), (by omega), (by omega), (by omega), (by omega), True.intro⟩ ?_
      refine aops_nil ?_
      refine xt_n ?_
      refine hK _ ?_
      clear hK K
      refine aw_seq_k fun K hK => ?_
      refine w_region (n' := 8) (by kernel_rfl) (by kernel_rfl) ?_
      refine aops_n hTT (M := []) (n := 2) [pv (44 : Nat) (V.ref (200011 : Nat) (2 : Nat)), pc (45 : Nat) ((2 : Nat) ≤ (4 : Nat)) (V.b (Lf.back (glf l k)))] (by kernel_rfl) (by kernel_rfl) ⟨(by omega), True.intro⟩ ?_
      refine aops_nil ?_
      refine xt_n ?_
      refine hK _ ?_
      clear hK K
      refine w_cond (t := Lf.back (glf l k)) (by kernel_rfl) (fun c3 => ?_) (fun c3 => ?_)
      · refine w_region (n' := 9) (by kernel_rfl) (by kernel_rfl) ?_
        refine aops_n hTT (M := []) (n := 6) [pv (46 : Nat) (V.own (9 : Nat)), pc (47 : Nat) ((0 : Nat) ≤ (4 : Nat)) (V.agg [V.i (Lf.row (glf l k)), V.i (Lf.col (glf l k)), V.b (Lf.back (glf l k)), V.b (Lf.turned (glf l k))]), pc (48 : Nat) ((0 : Nat) ≤ (4 : Nat)) (V.agg [V.i (Lf.row (glf l k)), V.i ((2 : Int) * M - (1 : Int) - Lf.col (glf l k)), V.b !Lf.back (glf l k), V.b (Lf.turned (glf l k))]), pv (49 : Nat) (V.sl (4 : Nat) (2 : Nat) fun (i : Nat) => List.take (4 : Nat) (List.drop (i * (4 : Nat)) [V.i (Lf.row (glf l k)), V.i (Lf.col (glf l k)), V.b (Lf.back (glf l k)), V.b (Lf.turned (glf l k)), V.i (Lf.row (glf l k)), V.i ((2 : Int) * M - (1 : Int) - Lf.col (glf l k)), V.b !Lf.back (glf l k), V.b (Lf.turned (glf l k))])), PR.mk (some (50 : Nat)) (some ((2 : Nat) * k + (2 : Nat) ≤ (1099511627776 : Nat))) (V.own (800050 : Nat)) [((9 : Nat), none), ((800050 : Nat), some (Ob.row (31 : Nat) (4 : Nat) ((2 : Nat) * k + (2 : Nat)) (appRow ((2 : Nat) * k) (fun (j : Nat) => Lf.c (glf (unfL l F R M) j)) fun (i : Nat) => List.take (4 : Nat) (List.drop (i * (4 : Nat)) [V.i (Lf.row (glf l k)), V.i (Lf.col (glf l k)), V.b (Lf.back (glf l k)), V.b (Lf.turned (glf l k)), V.i (Lf.row (glf l k)), V.i ((2 : Int) * M - (1 : Int) - Lf.col (glf l k)), V.b !Lf.back (glf l k), V.b (Lf.turned (glf l k))]))))] false, pv (9 : Nat) (V.own (800050 : Nat))] (by kernel_rfl) (by kernel_rfl) ⟨(by omega), (by omega), (by omega), True.intro⟩ ?_
        refine aops_nil ?_
        refine xb_n ?_
        refine xt_n ?_
        refine hK _ ?_
        clear hK K
        refine w_region (n' := 10) (by kernel_rfl) (by kernel_rfl) ?_
        refine aops_n hTT (M := []) (n := 2) [pc (56 : Nat) ((-9223372036854775808 : Int) ≤ (↑k : Int) + (1 : Int) ∧ (↑k : Int) + (1 : Int) ≤ (9223372036854775807 : Int)) (V.i ((↑k : Int) + (1 : Int))), pv (15 : Nat) (V.i ((↑k : Int) + (1 : Int)))] (by kernel_rfl) (by kernel_rfl) ⟨(by omega), True.intro⟩ ?_
        refine aops_nil ?_
        refine xt_n ?_
        refine ⟨k + 1, by omega, ?_, by omega⟩
        refine le_ren (tl := [(1, V.i F), (2, V.i R), (3, V.i M), (9, V.own (9 : Nat)), (13, V.sl (4 : Nat) (List.length l) fun (k : Nat) => Lf.c (glf l k)), (14, V.i (↑(List.length l) : Int)), (15, V.i (↑(k + (1 : Nat)) : Int))]) (sl := [(9, Ob.row (31 : Nat) (4 : Nat) ((2 : Nat) * (k + (1 : Nat))) fun (j : Nat) => Lf.c (glf (unfL l F R M) j))]) [(9, 800050)] (.cons (by kernel_rfl) (.cons (by kernel_rfl) (.cons (by kernel_rfl) (.cons (by kernel_rfl) (.cons (by kernel_rfl) (.cons (by kernel_rfl) (.cons (by kernel_rfl) .nil))))))) (.cons ⟨Ob.row (31 : Nat) (4 : Nat) ((2 : Nat) * k + (2 : Nat)) (appRow ((2 : Nat) * k) (fun (j : Nat) => Lf.c (glf (unfL l F R M) j)) fun (i : Nat) => List.take (4 : Nat) (List.drop (i * (4 : Nat)) [V.i (Lf.row (glf l k)), V.i (Lf.col (glf l k)), V.b (Lf.back (glf l k)), V.b (Lf.turned (glf l k)), V.i (Lf.row (glf l k)), V.i ((2 : Int) * M - (1 : Int) - Lf.col (glf l k)), V.b !Lf.back (glf l k), V.b (Lf.turned (glf l k))])), (by kernel_rfl), .row (by kernel_rfl) ?_⟩ .nil) (by kernel_rfl) (by kernel_rfl)
        exact unf_1 c1 (by simpa using c3) rfl (by rw [e1]; rfl)
      · refine w_region (n' := 9) (by kernel_rfl) (by kernel_rfl) ?_
        refine aops_n hTT (M := []) (n := 6) [pv (51 : Nat) (V.own (9 : Nat)), pc (52 : Nat) ((0 : Nat) ≤ (4 : Nat)) (V.agg [V.i (Lf.row (glf l k)), V.i ((2 : Int) * M - (1 : Int) - Lf.col (glf l k)), V.b !Lf.back (glf l k), V.b (Lf.turned (glf l k))]), pc (53 : Nat) ((0 : Nat) ≤ (4 : Nat)) (V.agg [V.i (Lf.row (glf l k)), V.i (Lf.col (glf l k)), V.b (Lf.back (glf l k)), V.b (Lf.turned (glf l k))]), pv (54 : Nat) (V.sl (4 : Nat) (2 : Nat) fun (i : Nat) => List.take (4 : Nat) (List.drop (i * (4 : Nat)) [V.i (Lf.row (glf l k)), V.i ((2 : Int) * M - (1 : Int) - Lf.col (glf l k)), V.b !Lf.back (glf l k), V.b (Lf.turned (glf l k)), V.i (Lf.row (glf l k)), V.i (Lf.col (glf l k)), V.b (Lf.back (glf l k)), V.b (Lf.turned (glf l k))])), PR.mk (some (55 : Nat)) (some ((2 : Nat) * k + (2 : Nat) ≤ (1099511627776 : Nat))) (V.own (800055 : Nat)) [((9 : Nat), none), ((800055 : Nat), some (Ob.row (31 : Nat) (4 : Nat) ((2 : Nat) * k + (2 : Nat)) (appRow ((2 : Nat) * k) (fun (j : Nat) => Lf.c (glf (unfL l F R M) j)) fun (i : Nat) => List.take (4 : Nat) (List.drop (i * (4 : Nat)) [V.i (Lf.row (glf l k)), V.i ((2 : Int) * M - (1 : Int) - Lf.col (glf l k)), V.b !Lf.back (glf l k), V.b (Lf.turned (glf l k)), V.i (Lf.row (glf l k)), V.i (Lf.col (glf l k)), V.b (Lf.back (glf l k)), V.b (Lf.turned (glf l k))]))))] false, pv (9 : Nat) (V.own (800055 : Nat))] (by kernel_rfl) (by kernel_rfl) ⟨(by omega), (by omega), (by omega), True.intro⟩ ?_
        refine aops_nil ?_
        refine xb_n ?_
        refine xt_n ?_
        refine hK _ ?_
        clear hK K
        refine w_region (n' := 10) (by kernel_rfl) (by kernel_rfl) ?_
        refine aops_n hTT (M := []) (n := 2) [pc (56 : Nat) ((-9223372036854775808 : Int) ≤ (↑k : Int) + (1 : Int) ∧ (↑k : Int) + (1 : Int) ≤ (9223372036854775807 : Int)) (V.i ((↑k : Int) + (1 : Int))), pv (15 : Nat) (V.i ((↑k : Int) + (1 : Int)))] (by kernel_rfl) (by kernel_rfl) ⟨(by omega), True.intro⟩ ?_
        refine aops_nil ?_
        refine xt_n ?_
        refine ⟨k + 1, by omega, ?_, by omega⟩
        refine le_ren (tl := [(1, V.i F), (2, V.i R), (3, V.i M), (9, V.own (9 : Nat)), (13, V.sl (4 : Nat) (List.length l) fun (k : Nat) => Lf.c (glf l k)), (14, V.i (↑(List.length l) : Int)), (15, V.i (↑(k + (1 : Nat)) : Int))]) (sl := [(9, Ob.row (31 : Nat) (4 : Nat) ((2 : Nat) * (k + (1 : Nat))) fun (j : Nat) => Lf.c (glf (unfL l F R M) j))]) [(9, 800055)] (.cons (by kernel_rfl) (.cons (by kernel_rfl) (.cons (by kernel_rfl) (.cons (by kernel_rfl) (.cons (by kernel_rfl) (.cons (by kernel_rfl) (.cons (by kernel_rfl) .nil))))))) (.cons ⟨Ob.row (31 : Nat) (4 : Nat) ((2 : Nat) * k + (2 : Nat)) (appRow ((2 : Nat) * k) (fun (j : Nat) => Lf.c (glf (unfL l F R M) j)) fun (i : Nat) => List.take (4 : Nat) (List.drop (i * (4 : Nat)) [V.i (Lf.row (glf l k)), V.i ((2 : Int) * M - (1 : Int) - Lf.col (glf l k)), V.b !Lf.back (glf l k), V.b (Lf.turned (glf l k)), V.i (Lf.row (glf l k)), V.i (Lf.col (glf l k)), V.b (Lf.back (glf l k)), V.b (Lf.turned (glf l k))])), (by kernel_rfl), .row (by kernel_rfl) ?_⟩ .nil) (by kernel_rfl) (by kernel_rfl)
        exact unf_2 c1 (by simpa using c3) rfl (by rw [e1]; rfl)
  · simp at c1
    obtain rfl : k = l.length := by omega
    refine aw_exit ?_
    refine xt_x ?_
    refine xt_x ?_
    refine xb_same ?_
    refine xt_n ?_
    clear hK K
    refine hK _ ?_
    clear hK K
    refine aw_seq_k fun K hK => ?_
    refine w_region (n' := 3) (by kernel_rfl) (by kernel_rfl) ?_
    refine aops_n hTT (M := []) (n := 2) [pv (57 : Nat) (V.own (9 : Nat)), pv (8 : Nat) (V.own (9 : Nat))] (by kernel_rfl) (by kernel_rfl) True.intro ?_
    refine aops_nil ?_
    refine xt_n ?_
    refine hK _ ?_
    clear hK K
    refine aw_ret ?_
    refine ret_own [(0, 9)] [(8, V.own (0 : Nat))] (.inr rfl) (.cons (by kernel_rfl) .nil) (.cons ⟨Ob.row (31 : Nat) (4 : Nat) ((2 : Nat) * List.length l) fun (j : Nat) => Lf.c (glf (unfL l F R M) j), (by kernel_rfl), .row (by kernel_rfl) (fun _ _ => rfl)⟩ .nil) (by kernel_rfl) (by kernel_rfl) (by kernel_rfl) (by kernel_rfl)
theorem unfoldO_ac (l : List Lf) (F R M : Int) (hl : l.length ≤ 4096) (hR : 0 ≤ R ∧ R ≤ 65536) (hM : 0 ≤ M ∧ M ≤ 65536) (hb : ∀ k, k < l.length → (0 ≤ (glf l k).row ∧ (glf l k).row ≤ 65536) ∧ (0 ≤ (glf l k).col ∧ (glf l k).col ≤ 65536)) :
    AM Tryd.prog 75 [.own 500, .i F, .i R, .i M] [.row 31 4 l.length fun j => (glf l j).c] (.own 0) [none] [.row 31 4 (2 * l.length) fun j => (glf (unfL l F R M) j).c] :=
  (unfold_ac l F R M hl hR hM hb).row 31 (sz := 4) (n := l.length) (row := fun j => (glf l j).c) rfl rfl (by simp) rfl (fun _ _ => rfl) (fun _ => rfl)
def stV (f : List Int) : List (List V) := (stkL f).map fun x => [V.agg x.c]
theorem stV_get {f : List Int} {k : Nat} (h : k < (stkL f).length) : (stV f)[k]? = some [V.agg (glf (stkL f) k).c] := by rw [glf_get h]; simp [stV, h]
theorem stV_len (f : List Int) : (stV f).length = (stkL f).length := by simp [stV]
theorem drop_last {f : List Int} {k : Nat} (h : k < f.length) : f.drop (f.length - 1 - k) = gi f (f.length - 1 - k) :: f.drop (f.length - k) := by
  have h1 : f.length - 1 - k < f.length := by omega
  rw [List.drop_eq_getElem_cons h1, show f.length - 1 - k + 1 = f.length - k by omega]
  simp [gi, List.getD_eq_getElem?_getD, List.getElem?_eq_getElem h1]
theorem stk_step {f : List Int} {k : Nat} (h : k < f.length) : stkS (f.drop (f.length - (k + 1))) = (unfL (stkL (f.drop (f.length - k))) (gi f (f.length - 1 - k)) (stkS (f.drop (f.length - k))).2.1 (stkS (f.drop (f.length - k))).2.2, (stkS (f.drop (f.length - k))).2.1 * gr0 (gi f (f.length - 1 - k)), (stkS (f.drop (f.length - k))).2.2 * gr1 (gi f (f.length - 1 - k))) := by
  rw [show f.length - (k + 1) = f.length - 1 - k by omega, drop_last h, stkS, stkL]
theorem FO_drop {f : List Int} (h : FO f) (n : Nat) : FO (f.drop n) := fun x hx => h x (List.mem_of_mem_drop hx)
set_option maxHeartbeats 4000000 in
set_option maxRecDepth 100000 in
theorem stack1_it (f : List Int) (hf : FO f) (hl : f.length ≤ 5) : AIt4 Tryd.prog 73 [.ptr [V.ints f]] (stV f) := by
  refine ait4_intro hTT hMX (fn := Tryd.f73) (N := _) ⟨Tryd.func73, rfl, Tryd.ntmps73, by kernel_rfl⟩ rfl (by simp) fun Y => ?_
  rw [stV_len]
  refine awj4_seq_a fun C hF hC K hK => ?_
  refine w_region (n' := 2) (by kernel_rfl) (by kernel_rfl) ?_
  refine aops_n hTT (M := [11]) (n := 8) [pv (10 : Nat) (V.agg [V.i (0 : Int), V.i (0 : Int), V.b false, V.b false]), pn (11 : Nat) (V.own (100011 : Nat)) (100011 : Nat) (Ob.row (31 : Nat) (4 : Nat) (1 : Nat) fun (i : Nat) => List.take (4 : Nat) (List.drop (i * (4 : Nat)) [V.i (0 : Int), V.i (0 : Int), V.b false, V.b false])), pn (3 : Nat) (V.ref (100003 : Nat) (0 : Nat)) (100003 : Nat) (Ob.box (24 : Nat) [V.nil]), pn (4 : Nat) (V.ref (100004 : Nat) (0 : Nat)) (100004 : Nat) (Ob.box (3 : Nat) [V.i (0 : Int)]), pn (5 : Nat) (V.ref (100005 : Nat) (0 : Nat)) (100005 : Nat) (Ob.box (3 : Nat) [V.i (0 : Int)]), pw ((0 : Nat) + (1 : Nat) ≤ (1 : Nat)) (100003 : Nat) (Ob.box (24 : Nat) [V.own (100011 : Nat)]), pw ((0 : Nat) + (1 : Nat) ≤ (1 : Nat)) (100004 : Nat) (Ob.box (3 : Nat) [V.i (1 : Int)]), pw ((0 : Nat) + (1 : Nat) ≤ (1 : Nat)) (100005 : Nat) (Ob.box (3 : Nat) [V.i (1 : Int)])] (by kernel_rfl) (by kernel_rfl) ⟨(by omega), (by omega), (by omega), True.intro⟩ ?_
  refine aops_nil ?_
  refine xt_n ?_
  refine hK _ ?_
  clear hK K
  refine awj4_seq_a fun C hF hC K hK => ?_
  refine aw_seq_k fun K hK => ?_
  refine w_region (n' := 3) (by kernel_rfl) (by kernel_rfl) ?_
  refine aops_n hTT (M := [11]) (n := 1) [pv (12 : Nat) (V.sl (1 : Nat) (List.length f) fun (k : Nat) => [V.i (gi f k)])] (by kernel_rfl) (by kernel_rfl) True.intro ?_
  refine e_call (first := []) (caps := []) (Backward_ac f) (by kernel_rfl) (by kernel_rfl) (by kernel_rfl) (by kernel_rfl) (by kernel_rfl) ?_
  refine aops_nil ?_
  refine xt_n ?_
  refine hK _ ?_
  clear hK K
  refine aw_block ?_
  refine w_range4 (caps := [V.ptr [V.sl (1 : Nat) (List.length f) fun (k : Nat) => [V.i (gi f k)]]]) hF [500, 501, 502] [0] [(500, 100003), (501, 100004), (502, 100005), (0, 100011)] (fun _ _ h => by rw [hC] at h; cases h) (backward_it f (by omega)) (by kernel_rfl) (by kernel_rfl) ?_ (by kernel_rfl) [(0, V.c (.func (.yield Y.l) #[] #[])), (3, V.ref 500 0), (4, V.ref 501 0), (5, V.ref 502 0)] (fun k => k ≤ f.length) (fun k => [Ob.box 24 [.own 0], Ob.box 3 [.i (stkS (f.drop (f.length - k))).2.1], Ob.box 3 [.i (stkS (f.drop (f.length - k))).2.2], Ob.row 31 4 (stkL (f.drop (f.length - k))).length fun j => (glf (stkL (f.drop (f.length - k))) j).c]) (fun _ _ _ => False) ?_ (by kernel_rfl) (by kernel_rfl) (by kernel_rfl) (.cons (by kernel_rfl) (.cons (by kernel_rfl) (.cons (by kernel_rfl) (.cons (by kernel_rfl) .nil)))) (.cons ⟨Ob.box (24 : Nat) [V.own (100011 : Nat)], (by kernel_rfl), .box (by kernel_rfl)⟩ (.cons ⟨Ob.box (3 : Nat) [V.i (1 : Int)], (by kernel_rfl), .box ?_⟩ (.cons ⟨Ob.box (3 : Nat) [V.i (1 : Int)], (by kernel_rfl), .box ?_⟩ (.cons ⟨Ob.row (31 : Nat) (4 : Nat) (1 : Nat) fun (i : Nat) => List.take (4 : Nat) (List.drop (i * (4 : Nat)) [V.i (0 : Int), V.i (0 : Int), V.b false, V.b false]), (by kernel_rfl), .row ?_ ?_⟩ .nil)))) (by kernel_rfl) ?_ ?_ ?_
  · intro x hx
    simp only [bwV, List.mem_map] at hx
    obtain ⟨j, _, rfl⟩ := hx
    rfl
  · exact Nat.zero_le _
  · rw [Nat.sub_zero, List.drop_length]; rfl
  · rw [Nat.sub_zero, List.drop_length]; rfl
  · rw [Nat.sub_zero, List.drop_length]; rfl
  · rw [Nat.sub_zero, List.drop_length]
    intro i hi
    obtain rfl : i = 0 := by omega
    rfl
  · rintro C' ⟨lx, hF⟩ k x hx _
    have h1 : k < f.length := by have := (List.getElem?_eq_some_iff.1 hx).1; rwa [bwV_len] at this
    rw [bwV_get h1] at hx
    injection hx with hx
    subst hx
    have hf1 := FO_drop hf (f.length - k)
    obtain ⟨⟨r1, r2, r3⟩, r4⟩ := stk_bd hf1
    have hle := stk_le hf1 (by simp; omega)
    have hlen : (stkL (f.drop (f.length - k))).length ≤ 32 := by rw [stkL_len]; exact pow_le5 (by simp; omega)
    have hgk : gi f (f.length - 1 - k) = 1 ∨ gi f (f.length - 1 - k) = 2 := by
      have hlt : f.length - 1 - k < f.length := by omega
      simp only [gi, List.getD_eq_getElem?_getD, List.getElem?_eq_getElem hlt, Option.getD_some]
      exact hf _ (List.getElem_mem hlt)
    generalize hg : gi f (f.length - 1 - k) = F at hgk
    generalize hs : stkL (f.drop (f.length - k)) = ls at r4 hlen
    generalize hR : (stkS (f.drop (f.length - k))).2.1 = R at r1 r3 r4 hle
    generalize hM : (stkS (f.drop (f.length - k))).2.2 = M at r2 r3 r4 hle
    have hst := stk_step h1
    rw [hg, hs, hR, hM] at hst
    rcases hgk with rfl | rfl
    · refine w_region (n' := 2) (by kernel_rfl) (by kernel_rfl) ?_
      refine aops_n hTT (M := []) (n := 1) [pv (7 : Nat) (V.i (1 : Int))] (by kernel_rfl) (by kernel_rfl) True.intro ?_
      refine aops_nil ?_
      refine xt_n ?_
      refine aw_block ?_
      refine aw_seq_k fun K hK => ?_
      refine w_region (n' := 3) (by kernel_rfl) (by kernel_rfl) ?_
      refine aops_n hTT (M := []) (n := 4) [pc (16 : Nat) ((0 : Nat) ≤ (1 : Nat)) (V.own (0 : Nat)), pv (17 : Nat) (V.i (1 : Int)), pc (18 : Nat) ((0 : Nat) ≤ (1 : Nat)) (V.i R), pc (19 : Nat) ((0 : Nat) ≤ (1 : Nat)) (V.i M)] (by kernel_rfl) (by kernel_rfl) ⟨(by omega), (by omega), (by omega), True.intro⟩ ?_
      refine aops_callM [0] (first := []) (caps := []) (ins' := [Ob.row (31 : Nat) (4 : Nat) (List.length ls) fun (j : Nat) => Lf.c (glf ls j)]) (v' := V.own (200020 : Nat)) (δ := [(0, Option.none), (200020, Option.some (Ob.row (31 : Nat) (4 : Nat) ((2 : Nat) * List.length ls) fun (i : Nat) => V.renL (nameG (2 : Nat) (some 20) [(0 : Nat)]) (Lf.c (glf (unfL ls (1 : Int) R M) i))))]) (kp := [0]) (unfoldO_ac ls 1 R M (by omega) (by omega) (by omega) (fun j hj => by rw [glf_get hj]; have := r4 _ (List.getElem_mem hj); omega)) (by kernel_rfl) (by kernel_rfl) (by kernel_rfl) (by kernel_rfl) (by kernel_rfl) (by kernel_rfl) rfl rfl (by kernel_rfl) (.row (by kernel_rfl) (fun _ _ => rfl) (fun _ _ => rfl) .nil) (by kernel_rfl) (by kernel_rfl) (by kernel_rfl) ?_
      refine aops_n hTT (M := []) (n := 1) [pw ((0 : Nat) + (1 : Nat) ≤ (1 : Nat)) (500 : Nat) (Ob.box (24 : Nat) [V.own (200020 : Nat)])] (by kernel_rfl) (by kernel_rfl) ⟨(by omega), True.intro⟩ ?_
      refine aops_nil ?_
      refine xt_n ?_
      refine hK _ ?_
      clear hK K
      refine w_regionD (n' := 4) (by kernel_rfl) (by kernel_rfl) ?_
      refine aops_n hTT (M := []) (n := 14) [pc (21 : Nat) ((0 : Nat) ≤ (1 : Nat)) (V.i R), pv (22 : Nat) (V.i (1 : Int)), pc (23 : Nat) ((0 : Int) ≤ (1 : Int) ∧ (1 : Int) < (↑(3 : Nat) : Int)) (V.ptr [V.i (1 : Int), V.i (2 : Int), V.i (2 : Int), V.i (1 : Int)]), pc (24 : Nat) ((0 : Int) ≤ (0 : Int) ∧ (0 : Int) < (↑(2 : Nat) : Int)) (V.ptr [V.i (1 : Int), V.i (2 : Int), V.i (2 : Int), V.i (1 : Int)]), pv (25 : Nat) (V.i (1 : Int)), pc (26 : Nat) ((-9223372036854775808 : Int) ≤ R * (1 : Int) ∧ R * (1 : Int) ≤ (9223372036854775807 : Int)) (V.i (R * (1 : Int))), pc (27 : Nat) ((0 : Nat) ≤ (1 : Nat)) (V.i M), pv (28 : Nat) (V.i (1 : Int)), pc (29 : Nat) ((0 : Int) ≤ (1 : Int) ∧ (1 : Int) < (↑(3 : Nat) : Int)) (V.ptr [V.i (1 : Int), V.i (2 : Int), V.i (2 : Int), V.i (1 : Int)]), pc (30 : Nat) ((0 : Int) ≤ (1 : Int) ∧ (1 : Int) < (↑(2 : Nat) : Int)) (V.ptr [V.i (2 : Int), V.i (2 : Int), V.i (1 : Int)]), pv (31 : Nat) (V.i (2 : Int)), pc (32 : Nat) ((-9223372036854775808 : Int) ≤ M * (2 : Int) ∧ M * (2 : Int) ≤ (9223372036854775807 : Int)) (V.i (M * (2 : Int))), pw ((0 : Nat) + (1 : Nat) ≤ (1 : Nat)) (501 : Nat) (Ob.box (3 : Nat) [V.i (R * (1 : Int))]), pw ((0 : Nat) + (1 : Nat) ≤ (1 : Nat)) (502 : Nat) (Ob.box (3 : Nat) [V.i (M * (2 : Int))])] (by kernel_rfl) (by kernel_rfl) ⟨(by omega), (by omega), (by omega), (by omega), (by omega), (by omega), (by omega), (by omega), (by omega), (by omega), True.intro⟩ ?_
      refine aops_nil ⟨by kernel_rfl, ?_⟩
      refine xb_n ?_
      refine ⟨by omega, ?_⟩
      refine le_ren (sl := [(500, Ob.box (24 : Nat) [V.own (0 : Nat)]), (501, Ob.box (3 : Nat) [V.i (Prod.fst (Prod.snd (stkS (List.drop (List.length f - (k + (1 : Nat))) f))))]), (502, Ob.box (3 : Nat) [V.i (Prod.snd (Prod.snd (stkS (List.drop (List.length f - (k + (1 : Nat))) f))))]), (0, Ob.row (31 : Nat) (4 : Nat) (List.length (stkL (List.drop (List.length f - (k + (1 : Nat))) f))) fun (j : Nat) => Lf.c (glf (stkL (List.drop (List.length f - (k + (1 : Nat))) f)) j))]) [(0, 200020)] .nil (.cons ⟨Ob.box (24 : Nat) [V.own (200020 : Nat)], (by kernel_rfl), .box (by kernel_rfl)⟩ (.cons ⟨Ob.box (3 : Nat) [V.i (R * (1 : Int))], (by kernel_rfl), .box ?_⟩ (.cons ⟨Ob.box (3 : Nat) [V.i (M * (2 : Int))], (by kernel_rfl), .box ?_⟩ (.cons ⟨Ob.row (31 : Nat) (4 : Nat) ((2 : Nat) * List.length ls) fun (i : Nat) => V.renL (nameG (2 : Nat) (some (20 : Tmp)) [(0 : Nat)]) (Lf.c (glf (unfL ls (1 : Int) R M) i)), (by kernel_rfl), .row ?_ ?_⟩ .nil)))) (by kernel_rfl) (by kernel_rfl)
      · rw [hst]; rfl
      · rw [hst]; rfl
      · rw [stkL, hst, unfL_len]
      · rw [stkL, hst]; exact fun _ _ => rfl
    · refine w_region (n' := 2) (by kernel_rfl) (by kernel_rfl) ?_
      refine aops_n hTT (M := []) (n := 1) [pv (7 : Nat) (V.i (2 : Int))] (by kernel_rfl) (by kernel_rfl) True.intro ?_
      refine aops_nil ?_
      refine xt_n ?_
      refine aw_block ?_
      refine aw_seq_k fun K hK => ?_
      refine w_region (n' := 3) (by kernel_rfl) (by kernel_rfl) ?_
      refine aops_n hTT (M := []) (n := 4) [pc (16 : Nat) ((0 : Nat) ≤ (1 : Nat)) (V.own (0 : Nat)), pv (17 : Nat) (V.i (2 : Int)), pc (18 : Nat) ((0 : Nat) ≤ (1 : Nat)) (V.i R), pc (19 : Nat) ((0 : Nat) ≤ (1 : Nat)) (V.i M)] (by kernel_rfl) (by kernel_rfl) ⟨(by omega), (by omega), (by omega), True.intro⟩ ?_
      refine aops_callM [0] (first := []) (caps := []) (ins' := [Ob.row (31 : Nat) (4 : Nat) (List.length ls) fun (j : Nat) => Lf.c (glf ls j)]) (v' := V.own (200020 : Nat)) (δ := [(0, Option.none), (200020, Option.some (Ob.row (31 : Nat) (4 : Nat) ((2 : Nat) * List.length ls) fun (i : Nat) => V.renL (nameG (2 : Nat) (some 20) [(0 : Nat)]) (Lf.c (glf (unfL ls (2 : Int) R M) i))))]) (kp := [0]) (unfoldO_ac ls 2 R M (by omega) (by omega) (by omega) (fun j hj => by rw [glf_get hj]; have := r4 _ (List.getElem_mem hj); omega)) (by kernel_rfl) (by kernel_rfl) (by kernel_rfl) (by kernel_rfl) (by kernel_rfl) (by kernel_rfl) rfl rfl (by kernel_rfl) (.row (by kernel_rfl) (fun _ _ => rfl) (fun _ _ => rfl) .nil) (by kernel_rfl) (by kernel_rfl) (by kernel_rfl) ?_
      refine aops_n hTT (M := []) (n := 1) [pw ((0 : Nat) + (1 : Nat) ≤ (1 : Nat)) (500 : Nat) (Ob.box (24 : Nat) [V.own (200020 : Nat)])] (by kernel_rfl) (by kernel_rfl) ⟨(by omega), True.intro⟩ ?_
      refine aops_nil ?_
      refine xt_n ?_
      refine hK _ ?_
      clear hK K
      refine w_regionD (n' := 4) (by kernel_rfl) (by kernel_rfl) ?_
      refine aops_n hTT (M := []) (n := 14) [pc (21 : Nat) ((0 : Nat) ≤ (1 : Nat)) (V.i R), pv (22 : Nat) (V.i (2 : Int)), pc (23 : Nat) ((0 : Int) ≤ (2 : Int) ∧ (2 : Int) < (↑(3 : Nat) : Int)) (V.ptr [V.i (2 : Int), V.i (1 : Int)]), pc (24 : Nat) ((0 : Int) ≤ (0 : Int) ∧ (0 : Int) < (↑(2 : Nat) : Int)) (V.ptr [V.i (2 : Int), V.i (1 : Int)]), pv (25 : Nat) (V.i (2 : Int)), pc (26 : Nat) ((-9223372036854775808 : Int) ≤ R * (2 : Int) ∧ R * (2 : Int) ≤ (9223372036854775807 : Int)) (V.i (R * (2 : Int))), pc (27 : Nat) ((0 : Nat) ≤ (1 : Nat)) (V.i M), pv (28 : Nat) (V.i (2 : Int)), pc (29 : Nat) ((0 : Int) ≤ (2 : Int) ∧ (2 : Int) < (↑(3 : Nat) : Int)) (V.ptr [V.i (2 : Int), V.i (1 : Int)]), pc (30 : Nat) ((0 : Int) ≤ (1 : Int) ∧ (1 : Int) < (↑(2 : Nat) : Int)) (V.ptr [V.i (1 : Int)]), pv (31 : Nat) (V.i (1 : Int)), pc (32 : Nat) ((-9223372036854775808 : Int) ≤ M * (1 : Int) ∧ M * (1 : Int) ≤ (9223372036854775807 : Int)) (V.i (M * (1 : Int))), pw ((0 : Nat) + (1 : Nat) ≤ (1 : Nat)) (501 : Nat) (Ob.box (3 : Nat) [V.i (R * (2 : Int))]), pw ((0 : Nat) + (1 : Nat) ≤ (1 : Nat)) (502 : Nat) (Ob.box (3 : Nat) [V.i (M * (1 : Int))])] (by kernel_rfl) (by kernel_rfl) ⟨(by omega), (by omega), (by omega), (by omega), (by omega), (by omega), (by omega), (by omega), (by omega), (by omega), True.intro⟩ ?_
      refine aops_nil ⟨by kernel_rfl, ?_⟩
      refine xb_n ?_
      refine ⟨by omega, ?_⟩
      refine le_ren (sl := [(500, Ob.box (24 : Nat) [V.own (0 : Nat)]), (501, Ob.box (3 : Nat) [V.i (Prod.fst (Prod.snd (stkS (List.drop (List.length f - (k + (1 : Nat))) f))))]), (502, Ob.box (3 : Nat) [V.i (Prod.snd (Prod.snd (stkS (List.drop (List.length f - (k + (1 : Nat))) f))))]), (0, Ob.row (31 : Nat) (4 : Nat) (List.length (stkL (List.drop (List.length f - (k + (1 : Nat))) f))) fun (j : Nat) => Lf.c (glf (stkL (List.drop (List.length f - (k + (1 : Nat))) f)) j))]) [(0, 200020)] .nil (.cons ⟨Ob.box (24 : Nat) [V.own (200020 : Nat)], (by kernel_rfl), .box (by kernel_rfl)⟩ (.cons ⟨Ob.box (3 : Nat) [V.i (R * (2 : Int))], (by kernel_rfl), .box ?_⟩ (.cons ⟨Ob.box (3 : Nat) [V.i (M * (1 : Int))], (by kernel_rfl), .box ?_⟩ (.cons ⟨Ob.row (31 : Nat) (4 : Nat) ((2 : Nat) * List.length ls) fun (i : Nat) => V.renL (nameG (2 : Nat) (some (20 : Tmp)) [(0 : Nat)]) (Lf.c (glf (unfL ls (2 : Int) R M) i)), (by kernel_rfl), .row ?_ ?_⟩ .nil)))) (by kernel_rfl) (by kernel_rfl)
      · rw [hst]; rfl
      · rw [hst]; rfl
      · rw [stkL, hst, unfL_len]
      · rw [stkL, hst]; exact fun _ _ => rfl
  · rw [bwV_len, Nat.sub_self, List.drop_zero]
    intro _
    refine xb_n ?_
    refine xt_n ?_
    refine hK _ ?_
    clear hK K
    refine awj4_seq_a fun C hF hC K hK => ?_
    refine w_region (n' := 2) (by kernel_rfl) (by kernel_rfl) ?_
    refine aops_n hTT (M := []) (n := 3) [pc (33 : Nat) ((0 : Nat) ≤ (1 : Nat)) (V.own (0 : Nat)), pv (34 : Nat) (V.i (↑(List.length (stkL f)) : Int)), pv (35 : Nat) (V.i (0 : Int))] (by kernel_rfl) (by kernel_rfl) ⟨(by omega), True.intro⟩ ?_
    refine aops_nil ?_
    refine xt_n ?_
    refine hK _ ?_
    clear hK K
    refine awj4_block ?_
    refine awj4_loop (ι := Nat) (fun k => ⟨mkT [(0, .c (.func (.yield Y.l) #[] #[])), (33, .own 0), (34, .i (stkL f).length), (35, .i k)], mkS [(0, .row 31 4 (stkL f).length fun j => (glf (stkL f) j).c)], 1⟩) (fun k => k) (fun k => k ≤ (stkL f).length) (fun k => (stkL f).length - k) 0 (Nat.zero_le _) ?_ rfl ?_
    · refine le_ren (sl := [(0, Ob.row (31 : Nat) (4 : Nat) (List.length (stkL f)) fun (j : Nat) => Lf.c (glf (stkL f) j))]) [(0, 0)] (.cons (by kernel_rfl) (.cons (by kernel_rfl) (.cons (by kernel_rfl) (.cons (by kernel_rfl) .nil)))) (.cons ⟨Ob.row (31 : Nat) (4 : Nat) (List.length (stkL f)) fun (j : Nat) => Lf.c (glf (stkL f) j), (by kernel_rfl), .row (by kernel_rfl) (fun _ _ => rfl)⟩ .nil) (by kernel_rfl) (by kernel_rfl)
    intro k hk
    have hlen : (stkL f).length ≤ 32 := by rw [stkL_len]; exact pow_le5 hl
    refine awj4_seq_a fun C hF hC K hK => ?_
    refine w_region (n' := 2) (by kernel_rfl) (by kernel_rfl) ?_
    refine aops_n hTT (M := []) (n := 1) [pv (36 : Nat) (V.b (decide ((↑k : Int) < (↑(List.length (stkL f)) : Int))))] (by kernel_rfl) (by kernel_rfl) True.intro ?_
    refine aops_nil ?_
    refine xt_n ?_
    refine hK _ ?_
    clear hK K
    refine awj4_seq_a fun C hF hC K hK => ?_
    refine w_cond (t := decide ((↑k : Int) < (↑(List.length (stkL f)) : Int))) (by kernel_rfl) (fun c1 => ?_) (fun c1 => ?_)
    · have h1 : k < (stkL f).length := by simpa using c1
      refine aw_skip ?_
      refine xt_n ?_
      refine hK _ ?_
      clear hK K
      refine awj4_seq ?_
      refine awj4_block ?_
      refine awj4_seq_a fun C hF hC K hK => ?_
      refine w_region (n' := 3) (by kernel_rfl) (by kernel_rfl) ?_
      refine aops_n hTT (M := []) (n := 4) [pc (37 : Nat) ((0 : Int) ≤ (↑k : Int) ∧ (↑k : Int) < (↑(List.length (stkL f)) : Int)) (V.oel (0 : Nat) (4 : Nat) k (0 : Nat)), pc (38 : Nat) (k < List.length (stkL f) ∧ (0 : Nat) ≤ (4 : Nat)) (V.agg [V.i (Lf.row (glf (stkL f) k)), V.i (Lf.col (glf (stkL f) k)), V.b (Lf.back (glf (stkL f) k)), V.b (Lf.turned (glf (stkL f) k))]), pn (9 : Nat) (V.ref (200009 : Nat) (0 : Nat)) (200009 : Nat) (Ob.box (31 : Nat) [V.i (0 : Int), V.i (0 : Int), V.b false, V.b false]), pw ((0 : Nat) + (4 : Nat) ≤ (4 : Nat)) (200009 : Nat) (Ob.box (31 : Nat) [V.i (Lf.row (glf (stkL f) k)), V.i (Lf.col (glf (stkL f) k)), V.b (Lf.back (glf (stkL f) k)), V.b (Lf.turned (glf (stkL f) k))])] (by kernel_rfl) (by kernel_rfl) ⟨(by omega), (by omega), (by omega), True.intro⟩ ?_
      refine aops_nil ?_
      refine xt_n ?_
      refine hK _ ?_
      clear hK K
      refine awj4_seq (awj4_yield 2 (by kernel_rfl) rfl fun C hF hC => ?_)
      refine aops_n hTT (M := []) (n := 2) [pv (39 : Nat) (V.c (Value.func (Fn.yield (YE4.l Y)) #[] #[])), pc (40 : Nat) ((0 : Nat) ≤ (4 : Nat)) (V.agg [V.i (Lf.row (glf (stkL f) k)), V.i (Lf.col (glf (stkL f) k)), V.b (Lf.back (glf (stkL f) k)), V.b (Lf.turned (glf (stkL f) k))])] (by kernel_rfl) (by kernel_rfl) ⟨(by omega), True.intro⟩ ?_
      refine aops_nil ?_
      refine ⟨by kernel_rfl, ⟨_, stV_get h1, RImp.refl _, trivial⟩, ⟨by kernel_rfl, fun v hv => by rw [stV_get h1] at hv; injection hv with hv; subst hv; rfl⟩, fun C hF hC => ?_, fun C hF hC => ?_⟩
      · refine aops_n hTT (M := []) (n := 1) [pv (42 : Nat) (V.b false)] (by kernel_rfl) (by kernel_rfl) True.intro ?_
        refine aops_nil ?_
        refine xjt_n ?_
        refine awj4_cond (t := false) (by kernel_rfl) (fun h => by cases h) (fun _ => ?_)
        refine awj4_skip ?_
        refine xjb_n ?_
        refine xjt_n ?_
        refine awj4_aw fun C hF hC => ?_
        refine w_region (n' := 5) (by kernel_rfl) (by kernel_rfl) ?_
        refine aops_n hTT (M := []) (n := 2) [pc (43 : Nat) ((-9223372036854775808 : Int) ≤ (↑k : Int) + (1 : Int) ∧ (↑k : Int) + (1 : Int) ≤ (9223372036854775807 : Int)) (V.i ((↑k : Int) + (1 : Int))), pv (35 : Nat) (V.i ((↑k : Int) + (1 : Int)))] (by kernel_rfl) (by kernel_rfl) ⟨(by omega), True.intro⟩ ?_
        refine aops_nil ?_
        refine xjt_n ?_
        refine ⟨rfl, k + 1, by omega, ?_, rfl, by omega⟩
        refine le_ren (sl := [(0, Ob.row (31 : Nat) (4 : Nat) (List.length (stkL f)) fun (j : Nat) => Lf.c (glf (stkL f) j))]) [(0, 0)] (.cons (by kernel_rfl) (.cons (by kernel_rfl) (.cons (by kernel_rfl) (.cons (by kernel_rfl) .nil)))) (.cons ⟨Ob.row (31 : Nat) (4 : Nat) (List.length (stkL f)) fun (j : Nat) => Lf.c (glf (stkL f) j), (by kernel_rfl), .row (by kernel_rfl) (fun _ _ => rfl)⟩ .nil) (by kernel_rfl) (by kernel_rfl)
      · refine aops_n hTT (M := []) (n := 1) [pv (42 : Nat) (V.b true)] (by kernel_rfl) (by kernel_rfl) True.intro ?_
        refine aops_nil ?_
        refine xjt_n ?_
        refine awj4_cond (t := true) (by kernel_rfl) (fun _ => ?_) (fun h => by cases h)
        refine awj4_ret ?_
        refine xjb_r ?_
        refine xjt_r ?_
        refine xjt_r ?_
        refine xjb_r ?_
        exact ⟨.inr rfl, fun h => (by cases h), fun _ => h1⟩
    · have h1 : k = (stkL f).length := by simp at c1; omega
      refine aw_exit ?_
      refine xt_x ?_
      refine xjt_x ?_
      refine xjb_same ?_
      exact ⟨.inl rfl, fun _ => h1, fun h => by cases h⟩
  · exact fun _ _ _ _ h => h.elim
set_option maxRecDepth 100000 in
theorem stack_ac (f : List Int) : AC Tryd.prog 47 [V.ints f] (.fn (.func 73) [] [.ptr [V.ints f]]) [] := by
  refine ac_intro hTT hMX (fn := Tryd.f47) (N := _) ⟨Tryd.func47, rfl, Tryd.ntmps47, by kernel_rfl⟩ (by simp) fun C hC hF => ?_
  refine aw_seq_k fun K hK => ?_
  refine w_region (n' := 2) (by kernel_rfl) (by kernel_rfl) ?_
  refine aops_n hTT (M := []) (n := 2) [pv (1 : Nat) (V.ptr [V.sl (1 : Nat) (List.length f) fun (k : Nat) => [V.i (gi f k)]]), pv (2 : Nat) (V.c Value.nilFunc)] (by kernel_rfl) (by kernel_rfl) True.intro ?_
  refine aops_nil ?_
  refine xt_n ?_
  refine hK _ ?_
  clear hK K
  refine aw_seq_k fun K hK => ?_
  refine w_region (n' := 3) (by kernel_rfl) (by kernel_rfl) ?_
  refine aops_n hTT (M := []) (n := 2) [pv (3 : Nat) (V.fn (Fn.func (73 : Nat)) [] [V.ptr [V.sl (1 : Nat) (List.length f) fun (k : Nat) => [V.i (gi f k)]]]), pv (2 : Nat) (V.fn (Fn.func (73 : Nat)) [] [V.ptr [V.sl (1 : Nat) (List.length f) fun (k : Nat) => [V.i (gi f k)]]])] (by kernel_rfl) (by kernel_rfl) True.intro ?_
  refine aops_nil ?_
  refine xt_n ?_
  refine hK _ ?_
  clear hK K
  refine aw_ret ?_
  refine ret_pure (v' := V.fn (Fn.func (73 : Nat)) [] [V.ptr [V.sl (1 : Nat) (List.length f) fun (k : Nat) => [V.i (gi f k)]]]) (.inr rfl) (by kernel_rfl) (by kernel_rfl) (by kernel_rfl)
set_option maxRecDepth 100000 in
theorem folB_ac (k : Int) : AC Tryd.prog 52 [.i k] (.b (folB k)) [] := by
  refine ac_intro hTT hMX (fn := Tryd.f52) (N := _) ⟨Tryd.func52, rfl, Tryd.ntmps52, by kernel_rfl⟩ (by simp) fun C hC hF => ?_
  refine aw_seq_k fun K hK => ?_
  refine w_region (n' := 2) (by kernel_rfl) (by kernel_rfl) ?_
  refine aops_n hTT (M := []) (n := 1) [pv (2 : Nat) (V.b false)] (by kernel_rfl) (by kernel_rfl) True.intro ?_
  refine aops_nil ?_
  refine xt_n ?_
  refine hK _ ?_
  clear hK K
  refine aw_seq_k fun K hK => ?_
  refine w_region (n' := 3) (by kernel_rfl) (by kernel_rfl) ?_
  refine aops_n hTT (M := []) (n := 7) [pv (3 : Nat) (V.i k), pv (4 : Nat) (V.b (decide (k < (1 : Int)))), pv (5 : Nat) (V.b (decide (k < (1 : Int)))), pc (6 : Nat) ((True ∧ True) ∧ ((decide (k < (1 : Int)) == false) = true → True)) (V.gd (decide (k < (1 : Int)) == false) (V.i k)), pc (7 : Nat) ((((decide (k < (1 : Int)) == false) = true → (decide (k < (1 : Int)) == false) = true) ∧ True ∧ True) ∧ ((decide (k < (1 : Int)) == false) = true → True)) (V.gd (decide (k < (1 : Int)) == false) (V.b (decide ((2 : Int) < k)))), pc (8 : Nat) (True ∧ (decide (k < (1 : Int)) = false → (decide (k < (1 : Int)) == false) = true)) (V.b (decide (k < (1 : Int)) || decide ((2 : Int) < k))), pv (2 : Nat) (V.b (decide (k < (1 : Int)) || decide ((2 : Int) < k)))] (by kernel_rfl) (by kernel_rfl) ⟨⟨⟨True.intro, True.intro⟩, (fun _ => True.intro)⟩, ⟨⟨(by (exact fun h => h)), ⟨True.intro, True.intro⟩⟩, (fun _ => True.intro)⟩, ⟨True.intro, (by (intro h; rw [h]; rfl))⟩, True.intro⟩ ?_
  refine aops_nil ?_
  refine xt_n ?_
  refine hK _ ?_
  clear hK K
  refine aw_ret ?_
  refine ret_pure (v' := V.b (decide (k < (1 : Int)) || decide ((2 : Int) < k))) (.inr rfl) (by kernel_rfl) (by kernel_rfl) (by kernel_rfl)
set_option maxRecDepth 100000 in
theorem indexFold_ac (l : List Int) (hl : l.length ≤ 4611686018427387904) : AC Tryd.prog 78 [V.ints l, .fn (.func 52) [] []] (.i (idxF (fun k => folB (gi l k)) l.length)) [] := by
  refine ac_intro hTT hMX (fn := Tryd.f78) (N := _) ⟨Tryd.func78, rfl, Tryd.ntmps78, by kernel_rfl⟩ (by simp) fun C hC hF => ?_
  refine aw_seq_k fun K hK => ?_
  refine w_region (n' := 2) (by kernel_rfl) (by kernel_rfl) ?_
  refine aops_n hTT (M := []) (n := 1) [pv (4 : Nat) (V.i (0 : Int))] (by kernel_rfl) (by kernel_rfl) True.intro ?_
  refine aops_nil ?_
  refine xt_n ?_
  refine hK _ ?_
  clear hK K
  refine aw_seq_k fun K hK => ?_
  refine aw_seq_k fun K hK => ?_
  refine w_region (n' := 3) (by kernel_rfl) (by kernel_rfl) ?_
  refine aops_n hTT (M := []) (n := 3) [pv (6 : Nat) (V.sl (1 : Nat) (List.length l) fun (k : Nat) => [V.i (gi l k)]), pv (7 : Nat) (V.i (↑(List.length l) : Int)), pv (8 : Nat) (V.i (0 : Int))] (by kernel_rfl) (by kernel_rfl) True.intro ?_
  refine aops_nil ?_
  refine xt_n ?_
  refine hK _ ?_
  clear hK K
  refine aw_block ?_
  refine w_loop (ι := Nat) (fun k => [(0, V.ints l), (1, .fn (.func 52) [] []), (7, .i l.length), (8, .i k)]) (fun _ => []) (fun k => k ≤ l.length ∧ ∀ j, j < k → (fun k => folB (gi l k)) j = false) (fun k => l.length - k) 0 ⟨Nat.zero_le _, fun _ h => by omega⟩ ?_ ?_
  · refine le_ren [] (.cons (by kernel_rfl) (.cons (by kernel_rfl) (.cons (by kernel_rfl) (.cons (by kernel_rfl) .nil)))) .nil (by kernel_rfl) (by kernel_rfl)
  rintro k ⟨hk, h0⟩
  refine aw_seq_k fun K hK => ?_
  refine w_region (n' := 2) (by kernel_rfl) (by kernel_rfl) ?_
  refine aops_n hTT (M := []) (n := 1) [pv (9 : Nat) (V.b (decide ((↑k : Int) < (↑(List.length l) : Int))))] (by kernel_rfl) (by kernel_rfl) True.intro ?_
  refine aops_nil ?_
  refine xt_n ?_
  refine hK _ ?_
  clear hK K
  refine aw_seq_k fun K hK => ?_
  refine w_cond (t := decide ((↑k : Int) < (↑(List.length l) : Int))) (by kernel_rfl) (fun c1 => ?_) (fun c1 => ?_)
  · simp at c1
    refine aw_skip ?_
    refine xt_n ?_
    refine hK _ ?_
    clear hK K
    refine aw_seq_k fun K hK => ?_
    refine aw_block ?_
    refine aw_seq_k fun K hK => ?_
    refine w_region (n' := 3) (by kernel_rfl) (by kernel_rfl) ?_
    refine aops_n hTT (M := []) (n := 2) [pv (10 : Nat) (V.i (↑k : Int)), pv (5 : Nat) (V.i (↑k : Int))] (by kernel_rfl) (by kernel_rfl) True.intro ?_
    refine aops_nil ?_
    refine xt_n ?_
    refine hK _ ?_
    clear hK K
    refine aw_seq_k fun K hK => ?_
    refine w_region (n' := 4) (by kernel_rfl) (by kernel_rfl) ?_
    refine aops_n hTT (M := []) (n := 5) [pv (11 : Nat) (V.fn (Fn.func (52 : Nat)) [] []), pv (12 : Nat) (V.sl (1 : Nat) (List.length l) fun (k : Nat) => [V.i (gi l k)]), pv (13 : Nat) (V.i (↑k : Int)), pc (14 : Nat) ((0 : Int) ≤ (↑k : Int) ∧ (↑k : Int) < (↑(List.length l) : Int)) (V.ptr [V.i (gi l k)]), pv (15 : Nat) (V.i (gi l k))] (by kernel_rfl) (by kernel_rfl) ⟨(by omega), True.intro⟩ ?_
    refine e_call (first := []) (caps := []) (folB_ac (gi l k)) (by kernel_rfl) (by kernel_rfl) (by kernel_rfl) (by kernel_rfl) (by kernel_rfl) ?_
    refine aops_nil ?_
    refine xt_n ?_
    refine hK _ ?_
    clear hK K
    refine w_cond (t := folB (gi l k)) (by kernel_rfl) (fun c2 => ?_) (fun c2 => ?_)
    · refine aw_seq_k fun K hK => ?_
      refine w_region (n' := 5) (by kernel_rfl) (by kernel_rfl) ?_
      refine aops_n hTT (M := []) (n := 2) [pv (17 : Nat) (V.i (↑k : Int)), pv (4 : Nat) (V.i (↑k : Int))] (by kernel_rfl) (by kernel_rfl) True.intro ?_
      refine aops_nil ?_
      refine xt_n ?_
      refine hK _ ?_
      clear hK K
      refine aw_ret ?_
      refine xb_r ?_
      refine xt_r ?_
      refine xt_r ?_
      refine xb_r ?_
      refine xt_r ?_
      rw [idxF_some (p := fun k => folB (gi l k)) c1 c2 h0]
      refine ret_pure (v' := V.i (↑k : Int)) (.inr rfl) (by kernel_rfl) (by kernel_rfl) (by kernel_rfl)
    refine aw_skip ?_
    refine xb_n ?_
    refine xt_n ?_
    refine hK _ ?_
    clear hK K
    refine w_region (n' := 5) (by kernel_rfl) (by kernel_rfl) ?_
    refine aops_n hTT (M := []) (n := 2) [pc (18 : Nat) ((-9223372036854775808 : Int) ≤ (↑k : Int) + (1 : Int) ∧ (↑k : Int) + (1 : Int) ≤ (9223372036854775807 : Int)) (V.i ((↑k : Int) + (1 : Int))), pv (8 : Nat) (V.i ((↑k : Int) + (1 : Int)))] (by kernel_rfl) (by kernel_rfl) ⟨(by omega), True.intro⟩ ?_
    refine aops_nil ?_
    refine xt_n ?_
    refine ⟨k + 1, ⟨by omega, fun j hj => ?_⟩, by refine le_ren [] (.cons (by kernel_rfl) (.cons (by kernel_rfl) (.cons (by kernel_rfl) (.cons (by kernel_rfl) .nil)))) .nil (by kernel_rfl) (by kernel_rfl), by omega⟩
    by_cases he : j = k
    · subst he; exact c2
    · exact h0 j (by omega)
  simp at c1
  obtain rfl : k = l.length := by omega
  refine aw_exit ?_
  refine xt_x ?_
  refine xt_x ?_
  refine xb_same ?_
  refine xt_n ?_
  clear hK K
  refine hK _ ?_
  clear hK K
  refine aw_seq_k fun K hK => ?_
  refine w_region (n' := 3) (by kernel_rfl) (by kernel_rfl) ?_
  refine aops_n hTT (M := []) (n := 1) [pv (4 : Nat) (V.i (-1 : Int))] (by kernel_rfl) (by kernel_rfl) True.intro ?_
  refine aops_nil ?_
  refine xt_n ?_
  refine hK _ ?_
  clear hK K
  refine aw_ret ?_
  rw [idxF_none h0]
  refine ret_pure (v' := V.i (-1 : Int)) (.inr rfl) (by kernel_rfl) (by kernel_rfl) (by kernel_rfl)
def isPg (x : Lf) (row col : Int) (back : Bool) : Bool := decide (x.row = row) && decide (x.col = col) && (x.back == back)
set_option maxRecDepth 100000 in
theorem isPg_ac (x : Lf) (row col : Int) (back : Bool) : AC Tryd.prog 50 [.agg x.c, .ptr [.i row], .ptr [.i col], .ptr [.b back]] (.b (isPg x row col back)) [] := by
  refine ac_intro hTT hMX (fn := Tryd.f50) (N := _) ⟨Tryd.func50, rfl, Tryd.ntmps50, by kernel_rfl⟩ (by simp) fun C hC hF => ?_
  refine aw_seq_k fun K hK => ?_
  refine w_region (n' := 2) (by kernel_rfl) (by kernel_rfl) ?_
  refine aops_n hTT (M := []) (n := 2) [pv (4 : Nat) (V.ptr [V.i (Lf.row x), V.i (Lf.col x), V.b (Lf.back x), V.b (Lf.turned x)]), pv (5 : Nat) (V.b false)] (by kernel_rfl) (by kernel_rfl) True.intro ?_
  refine aops_nil ?_
  refine xt_n ?_
  refine hK _ ?_
  clear hK K
  refine aw_seq_k fun K hK => ?_
  refine w_region (n' := 3) (by kernel_rfl) (by kernel_rfl) ?_
  refine aops_n hTT (M := []) (n := 17) [pv (6 : Nat) (V.ptr [V.i (Lf.row x), V.i (Lf.col x), V.b (Lf.back x), V.b (Lf.turned x)]), pv (7 : Nat) (V.i (Lf.row x)), pv (8 : Nat) (V.i row), pv (9 : Nat) (V.b (decide (Lf.row x = row))), pv (10 : Nat) (V.b (decide (Lf.row x = row))), pc (11 : Nat) ((True ∧ True) ∧ ((decide (Lf.row x = row) == true) = true → True)) (V.gd (decide (Lf.row x = row) == true) (V.ptr [V.i (Lf.col x), V.b (Lf.back x), V.b (Lf.turned x)])), pc (12 : Nat) ((((decide (Lf.row x = row) == true) = true → (decide (Lf.row x = row) == true) = true) ∧ True) ∧ ((decide (Lf.row x = row) == true) = true → True)) (V.gd (decide (Lf.row x = row) == true) (V.i (Lf.col x))), pc (13 : Nat) ((True ∧ True) ∧ ((decide (Lf.row x = row) == true) = true → True)) (V.gd (decide (Lf.row x = row) == true) (V.i col)), pc (14 : Nat) ((((decide (Lf.row x = row) == true) = true → (decide (Lf.row x = row) == true) = true) ∧ ((decide (Lf.row x = row) == true) = true → (decide (Lf.row x = row) == true) = true) ∧ True) ∧ ((decide (Lf.row x = row) == true) = true → True)) (V.gd (decide (Lf.row x = row) == true) (V.b (decide (Lf.col x = col)))), pc (15 : Nat) ((decide (Lf.row x = row) = true → (decide (Lf.row x = row) == true) = true) ∧ True) (V.b (decide (Lf.row x = row) && decide (Lf.col x = col))), pv (16 : Nat) (V.b (decide (Lf.row x = row) && decide (Lf.col x = col))), pc (17 : Nat) ((True ∧ True) ∧ (((decide (Lf.row x = row) && decide (Lf.col x = col)) == true) = true → True)) (V.gd ((decide (Lf.row x = row) && decide (Lf.col x = col)) == true) (V.ptr [V.b (Lf.back x), V.b (Lf.turned x)])), pc (18 : Nat) (((((decide (Lf.row x = row) && decide (Lf.col x = col)) == true) = true → ((decide (Lf.row x = row) && decide (Lf.col x = col)) == true) = true) ∧ True) ∧ (((decide (Lf.row x = row) && decide (Lf.col x = col)) == true) = true → True)) (V.gd ((decide (Lf.row x = row) && decide (Lf.col x = col)) == true) (V.b (Lf.back x))), pc (19 : Nat) ((True ∧ True) ∧ (((decide (Lf.row x = row) && decide (Lf.col x = col)) == true) = true → True)) (V.gd ((decide (Lf.row x = row) && decide (Lf.col x = col)) == true) (V.b back)), pc (20 : Nat) (((((decide (Lf.row x = row) && decide (Lf.col x = col)) == true) = true → ((decide (Lf.row x = row) && decide (Lf.col x = col)) == true) = true) ∧ (((decide (Lf.row x = row) && decide (Lf.col x = col)) == true) = true → ((decide (Lf.row x = row) && decide (Lf.col x = col)) == true) = true) ∧ True) ∧ (((decide (Lf.row x = row) && decide (Lf.col x = col)) == true) = true → True)) (V.gd ((decide (Lf.row x = row) && decide (Lf.col x = col)) == true) (V.b (Lf.back x == back))), pc (21 : Nat) (((decide (Lf.row x = row) && decide (Lf.col x = col)) = true → ((decide (Lf.row x = row) && decide (Lf.col x = col)) == true) = true) ∧ True) (V.b (decide (Lf.row x = row) && decide (Lf.col x = col) && Lf.back x == back)), pv (5 : Nat) (V.b (decide (Lf.row x = row) && decide (Lf.col x = col) && Lf.back x == back))] (by kernel_rfl) (by kernel_rfl) ⟨⟨⟨True.intro, True.intro⟩, (fun _ => True.intro)⟩, ⟨⟨(by (exact fun h => h)), True.intro⟩, (fun _ => True.intro)⟩, ⟨⟨True.intro, True.intro⟩, (fun _ => True.intro)⟩, ⟨⟨(by (exact fun h => h)), ⟨(by (exact fun h => h)), True.intro⟩⟩, (fun _ => True.intro)⟩, ⟨(by (intro h; rw [h]; rfl)), True.intro⟩, ⟨⟨True.intro, True.intro⟩, (fun _ => True.intro)⟩, ⟨⟨(by (exact fun h => h)), True.intro⟩, (fun _ => True.intro)⟩, ⟨⟨True.intro, True.intro⟩, (fun _ => True.intro)⟩, ⟨⟨(by (exact fun h => h)), ⟨(by (exact fun h => h)), True.intro⟩⟩, (fun _ => True.intro)⟩, ⟨(by (intro h; rw [h]; rfl)), True.intro⟩, True.intro⟩ ?_
  refine aops_nil ?_
  refine xt_n ?_
  refine hK _ ?_
  clear hK K
  refine aw_ret ?_
  refine ret_pure (v' := V.b (decide (Lf.row x = row) && decide (Lf.col x = col) && Lf.back x == back)) (.inr rfl) (by kernel_rfl) (by kernel_rfl) (by kernel_rfl)
set_option maxRecDepth 100000 in
theorem indexPg_ac (l : List Lf) (row col : Int) (back : Bool) (hl : l.length ≤ 4096) : AC Tryd.prog 49 [V.lfs l, .fn (.func 50) [] [.ptr [.i row], .ptr [.i col], .ptr [.b back]]] (.i (idxF (fun k => isPg (glf l k) row col back) l.length)) [] := by
  refine ac_intro hTT hMX (fn := Tryd.f49) (N := _) ⟨Tryd.func49, rfl, Tryd.ntmps49, by kernel_rfl⟩ (by simp) fun C hC hF => ?_
  refine aw_seq_k fun K hK => ?_
  refine w_region (n' := 2) (by kernel_rfl) (by kernel_rfl) ?_
  refine aops_n hTT (M := []) (n := 1) [pv (4 : Nat) (V.i (0 : Int))] (by kernel_rfl) (by kernel_rfl) True.intro ?_
  refine aops_nil ?_
  refine xt_n ?_
  refine hK _ ?_
  clear hK K
  refine aw_seq_k fun K hK => ?_
  refine aw_seq_k fun K hK => ?_
  refine w_region (n' := 3) (by kernel_rfl) (by kernel_rfl) ?_
  refine aops_n hTT (M := []) (n := 3) [pv (6 : Nat) (V.sl (4 : Nat) (List.length l) fun (k : Nat) => Lf.c (glf l k)), pv (7 : Nat) (V.i (↑(List.length l) : Int)), pv (8 : Nat) (V.i (0 : Int))] (by kernel_rfl) (by kernel_rfl) True.intro ?_
  refine aops_nil ?_
  refine xt_n ?_
  refine hK _ ?_
  clear hK K
  refine aw_block ?_
  refine w_loop (ι := Nat) (fun k => [(0, V.lfs l), (1, .fn (.func 50) [] [.ptr [.i row], .ptr [.i col], .ptr [.b back]]), (7, .i l.length), (8, .i k)]) (fun _ => []) (fun k => k ≤ l.length ∧ ∀ j, j < k → (fun k => isPg (glf l k) row col back) j = false) (fun k => l.length - k) 0 ⟨Nat.zero_le _, fun _ h => by omega⟩ ?_ ?_
  · refine le_ren [] (.cons (by kernel_rfl) (.cons (by kernel_rfl) (.cons (by kernel_rfl) (.cons (by kernel_rfl) .nil)))) .nil (by kernel_rfl) (by kernel_rfl)
  rintro k ⟨hk, h0⟩
  refine aw_seq_k fun K hK => ?_
  refine w_region (n' := 2) (by kernel_rfl) (by kernel_rfl) ?_
  refine aops_n hTT (M := []) (n := 1) [pv (9 : Nat) (V.b (decide ((↑k : Int) < (↑(List.length l) : Int))))] (by kernel_rfl) (by kernel_rfl) True.intro ?_
  refine aops_nil ?_
  refine xt_n ?_
  refine hK _ ?_
  clear hK K
  refine aw_seq_k fun K hK => ?_
  refine w_cond (t := decide ((↑k : Int) < (↑(List.length l) : Int))) (by kernel_rfl) (fun c1 => ?_) (fun c1 => ?_)
  · simp at c1
    refine aw_skip ?_
    refine xt_n ?_
    refine hK _ ?_
    clear hK K
    refine aw_seq_k fun K hK => ?_
    refine aw_block ?_
    refine aw_seq_k fun K hK => ?_
    refine w_region (n' := 3) (by kernel_rfl) (by kernel_rfl) ?_
    refine aops_n hTT (M := []) (n := 2) [pv (10 : Nat) (V.i (↑k : Int)), pv (5 : Nat) (V.i (↑k : Int))] (by kernel_rfl) (by kernel_rfl) True.intro ?_
    refine aops_nil ?_
    refine xt_n ?_
    refine hK _ ?_
    clear hK K
    refine aw_seq_k fun K hK => ?_
    refine w_region (n' := 4) (by kernel_rfl) (by kernel_rfl) ?_
    refine aops_n hTT (M := []) (n := 5) [pv (11 : Nat) (V.fn (Fn.func (50 : Nat)) [] [V.ptr [V.i row], V.ptr [V.i col], V.ptr [V.b back]]), pv (12 : Nat) (V.sl (4 : Nat) (List.length l) fun (k : Nat) => Lf.c (glf l k)), pv (13 : Nat) (V.i (↑k : Int)), pc (14 : Nat) ((0 : Int) ≤ (↑k : Int) ∧ (↑k : Int) < (↑(List.length l) : Int)) (V.ptr [V.i (Lf.row (glf l k)), V.i (Lf.col (glf l k)), V.b (Lf.back (glf l k)), V.b (Lf.turned (glf l k))]), pv (15 : Nat) (V.agg [V.i (Lf.row (glf l k)), V.i (Lf.col (glf l k)), V.b (Lf.back (glf l k)), V.b (Lf.turned (glf l k))])] (by kernel_rfl) (by kernel_rfl) ⟨(by omega), True.intro⟩ ?_
    refine e_call (first := []) (caps := [V.ptr [V.i row], V.ptr [V.i col], V.ptr [V.b back]]) (isPg_ac (glf l k) row col back) (by kernel_rfl) (by kernel_rfl) (by kernel_rfl) (by kernel_rfl) (by kernel_rfl) ?_
    refine aops_nil ?_
    refine xt_n ?_
    refine hK _ ?_
    clear hK K
    refine w_cond (t := isPg (glf l k) row col back) (by kernel_rfl) (fun c2 => ?_) (fun c2 => ?_)
    · refine aw_seq_k fun K hK => ?_
      refine w_region (n' := 5) (by kernel_rfl) (by kernel_rfl) ?_
      refine aops_n hTT (M := []) (n := 2) [pv (17 : Nat) (V.i (↑k : Int)), pv (4 : Nat) (V.i (↑k : Int))] (by kernel_rfl) (by kernel_rfl) True.intro ?_
      refine aops_nil ?_
      refine xt_n ?_
      refine hK _ ?_
      clear hK K
      refine aw_ret ?_
      refine xb_r ?_
      refine xt_r ?_
      refine xt_r ?_
      refine xb_r ?_
      refine xt_r ?_
      rw [idxF_some (p := fun k => isPg (glf l k) row col back) c1 c2 h0]
      refine ret_pure (v' := V.i (↑k : Int)) (.inr rfl) (by kernel_rfl) (by kernel_rfl) (by kernel_rfl)
    refine aw_skip ?_
    refine xb_n ?_
    refine xt_n ?_
    refine hK _ ?_
    clear hK K
    refine w_region (n' := 5) (by kernel_rfl) (by kernel_rfl) ?_
    refine aops_n hTT (M := []) (n := 2) [pc (18 : Nat) ((-9223372036854775808 : Int) ≤ (↑k : Int) + (1 : Int) ∧ (↑k : Int) + (1 : Int) ≤ (9223372036854775807 : Int)) (V.i ((↑k : Int) + (1 : Int))), pv (8 : Nat) (V.i ((↑k : Int) + (1 : Int)))] (by kernel_rfl) (by kernel_rfl) ⟨(by omega), True.intro⟩ ?_
    refine aops_nil ?_
    refine xt_n ?_
    refine ⟨k + 1, ⟨by omega, fun j hj => ?_⟩, by refine le_ren [] (.cons (by kernel_rfl) (.cons (by kernel_rfl) (.cons (by kernel_rfl) (.cons (by kernel_rfl) .nil)))) .nil (by kernel_rfl) (by kernel_rfl), by omega⟩
    by_cases he : j = k
    · subst he; exact c2
    · exact h0 j (by omega)
  simp at c1
  obtain rfl : k = l.length := by omega
  refine aw_exit ?_
  refine xt_x ?_
  refine xt_x ?_
  refine xb_same ?_
  refine xt_n ?_
  clear hK K
  refine hK _ ?_
  clear hK K
  refine aw_seq_k fun K hK => ?_
  refine w_region (n' := 3) (by kernel_rfl) (by kernel_rfl) ?_
  refine aops_n hTT (M := []) (n := 1) [pv (4 : Nat) (V.i (-1 : Int))] (by kernel_rfl) (by kernel_rfl) True.intro ?_
  refine aops_nil ?_
  refine xt_n ?_
  refine hK _ ?_
  clear hK K
  refine aw_ret ?_
  rw [idxF_none h0]
  refine ret_pure (v' := V.i (-1 : Int)) (.inr rfl) (by kernel_rfl) (by kernel_rfl) (by kernel_rfl)
set_option maxRecDepth 100000 in
theorem containsFold_ac (l : List Int) (hl : l.length ≤ 4611686018427387904) : AC Tryd.prog 51 [V.ints l, .fn (.func 52) [] []] (.b (decide (0 ≤ idxF (fun k => folB (gi l k)) l.length))) [] := by
  refine ac_intro hTT hMX (fn := Tryd.f51) (N := _) ⟨Tryd.func51, rfl, Tryd.ntmps51, by kernel_rfl⟩ (by simp) fun C hC hF => ?_
  refine aw_seq_k fun K hK => ?_
  refine w_region (n' := 2) (by kernel_rfl) (by kernel_rfl) ?_
  refine aops_n hTT (M := []) (n := 1) [pv (4 : Nat) (V.b false)] (by kernel_rfl) (by kernel_rfl) True.intro ?_
  refine aops_nil ?_
  refine xt_n ?_
  refine hK _ ?_
  clear hK K
  refine aw_seq_k fun K hK => ?_
  refine w_region (n' := 3) (by kernel_rfl) (by kernel_rfl) ?_
  refine aops_n hTT (M := []) (n := 2) [pv (5 : Nat) (V.sl (1 : Nat) (List.length l) fun (k : Nat) => [V.i (gi l k)]), pv (6 : Nat) (V.fn (Fn.func (52 : Nat)) [] [])] (by kernel_rfl) (by kernel_rfl) True.intro ?_
  refine e_call (first := []) (caps := []) (indexFold_ac l hl) (by kernel_rfl) (by kernel_rfl) (by kernel_rfl) (by kernel_rfl) (by kernel_rfl) ?_
  refine aops_n hTT (M := []) (n := 2) [pv (8 : Nat) (V.b (decide ((0 : Int) ≤ idxF (fun (k : Nat) => folB (gi l k)) (List.length l)))), pv (4 : Nat) (V.b (decide ((0 : Int) ≤ idxF (fun (k : Nat) => folB (gi l k)) (List.length l))))] (by kernel_rfl) (by kernel_rfl) True.intro ?_
  refine aops_nil ?_
  refine xt_n ?_
  refine hK _ ?_
  clear hK K
  refine aw_ret ?_
  refine ret_pure (v' := V.b (decide ((0 : Int) ≤ idxF (fun (k : Nat) => folB (gi l k)) (List.length l)))) (.inr rfl) (by kernel_rfl) (by kernel_rfl) (by kernel_rfl)
set_option maxRecDepth 100000 in
theorem CheckFolds_ac (f : List Int) (hl : f.length ≤ 4611686018427387904) : AC Tryd.prog 19 [V.ints f] (.i (chkF f)) [] := by
  refine ac_intro hTT hMX (fn := Tryd.f19) (N := _) ⟨Tryd.func19, rfl, Tryd.ntmps19, by kernel_rfl⟩ (by simp) fun C hC hF => ?_
  refine aw_seq_k fun K hK => ?_
  refine w_region (n' := 2) (by kernel_rfl) (by kernel_rfl) ?_
  refine aops_n hTT (M := []) (n := 1) [pv (2 : Nat) (V.i (0 : Int))] (by kernel_rfl) (by kernel_rfl) True.intro ?_
  refine aops_nil ?_
  refine xt_n ?_
  refine hK _ ?_
  clear hK K
  refine aw_seq_k fun K hK => ?_
  refine aw_seq_k fun K hK => ?_
  refine w_region (n' := 3) (by kernel_rfl) (by kernel_rfl) ?_
  refine aops_n hTT (M := []) (n := 8) [pv (3 : Nat) (V.sl (1 : Nat) (List.length f) fun (k : Nat) => [V.i (gi f k)]), pv (4 : Nat) (V.i (↑(List.length f) : Int)), pv (5 : Nat) (V.b (decide ((↑(List.length f) : Int) = (0 : Int)))), pv (6 : Nat) (V.b (decide ((↑(List.length f) : Int) = (0 : Int)))), pc (7 : Nat) ((True ∧ True) ∧ ((decide ((↑(List.length f) : Int) = (0 : Int)) == false) = true → True)) (V.gd (decide ((↑(List.length f) : Int) = (0 : Int)) == false) (V.sl (1 : Nat) (List.length f) fun (k : Nat) => [V.i (gi f k)])), pc (8 : Nat) ((((decide ((↑(List.length f) : Int) = (0 : Int)) == false) = true → (decide ((↑(List.length f) : Int) = (0 : Int)) == false) = true) ∧ True) ∧ ((decide ((↑(List.length f) : Int) = (0 : Int)) == false) = true → True)) (V.gd (decide ((↑(List.length f) : Int) = (0 : Int)) == false) (V.i (↑(List.length f) : Int))), pc (9 : Nat) ((((decide ((↑(List.length f) : Int) = (0 : Int)) == false) = true → (decide ((↑(List.length f) : Int) = (0 : Int)) == false) = true) ∧ True ∧ True) ∧ ((decide ((↑(List.length f) : Int) = (0 : Int)) == false) = true → True)) (V.gd (decide ((↑(List.length f) : Int) = (0 : Int)) == false) (V.b (decide ((5 : Int) < (↑(List.length f) : Int))))), pc (10 : Nat) (True ∧ (decide ((↑(List.length f) : Int) = (0 : Int)) = false → (decide ((↑(List.length f) : Int) = (0 : Int)) == false) = true)) (V.b (decide ((↑(List.length f) : Int) = (0 : Int)) || decide ((5 : Int) < (↑(List.length f) : Int))))] (by kernel_rfl) (by kernel_rfl) ⟨⟨⟨True.intro, True.intro⟩, (fun _ => True.intro)⟩, ⟨⟨(by (exact fun h => h)), True.intro⟩, (fun _ => True.intro)⟩, ⟨⟨(by (exact fun h => h)), ⟨True.intro, True.intro⟩⟩, (fun _ => True.intro)⟩, ⟨True.intro, (by (intro h; rw [h]; rfl))⟩, True.intro⟩ ?_
  refine aops_nil ?_
  refine xt_n ?_
  refine hK _ ?_
  clear hK K
  refine w_cond (t := decide ((↑(List.length f) : Int) = (0 : Int)) || decide ((5 : Int) < (↑(List.length f) : Int))) (by kernel_rfl) (fun c1 => ?_) (fun c1 => ?_)
  · have h1 : f.length = 0 ∨ 5 < f.length := by
      simp at c1
      rcases c1 with h | h
      · exact .inl (by rw [h]; rfl)
      · exact .inr (by omega)
    refine aw_seq_k fun K hK => ?_
    refine w_region (n' := 4) (by kernel_rfl) (by kernel_rfl) ?_
    refine aops_n hTT (M := []) (n := 1) [pv (2 : Nat) (V.i (6 : Int))] (by kernel_rfl) (by kernel_rfl) True.intro ?_
    refine aops_nil ?_
    refine xt_n ?_
    refine hK _ ?_
    clear hK K
    refine aw_ret ?_
    refine xt_r ?_
    rw [chkF_many h1]
    refine ret_pure (v' := V.i (6 : Int)) (.inr rfl) (by kernel_rfl) (by kernel_rfl) (by kernel_rfl)
  have h1 : ¬ (f.length = 0 ∨ 5 < f.length) := by
    simp at c1
    intro h
    rcases h with h | h
    · exact c1.1 (List.length_eq_zero_iff.1 h)
    · omega
  refine aw_skip ?_
  refine xt_n ?_
  refine hK _ ?_
  clear hK K
  refine aw_seq_k fun K hK => ?_
  refine aw_seq_k fun K hK => ?_
  refine w_region (n' := 4) (by kernel_rfl) (by kernel_rfl) ?_
  refine aops_n hTT (M := []) (n := 1) [pv (11 : Nat) (V.sl (1 : Nat) (List.length f) fun (k : Nat) => [V.i (gi f k)])] (by kernel_rfl) (by kernel_rfl) True.intro ?_
  refine e_call (first := []) (caps := []) (containsFold_ac f hl) (by kernel_rfl) (by kernel_rfl) (by kernel_rfl) (by kernel_rfl) (by kernel_rfl) ?_
  refine aops_nil ?_
  refine xt_n ?_
  refine hK _ ?_
  clear hK K
  rcases idxF_inv (p := fun k => folB (gi f k)) (n := f.length) with ⟨e, h⟩ | ⟨i, hi, e, h, _⟩
  · rw [e]
    refine w_false (t := false) (by kernel_rfl) rfl ?_
    refine aw_skip ?_
    refine xt_n ?_
    refine hK _ ?_
    clear hK K
    refine aw_seq_k fun K hK => ?_
    refine w_region (n' := 5) (by kernel_rfl) (by kernel_rfl) ?_
    refine aops_n hTT (M := []) (n := 1) [pv (2 : Nat) (V.i (0 : Int))] (by kernel_rfl) (by kernel_rfl) True.intro ?_
    refine aops_nil ?_
    refine xt_n ?_
    refine hK _ ?_
    clear hK K
    refine aw_ret ?_
    rw [chkF_ok h1 h]
    refine ret_pure (v' := V.i (0 : Int)) (.inr rfl) (by kernel_rfl) (by kernel_rfl) (by kernel_rfl)
  · rw [e]
    refine w_cond (t := decide ((0 : Int) ≤ (↑i : Int))) (by kernel_rfl) (fun c2 => ?_) (fun c2 => ?_)
    · refine aw_seq_k fun K hK => ?_
      refine w_region (n' := 5) (by kernel_rfl) (by kernel_rfl) ?_
      refine aops_n hTT (M := []) (n := 1) [pv (2 : Nat) (V.i (2 : Int))] (by kernel_rfl) (by kernel_rfl) True.intro ?_
      refine aops_nil ?_
      refine xt_n ?_
      refine hK _ ?_
      clear hK K
      refine aw_ret ?_
      refine xt_r ?_
      rw [chkF_bad h1 hi h]
      refine ret_pure (v' := V.i (2 : Int)) (.inr rfl) (by kernel_rfl) (by kernel_rfl) (by kernel_rfl)
    · simp at c2
theorem pg_1 {f : List Int} {k : Nat} (h : k < (stkL f).length) {G : Nat → List V} {r : Nat → Nat} (g0 : G 0 = (glf (stkL f) k).c) (g1 : G 1 = (glf (stkL f) k).flip.c) :
    ∀ i, i < 2 * k + 2 → appRow (2 * k) (fun j => (glf (pgL f) j).c) G i = V.renL r (glf (pgL f) i).c := by
  obtain ⟨h1, h2⟩ := pgL_at h
  intro i hi
  by_cases h3 : i < 2 * k
  · rw [appRow, if_pos h3]; rfl
  · rw [appRow, if_neg h3]
    by_cases h4 : i = 2 * k
    · subst h4; rw [Nat.sub_self, g0, h1]; rfl
    · obtain rfl : i = 2 * k + 1 := by omega
      rw [show 2 * k + 1 - 2 * k = 1 by omega, g1, h2]; rfl
def pgV (f : List Int) : V := if chkF f = 0 then .tup [V.lfs (pgL f), .i 0] else .tup [.nil, .i (chkF f)]
set_option maxHeartbeats 4000000 in
set_option maxRecDepth 100000 in
theorem Pages_ac (f : List Int) (hl : f.length ≤ 4611686018427387904) : AC Tryd.prog 15 [V.ints f] (pgV f) [] := by
  refine ac_intro hTT hMX (fn := Tryd.f15) (N := _) ⟨Tryd.func15, rfl, Tryd.ntmps15, by kernel_rfl⟩ (by simp) fun C hC hF => ?_
  refine aw_seq_k fun K hK => ?_
  refine w_region (n' := 2) (by kernel_rfl) (by kernel_rfl) ?_
  refine aops_n hTT (M := []) (n := 2) [pv (2 : Nat) V.nil, pv (3 : Nat) (V.i (0 : Int))] (by kernel_rfl) (by kernel_rfl) True.intro ?_
  refine aops_nil ?_
  refine xt_n ?_
  refine hK _ ?_
  clear hK K
  refine aw_seq_k fun K hK => ?_
  refine aw_seq_k fun K hK => ?_
  refine w_region (n' := 3) (by kernel_rfl) (by kernel_rfl) ?_
  refine aops_n hTT (M := []) (n := 1) [pv (8 : Nat) (V.sl (1 : Nat) (List.length f) fun (k : Nat) => [V.i (gi f k)])] (by kernel_rfl) (by kernel_rfl) True.intro ?_
  refine e_call (first := []) (caps := []) (CheckFolds_ac f hl) (by kernel_rfl) (by kernel_rfl) (by kernel_rfl) (by kernel_rfl) (by kernel_rfl) ?_
  refine aops_n hTT (M := []) (n := 1) [pv (4 : Nat) (V.i (chkF f))] (by kernel_rfl) (by kernel_rfl) True.intro ?_
  refine aops_nil ?_
  refine xt_n ?_
  refine hK _ ?_
  clear hK K
  refine aw_seq_k fun K hK => ?_
  refine w_region (n' := 4) (by kernel_rfl) (by kernel_rfl) ?_
  refine aops_n hTT (M := []) (n := 2) [pv (10 : Nat) (V.i (chkF f)), pv (11 : Nat) (V.b !decide (chkF f = (0 : Int)))] (by kernel_rfl) (by kernel_rfl) True.intro ?_
  refine aops_nil ?_
  refine xt_n ?_
  refine hK _ ?_
  clear hK K
  refine w_cond (t := !decide (chkF f = (0 : Int))) (by kernel_rfl) (fun c1 => ?_) (fun c1 => ?_)
  · have h1 : ¬ chkF f = 0 := by simpa using c1
    refine aw_seq_k fun K hK => ?_
    refine w_region (n' := 5) (by kernel_rfl) (by kernel_rfl) ?_
    refine aops_n hTT (M := []) (n := 3) [pv (12 : Nat) (V.i (chkF f)), pv (2 : Nat) V.nil, pv (3 : Nat) (V.i (chkF f))] (by kernel_rfl) (by kernel_rfl) True.intro ?_
    refine aops_nil ?_
    refine xt_n ?_
    refine hK _ ?_
    clear hK K
    refine aw_ret ?_
    refine xt_r ?_
    rw [pgV, if_neg h1]
    refine ret_pure (v' := V.tup [V.nil, V.i (chkF f)]) (.inr rfl) (by kernel_rfl) (by kernel_rfl) (by kernel_rfl)
  have h1 : chkF f = 0 := by simpa using c1
  obtain ⟨⟨l1, l2⟩, l3⟩ := chkF_inv h1
  have hf := FO_of l3
  have hlen : (stkL f).length ≤ 32 := by rw [stkL_len]; exact pow_le5 l2
  refine aw_skip ?_
  refine xt_n ?_
  refine hK _ ?_
  clear hK K
  refine aw_seq_k fun K hK => ?_
  refine w_region (n' := 5) (by kernel_rfl) (by kernel_rfl) ?_
  refine aops_n hTT (M := []) (n := 1) [pn (5 : Nat) (V.ref (400005 : Nat) (0 : Nat)) (400005 : Nat) (Ob.box (24 : Nat) [V.nil])] (by kernel_rfl) (by kernel_rfl) True.intro ?_
  refine aops_nil ?_
  refine xt_n ?_
  refine hK _ ?_
  clear hK K
  refine aw_seq_k fun K hK => ?_
  refine aw_seq_k fun K hK => ?_
  refine w_region (n' := 6) (by kernel_rfl) (by kernel_rfl) ?_
  refine aops_n hTT (M := []) (n := 1) [pv (13 : Nat) (V.sl (1 : Nat) (List.length f) fun (k : Nat) => [V.i (gi f k)])] (by kernel_rfl) (by kernel_rfl) True.intro ?_
  refine e_call (first := []) (caps := []) (stack_ac f) (by kernel_rfl) (by kernel_rfl) (by kernel_rfl) (by kernel_rfl) (by kernel_rfl) ?_
  refine aops_nil ?_
  refine xt_n ?_
  refine hK _ ?_
  clear hK K
  refine aw_block ?_
  refine w_le (le_openIn 400005 0 (t := 24) (cs := [.nil]) 31 4 (fun k => (glf (pgL f) k).c) (by kernel_rfl) (by kernel_rfl) rfl rfl) ?_
  refine w_range4 (caps := [V.ptr [V.sl (1 : Nat) (List.length f) fun (k : Nat) => [V.i (gi f k)]]]) hF [500] [0] [(500, 400005), (0, 600000)] (fun _ _ h => by rw [hC] at h; cases h) (stack1_it f hf l2) (by kernel_rfl) (by kernel_rfl) ?_ (by kernel_rfl) [(5, V.ref 500 0)] (fun k => k ≤ (stkL f).length) (fun k => [Ob.box 24 [.own 0], Ob.row 31 4 (2 * k) fun j => (glf (pgL f) j).c]) (fun _ _ _ => False) ?_ (by kernel_rfl) (by kernel_rfl) (by kernel_rfl) (.cons (by kernel_rfl) .nil) (.cons ⟨Ob.box (24 : Nat) [V.own (600000 : Nat)], (by kernel_rfl), .box (by kernel_rfl)⟩ (.cons ⟨Ob.row (31 : Nat) (4 : Nat) (0 : Nat) fun (k : Nat) => Lf.c (glf (pgL f) k), (by kernel_rfl), .row (by kernel_rfl) (fun _ _ => rfl)⟩ .nil)) (by kernel_rfl) ?_ ?_ ?_
  · intro x hx
    simp only [stV, List.mem_map] at hx
    obtain ⟨j, _, rfl⟩ := hx
    rfl
  · exact Nat.zero_le _
  · rintro C' ⟨lx, hF⟩ k x hx _
    have h2 : k < (stkL f).length := by have := (List.getElem?_eq_some_iff.1 hx).1; rwa [stV_len] at this
    rw [stV_get h2] at hx
    injection hx with hx
    subst hx
    refine w_region (n' := 2) (by kernel_rfl) (by kernel_rfl) ?_
    refine aops_n hTT (M := []) (n := 2) [pn (6 : Nat) (V.ref (100006 : Nat) (0 : Nat)) (100006 : Nat) (Ob.box (31 : Nat) [V.i (0 : Int), V.i (0 : Int), V.b false, V.b false]), pw ((0 : Nat) + (4 : Nat) ≤ (4 : Nat)) (100006 : Nat) (Ob.box (31 : Nat) [V.i (Lf.row (glf (stkL f) k)), V.i (Lf.col (glf (stkL f) k)), V.b (Lf.back (glf (stkL f) k)), V.b (Lf.turned (glf (stkL f) k))])] (by kernel_rfl) (by kernel_rfl) ⟨(by omega), True.intro⟩ ?_
    refine aops_nil ?_
    refine xt_n ?_
    refine aw_block ?_
    refine aw_seq_k fun K hK => ?_
    refine w_region (n' := 3) (by kernel_rfl) (by kernel_rfl) ?_
    refine aops_n hTT (M := []) (n := 3) [pc (16 : Nat) ((0 : Nat) ≤ (4 : Nat)) (V.agg [V.i (Lf.row (glf (stkL f) k)), V.i (Lf.col (glf (stkL f) k)), V.b (Lf.back (glf (stkL f) k)), V.b (Lf.turned (glf (stkL f) k))]), pn (7 : Nat) (V.ref (200007 : Nat) (0 : Nat)) (200007 : Nat) (Ob.box (31 : Nat) [V.i (0 : Int), V.i (0 : Int), V.b false, V.b false]), pw ((0 : Nat) + (4 : Nat) ≤ (4 : Nat)) (200007 : Nat) (Ob.box (31 : Nat) [V.i (Lf.row (glf (stkL f) k)), V.i (Lf.col (glf (stkL f) k)), V.b (Lf.back (glf (stkL f) k)), V.b (Lf.turned (glf (stkL f) k))])] (by kernel_rfl) (by kernel_rfl) ⟨(by omega), (by omega), True.intro⟩ ?_
    refine aops_nil ?_
    refine xt_n ?_
    refine hK _ ?_
    clear hK K
    refine aw_seq_k fun K hK => ?_
    refine w_region (n' := 4) (by kernel_rfl) (by kernel_rfl) ?_
    refine aops_n hTT (M := []) (n := 5) [pv (17 : Nat) (V.ref (100006 : Nat) (2 : Nat)), pc (18 : Nat) ((2 : Nat) ≤ (4 : Nat)) (V.b (Lf.back (glf (stkL f) k))), pv (19 : Nat) (V.b !Lf.back (glf (stkL f) k)), pv (20 : Nat) (V.ref (200007 : Nat) (2 : Nat)), pw ((2 : Nat) + (1 : Nat) ≤ (4 : Nat)) (200007 : Nat) (Ob.box (31 : Nat) [V.i (Lf.row (glf (stkL f) k)), V.i (Lf.col (glf (stkL f) k)), V.b !Lf.back (glf (stkL f) k), V.b (Lf.turned (glf (stkL f) k))])] (by kernel_rfl) (by kernel_rfl) ⟨(by omega), (by omega), True.intro⟩ ?_
    refine aops_nil ?_
    refine xt_n ?_
    refine hK _ ?_
    clear hK K
    refine w_region (n' := 5) (by kernel_rfl) (by kernel_rfl) ?_
    refine aops_n hTT (M := []) (n := 6) [pc (21 : Nat) ((0 : Nat) ≤ (1 : Nat)) (V.own (0 : Nat)), pc (22 : Nat) ((0 : Nat) ≤ (4 : Nat)) (V.agg [V.i (Lf.row (glf (stkL f) k)), V.i (Lf.col (glf (stkL f) k)), V.b (Lf.back (glf (stkL f) k)), V.b (Lf.turned (glf (stkL f) k))]), pc (23 : Nat) ((0 : Nat) ≤ (4 : Nat)) (V.agg [V.i (Lf.row (glf (stkL f) k)), V.i (Lf.col (glf (stkL f) k)), V.b !Lf.back (glf (stkL f) k), V.b (Lf.turned (glf (stkL f) k))]), pv (24 : Nat) (V.sl (4 : Nat) (2 : Nat) fun (i : Nat) => List.take (4 : Nat) (List.drop (i * (4 : Nat)) [V.i (Lf.row (glf (stkL f) k)), V.i (Lf.col (glf (stkL f) k)), V.b (Lf.back (glf (stkL f) k)), V.b (Lf.turned (glf (stkL f) k)), V.i (Lf.row (glf (stkL f) k)), V.i (Lf.col (glf (stkL f) k)), V.b !Lf.back (glf (stkL f) k), V.b (Lf.turned (glf (stkL f) k))])), PR.mk (some (25 : Nat)) (some ((2 : Nat) * k + (2 : Nat) ≤ (1099511627776 : Nat))) (V.own (400025 : Nat)) [((0 : Nat), none), ((400025 : Nat), some (Ob.row (31 : Nat) (4 : Nat) ((2 : Nat) * k + (2 : Nat)) (appRow ((2 : Nat) * k) (fun (j : Nat) => Lf.c (glf (pgL f) j)) fun (i : Nat) => List.take (4 : Nat) (List.drop (i * (4 : Nat)) [V.i (Lf.row (glf (stkL f) k)), V.i (Lf.col (glf (stkL f) k)), V.b (Lf.back (glf (stkL f) k)), V.b (Lf.turned (glf (stkL f) k)), V.i (Lf.row (glf (stkL f) k)), V.i (Lf.col (glf (stkL f) k)), V.b !Lf.back (glf (stkL f) k), V.b (Lf.turned (glf (stkL f) k))]))))] false, pw ((0 : Nat) + (1 : Nat) ≤ (1 : Nat)) (500 : Nat) (Ob.box (24 : Nat) [V.own (400025 : Nat)])] (by kernel_rfl) (by kernel_rfl) ⟨(by omega), (by omega), (by omega), (by omega), (by omega), True.intro⟩ ?_
    refine aops_nil ?_
    refine xb_n ?_
    refine ⟨h2, ?_⟩
    refine le_ren (sl := [(500, Ob.box (24 : Nat) [V.own (0 : Nat)]), (0, Ob.row (31 : Nat) (4 : Nat) ((2 : Nat) * (k + (1 : Nat))) fun (j : Nat) => Lf.c (glf (pgL f) j))]) [(0, 400025)] .nil (.cons ⟨Ob.box (24 : Nat) [V.own (400025 : Nat)], (by kernel_rfl), .box (by kernel_rfl)⟩ (.cons ⟨Ob.row (31 : Nat) (4 : Nat) ((2 : Nat) * k + (2 : Nat)) (appRow ((2 : Nat) * k) (fun (j : Nat) => Lf.c (glf (pgL f) j)) fun (i : Nat) => List.take (4 : Nat) (List.drop (i * (4 : Nat)) [V.i (Lf.row (glf (stkL f) k)), V.i (Lf.col (glf (stkL f) k)), V.b (Lf.back (glf (stkL f) k)), V.b (Lf.turned (glf (stkL f) k)), V.i (Lf.row (glf (stkL f) k)), V.i (Lf.col (glf (stkL f) k)), V.b !Lf.back (glf (stkL f) k), V.b (Lf.turned (glf (stkL f) k))])), (by kernel_rfl), .row (by kernel_rfl) ?_⟩ .nil)) (by kernel_rfl) (by kernel_rfl)
    exact pg_1 h2 rfl rfl
  · rw [stV_len]
    intro _
    refine xb_n ?_
    refine xt_n ?_
    refine hK _ ?_
    clear hK K
    refine aw_seq_k fun K hK => ?_
    refine w_region (n' := 2) (by kernel_rfl) (by kernel_rfl) ?_
    refine aops_n hTT (M := []) (n := 3) [pc (26 : Nat) ((0 : Nat) ≤ (1 : Nat)) (V.own (0 : Nat)), pv (2 : Nat) (V.own (0 : Nat)), pv (3 : Nat) (V.i (0 : Int))] (by kernel_rfl) (by kernel_rfl) ⟨(by omega), True.intro⟩ ?_
    refine aops_nil ?_
    refine xt_n ?_
    refine hK _ ?_
    clear hK K
    refine aw_ret ?_
    rw [pgV, if_pos h1]
    refine ret_of_le (le_shut 2 0 (e := (31 : Nat)) (sz := (4 : Nat)) (n := (2 : Nat) * List.length (stkL f)) (n' := (pgL f).length) (row := fun (j : Nat) => Lf.c (glf (pgL f) j)) (row' := (fun j => (glf (pgL f) j).c)) (by kernel_rfl) (by kernel_rfl) (fun _ _ => rfl) ?_ ?_) ?_
    · exact (pgL_len f).symm
    · exact fun _ _ => rfl
    refine ret_pure (v' := V.tup [V.sl (4 : Nat) (List.length (pgL f)) fun (j : Nat) => Lf.c (glf (pgL f) j), V.i (0 : Int)]) (.inr rfl) (by kernel_rfl) (by kernel_rfl) (by kernel_rfl)
  · exact fun _ _ _ _ h => h.elim
/-- the page at a place, and the error -/
def pgI (f : List Int) (row col : Int) (back : Bool) : Int := idxF (fun k => isPg (glf (pgL f) k) row col back) (pgL f).length
def pageN (f : List Int) (row col : Int) (back : Bool) : Int := if chkF f = 0 then (if pgI f row col back < 0 then 0 else pgI f row col back + 1) else 0
def pageE (f : List Int) (row col : Int) (back : Bool) : Int := if chkF f = 0 then (if pgI f row col back < 0 then 3 else 0) else chkF f
theorem pgL_len32 {f : List Int} (h : f.length ≤ 5) : (pgL f).length ≤ 64 := by
  rw [pgL_len, stkL_len]
  have := pow_le5 h
  omega
theorem pgI_le (f : List Int) (row col : Int) (back : Bool) : pgI f row col back < (pgL f).length := by
  rcases idxF_inv (p := fun k => isPg (glf (pgL f) k) row col back) (n := (pgL f).length) with ⟨e, _⟩ | ⟨i, hi, e, _⟩
  · unfold pgI; omega
  · unfold pgI; omega
set_option maxRecDepth 100000 in
theorem Page_ac (f : List Int) (row col : Int) (back : Bool) (hl : f.length ≤ 4611686018427387904) : AC Tryd.prog 17 [V.ints f, .i row, .i col, .b back] (.tup [.i (pageN f row col back), .i (pageE f row col back)]) [] := by
  refine ac_intro hTT hMX (fn := Tryd.f17) (N := _) ⟨Tryd.func17, rfl, Tryd.ntmps17, by kernel_rfl⟩ (by simp) fun C hC hF => ?_
  have A := Pages_ac f hl
  refine aw_seq_k fun K hK => ?_
  refine w_region (n' := 2) (by kernel_rfl) (by kernel_rfl) ?_
  refine aops_n hTT (M := []) (n := 5) [pv (5 : Nat) (V.ptr [V.i row]), pv (6 : Nat) (V.ptr [V.i col]), pv (7 : Nat) (V.ptr [V.b back]), pv (8 : Nat) (V.i (0 : Int)), pv (9 : Nat) (V.i (0 : Int))] (by kernel_rfl) (by kernel_rfl) True.intro ?_
  refine aops_nil ?_
  refine xt_n ?_
  refine hK _ ?_
  clear hK K
  refine aw_seq_k fun K hK => ?_
  refine w_region (n' := 3) (by kernel_rfl) (by kernel_rfl) ?_
  refine aops_n hTT (M := []) (n := 1) [pv (14 : Nat) (V.sl (1 : Nat) (List.length f) fun (k : Nat) => [V.i (gi f k)])] (by kernel_rfl) (by kernel_rfl) True.intro ?_
  by_cases h1 : chkF f = 0
  · rw [pgV, if_pos h1] at A
    have h2 := pgL_len32 (chkF_inv h1).1.2
    have h3 := pgI_le f row col back
    refine e_call (first := []) (caps := []) (A) (by kernel_rfl) (by kernel_rfl) (by kernel_rfl) (by kernel_rfl) (by kernel_rfl) ?_
    refine aops_n hTT (M := []) (n := 5) [pv (13 : Nat) (V.tup [V.sl (4 : Nat) (List.length (pgL f)) fun (k : Nat) => Lf.c (glf (pgL f) k), V.i (0 : Int)]), pv (16 : Nat) (V.sl (4 : Nat) (List.length (pgL f)) fun (k : Nat) => Lf.c (glf (pgL f) k)), pv (17 : Nat) (V.i (0 : Int)), pv (10 : Nat) (V.sl (4 : Nat) (List.length (pgL f)) fun (k : Nat) => Lf.c (glf (pgL f) k)), pv (11 : Nat) (V.i (0 : Int))] (by kernel_rfl) (by kernel_rfl) True.intro ?_
    refine aops_nil ?_
    refine xt_n ?_
    refine hK _ ?_
    clear hK K
    refine aw_seq_k fun K hK => ?_
    refine aw_seq_k fun K hK => ?_
    refine w_region (n' := 4) (by kernel_rfl) (by kernel_rfl) ?_
    refine aops_n hTT (M := []) (n := 2) [pv (18 : Nat) (V.i (0 : Int)), pv (19 : Nat) (V.b false)] (by kernel_rfl) (by kernel_rfl) True.intro ?_
    refine aops_nil ?_
    refine xt_n ?_
    refine hK _ ?_
    clear hK K
    refine w_false (t := false) (by kernel_rfl) rfl ?_
    refine aw_skip ?_
    refine xt_n ?_
    refine hK _ ?_
    clear hK K
    refine aw_seq_k fun K hK => ?_
    refine w_region (n' := 5) (by kernel_rfl) (by kernel_rfl) ?_
    refine aops_n hTT (M := []) (n := 2) [pv (21 : Nat) (V.sl (4 : Nat) (List.length (pgL f)) fun (k : Nat) => Lf.c (glf (pgL f) k)), pv (22 : Nat) (V.fn (Fn.func (50 : Nat)) [] [V.ptr [V.i row], V.ptr [V.i col], V.ptr [V.b back]])] (by kernel_rfl) (by kernel_rfl) True.intro ?_
    refine e_call (first := []) (caps := []) (indexPg_ac (pgL f) row col back (by omega)) (by kernel_rfl) (by kernel_rfl) (by kernel_rfl) (by kernel_rfl) (by kernel_rfl) ?_
    rw [show idxF (fun k => isPg (glf (pgL f) k) row col back) (pgL f).length = pgI f row col back from rfl]
    refine aops_n hTT (M := []) (n := 1) [pv (12 : Nat) (V.i (pgI f row col back))] (by kernel_rfl) (by kernel_rfl) True.intro ?_
    refine aops_nil ?_
    refine xt_n ?_
    refine hK _ ?_
    clear hK K
    refine aw_seq_k fun K hK => ?_
    refine aw_seq_k fun K hK => ?_
    refine w_region (n' := 6) (by kernel_rfl) (by kernel_rfl) ?_
    refine aops_n hTT (M := []) (n := 2) [pv (24 : Nat) (V.i (pgI f row col back)), pv (25 : Nat) (V.b (decide (pgI f row col back < (0 : Int))))] (by kernel_rfl) (by kernel_rfl) True.intro ?_
    refine aops_nil ?_
    refine xt_n ?_
    refine hK _ ?_
    clear hK K
    refine w_cond (t := decide (pgI f row col back < (0 : Int))) (by kernel_rfl) (fun c1 => ?_) (fun c1 => ?_)
    · simp at c1
      refine aw_seq_k fun K hK => ?_
      refine w_region (n' := 7) (by kernel_rfl) (by kernel_rfl) ?_
      refine aops_n hTT (M := []) (n := 2) [pv (8 : Nat) (V.i (0 : Int)), pv (9 : Nat) (V.i (3 : Int))] (by kernel_rfl) (by kernel_rfl) True.intro ?_
      refine aops_nil ?_
      refine xt_n ?_
      refine hK _ ?_
      clear hK K
      refine aw_ret ?_
      refine xt_r ?_
      rw [pageN, pageE, if_pos h1, if_pos h1, if_pos c1, if_pos c1]
      refine ret_pure (v' := V.tup [V.i (0 : Int), V.i (3 : Int)]) (.inr rfl) (by kernel_rfl) (by kernel_rfl) (by kernel_rfl)
    simp at c1
    refine aw_skip ?_
    refine xt_n ?_
    refine hK _ ?_
    clear hK K
    refine aw_seq_k fun K hK => ?_
    refine w_region (n' := 7) (by kernel_rfl) (by kernel_rfl) ?_
    refine aops_n hTT (M := []) (n := 4) [pv (26 : Nat) (V.i (pgI f row col back)), pc (27 : Nat) ((-9223372036854775808 : Int) ≤ pgI f row col back + (1 : Int) ∧ pgI f row col back + (1 : Int) ≤ (9223372036854775807 : Int)) (V.i (pgI f row col back + (1 : Int))), pv (8 : Nat) (V.i (pgI f row col back + (1 : Int))), pv (9 : Nat) (V.i (0 : Int))] (by kernel_rfl) (by kernel_rfl) ⟨(by omega), True.intro⟩ ?_
    refine aops_nil ?_
    refine xt_n ?_
    refine hK _ ?_
    clear hK K
    refine aw_ret ?_
    rw [pageN, pageE, if_pos h1, if_pos h1, if_neg (by omega), if_neg (by omega)]
    refine ret_pure (v' := V.tup [V.i (pgI f row col back + (1 : Int)), V.i (0 : Int)]) (.inr rfl) (by kernel_rfl) (by kernel_rfl) (by kernel_rfl)
  · rw [pgV, if_neg h1] at A
    refine e_call (first := []) (caps := []) (A) (by kernel_rfl) (by kernel_rfl) (by kernel_rfl) (by kernel_rfl) (by kernel_rfl) ?_
    refine aops_n hTT (M := []) (n := 5) [pv (13 : Nat) (V.tup [V.nil, V.i (chkF f)]), pv (16 : Nat) V.nil, pv (17 : Nat) (V.i (chkF f)), pv (10 : Nat) V.nil, pv (11 : Nat) (V.i (chkF f))] (by kernel_rfl) (by kernel_rfl) True.intro ?_
    refine aops_nil ?_
    refine xt_n ?_
    refine hK _ ?_
    clear hK K
    refine aw_seq_k fun K hK => ?_
    refine aw_seq_k fun K hK => ?_
    refine w_region (n' := 4) (by kernel_rfl) (by kernel_rfl) ?_
    refine aops_n hTT (M := []) (n := 2) [pv (18 : Nat) (V.i (chkF f)), pv (19 : Nat) (V.b !decide (chkF f = (0 : Int)))] (by kernel_rfl) (by kernel_rfl) True.intro ?_
    refine aops_nil ?_
    refine xt_n ?_
    refine hK _ ?_
    clear hK K
    refine w_cond (t := !decide (chkF f = (0 : Int))) (by kernel_rfl) (fun c1 => ?_) (fun c1 => ?_)
    · refine aw_seq_k fun K hK => ?_
      refine w_region (n' := 5) (by kernel_rfl) (by kernel_rfl) ?_
      refine aops_n hTT (M := []) (n := 3) [pv (20 : Nat) (V.i (chkF f)), pv (8 : Nat) (V.i (0 : Int)), pv (9 : Nat) (V.i (chkF f))] (by kernel_rfl) (by kernel_rfl) True.intro ?_
      refine aops_nil ?_
      refine xt_n ?_
      refine hK _ ?_
      clear hK K
      refine aw_ret ?_
      refine xt_r ?_
      rw [pageN, pageE, if_neg h1, if_neg h1]
      refine ret_pure (v' := V.tup [V.i (0 : Int), V.i (chkF f)]) (.inr rfl) (by kernel_rfl) (by kernel_rfl) (by kernel_rfl)
    · simp at c1
      exact absurd c1 h1
end Go.Proofs.YtfckkkmacjjmhaaDoor
