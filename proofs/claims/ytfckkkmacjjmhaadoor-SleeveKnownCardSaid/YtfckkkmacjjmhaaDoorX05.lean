/-
  Several texts in one: Folded sheets: the walks of the program's copy. No condition but the length of a list that is in memory. .. The chapter's examples that all laws use. No condition.
-/
import Derived.Test.YtfckkkmacjjmhaaDoorX01
import Derived.Test.YtfckkkmacjjmhaaDoorX02
import Derived.Test.YtfckkkmacjjmhaaDoorX00
import Derived.Test.YtfckkkmacjjmhaaDoorX04
namespace Go.Proofs.YtfckkkmacjjmhaaDoor
open Go.Ab Go.RowKit Go.Dw Go.Shelf
theorem RImp_int {a b : Int} (h : a = b) : RImp (V.i a) (V.i b) := by subst h; exact RImp.refl _
def bwV (f : List Int) : List (List V) := (List.range f.length).map fun k : Nat => [V.i ((f.length : Int) - 1 - k), V.i (gi f (f.length - 1 - k))]
theorem bwV_get {f : List Int} {k : Nat} (h : k < f.length) : (bwV f)[k]? = some [V.i ((f.length : Int) - 1 - k), V.i (gi f (f.length - 1 - k))] := by simp [bwV, h]
theorem bwV_len (f : List Int) : (bwV f).length = f.length := by simp [bwV]
set_option maxRecDepth 100000 in
theorem backward_it (f : List Int) (hl : f.length ≤ 4611686018427387904) : AIt4 Tryd.prog 87 [.ptr [V.ints f]] (bwV f) := by
  refine ait4_intro hTT hMX (fn := Tryd.f87) (N := _) ⟨Tryd.func87, rfl, Tryd.ntmps87, kR⟩ rfl (by simp) fun Y => ?_
  rw [bwV_len]
  refine awj4_seq_a fun C hF hC K hK => ?_
  refine w_region (n' := 2) kR kR ?_
  refine aops_n hTT (M := []) (n := 4) [pv (4 : Nat) (V.sl (1 : Nat) (List.length f) fun (k : Nat) => [V.i (gi f k)]), pv (5 : Nat) (V.i (↑(List.length f) : Int)), pc (6 : Nat) ((-9223372036854775808 : Int) ≤ (↑(List.length f) : Int) - 1 ∧ (↑(List.length f) : Int) - 1 ≤ (9223372036854775807 : Int)) (V.i ((↑(List.length f) : Int) - 1)), pv (3 : Nat) (V.i ((↑(List.length f) : Int) - 1))] kR kR ⟨oM, tI⟩ ?_
  refine aops_nil ?_
  refine xt_n ?_
  refine hK _ ?_
  clear hK K
  refine awj4_block ?_
  refine awj4_loop (ι := Nat) (fun k => ⟨mkT [(0, .c (.func (.yield Y.l) #[] #[])), (1, .ptr [V.ints f]), (3, .i ((f.length : Int) - 1 - k))], mkS [], 1⟩) (fun k => k) (fun k => k ≤ f.length) (fun k => f.length - k) 0 (Nat.zero_le _) ?_ rfl ?_
  · refine le_ren (tl := [(0, V.c (Value.func (Fn.yield (YE4.l Y)) #[] #[])), (1, V.ptr [V.sl (1 : Nat) (List.length f) fun (k : Nat) => [V.i (gi f k)]]), (3, V.i ((↑(List.length f) : Int) - 1 - (↑(0 : Nat) : Int)))]) [] (.cons kR (.cons kR (.cons ?_ .nil))) .nil kR kR
    exact congrArg V.i (show (f.length : Int) - 1 = (f.length : Int) - 1 - (0 : Nat) by omega)
  intro k hk
  refine awj4_seq_a fun C hF hC K hK => ?_
  refine aw_seq_k fun K hK => ?_
  refine w_region (n' := 2) kR kR ?_
  refine aops_n hTT (M := []) (n := 2) [pv (7 : Nat) (V.i ((↑(List.length f) : Int) - 1 - (↑k : Int))), pv (8 : Nat) (V.b (decide ((0 : Int) ≤ (↑(List.length f) : Int) - 1 - (↑k : Int))))] kR kR tI ?_
  refine aops_nil ?_
  refine xt_n ?_
  refine hK _ ?_
  clear hK K
  refine w_cond (t := decide ((0 : Int) ≤ (↑(List.length f) : Int) - 1 - (↑k : Int))) kR (fun c1 => ?_) (fun c1 => ?_)
  · have h1 : k < f.length := by simp at c1; omega
    refine aw_skip ?_
    refine xt_n ?_
    refine hK _ ?_
    clear hK K
    refine awj4_seq ?_
    refine awj4_block ?_
    refine awj4_seq (awj4_yield 6 kR rfl fun C hF hC => ?_)
    refine aops_n hTT (M := []) (n := 6) [pv (11 : Nat) (V.c (Value.func (Fn.yield (YE4.l Y)) #[] #[])), pv (12 : Nat) (V.i ((↑(List.length f) : Int) - 1 - (↑k : Int))), pv (13 : Nat) (V.sl (1 : Nat) (List.length f) fun (k : Nat) => [V.i (gi f k)]), pv (14 : Nat) (V.i ((↑(List.length f) : Int) - 1 - (↑k : Int))), pc (15 : Nat) ((0 : Int) ≤ (↑(List.length f) : Int) - 1 - (↑k : Int) ∧ (↑(List.length f) : Int) - 1 - (↑k : Int) < (↑(List.length f) : Int)) (V.ptr [V.i (gi f (Int.toNat ((↑(List.length f) : Int) - 1 - (↑k : Int))))]), pv (16 : Nat) (V.i (gi f (Int.toNat ((↑(List.length f) : Int) - 1 - (↑k : Int)))))] kR kR ⟨oM, tI⟩ ?_
    refine aops_nil ?_
    refine ⟨kR, ⟨_, bwV_get h1, RImp.refl _, RImp_int (congrArg (gi f) oM), trivial⟩, ⟨kR, fun v hv => by rw [bwV_get h1] at hv; injection hv with hv; subst hv; rfl⟩, fun C hF hC => ?_, fun C hF hC => ?_⟩
    · refine aops_n hTT (M := []) (n := 1) [pv (18 : Nat) (V.b false)] kR kR tI ?_
      refine aops_nil ?_
      refine xjt_n ?_
      refine awj4_cond (t := false) kR (fun h => by cases h) (fun _ => ?_)
      refine awj4_skip ?_
      refine xjb_n ?_
      refine xjt_n ?_
      refine awj4_aw fun C hF hC => ?_
      refine w_region (n' := 4) kR kR ?_
      refine aops_n hTT (M := []) (n := 3) [pv (9 : Nat) (V.i ((↑(List.length f) : Int) - 1 - (↑k : Int))), pc (10 : Nat) ((-9223372036854775808 : Int) ≤ (↑(List.length f) : Int) - 1 - (↑k : Int) - 1 ∧ (↑(List.length f) : Int) - 1 - (↑k : Int) - 1 ≤ (9223372036854775807 : Int)) (V.i ((↑(List.length f) : Int) - 1 - (↑k : Int) - 1)), pv (3 : Nat) (V.i ((↑(List.length f) : Int) - 1 - (↑k : Int) - 1))] kR kR ⟨oM, tI⟩ ?_
      refine aops_nil ?_
      refine xjt_n ?_
      refine ⟨rfl, k + 1, by omega, ?_, rfl, by omega⟩
      refine le_ren (tl := [(0, V.c (Value.func (Fn.yield (YE4.l Y)) #[] #[])), (1, V.ptr [V.sl (1 : Nat) (List.length f) fun (k : Nat) => [V.i (gi f k)]]), (3, V.i ((↑(List.length f) : Int) - 1 - (↑(k + 1) : Int)))]) [] (.cons kR (.cons kR (.cons ?_ .nil))) .nil kR kR
      exact congrArg V.i oM
    · refine aops_n hTT (M := []) (n := 1) [pv (18 : Nat) (V.b true)] kR kR tI ?_
      refine aops_nil ?_
      refine xjt_n ?_
      refine awj4_cond (t := true) kR (fun _ => ?_) (fun h => by cases h)
      refine awj4_ret ?_
      refine xjb_r ?_
      refine xjt_r ?_
      refine xjt_r ?_
      refine xjb_r ?_
      exact ⟨.inr rfl, fun h => (by cases h), fun _ => h1⟩
  · have h1 : k = f.length := by simp at c1; omega
    refine aw_exit ?_
    refine xt_x ?_
    refine xjt_x ?_
    refine xjb_same ?_
    exact ⟨.inl rfl, fun _ => h1, fun h => by cases h⟩
set_option maxRecDepth 100000 in
theorem Backward_ac (f : List Int) : AC Tryd.prog 74 [V.ints f] (.fn (.func 87) [] [.ptr [V.ints f]]) [] := by
  refine ac_intro hTT hMX (fn := Tryd.f74) (N := _) ⟨Tryd.func74, rfl, Tryd.ntmps74, kR⟩ (by simp) fun C hC hF => ?_
  refine aw_seq_k fun K hK => ?_
  refine w_region (n' := 2) kR kR ?_
  refine aops_n hTT (M := []) (n := 2) [pv (1 : Nat) (V.ptr [V.sl (1 : Nat) (List.length f) fun (k : Nat) => [V.i (gi f k)]]), pv (2 : Nat) (V.c Value.nilFunc)] kR kR tI ?_
  refine aops_nil ?_
  refine xt_n ?_
  refine hK _ ?_
  clear hK K
  refine aw_seq_k fun K hK => ?_
  refine w_region (n' := 3) kR kR ?_
  refine aops_n hTT (M := []) (n := 2) [pv (3 : Nat) (V.fn (Fn.func (87 : Nat)) [] [V.ptr [V.sl (1 : Nat) (List.length f) fun (k : Nat) => [V.i (gi f k)]]]), pv (2 : Nat) (V.fn (Fn.func (87 : Nat)) [] [V.ptr [V.sl (1 : Nat) (List.length f) fun (k : Nat) => [V.i (gi f k)]]])] kR kR tI ?_
  refine aops_nil ?_
  refine xt_n ?_
  refine hK _ ?_
  clear hK K
  refine aw_ret ?_
  refine ret_pure (v' := V.fn (Fn.func (87 : Nat)) [] [V.ptr [V.sl (1 : Nat) (List.length f) fun (k : Nat) => [V.i (gi f k)]]]) (.inr rfl) kR kR kR
theorem unf_1 {l : List Lf} {F R K : Int} {k : Nat} (h : k < l.length) (hb : (glf l k).back = true) {G : Nat → List V} {r : Nat → Nat} (g0 : G 0 = (glf l k).c) (g1 : G 1 = (othL (glf l k) F R K).c) :
    ∀ i, i < 2 * k + 2 → appRow (2 * k) (fun j => (glf (unfL l F R K) j).c) G i = V.renL r (glf (unfL l F R K) i).c := by
  obtain ⟨h1, h2⟩ := unfL_at (fold := F) (rows := R) (cols := K) h
  rw [if_pos hb] at h1 h2
  intro i hi
  by_cases h3 : i < 2 * k
  · rw [appRow, if_pos h3]; rfl
  · rw [appRow, if_neg h3]
    by_cases h4 : i = 2 * k
    · subst h4; rw [Nat.sub_self, g0, h1]; rfl
    · obtain rfl : i = 2 * k + 1 := by omega
      rw [show 2 * k + 1 - 2 * k = 1 by omega, g1, h2]; rfl
theorem unf_2 {l : List Lf} {F R K : Int} {k : Nat} (h : k < l.length) (hb : ¬ (glf l k).back = true) {G : Nat → List V} {r : Nat → Nat} (g1 : G 1 = (glf l k).c) (g0 : G 0 = (othL (glf l k) F R K).c) :
    ∀ i, i < 2 * k + 2 → appRow (2 * k) (fun j => (glf (unfL l F R K) j).c) G i = V.renL r (glf (unfL l F R K) i).c := by
  obtain ⟨h1, h2⟩ := unfL_at (fold := F) (rows := R) (cols := K) h
  rw [if_neg hb] at h1 h2
  intro i hi
  by_cases h3 : i < 2 * k
  · rw [appRow, if_pos h3]; rfl
  · rw [appRow, if_neg h3]
    by_cases h4 : i = 2 * k
    · subst h4; rw [Nat.sub_self, g0, h1]; rfl
    · obtain rfl : i = 2 * k + 1 := by omega
      rw [show 2 * k + 1 - 2 * k = 1 by omega, g1, h2]; rfl
set_option maxHeartbeats 4000000 in
set_option maxRecDepth 100000 in
theorem unfold_ac (l : List Lf) (F R M : Int) (hl : l.length ≤ 4096) (hR : 0 ≤ R ∧ R ≤ 65536) (hM : 0 ≤ M ∧ M ≤ 65536) (hb : ∀ k, k < l.length → (0 ≤ (glf l k).row ∧ (glf l k).row ≤ 65536) ∧ (0 ≤ (glf l k).col ∧ (glf l k).col ≤ 65536)) :
    AC Tryd.prog 75 [V.lfs l, .i F, .i R, .i M] (.own 0) [.row 31 4 (2 * l.length) fun j => (glf (unfL l F R M) j).c] := by
  refine ac_intro hTT hMX (fn := Tryd.f75) (N := _) ⟨Tryd.func75, rfl, Tryd.ntmps75, kR⟩ (by simp) fun C hC hF => ?_
  refine aw_seq_k fun K hK => ?_
  refine w_region (n' := 2) kR kR ?_
  refine aops_n hTT (M := []) (n := 1) [pv (8 : Nat) V.nil] kR kR tI ?_
  refine aops_nil ?_
  refine xt_n ?_
  refine hK _ ?_
  clear hK K
  refine aw_seq_k fun K hK => ?_
  refine w_region (n' := 3) kR kR ?_
  refine aops_n hTT (M := []) (n := 1) [pv (9 : Nat) V.nil] kR kR tI ?_
  refine aops_nil ?_
  refine xt_n ?_
  refine hK _ ?_
  clear hK K
  refine aw_seq_k fun K hK => ?_
  refine aw_seq_k fun K hK => ?_
  refine w_region (n' := 4) kR kR ?_
  refine aops_n hTT (M := []) (n := 3) [pv (13 : Nat) (V.sl (4 : Nat) (List.length l) fun (k : Nat) => Lf.c (glf l k)), pv (14 : Nat) (V.i (↑(List.length l) : Int)), pv (15 : Nat) (V.i (0 : Int))] kR kR tI ?_
  refine aops_nil ?_
  refine xt_n ?_
  refine hK _ ?_
  clear hK K
  refine aw_block ?_
  refine w_le (le_open 9 31 4 (fun k => (glf (unfL l F R M) k).c) kR rfl) ?_
  refine w_loop (ι := Nat) (fun k => [(1, .i F), (2, .i R), (3, .i M), (9, .own 9), (13, V.lfs l), (14, .i l.length), (15, .i k)]) (fun k => [(9, .row 31 4 (2 * k) fun j => (glf (unfL l F R M) j).c)]) (fun k => k ≤ l.length) (fun k => l.length - k) 0 (Nat.zero_le _) ?_ ?_
  · refine le_ren (sl := [(9, Ob.row (31 : Nat) (4 : Nat) (0 : Nat) fun (j : Nat) => Lf.c (glf (unfL l F R M) j))]) [(9, 400009)] (.cons kR (.cons kR (.cons kR (.cons kR (.cons kR (.cons kR (.cons kR .nil))))))) (.cons ⟨Ob.row (31 : Nat) (4 : Nat) (0 : Nat) fun (k : Nat) => Lf.c (glf (unfL l F R M) k), kR, .row kR (fun _ _ => rfl)⟩ .nil) kR kR
  intro k hk
  refine aw_seq_k fun K hK => ?_
  refine w_region (n' := 2) kR kR ?_
  refine aops_n hTT (M := []) (n := 1) [pv (16 : Nat) (V.b (decide ((↑k : Int) < (↑(List.length l) : Int))))] kR kR tI ?_
  refine aops_nil ?_
  refine xt_n ?_
  refine hK _ ?_
  clear hK K
  refine aw_seq_k fun K hK => ?_
  refine w_cond (t := decide ((↑k : Int) < (↑(List.length l) : Int))) kR (fun c1 => ?_) (fun c1 => ?_)
  · simp at c1
    obtain ⟨q1, q2⟩ := hb k c1
    refine aw_skip ?_
    refine xt_n ?_
    refine hK _ ?_
    clear hK K
    refine aw_seq_k fun K hK => ?_
    refine aw_block ?_
    refine aw_seq_k fun K hK => ?_
    refine w_region (n' := 3) kR kR ?_
    refine aops_n hTT (M := []) (n := 4) [pc (17 : Nat) ((0 : Int) ≤ (↑k : Int) ∧ (↑k : Int) < (↑(List.length l) : Int)) (V.ptr [V.i (Lf.row (glf l k)), V.i (Lf.col (glf l k)), V.b (Lf.back (glf l k)), V.b (Lf.turned (glf l k))]), pv (18 : Nat) (V.agg [V.i (Lf.row (glf l k)), V.i (Lf.col (glf l k)), V.b (Lf.back (glf l k)), V.b (Lf.turned (glf l k))]), pn (11 : Nat) (V.ref (200011 : Nat) (0 : Nat)) (200011 : Nat) (Ob.box (31 : Nat) [V.i (0 : Int), V.i (0 : Int), V.b false, V.b false]), pw ((0 : Nat) + (4 : Nat) ≤ (4 : Nat)) (200011 : Nat) (Ob.box (31 : Nat) [V.i (Lf.row (glf l k)), V.i (Lf.col (glf l k)), V.b (Lf.back (glf l k)), V.b (Lf.turned (glf l k))])] kR kR ⟨oM, oM, tI⟩ ?_
    refine aops_nil ?_
    refine xt_n ?_
    refine hK _ ?_
    clear hK K
    refine aw_seq_k fun K hK => ?_
    refine w_region (n' := 4) kR kR ?_
    refine aops_n hTT (M := []) (n := 3) [pc (19 : Nat) ((0 : Nat) ≤ (4 : Nat)) (V.agg [V.i (Lf.row (glf l k)), V.i (Lf.col (glf l k)), V.b (Lf.back (glf l k)), V.b (Lf.turned (glf l k))]), pn (12 : Nat) (V.ref (300012 : Nat) (0 : Nat)) (300012 : Nat) (Ob.box (31 : Nat) [V.i (0 : Int), V.i (0 : Int), V.b false, V.b false]), pw ((0 : Nat) + (4 : Nat) ≤ (4 : Nat)) (300012 : Nat) (Ob.box (31 : Nat) [V.i (Lf.row (glf l k)), V.i (Lf.col (glf l k)), V.b (Lf.back (glf l k)), V.b (Lf.turned (glf l k))])] kR kR ⟨oM, oM, tI⟩ ?_
    refine aops_nil ?_
    refine xt_n ?_
    refine hK _ ?_
    clear hK K
    refine aw_seq_k fun K hK => ?_
    refine w_region (n' := 5) kR kR ?_
    refine aops_n hTT (M := []) (n := 5) [pv (20 : Nat) (V.ref (200011 : Nat) (2 : Nat)), pc (21 : Nat) ((2 : Nat) ≤ (4 : Nat)) (V.b (Lf.back (glf l k))), pv (22 : Nat) (V.b !Lf.back (glf l k)), pv (23 : Nat) (V.ref (300012 : Nat) (2 : Nat)), pw ((2 : Nat) + (1 : Nat) ≤ (4 : Nat)) (300012 : Nat) (Ob.box (31 : Nat) [V.i (Lf.row (glf l k)), V.i (Lf.col (glf l k)), V.b !Lf.back (glf l k), V.b (Lf.turned (glf l k))])] kR kR ⟨oM, oM, tI⟩ ?_
    refine aops_nil ?_
    refine xt_n ?_
    refine hK _ ?_
    clear hK K
    refine aw_seq_k fun K hK => ?_
    refine aw_seq_k fun K hK => ?_
    refine w_region (n' := 6) kR kR ?_
    refine aops_n hTT (M := []) (n := 2) [pv (24 : Nat) (V.i F), pv (25 : Nat) (V.b (decide (F = 2)))] kR kR tI ?_
    refine aops_nil ?_
    refine xt_n ?_
    refine hK _ ?_
    clear hK K
    refine w_cond (t := decide (F = 2)) kR (fun c2 => ?_) (fun c2 => ?_)
    · simp at c2
      have e1 : othL (glf l k) F R M = ⟨2 * R - 1 - (glf l k).row, (glf l k).col, !(glf l k).back, !(glf l k).turned⟩ := by rw [othL, if_pos c2]
      refine w_regionD (n' := 7) kR kR ?_
      refine aops_n hTT (M := []) (n := 13) [pv (26 : Nat) (V.i R), pc (27 : Nat) ((-9223372036854775808 : Int) ≤ (2 : Int) * R ∧ (2 : Int) * R ≤ 9223372036854775807) (V.i ((2 : Int) * R)), pc (28 : Nat) ((-9223372036854775808 : Int) ≤ (2 : Int) * R - 1 ∧ (2 : Int) * R - 1 ≤ (9223372036854775807 : Int)) (V.i ((2 : Int) * R - 1)), pv (29 : Nat) (V.ref (200011 : Nat) (0 : Nat)), pc (30 : Nat) ((0 : Nat) ≤ (4 : Nat)) (V.i (Lf.row (glf l k))), pc (31 : Nat) ((-9223372036854775808 : Int) ≤ (2 : Int) * R - 1 - Lf.row (glf l k) ∧ (2 : Int) * R - 1 - Lf.row (glf l k) ≤ 9223372036854775807) (V.i ((2 : Int) * R - 1 - Lf.row (glf l k))), pv (32 : Nat) (V.ref (200011 : Nat) (3 : Nat)), pc (33 : Nat) ((3 : Nat) ≤ (4 : Nat)) (V.b (Lf.turned (glf l k))), pv (34 : Nat) (V.b !Lf.turned (glf l k)), pv (35 : Nat) (V.ref (300012 : Nat) (0 : Nat)), pw ((0 : Nat) + (1 : Nat) ≤ (4 : Nat)) (300012 : Nat) (Ob.box (31 : Nat) [V.i ((2 : Int) * R - 1 - Lf.row (glf l k)), V.i (Lf.col (glf l k)), V.b !Lf.back (glf l k), V.b (Lf.turned (glf l k))]), pv (36 : Nat) (V.ref (300012 : Nat) (3 : Nat)), pw ((3 : Nat) + (1 : Nat) ≤ (4 : Nat)) (300012 : Nat) (Ob.box (31 : Nat) [V.i ((2 : Int) * R - 1 - Lf.row (glf l k)), V.i (Lf.col (glf l k)), V.b !Lf.back (glf l k), V.b !Lf.turned (glf l k)])] kR kR ⟨oM, oM, oM, oM, oM, oM, oM, tI⟩ ?_
      refine aops_nil ⟨kR, ?_⟩
      refine xt_n ?_
      refine hK _ ?_
      clear hK K
      refine aw_seq_k fun K hK => ?_
      refine w_region (n' := 8) kR kR ?_
      refine aops_n hTT (M := []) (n := 2) [pv (44 : Nat) (V.ref (200011 : Nat) (2 : Nat)), pc (45 : Nat) ((2 : Nat) ≤ (4 : Nat)) (V.b (Lf.back (glf l k)))] kR kR ⟨oM, tI⟩ ?_
      refine aops_nil ?_
      refine xt_n ?_
      refine hK _ ?_
      clear hK K
      refine w_cond (t := Lf.back (glf l k)) kR (fun c3 => ?_) (fun c3 => ?_)
      · refine w_region (n' := 9) kR kR ?_
        refine aops_n hTT (M := []) (n := 6) [pv (46 : Nat) (V.own (9 : Nat)), pc (47 : Nat) ((0 : Nat) ≤ (4 : Nat)) (V.agg [V.i (Lf.row (glf l k)), V.i (Lf.col (glf l k)), V.b (Lf.back (glf l k)), V.b (Lf.turned (glf l k))]), pc (48 : Nat) ((0 : Nat) ≤ (4 : Nat)) (V.agg [V.i ((2 : Int) * R - 1 - Lf.row (glf l k)), V.i (Lf.col (glf l k)), V.b !Lf.back (glf l k), V.b !Lf.turned (glf l k)]), pv (49 : Nat) (V.sl (4 : Nat) (2 : Nat) fun (i : Nat) => List.take (4 : Nat) (List.drop (i * 4) [V.i (Lf.row (glf l k)), V.i (Lf.col (glf l k)), V.b (Lf.back (glf l k)), V.b (Lf.turned (glf l k)), V.i ((2 : Int) * R - 1 - Lf.row (glf l k)), V.i (Lf.col (glf l k)), V.b !Lf.back (glf l k), V.b !Lf.turned (glf l k)])), PR.mk (some (50 : Nat)) (some ((2 : Nat) * k + 2 ≤ (1099511627776 : Nat))) (V.own (800050 : Nat)) [((9 : Nat), none), ((800050 : Nat), some (Ob.row (31 : Nat) (4 : Nat) ((2 : Nat) * k + 2) (appRow ((2 : Nat) * k) (fun (j : Nat) => Lf.c (glf (unfL l F R M) j)) fun (i : Nat) => List.take (4 : Nat) (List.drop (i * 4) [V.i (Lf.row (glf l k)), V.i (Lf.col (glf l k)), V.b (Lf.back (glf l k)), V.b (Lf.turned (glf l k)), V.i ((2 : Int) * R - 1 - Lf.row (glf l k)), V.i (Lf.col (glf l k)), V.b !Lf.back (glf l k), V.b !Lf.turned (glf l k)]))))] false, pv (9 : Nat) (V.own (800050 : Nat))] kR kR ⟨oM, oM, oM, tI⟩ ?_
        refine aops_nil ?_
        refine xb_n ?_
        refine xt_n ?_
        refine hK _ ?_
        clear hK K
        refine w_region (n' := 10) kR kR ?_
        refine aops_n hTT (M := []) (n := 2) [pc (56 : Nat) ((-9223372036854775808 : Int) ≤ (↑k : Int) + 1 ∧ (↑k : Int) + 1 ≤ (9223372036854775807 : Int)) (V.i ((↑k : Int) + 1)), pv (15 : Nat) (V.i ((↑k : Int) + 1))] kR kR ⟨oM, tI⟩ ?_
        refine aops_nil ?_
        refine xt_n ?_
        refine ⟨k + 1, by omega, ?_, by omega⟩
        refine le_ren (tl := [(1, V.i F), (2, V.i R), (3, V.i M), (9, V.own (9 : Nat)), (13, V.sl (4 : Nat) (List.length l) fun (k : Nat) => Lf.c (glf l k)), (14, V.i (↑(List.length l) : Int)), (15, V.i (↑(k + 1) : Int))]) (sl := [(9, Ob.row (31 : Nat) (4 : Nat) ((2 : Nat) * (k + 1)) fun (j : Nat) => Lf.c (glf (unfL l F R M) j))]) [(9, 800050)] (.cons kR (.cons kR (.cons kR (.cons kR (.cons kR (.cons kR (.cons kR .nil))))))) (.cons ⟨Ob.row (31 : Nat) (4 : Nat) ((2 : Nat) * k + 2) (appRow ((2 : Nat) * k) (fun (j : Nat) => Lf.c (glf (unfL l F R M) j)) fun (i : Nat) => List.take (4 : Nat) (List.drop (i * 4) [V.i (Lf.row (glf l k)), V.i (Lf.col (glf l k)), V.b (Lf.back (glf l k)), V.b (Lf.turned (glf l k)), V.i ((2 : Int) * R - 1 - Lf.row (glf l k)), V.i (Lf.col (glf l k)), V.b !Lf.back (glf l k), V.b !Lf.turned (glf l k)])), kR, .row kR ?_⟩ .nil) kR kR
        exact unf_1 c1 (by simpa using c3) rfl (by rw [e1]; rfl)
      · refine w_region (n' := 9) kR kR ?_
        refine aops_n hTT (M := []) (n := 6) [pv (51 : Nat) (V.own (9 : Nat)), pc (52 : Nat) ((0 : Nat) ≤ (4 : Nat)) (V.agg [V.i ((2 : Int) * R - 1 - Lf.row (glf l k)), V.i (Lf.col (glf l k)), V.b !Lf.back (glf l k), V.b !Lf.turned (glf l k)]), pc (53 : Nat) ((0 : Nat) ≤ (4 : Nat)) (V.agg [V.i (Lf.row (glf l k)), V.i (Lf.col (glf l k)), V.b (Lf.back (glf l k)), V.b (Lf.turned (glf l k))]), pv (54 : Nat) (V.sl (4 : Nat) (2 : Nat) fun (i : Nat) => List.take (4 : Nat) (List.drop (i * 4) [V.i ((2 : Int) * R - 1 - Lf.row (glf l k)), V.i (Lf.col (glf l k)), V.b !Lf.back (glf l k), V.b !Lf.turned (glf l k), V.i (Lf.row (glf l k)), V.i (Lf.col (glf l k)), V.b (Lf.back (glf l k)), V.b (Lf.turned (glf l k))])), PR.mk (some (55 : Nat)) (some ((2 : Nat) * k + 2 ≤ (1099511627776 : Nat))) (V.own (800055 : Nat)) [((9 : Nat), none), ((800055 : Nat), some (Ob.row (31 : Nat) (4 : Nat) ((2 : Nat) * k + 2) (appRow ((2 : Nat) * k) (fun (j : Nat) => Lf.c (glf (unfL l F R M) j)) fun (i : Nat) => List.take (4 : Nat) (List.drop (i * 4) [V.i ((2 : Int) * R - 1 - Lf.row (glf l k)), V.i (Lf.col (glf l k)), V.b !Lf.back (glf l k), V.b !Lf.turned (glf l k), V.i (Lf.row (glf l k)), V.i (Lf.col (glf l k)), V.b (Lf.back (glf l k)), V.b (Lf.turned (glf l k))]))))] false, pv (9 : Nat) (V.own (800055 : Nat))] kR kR ⟨oM, oM, oM, tI⟩ ?_
        refine aops_nil ?_
        refine xb_n ?_
        refine xt_n ?_
        refine hK _ ?_
        clear hK K
        refine w_region (n' := 10) kR kR ?_
        refine aops_n hTT (M := []) (n := 2) [pc (56 : Nat) ((-9223372036854775808 : Int) ≤ (↑k : Int) + 1 ∧ (↑k : Int) + 1 ≤ (9223372036854775807 : Int)) (V.i ((↑k : Int) + 1)), pv (15 : Nat) (V.i ((↑k : Int) + 1))] kR kR ⟨oM, tI⟩ ?_
        refine aops_nil ?_
        refine xt_n ?_
        refine ⟨k + 1, by omega, ?_, by omega⟩
        refine le_ren (tl := [(1, V.i F), (2, V.i R), (3, V.i M), (9, V.own (9 : Nat)), (13, V.sl (4 : Nat) (List.length l) fun (k : Nat) => Lf.c (glf l k)), (14, V.i (↑(List.length l) : Int)), (15, V.i (↑(k + 1) : Int))]) (sl := [(9, Ob.row (31 : Nat) (4 : Nat) ((2 : Nat) * (k + 1)) fun (j : Nat) => Lf.c (glf (unfL l F R M) j))]) [(9, 800055)] (.cons kR (.cons kR (.cons kR (.cons kR (.cons kR (.cons kR (.cons kR .nil))))))) (.cons ⟨Ob.row (31 : Nat) (4 : Nat) ((2 : Nat) * k + 2) (appRow ((2 : Nat) * k) (fun (j : Nat) => Lf.c (glf (unfL l F R M) j)) fun (i : Nat) => List.take (4 : Nat) (List.drop (i * 4) [V.i ((2 : Int) * R - 1 - Lf.row (glf l k)), V.i (Lf.col (glf l k)), V.b !Lf.back (glf l k), V.b !Lf.turned (glf l k), V.i (Lf.row (glf l k)), V.i (Lf.col (glf l k)), V.b (Lf.back (glf l k)), V.b (Lf.turned (glf l k))])), kR, .row kR ?_⟩ .nil) kR kR
        exact unf_2 c1 (by simpa using c3) rfl (by rw [e1]; rfl)
    · simp at c2
      have e1 : othL (glf l k) F R M = ⟨(glf l k).row, 2 * M - 1 - (glf l k).col, !(glf l k).back, (glf l k).turned⟩ := by rw [othL, if_neg c2]
      refine w_region (n' := 7) kR kR ?_
      refine aops_n hTT (M := []) (n := 8) [pv (37 : Nat) (V.i M), pc (38 : Nat) ((-9223372036854775808 : Int) ≤ (2 : Int) * M ∧ (2 : Int) * M ≤ 9223372036854775807) (V.i ((2 : Int) * M)), pc (39 : Nat) ((-9223372036854775808 : Int) ≤ (2 : Int) * M - 1 ∧ (2 : Int) * M - 1 ≤ (9223372036854775807 : Int)) (V.i ((2 : Int) * M - 1)), pv (40 : Nat) (V.ref (200011 : Nat) (1 : Nat)), pc (41 : Nat) ((1 : Nat) ≤ (4 : Nat)) (V.i (Lf.col (glf l k))), pc (42 : Nat) ((-9223372036854775808 : Int) ≤ (2 : Int) * M - 1 - Lf.col (glf l k) ∧ (2 : Int) * M - 1 - Lf.col (glf l k) ≤ 9223372036854775807) (V.i ((2 : Int) * M - 1 - Lf.col (glf l k))), pv (43 : Nat) (V.ref (300012 : Nat) (1 : Nat)), pw ((1 : Nat) + (1 : Nat) ≤ (4 : Nat)) (300012 : Nat) (Ob.box (31 : Nat) [V.i (Lf.row (glf l k)), V.i ((2 : Int) * M - 1 - Lf.col (glf l k)), V.b !Lf.back (glf l k), V.b (Lf.turned (glf l k))])] kR kR ⟨oM, oM, oM, oM, oM, tI⟩ ?_
      refine aops_nil ?_
      refine xt_n ?_
      refine hK _ ?_
      clear hK K
      refine aw_seq_k fun K hK => ?_
      refine w_region (n' := 8) kR kR ?_
      refine aops_n hTT (M := []) (n := 2) [pv (44 : Nat) (V.ref (200011 : Nat) (2 : Nat)), pc (45 : Nat) ((2 : Nat) ≤ (4 : Nat)) (V.b (Lf.back (glf l k)))] kR kR ⟨oM, tI⟩ ?_
      refine aops_nil ?_
      refine xt_n ?_
      refine hK _ ?_
      clear hK K
      refine w_cond (t := Lf.back (glf l k)) kR (fun c3 => ?_) (fun c3 => ?_)
      · refine w_region (n' := 9) kR kR ?_
        refine aops_n hTT (M := []) (n := 6) [pv (46 : Nat) (V.own (9 : Nat)), pc (47 : Nat) ((0 : Nat) ≤ (4 : Nat)) (V.agg [V.i (Lf.row (glf l k)), V.i (Lf.col (glf l k)), V.b (Lf.back (glf l k)), V.b (Lf.turned (glf l k))]), pc (48 : Nat) ((0 : Nat) ≤ (4 : Nat)) (V.agg [V.i (Lf.row (glf l k)), V.i ((2 : Int) * M - 1 - Lf.col (glf l k)), V.b !Lf.back (glf l k), V.b (Lf.turned (glf l k))]), pv (49 : Nat) (V.sl (4 : Nat) (2 : Nat) fun (i : Nat) => List.take (4 : Nat) (List.drop (i * 4) [V.i (Lf.row (glf l k)), V.i (Lf.col (glf l k)), V.b (Lf.back (glf l k)), V.b (Lf.turned (glf l k)), V.i (Lf.row (glf l k)), V.i ((2 : Int) * M - 1 - Lf.col (glf l k)), V.b !Lf.back (glf l k), V.b (Lf.turned (glf l k))])), PR.mk (some (50 : Nat)) (some ((2 : Nat) * k + 2 ≤ (1099511627776 : Nat))) (V.own (800050 : Nat)) [((9 : Nat), none), ((800050 : Nat), some (Ob.row (31 : Nat) (4 : Nat) ((2 : Nat) * k + 2) (appRow ((2 : Nat) * k) (fun (j : Nat) => Lf.c (glf (unfL l F R M) j)) fun (i : Nat) => List.take (4 : Nat) (List.drop (i * 4) [V.i (Lf.row (glf l k)), V.i (Lf.col (glf l k)), V.b (Lf.back (glf l k)), V.b (Lf.turned (glf l k)), V.i (Lf.row (glf l k)), V.i ((2 : Int) * M - 1 - Lf.col (glf l k)), V.b !Lf.back (glf l k), V.b (Lf.turned (glf l k))]))))] false, pv (9 : Nat) (V.own (800050 : Nat))] kR kR ⟨oM, oM, oM, tI⟩ ?_
        refine aops_nil ?_
        refine xb_n ?_
        refine xt_n ?_
        refine hK _ ?_
        clear hK K
        refine w_region (n' := 10) kR kR ?_
        refine aops_n hTT (M := []) (n := 2) [pc (56 : Nat) ((-9223372036854775808 : Int) ≤ (↑k : Int) + 1 ∧ (↑k : Int) + 1 ≤ (9223372036854775807 : Int)) (V.i ((↑k : Int) + 1)), pv (15 : Nat) (V.i ((↑k : Int) + 1))] kR kR ⟨oM, tI⟩ ?_
        refine aops_nil ?_
        refine xt_n ?_
        refine ⟨k + 1, by omega, ?_, by omega⟩
        refine le_ren (tl := [(1, V.i F), (2, V.i R), (3, V.i M), (9, V.own (9 : Nat)), (13, V.sl (4 : Nat) (List.length l) fun (k : Nat) => Lf.c (glf l k)), (14, V.i (↑(List.length l) : Int)), (15, V.i (↑(k + 1) : Int))]) (sl := [(9, Ob.row (31 : Nat) (4 : Nat) ((2 : Nat) * (k + 1)) fun (j : Nat) => Lf.c (glf (unfL l F R M) j))]) [(9, 800050)] (.cons kR (.cons kR (.cons kR (.cons kR (.cons kR (.cons kR (.cons kR .nil))))))) (.cons ⟨Ob.row (31 : Nat) (4 : Nat) ((2 : Nat) * k + 2) (appRow ((2 : Nat) * k) (fun (j : Nat) => Lf.c (glf (unfL l F R M) j)) fun (i : Nat) => List.take (4 : Nat) (List.drop (i * 4) [V.i (Lf.row (glf l k)), V.i (Lf.col (glf l k)), V.b (Lf.back (glf l k)), V.b (Lf.turned (glf l k)), V.i (Lf.row (glf l k)), V.i ((2 : Int) * M - 1 - Lf.col (glf l k)), V.b !Lf.back (glf l k), V.b (Lf.turned (glf l k))])), kR, .row kR ?_⟩ .nil) kR kR
        exact unf_1 c1 (by simpa using c3) rfl (by rw [e1]; rfl)
      · refine w_region (n' := 9) kR kR ?_
        refine aops_n hTT (M := []) (n := 6) [pv (51 : Nat) (V.own (9 : Nat)), pc (52 : Nat) ((0 : Nat) ≤ (4 : Nat)) (V.agg [V.i (Lf.row (glf l k)), V.i ((2 : Int) * M - 1 - Lf.col (glf l k)), V.b !Lf.back (glf l k), V.b (Lf.turned (glf l k))]), pc (53 : Nat) ((0 : Nat) ≤ (4 : Nat)) (V.agg [V.i (Lf.row (glf l k)), V.i (Lf.col (glf l k)), V.b (Lf.back (glf l k)), V.b (Lf.turned (glf l k))]), pv (54 : Nat) (V.sl (4 : Nat) (2 : Nat) fun (i : Nat) => List.take (4 : Nat) (List.drop (i * 4) [V.i (Lf.row (glf l k)), V.i ((2 : Int) * M - 1 - Lf.col (glf l k)), V.b !Lf.back (glf l k), V.b (Lf.turned (glf l k)), V.i (Lf.row (glf l k)), V.i (Lf.col (glf l k)), V.b (Lf.back (glf l k)), V.b (Lf.turned (glf l k))])), PR.mk (some (55 : Nat)) (some ((2 : Nat) * k + 2 ≤ (1099511627776 : Nat))) (V.own (800055 : Nat)) [((9 : Nat), none), ((800055 : Nat), some (Ob.row (31 : Nat) (4 : Nat) ((2 : Nat) * k + 2) (appRow ((2 : Nat) * k) (fun (j : Nat) => Lf.c (glf (unfL l F R M) j)) fun (i : Nat) => List.take (4 : Nat) (List.drop (i * 4) [V.i (Lf.row (glf l k)), V.i ((2 : Int) * M - 1 - Lf.col (glf l k)), V.b !Lf.back (glf l k), V.b (Lf.turned (glf l k)), V.i (Lf.row (glf l k)), V.i (Lf.col (glf l k)), V.b (Lf.back (glf l k)), V.b (Lf.turned (glf l k))]))))] false, pv (9 : Nat) (V.own (800055 : Nat))] kR kR ⟨oM, oM, oM, tI⟩ ?_
        refine aops_nil ?_
        refine xb_n ?_
        refine xt_n ?_
        refine hK _ ?_
        clear hK K
        refine w_region (n' := 10) kR kR ?_
        refine aops_n hTT (M := []) (n := 2) [pc (56 : Nat) ((-9223372036854775808 : Int) ≤ (↑k : Int) + 1 ∧ (↑k : Int) + 1 ≤ (9223372036854775807 : Int)) (V.i ((↑k : Int) + 1)), pv (15 : Nat) (V.i ((↑k : Int) + 1))] kR kR ⟨oM, tI⟩ ?_
        refine aops_nil ?_
        refine xt_n ?_
        refine ⟨k + 1, by omega, ?_, by omega⟩
        refine le_ren (tl := [(1, V.i F), (2, V.i R), (3, V.i M), (9, V.own (9 : Nat)), (13, V.sl (4 : Nat) (List.length l) fun (k : Nat) => Lf.c (glf l k)), (14, V.i (↑(List.length l) : Int)), (15, V.i (↑(k + 1) : Int))]) (sl := [(9, Ob.row (31 : Nat) (4 : Nat) ((2 : Nat) * (k + 1)) fun (j : Nat) => Lf.c (glf (unfL l F R M) j))]) [(9, 800055)] (.cons kR (.cons kR (.cons kR (.cons kR (.cons kR (.cons kR (.cons kR .nil))))))) (.cons ⟨Ob.row (31 : Nat) (4 : Nat) ((2 : Nat) * k + 2) (appRow ((2 : Nat) * k) (fun (j : Nat) => Lf.c (glf (unfL l F R M) j)) fun (i : Nat) => List.take (4 : Nat) (List.drop (i * 4) [V.i (Lf.row (glf l k)), V.i ((2 : Int) * M - 1 - Lf.col (glf l k)), V.b !Lf.back (glf l k), V.b (Lf.turned (glf l k)), V.i (Lf.row (glf l k)), V.i (Lf.col (glf l k)), V.b (Lf.back (glf l k)), V.b (Lf.turned (glf l k))])), kR, .row kR ?_⟩ .nil) kR kR
        exact unf_2 c1 (by simpa using c3) rfl (by rw [e1]; rfl)
  · simp at c1
    obtain rfl : k = l.length := by omega
    refine aw_exit ?_
    refine xt_x ?_
    refine xt_x ?_
    refine xb_same ?_
    refine xt_n ?_
    clear hK K
    refine hK _ ?_
    clear hK K
    refine aw_seq_k fun K hK => ?_
    refine w_region (n' := 3) kR kR ?_
    refine aops_n hTT (M := []) (n := 2) [pv (57 : Nat) (V.own (9 : Nat)), pv (8 : Nat) (V.own (9 : Nat))] kR kR tI ?_
    refine aops_nil ?_
    refine xt_n ?_
    refine hK _ ?_
    clear hK K
    refine aw_ret ?_
    refine ret_own [(0, 9)] [(8, V.own (0 : Nat))] (.inr rfl) (.cons kR .nil) (.cons ⟨Ob.row (31 : Nat) (4 : Nat) ((2 : Nat) * List.length l) fun (j : Nat) => Lf.c (glf (unfL l F R M) j), kR, .row kR (fun _ _ => rfl)⟩ .nil) kR kR kR kR
theorem unfoldO_ac (l : List Lf) (F R M : Int) (hl : l.length ≤ 4096) (hR : 0 ≤ R ∧ R ≤ 65536) (hM : 0 ≤ M ∧ M ≤ 65536) (hb : ∀ k, k < l.length → (0 ≤ (glf l k).row ∧ (glf l k).row ≤ 65536) ∧ (0 ≤ (glf l k).col ∧ (glf l k).col ≤ 65536)) :
    AM Tryd.prog 75 [.own 500, .i F, .i R, .i M] [.row 31 4 l.length fun j => (glf l j).c] (.own 0) [none] [.row 31 4 (2 * l.length) fun j => (glf (unfL l F R M) j).c] :=
  (unfold_ac l F R M hl hR hM hb).row 31 (sz := 4) (n := l.length) (row := fun j => (glf l j).c) rfl rfl (by simp) rfl (fun _ _ => rfl) (fun _ => rfl)
def stV (f : List Int) : List (List V) := (stkL f).map fun x => [V.agg x.c]
theorem stV_get {f : List Int} {k : Nat} (h : k < (stkL f).length) : (stV f)[k]? = some [V.agg (glf (stkL f) k).c] := by rw [glf_get h]; simp [stV, h]
theorem stV_len (f : List Int) : (stV f).length = (stkL f).length := by simp [stV]
theorem drop_last {f : List Int} {k : Nat} (h : k < f.length) : f.drop (f.length - 1 - k) = gi f (f.length - 1 - k) :: f.drop (f.length - k) := by
  have h1 : f.length - 1 - k < f.length := by omega
  rw [List.drop_eq_getElem_cons h1, show f.length - 1 - k + 1 = f.length - k by omega]
  simp [gi, List.getD_eq_getElem?_getD, List.getElem?_eq_getElem h1]
theorem stk_step {f : List Int} {k : Nat} (h : k < f.length) : stkS (f.drop (f.length - (k + 1))) = (unfL (stkL (f.drop (f.length - k))) (gi f (f.length - 1 - k)) (stkS (f.drop (f.length - k))).2.1 (stkS (f.drop (f.length - k))).2.2, (stkS (f.drop (f.length - k))).2.1 * gr0 (gi f (f.length - 1 - k)), (stkS (f.drop (f.length - k))).2.2 * gr1 (gi f (f.length - 1 - k))) := by
  rw [show f.length - (k + 1) = f.length - 1 - k by omega, drop_last h, stkS, stkL]
theorem FO_drop {f : List Int} (h : FO f) (n : Nat) : FO (f.drop n) := fun x hx => h x (List.mem_of_mem_drop hx)
set_option maxHeartbeats 4000000 in
set_option maxRecDepth 100000 in
theorem stack1_it (f : List Int) (hf : FO f) (hl : f.length ≤ 5) : AIt4 Tryd.prog 73 [.ptr [V.ints f]] (stV f) := by
  refine ait4_intro hTT hMX (fn := Tryd.f73) (N := _) ⟨Tryd.func73, rfl, Tryd.ntmps73, kR⟩ rfl (by simp) fun Y => ?_
  rw [stV_len]
  refine awj4_seq_a fun C hF hC K hK => ?_
  refine w_region (n' := 2) kR kR ?_
  refine aops_n hTT (M := [11]) (n := 8) [pv (10 : Nat) (V.agg [V.i (0 : Int), V.i (0 : Int), V.b false, V.b false]), pn (11 : Nat) (V.own (100011 : Nat)) (100011 : Nat) (Ob.row (31 : Nat) (4 : Nat) (1 : Nat) fun (i : Nat) => List.take (4 : Nat) (List.drop (i * 4) [V.i (0 : Int), V.i (0 : Int), V.b false, V.b false])), pn (3 : Nat) (V.ref (100003 : Nat) (0 : Nat)) (100003 : Nat) (Ob.box (24 : Nat) [V.nil]), pn (4 : Nat) (V.ref (100004 : Nat) (0 : Nat)) (100004 : Nat) (Ob.box (3 : Nat) [V.i (0 : Int)]), pn (5 : Nat) (V.ref (100005 : Nat) (0 : Nat)) (100005 : Nat) (Ob.box (3 : Nat) [V.i (0 : Int)]), pw ((0 : Nat) + (1 : Nat) ≤ (1 : Nat)) (100003 : Nat) (Ob.box (24 : Nat) [V.own (100011 : Nat)]), pw ((0 : Nat) + (1 : Nat) ≤ (1 : Nat)) (100004 : Nat) (Ob.box (3 : Nat) [V.i (1 : Int)]), pw ((0 : Nat) + (1 : Nat) ≤ (1 : Nat)) (100005 : Nat) (Ob.box (3 : Nat) [V.i (1 : Int)])] kR kR ⟨oM, oM, oM, tI⟩ ?_
  refine aops_nil ?_
  refine xt_n ?_
  refine hK _ ?_
  clear hK K
  refine awj4_seq_a fun C hF hC K hK => ?_
  refine aw_seq_k fun K hK => ?_
  refine w_region (n' := 3) kR kR ?_
  refine aops_n hTT (M := [11]) (n := 1) [pv (12 : Nat) (V.sl (1 : Nat) (List.length f) fun (k : Nat) => [V.i (gi f k)])] kR kR tI ?_
  refine e_call (first := []) (caps := []) (Backward_ac f) kR kR kR kR kR ?_
  refine aops_nil ?_
  refine xt_n ?_
  refine hK _ ?_
  clear hK K
  refine aw_block ?_
  refine w_range4 (caps := [V.ptr [V.sl (1 : Nat) (List.length f) fun (k : Nat) => [V.i (gi f k)]]]) hF [500, 501, 502] [0] [(500, 100003), (501, 100004), (502, 100005), (0, 100011)] (fun _ _ h => by rw [hC] at h; cases h) (backward_it f oM) kR kR ?_ kR [(0, V.c (.func (.yield Y.l) #[] #[])), (3, V.ref 500 0), (4, V.ref 501 0), (5, V.ref 502 0)] (fun k => k ≤ f.length) (fun k => [Ob.box 24 [.own 0], Ob.box 3 [.i (stkS (f.drop (f.length - k))).2.1], Ob.box 3 [.i (stkS (f.drop (f.length - k))).2.2], Ob.row 31 4 (stkL (f.drop (f.length - k))).length fun j => (glf (stkL (f.drop (f.length - k))) j).c]) (fun _ _ _ => False) ?_ kR kR kR (.cons kR (.cons kR (.cons kR (.cons kR .nil)))) (.cons ⟨Ob.box (24 : Nat) [V.own (100011 : Nat)], kR, .box kR⟩ (.cons ⟨Ob.box (3 : Nat) [V.i (1 : Int)], kR, .box ?_⟩ (.cons ⟨Ob.box (3 : Nat) [V.i (1 : Int)], kR, .box ?_⟩ (.cons ⟨Ob.row (31 : Nat) (4 : Nat) (1 : Nat) fun (i : Nat) => List.take (4 : Nat) (List.drop (i * 4) [V.i (0 : Int), V.i (0 : Int), V.b false, V.b false]), kR, .row ?_ ?_⟩ .nil)))) kR ?_ ?_ ?_
  · intro x hx
    simp only [bwV, List.mem_map] at hx
    obtain ⟨j, _, rfl⟩ := hx
    rfl
  · exact Nat.zero_le _
  · rw [Nat.sub_zero, List.drop_length]; rfl
  · rw [Nat.sub_zero, List.drop_length]; rfl
  · rw [Nat.sub_zero, List.drop_length]; rfl
  · rw [Nat.sub_zero, List.drop_length]
    intro i hi
    obtain rfl : i = 0 := by omega
    rfl
  · rintro C' ⟨lx, hF⟩ k x hx _
    have h1 : k < f.length := by have := (List.getElem?_eq_some_iff.1 hx).1; rwa [bwV_len] at this
    rw [bwV_get h1] at hx
    injection hx with hx
    subst hx
    have hf1 := FO_drop hf (f.length - k)
    obtain ⟨⟨r1, r2, r3⟩, r4⟩ := stk_bd hf1
    have hle := stk_le hf1 (by simp; omega)
    have hlen : (stkL (f.drop (f.length - k))).length ≤ 32 := by rw [stkL_len]; exact pow_le5 (by simp; omega)
    have hgk : gi f (f.length - 1 - k) = 1 ∨ gi f (f.length - 1 - k) = 2 := by
      have hlt : f.length - 1 - k < f.length := by omega
      simp only [gi, List.getD_eq_getElem?_getD, List.getElem?_eq_getElem hlt, Option.getD_some]
      exact hf _ (List.getElem_mem hlt)
    generalize hg : gi f (f.length - 1 - k) = F at hgk
    generalize hs : stkL (f.drop (f.length - k)) = ls at r4 hlen
    generalize hR : (stkS (f.drop (f.length - k))).2.1 = R at r1 r3 r4 hle
    generalize hM : (stkS (f.drop (f.length - k))).2.2 = M at r2 r3 r4 hle
    have hst := stk_step h1
    rw [hg, hs, hR, hM] at hst
    rcases hgk with rfl | rfl
    · refine w_region (n' := 2) kR kR ?_
      refine aops_n hTT (M := []) (n := 1) [pv (7 : Nat) (V.i (1 : Int))] kR kR tI ?_
      refine aops_nil ?_
      refine xt_n ?_
      refine aw_block ?_
      refine aw_seq_k fun K hK => ?_
      refine w_region (n' := 3) kR kR ?_
      refine aops_n hTT (M := []) (n := 4) [pc (16 : Nat) ((0 : Nat) ≤ (1 : Nat)) (V.own (0 : Nat)), pv (17 : Nat) (V.i (1 : Int)), pc (18 : Nat) ((0 : Nat) ≤ (1 : Nat)) (V.i R), pc (19 : Nat) ((0 : Nat) ≤ (1 : Nat)) (V.i M)] kR kR ⟨oM, oM, oM, tI⟩ ?_
      refine aops_callM [0] (first := []) (caps := []) (ins' := [Ob.row (31 : Nat) (4 : Nat) (List.length ls) fun (j : Nat) => Lf.c (glf ls j)]) (v' := V.own (200020 : Nat)) (δ := [(0, Option.none), (200020, Option.some (Ob.row (31 : Nat) (4 : Nat) ((2 : Nat) * List.length ls) fun (i : Nat) => V.renL (nameG (2 : Nat) (some 20) [(0 : Nat)]) (Lf.c (glf (unfL ls (1 : Int) R M) i))))]) (kp := [0]) (unfoldO_ac ls 1 R M oM oM oM (fun j hj => by rw [glf_get hj]; have := r4 _ (List.getElem_mem hj); omega)) kR kR kR kR kR kR rfl rfl kR (.row kR (fun _ _ => rfl) (fun _ _ => rfl) .nil) kR kR kR ?_
      refine aops_n hTT (M := []) (n := 1) [pw ((0 : Nat) + (1 : Nat) ≤ (1 : Nat)) (500 : Nat) (Ob.box (24 : Nat) [V.own (200020 : Nat)])] kR kR ⟨oM, tI⟩ ?_
      refine aops_nil ?_
      refine xt_n ?_
      refine hK _ ?_
      clear hK K
      refine w_regionD (n' := 4) kR kR ?_
      refine aops_n hTT (M := []) (n := 14) [pc (21 : Nat) ((0 : Nat) ≤ (1 : Nat)) (V.i R), pv (22 : Nat) (V.i (1 : Int)), pc (23 : Nat) ((0 : Int) ≤ (1 : Int) ∧ (1 : Int) < (↑(3 : Nat) : Int)) (V.ptr [V.i (1 : Int), V.i (2 : Int), V.i (2 : Int), V.i (1 : Int)]), pc (24 : Nat) ((0 : Int) ≤ (0 : Int) ∧ (0 : Int) < (↑(2 : Nat) : Int)) (V.ptr [V.i (1 : Int), V.i (2 : Int), V.i (2 : Int), V.i (1 : Int)]), pv (25 : Nat) (V.i (1 : Int)), pc (26 : Nat) ((-9223372036854775808 : Int) ≤ R * 1 ∧ R * 1 ≤ (9223372036854775807 : Int)) (V.i (R * 1)), pc (27 : Nat) ((0 : Nat) ≤ (1 : Nat)) (V.i M), pv (28 : Nat) (V.i (1 : Int)), pc (29 : Nat) ((0 : Int) ≤ (1 : Int) ∧ (1 : Int) < (↑(3 : Nat) : Int)) (V.ptr [V.i (1 : Int), V.i (2 : Int), V.i (2 : Int), V.i (1 : Int)]), pc (30 : Nat) ((0 : Int) ≤ (1 : Int) ∧ (1 : Int) < (↑(2 : Nat) : Int)) (V.ptr [V.i (2 : Int), V.i (2 : Int), V.i (1 : Int)]), pv (31 : Nat) (V.i (2 : Int)), pc (32 : Nat) ((-9223372036854775808 : Int) ≤ M * 2 ∧ M * 2 ≤ (9223372036854775807 : Int)) (V.i (M * 2)), pw ((0 : Nat) + (1 : Nat) ≤ (1 : Nat)) (501 : Nat) (Ob.box (3 : Nat) [V.i (R * 1)]), pw ((0 : Nat) + (1 : Nat) ≤ (1 : Nat)) (502 : Nat) (Ob.box (3 : Nat) [V.i (M * 2)])] kR kR ⟨oM, oM, oM, oM, oM, oM, oM, oM, oM, oM, tI⟩ ?_
      refine aops_nil ⟨kR, ?_⟩
      refine xb_n ?_
      refine ⟨by omega, ?_⟩
      refine le_ren (sl := [(500, Ob.box (24 : Nat) [V.own (0 : Nat)]), (501, Ob.box (3 : Nat) [V.i (Prod.fst (Prod.snd (stkS (List.drop (List.length f - (k + 1)) f))))]), (502, Ob.box (3 : Nat) [V.i (Prod.snd (Prod.snd (stkS (List.drop (List.length f - (k + 1)) f))))]), (0, Ob.row (31 : Nat) (4 : Nat) (List.length (stkL (List.drop (List.length f - (k + 1)) f))) fun (j : Nat) => Lf.c (glf (stkL (List.drop (List.length f - (k + 1)) f)) j))]) [(0, 200020)] .nil (.cons ⟨Ob.box (24 : Nat) [V.own (200020 : Nat)], kR, .box kR⟩ (.cons ⟨Ob.box (3 : Nat) [V.i (R * 1)], kR, .box ?_⟩ (.cons ⟨Ob.box (3 : Nat) [V.i (M * 2)], kR, .box ?_⟩ (.cons ⟨Ob.row (31 : Nat) (4 : Nat) ((2 : Nat) * List.length ls) fun (i : Nat) => V.renL (nameG (2 : Nat) (some (20 : Tmp)) [(0 : Nat)]) (Lf.c (glf (unfL ls (1 : Int) R M) i)), kR, .row ?_ ?_⟩ .nil)))) kR kR
      · rw [hst]; rfl
      · rw [hst]; rfl
      · rw [stkL, hst, unfL_len]
      · rw [stkL, hst]; exact fun _ _ => rfl
    · refine w_region (n' := 2) kR kR ?_
      refine aops_n hTT (M := []) (n := 1) [pv (7 : Nat) (V.i (2 : Int))] kR kR tI ?_
      refine aops_nil ?_
      refine xt_n ?_
      refine aw_block ?_
      refine aw_seq_k fun K hK => ?_
      refine w_region (n' := 3) kR kR ?_
      refine aops_n hTT (M := []) (n := 4) [pc (16 : Nat) ((0 : Nat) ≤ (1 : Nat)) (V.own (0 : Nat)), pv (17 : Nat) (V.i (2 : Int)), pc (18 : Nat) ((0 : Nat) ≤ (1 : Nat)) (V.i R), pc (19 : Nat) ((0 : Nat) ≤ (1 : Nat)) (V.i M)] kR kR ⟨oM, oM, oM, tI⟩ ?_
      refine aops_callM [0] (first := []) (caps := []) (ins' := [Ob.row (31 : Nat) (4 : Nat) (List.length ls) fun (j : Nat) => Lf.c (glf ls j)]) (v' := V.own (200020 : Nat)) (δ := [(0, Option.none), (200020, Option.some (Ob.row (31 : Nat) (4 : Nat) ((2 : Nat) * List.length ls) fun (i : Nat) => V.renL (nameG (2 : Nat) (some 20) [(0 : Nat)]) (Lf.c (glf (unfL ls (2 : Int) R M) i))))]) (kp := [0]) (unfoldO_ac ls 2 R M oM oM oM (fun j hj => by rw [glf_get hj]; have := r4 _ (List.getElem_mem hj); omega)) kR kR kR kR kR kR rfl rfl kR (.row kR (fun _ _ => rfl) (fun _ _ => rfl) .nil) kR kR kR ?_
      refine aops_n hTT (M := []) (n := 1) [pw ((0 : Nat) + (1 : Nat) ≤ (1 : Nat)) (500 : Nat) (Ob.box (24 : Nat) [V.own (200020 : Nat)])] kR kR ⟨oM, tI⟩ ?_
      refine aops_nil ?_
      refine xt_n ?_
      refine hK _ ?_
      clear hK K
      refine w_regionD (n' := 4) kR kR ?_
      refine aops_n hTT (M := []) (n := 14) [pc (21 : Nat) ((0 : Nat) ≤ (1 : Nat)) (V.i R), pv (22 : Nat) (V.i (2 : Int)), pc (23 : Nat) ((0 : Int) ≤ (2 : Int) ∧ (2 : Int) < (↑(3 : Nat) : Int)) (V.ptr [V.i (2 : Int), V.i (1 : Int)]), pc (24 : Nat) ((0 : Int) ≤ (0 : Int) ∧ (0 : Int) < (↑(2 : Nat) : Int)) (V.ptr [V.i (2 : Int), V.i (1 : Int)]), pv (25 : Nat) (V.i (2 : Int)), pc (26 : Nat) ((-9223372036854775808 : Int) ≤ R * 2 ∧ R * 2 ≤ (9223372036854775807 : Int)) (V.i (R * 2)), pc (27 : Nat) ((0 : Nat) ≤ (1 : Nat)) (V.i M), pv (28 : Nat) (V.i (2 : Int)), pc (29 : Nat) ((0 : Int) ≤ (2 : Int) ∧ (2 : Int) < (↑(3 : Nat) : Int)) (V.ptr [V.i (2 : Int), V.i (1 : Int)]), pc (30 : Nat) ((0 : Int) ≤ (1 : Int) ∧ (1 : Int) < (↑(2 : Nat) : Int)) (V.ptr [V.i (1 : Int)]), pv (31 : Nat) (V.i (1 : Int)), pc (32 : Nat) ((-9223372036854775808 : Int) ≤ M * 1 ∧ M * 1 ≤ (9223372036854775807 : Int)) (V.i (M * 1)), pw ((0 : Nat) + (1 : Nat) ≤ (1 : Nat)) (501 : Nat) (Ob.box (3 : Nat) [V.i (R * 2)]), pw ((0 : Nat) + (1 : Nat) ≤ (1 : Nat)) (502 : Nat) (Ob.box (3 : Nat) [V.i (M * 1)])] kR kR ⟨oM, oM, oM, oM, oM, oM, oM, oM, oM, oM, tI⟩ ?_
      refine aops_nil ⟨kR, ?_⟩
      refine xb_n ?_
      refine ⟨by omega, ?_⟩
      refine le_ren (sl := [(500, Ob.box (24 : Nat) [V.own (0 : Nat)]), (501, Ob.box (3 : Nat) [V.i (Prod.fst (Prod.snd (stkS (List.drop (List.length f - (k + 1)) f))))]), (502, Ob.box (3 : Nat) [V.i (Prod.snd (Prod.snd (stkS (List.drop (List.length f - (k + 1)) f))))]), (0, Ob.row (31 : Nat) (4 : Nat) (List.length (stkL (List.drop (List.length f - (k + 1)) f))) fun (j : Nat) => Lf.c (glf (stkL (List.drop (List.length f - (k + 1)) f)) j))]) [(0, 200020)] .nil (.cons ⟨Ob.box (24 : Nat) [V.own (200020 : Nat)], kR, .box kR⟩ (.cons ⟨Ob.box (3 : Nat) [V.i (R * 2)], kR, .box ?_⟩ (.cons ⟨Ob.box (3 : Nat) [V.i (M * 1)], kR, .box ?_⟩ (.cons ⟨Ob.row (31 : Nat) (4 : Nat) ((2 : Nat) * List.length ls) fun (i : Nat) => V.renL (nameG (2 : Nat) (some (20 : Tmp)) [(0 : Nat)]) (Lf.c (glf (unfL ls (2 : Int) R M) i)), kR, .row ?_ ?_⟩ .nil)))) kR kR
      · rw [hst]; rfl
      · rw [hst]; rfl
      · rw [stkL, hst, unfL_len]
      · rw [stkL, hst]; exact fun _ _ => rfl
  · rw [bwV_len, Nat.sub_self, List.drop_zero]
    intro _
    refine xb_n ?_
    refine xt_n ?_
    refine hK _ ?_
    clear hK K
    refine awj4_seq_a fun C hF hC K hK => ?_
    refine w_region (n' := 2) kR kR ?_
    refine aops_n hTT (M := []) (n := 3) [pc (33 : Nat) ((0 : Nat) ≤ (1 : Nat)) (V.own (0 : Nat)), pv (34 : Nat) (V.i (↑(List.length (stkL f)) : Int)), pv (35 : Nat) (V.i (0 : Int))] kR kR ⟨oM, tI⟩ ?_
    refine aops_nil ?_
    refine xt_n ?_
    refine hK _ ?_
    clear hK K
    refine awj4_block ?_
    refine awj4_loop (ι := Nat) (fun k => ⟨mkT [(0, .c (.func (.yield Y.l) #[] #[])), (33, .own 0), (34, .i (stkL f).length), (35, .i k)], mkS [(0, .row 31 4 (stkL f).length fun j => (glf (stkL f) j).c)], 1⟩) (fun k => k) (fun k => k ≤ (stkL f).length) (fun k => (stkL f).length - k) 0 (Nat.zero_le _) ?_ rfl ?_
    · refine le_ren (sl := [(0, Ob.row (31 : Nat) (4 : Nat) (List.length (stkL f)) fun (j : Nat) => Lf.c (glf (stkL f) j))]) [(0, 0)] (.cons kR (.cons kR (.cons kR (.cons kR .nil)))) (.cons ⟨Ob.row (31 : Nat) (4 : Nat) (List.length (stkL f)) fun (j : Nat) => Lf.c (glf (stkL f) j), kR, .row kR (fun _ _ => rfl)⟩ .nil) kR kR
    intro k hk
    have hlen : (stkL f).length ≤ 32 := by rw [stkL_len]; exact pow_le5 hl
    refine awj4_seq_a fun C hF hC K hK => ?_
    refine w_region (n' := 2) kR kR ?_
    refine aops_n hTT (M := []) (n := 1) [pv (36 : Nat) (V.b (decide ((↑k : Int) < (↑(List.length (stkL f)) : Int))))] kR kR tI ?_
    refine aops_nil ?_
    refine xt_n ?_
    refine hK _ ?_
    clear hK K
    refine awj4_seq_a fun C hF hC K hK => ?_
    refine w_cond (t := decide ((↑k : Int) < (↑(List.length (stkL f)) : Int))) kR (fun c1 => ?_) (fun c1 => ?_)
    · have h1 : k < (stkL f).length := by simpa using c1
      refine aw_skip ?_
      refine xt_n ?_
      refine hK _ ?_
      clear hK K
      refine awj4_seq ?_
      refine awj4_block ?_
      refine awj4_seq_a fun C hF hC K hK => ?_
      refine w_region (n' := 3) kR kR ?_
      refine aops_n hTT (M := []) (n := 4) [pc (37 : Nat) ((0 : Int) ≤ (↑k : Int) ∧ (↑k : Int) < (↑(List.length (stkL f)) : Int)) (V.oel (0 : Nat) (4 : Nat) k (0 : Nat)), pc (38 : Nat) (k < List.length (stkL f) ∧ (0 : Nat) ≤ (4 : Nat)) (V.agg [V.i (Lf.row (glf (stkL f) k)), V.i (Lf.col (glf (stkL f) k)), V.b (Lf.back (glf (stkL f) k)), V.b (Lf.turned (glf (stkL f) k))]), pn (9 : Nat) (V.ref (200009 : Nat) (0 : Nat)) (200009 : Nat) (Ob.box (31 : Nat) [V.i (0 : Int), V.i (0 : Int), V.b false, V.b false]), pw ((0 : Nat) + (4 : Nat) ≤ (4 : Nat)) (200009 : Nat) (Ob.box (31 : Nat) [V.i (Lf.row (glf (stkL f) k)), V.i (Lf.col (glf (stkL f) k)), V.b (Lf.back (glf (stkL f) k)), V.b (Lf.turned (glf (stkL f) k))])] kR kR ⟨oM, oM, oM, tI⟩ ?_
      refine aops_nil ?_
      refine xt_n ?_
      refine hK _ ?_
      clear hK K
      refine awj4_seq (awj4_yield 2 kR rfl fun C hF hC => ?_)
      refine aops_n hTT (M := []) (n := 2) [pv (39 : Nat) (V.c (Value.func (Fn.yield (YE4.l Y)) #[] #[])), pc (40 : Nat) ((0 : Nat) ≤ (4 : Nat)) (V.agg [V.i (Lf.row (glf (stkL f) k)), V.i (Lf.col (glf (stkL f) k)), V.b (Lf.back (glf (stkL f) k)), V.b (Lf.turned (glf (stkL f) k))])] kR kR ⟨oM, tI⟩ ?_
      refine aops_nil ?_
      refine ⟨kR, ⟨_, stV_get h1, RImp.refl _, trivial⟩, ⟨kR, fun v hv => by rw [stV_get h1] at hv; injection hv with hv; subst hv; rfl⟩, fun C hF hC => ?_, fun C hF hC => ?_⟩
      · refine aops_n hTT (M := []) (n := 1) [pv (42 : Nat) (V.b false)] kR kR tI ?_
        refine aops_nil ?_
        refine xjt_n ?_
        refine awj4_cond (t := false) kR (fun h => by cases h) (fun _ => ?_)
        refine awj4_skip ?_
        refine xjb_n ?_
        refine xjt_n ?_
        refine awj4_aw fun C hF hC => ?_
        refine w_region (n' := 5) kR kR ?_
        refine aops_n hTT (M := []) (n := 2) [pc (43 : Nat) ((-9223372036854775808 : Int) ≤ (↑k : Int) + 1 ∧ (↑k : Int) + 1 ≤ (9223372036854775807 : Int)) (V.i ((↑k : Int) + 1)), pv (35 : Nat) (V.i ((↑k : Int) + 1))] kR kR ⟨oM, tI⟩ ?_
        refine aops_nil ?_
        refine xjt_n ?_
        refine ⟨rfl, k + 1, by omega, ?_, rfl, by omega⟩
        refine le_ren (sl := [(0, Ob.row (31 : Nat) (4 : Nat) (List.length (stkL f)) fun (j : Nat) => Lf.c (glf (stkL f) j))]) [(0, 0)] (.cons kR (.cons kR (.cons kR (.cons kR .nil)))) (.cons ⟨Ob.row (31 : Nat) (4 : Nat) (List.length (stkL f)) fun (j : Nat) => Lf.c (glf (stkL f) j), kR, .row kR (fun _ _ => rfl)⟩ .nil) kR kR
      · refine aops_n hTT (M := []) (n := 1) [pv (42 : Nat) (V.b true)] kR kR tI ?_
        refine aops_nil ?_
        refine xjt_n ?_
        refine awj4_cond (t := true) kR (fun _ => ?_) (fun h => by cases h)
        refine awj4_ret ?_
        refine xjb_r ?_
        refine xjt_r ?_
        refine xjt_r ?_
        refine xjb_r ?_
        exact ⟨.inr rfl, fun h => (by cases h), fun _ => h1⟩
    · have h1 : k = (stkL f).length := by simp at c1; omega
      refine aw_exit ?_
      refine xt_x ?_
      refine xjt_x ?_
      refine xjb_same ?_
      exact ⟨.inl rfl, fun _ => h1, fun h => by cases h⟩
  · exact fun _ _ _ _ h => h.elim
set_option maxRecDepth 100000 in
theorem stack_ac (f : List Int) : AC Tryd.prog 47 [V.ints f] (.fn (.func 73) [] [.ptr [V.ints f]]) [] := by
  refine ac_intro hTT hMX (fn := Tryd.f47) (N := _) ⟨Tryd.func47, rfl, Tryd.ntmps47, kR⟩ (by simp) fun C hC hF => ?_
  refine aw_seq_k fun K hK => ?_
  refine w_region (n' := 2) kR kR ?_
  refine aops_n hTT (M := []) (n := 2) [pv (1 : Nat) (V.ptr [V.sl (1 : Nat) (List.length f) fun (k : Nat) => [V.i (gi f k)]]), pv (2 : Nat) (V.c Value.nilFunc)] kR kR tI ?_
  refine aops_nil ?_
  refine xt_n ?_
  refine hK _ ?_
  clear hK K
  refine aw_seq_k fun K hK => ?_
  refine w_region (n' := 3) kR kR ?_
  refine aops_n hTT (M := []) (n := 2) [pv (3 : Nat) (V.fn (Fn.func (73 : Nat)) [] [V.ptr [V.sl (1 : Nat) (List.length f) fun (k : Nat) => [V.i (gi f k)]]]), pv (2 : Nat) (V.fn (Fn.func (73 : Nat)) [] [V.ptr [V.sl (1 : Nat) (List.length f) fun (k : Nat) => [V.i (gi f k)]]])] kR kR tI ?_
  refine aops_nil ?_
  refine xt_n ?_
  refine hK _ ?_
  clear hK K
  refine aw_ret ?_
  refine ret_pure (v' := V.fn (Fn.func (73 : Nat)) [] [V.ptr [V.sl (1 : Nat) (List.length f) fun (k : Nat) => [V.i (gi f k)]]]) (.inr rfl) kR kR kR
set_option maxRecDepth 100000 in
theorem folB_ac (k : Int) : AC Tryd.prog 52 [.i k] (.b (folB k)) [] := by
  refine ac_intro hTT hMX (fn := Tryd.f52) (N := _) ⟨Tryd.func52, rfl, Tryd.ntmps52, kR⟩ (by simp) fun C hC hF => ?_
  refine aw_seq_k fun K hK => ?_
  refine w_region (n' := 2) kR kR ?_
  refine aops_n hTT (M := []) (n := 1) [pv (2 : Nat) (V.b false)] kR kR tI ?_
  refine aops_nil ?_
  refine xt_n ?_
  refine hK _ ?_
  clear hK K
  refine aw_seq_k fun K hK => ?_
  refine w_region (n' := 3) kR kR ?_
  refine aops_n hTT (M := []) (n := 7) [pv (3 : Nat) (V.i k), pv (4 : Nat) (V.b (decide (k < 1))), pv (5 : Nat) (V.b (decide (k < 1))), pc (6 : Nat) ((True ∧ True) ∧ ((decide (k < 1) == false) = true → True)) (V.gd (decide (k < 1) == false) (V.i k)), pc (7 : Nat) ((((decide (k < 1) == false) = true → (decide (k < 1) == false) = true) ∧ True ∧ True) ∧ ((decide (k < 1) == false) = true → True)) (V.gd (decide (k < 1) == false) (V.b (decide ((2 : Int) < k)))), pc (8 : Nat) (True ∧ (decide (k < 1) = false → (decide (k < 1) == false) = true)) (V.b (decide (k < 1) || decide ((2 : Int) < k))), pv (2 : Nat) (V.b (decide (k < 1) || decide ((2 : Int) < k)))] kR kR ⟨⟨⟨tI, tI⟩, (fun _ => tI)⟩, ⟨⟨(by (exact fun h => h)), ⟨tI, tI⟩⟩, (fun _ => tI)⟩, ⟨tI, (by (intro h; rw [h]; rfl))⟩, tI⟩ ?_
  refine aops_nil ?_
  refine xt_n ?_
  refine hK _ ?_
  clear hK K
  refine aw_ret ?_
  refine ret_pure (v' := V.b (decide (k < 1) || decide ((2 : Int) < k))) (.inr rfl) kR kR kR
set_option maxRecDepth 100000 in
theorem indexFold_ac (l : List Int) (hl : l.length ≤ 4611686018427387904) : AC Tryd.prog 78 [V.ints l, .fn (.func 52) [] []] (.i (idxF (fun k => folB (gi l k)) l.length)) [] := by
  refine ac_intro hTT hMX (fn := Tryd.f78) (N := _) ⟨Tryd.func78, rfl, Tryd.ntmps78, kR⟩ (by simp) fun C hC hF => ?_
  refine aw_seq_k fun K hK => ?_
  refine w_region (n' := 2) kR kR ?_
  refine aops_n hTT (M := []) (n := 1) [pv (4 : Nat) (V.i (0 : Int))] kR kR tI ?_
  refine aops_nil ?_
  refine xt_n ?_
  refine hK _ ?_
  clear hK K
  refine aw_seq_k fun K hK => ?_
  refine aw_seq_k fun K hK => ?_
  refine w_region (n' := 3) kR kR ?_
  refine aops_n hTT (M := []) (n := 3) [pv (6 : Nat) (V.sl (1 : Nat) (List.length l) fun (k : Nat) => [V.i (gi l k)]), pv (7 : Nat) (V.i (↑(List.length l) : Int)), pv (8 : Nat) (V.i (0 : Int))] kR kR tI ?_
  refine aops_nil ?_
  refine xt_n ?_
  refine hK _ ?_
  clear hK K
  refine aw_block ?_
  refine w_loop (ι := Nat) (fun k => [(0, V.ints l), (1, .fn (.func 52) [] []), (7, .i l.length), (8, .i k)]) (fun _ => []) (fun k => k ≤ l.length ∧ ∀ j, j < k → (fun k => folB (gi l k)) j = false) (fun k => l.length - k) 0 ⟨Nat.zero_le _, fun _ h => by omega⟩ ?_ ?_
  · refine le_ren [] (.cons kR (.cons kR (.cons kR (.cons kR .nil)))) .nil kR kR
  rintro k ⟨hk, h0⟩
  refine aw_seq_k fun K hK => ?_
  refine w_region (n' := 2) kR kR ?_
  refine aops_n hTT (M := []) (n := 1) [pv (9 : Nat) (V.b (decide ((↑k : Int) < (↑(List.length l) : Int))))] kR kR tI ?_
  refine aops_nil ?_
  refine xt_n ?_
  refine hK _ ?_
  clear hK K
  refine aw_seq_k fun K hK => ?_
  refine w_cond (t := decide ((↑k : Int) < (↑(List.length l) : Int))) kR (fun c1 => ?_) (fun c1 => ?_)
  · simp at c1
    refine aw_skip ?_
    refine xt_n ?_
    refine hK _ ?_
    clear hK K
    refine aw_seq_k fun K hK => ?_
    refine aw_block ?_
    refine aw_seq_k fun K hK => ?_
    refine w_region (n' := 3) kR kR ?_
    refine aops_n hTT (M := []) (n := 2) [pv (10 : Nat) (V.i (↑k : Int)), pv (5 : Nat) (V.i (↑k : Int))] kR kR tI ?_
    refine aops_nil ?_
    refine xt_n ?_
    refine hK _ ?_
    clear hK K
    refine aw_seq_k fun K hK => ?_
    refine w_region (n' := 4) kR kR ?_
    refine aops_n hTT (M := []) (n := 5) [pv (11 : Nat) (V.fn (Fn.func (52 : Nat)) [] []), pv (12 : Nat) (V.sl (1 : Nat) (List.length l) fun (k : Nat) => [V.i (gi l k)]), pv (13 : Nat) (V.i (↑k : Int)), pc (14 : Nat) ((0 : Int) ≤ (↑k : Int) ∧ (↑k : Int) < (↑(List.length l) : Int)) (V.ptr [V.i (gi l k)]), pv (15 : Nat) (V.i (gi l k))] kR kR ⟨oM, tI⟩ ?_
    refine e_call (first := []) (caps := []) (folB_ac (gi l k)) kR kR kR kR kR ?_
    refine aops_nil ?_
    refine xt_n ?_
    refine hK _ ?_
    clear hK K
    refine w_cond (t := folB (gi l k)) kR (fun c2 => ?_) (fun c2 => ?_)
    · refine aw_seq_k fun K hK => ?_
      refine w_region (n' := 5) kR kR ?_
      refine aops_n hTT (M := []) (n := 2) [pv (17 : Nat) (V.i (↑k : Int)), pv (4 : Nat) (V.i (↑k : Int))] kR kR tI ?_
      refine aops_nil ?_
      refine xt_n ?_
      refine hK _ ?_
      clear hK K
      refine aw_ret ?_
      refine xb_r ?_
      refine xt_r ?_
      refine xt_r ?_
      refine xb_r ?_
      refine xt_r ?_
      rw [idxF_some (p := fun k => folB (gi l k)) c1 c2 h0]
      refine ret_pure (v' := V.i (↑k : Int)) (.inr rfl) kR kR kR
    refine aw_skip ?_
    refine xb_n ?_
    refine xt_n ?_
    refine hK _ ?_
    clear hK K
    refine w_region (n' := 5) kR kR ?_
    refine aops_n hTT (M := []) (n := 2) [pc (18 : Nat) ((-9223372036854775808 : Int) ≤ (↑k : Int) + 1 ∧ (↑k : Int) + 1 ≤ (9223372036854775807 : Int)) (V.i ((↑k : Int) + 1)), pv (8 : Nat) (V.i ((↑k : Int) + 1))] kR kR ⟨oM, tI⟩ ?_
    refine aops_nil ?_
    refine xt_n ?_
    refine ⟨k + 1, ⟨by omega, fun j hj => ?_⟩, by refine le_ren [] (.cons kR (.cons kR (.cons kR (.cons kR .nil)))) .nil kR kR, by omega⟩
    by_cases he : j = k
    · subst he; exact c2
    · exact h0 j oM
  simp at c1
  obtain rfl : k = l.length := by omega
  refine aw_exit ?_
  refine xt_x ?_
  refine xt_x ?_
  refine xb_same ?_
  refine xt_n ?_
  clear hK K
  refine hK _ ?_
  clear hK K
  refine aw_seq_k fun K hK => ?_
  refine w_region (n' := 3) kR kR ?_
  refine aops_n hTT (M := []) (n := 1) [pv (4 : Nat) (V.i (-1 : Int))] kR kR tI ?_
  refine aops_nil ?_
  refine xt_n ?_
  refine hK _ ?_
  clear hK K
  refine aw_ret ?_
  rw [idxF_none h0]
  refine ret_pure (v' := V.i (-1 : Int)) (.inr rfl) kR kR kR
def isPg (x : Lf) (row col : Int) (back : Bool) : Bool := decide (x.row = row) && decide (x.col = col) && (x.back == back)
set_option maxRecDepth 100000 in
theorem isPg_ac (x : Lf) (row col : Int) (back : Bool) : AC Tryd.prog 50 [.agg x.c, .ptr [.i row], .ptr [.i col], .ptr [.b back]] (.b (isPg x row col back)) [] := by
  refine ac_intro hTT hMX (fn := Tryd.f50) (N := _) ⟨Tryd.func50, rfl, Tryd.ntmps50, kR⟩ (by simp) fun C hC hF => ?_
  refine aw_seq_k fun K hK => ?_
  refine w_region (n' := 2) kR kR ?_
  refine aops_n hTT (M := []) (n := 2) [pv (4 : Nat) (V.ptr [V.i (Lf.row x), V.i (Lf.col x), V.b (Lf.back x), V.b (Lf.turned x)]), pv (5 : Nat) (V.b false)] kR kR tI ?_
  refine aops_nil ?_
  refine xt_n ?_
  refine hK _ ?_
  clear hK K
  refine aw_seq_k fun K hK => ?_
  refine w_region (n' := 3) kR kR ?_
  refine aops_n hTT (M := []) (n := 17) [pv (6 : Nat) (V.ptr [V.i (Lf.row x), V.i (Lf.col x), V.b (Lf.back x), V.b (Lf.turned x)]), pv (7 : Nat) (V.i (Lf.row x)), pv (8 : Nat) (V.i row), pv (9 : Nat) (V.b (decide (Lf.row x = row))), pv (10 : Nat) (V.b (decide (Lf.row x = row))), pc (11 : Nat) ((True ∧ True) ∧ ((decide (Lf.row x = row) == true) = true → True)) (V.gd (decide (Lf.row x = row) == true) (V.ptr [V.i (Lf.col x), V.b (Lf.back x), V.b (Lf.turned x)])), pc (12 : Nat) ((((decide (Lf.row x = row) == true) = true → (decide (Lf.row x = row) == true) = true) ∧ True) ∧ ((decide (Lf.row x = row) == true) = true → True)) (V.gd (decide (Lf.row x = row) == true) (V.i (Lf.col x))), pc (13 : Nat) ((True ∧ True) ∧ ((decide (Lf.row x = row) == true) = true → True)) (V.gd (decide (Lf.row x = row) == true) (V.i col)), pc (14 : Nat) ((((decide (Lf.row x = row) == true) = true → (decide (Lf.row x = row) == true) = true) ∧ ((decide (Lf.row x = row) == true) = true → (decide (Lf.row x = row) == true) = true) ∧ True) ∧ ((decide (Lf.row x = row) == true) = true → True)) (V.gd (decide (Lf.row x = row) == true) (V.b (decide (Lf.col x = col)))), pc (15 : Nat) ((decide (Lf.row x = row) = true → (decide (Lf.row x = row) == true) = true) ∧ True) (V.b (decide (Lf.row x = row) && decide (Lf.col x = col))), pv (16 : Nat) (V.b (decide (Lf.row x = row) && decide (Lf.col x = col))), pc (17 : Nat) ((True ∧ True) ∧ (((decide (Lf.row x = row) && decide (Lf.col x = col)) == true) = true → True)) (V.gd ((decide (Lf.row x = row) && decide (Lf.col x = col)) == true) (V.ptr [V.b (Lf.back x), V.b (Lf.turned x)])), pc (18 : Nat) (((((decide (Lf.row x = row) && decide (Lf.col x = col)) == true) = true → ((decide (Lf.row x = row) && decide (Lf.col x = col)) == true) = true) ∧ True) ∧ (((decide (Lf.row x = row) && decide (Lf.col x = col)) == true) = true → True)) (V.gd ((decide (Lf.row x = row) && decide (Lf.col x = col)) == true) (V.b (Lf.back x))), pc (19 : Nat) ((True ∧ True) ∧ (((decide (Lf.row x = row) && decide (Lf.col x = col)) == true) = true → True)) (V.gd ((decide (Lf.row x = row) && decide (Lf.col x = col)) == true) (V.b back)), pc (20 : Nat) (((((decide (Lf.row x = row) && decide (Lf.col x = col)) == true) = true → ((decide (Lf.row x = row) && decide (Lf.col x = col)) == true) = true) ∧ (((decide (Lf.row x = row) && decide (Lf.col x = col)) == true) = true → ((decide (Lf.row x = row) && decide (Lf.col x = col)) == true) = true) ∧ True) ∧ (((decide (Lf.row x = row) && decide (Lf.col x = col)) == true) = true → True)) (V.gd ((decide (Lf.row x = row) && decide (Lf.col x = col)) == true) (V.b (Lf.back x == back))), pc (21 : Nat) (((decide (Lf.row x = row) && decide (Lf.col x = col)) = true → ((decide (Lf.row x = row) && decide (Lf.col x = col)) == true) = true) ∧ True) (V.b (decide (Lf.row x = row) && decide (Lf.col x = col) && Lf.back x == back)), pv (5 : Nat) (V.b (decide (Lf.row x = row) && decide (Lf.col x = col) && Lf.back x == back))] kR kR ⟨⟨⟨tI, tI⟩, (fun _ => tI)⟩, ⟨⟨(by (exact fun h => h)), tI⟩, (fun _ => tI)⟩, ⟨⟨tI, tI⟩, (fun _ => tI)⟩, ⟨⟨(by (exact fun h => h)), ⟨(by (exact fun h => h)), tI⟩⟩, (fun _ => tI)⟩, ⟨(by (intro h; rw [h]; rfl)), tI⟩, ⟨⟨tI, tI⟩, (fun _ => tI)⟩, ⟨⟨(by (exact fun h => h)), tI⟩, (fun _ => tI)⟩, ⟨⟨tI, tI⟩, (fun _ => tI)⟩, ⟨⟨(by (exact fun h => h)), ⟨(by (exact fun h => h)), tI⟩⟩, (fun _ => tI)⟩, ⟨(by (intro h; rw [h]; rfl)), tI⟩, tI⟩ ?_
  refine aops_nil ?_
  refine xt_n ?_
  refine hK _ ?_
  clear hK K
  refine aw_ret ?_
  refine ret_pure (v' := V.b (decide (Lf.row x = row) && decide (Lf.col x = col) && Lf.back x == back)) (.inr rfl) kR kR kR
set_option maxRecDepth 100000 in
theorem indexPg_ac (l : List Lf) (row col : Int) (back : Bool) (hl : l.length ≤ 4096) : AC Tryd.prog 49 [V.lfs l, .fn (.func 50) [] [.ptr [.i row], .ptr [.i col], .ptr [.b back]]] (.i (idxF (fun k => isPg (glf l k) row col back) l.length)) [] := by
  refine ac_intro hTT hMX (fn := Tryd.f49) (N := _) ⟨Tryd.func49, rfl, Tryd.ntmps49, kR⟩ (by simp) fun C hC hF => ?_
  refine aw_seq_k fun K hK => ?_
  refine w_region (n' := 2) kR kR ?_
  refine aops_n hTT (M := []) (n := 1) [pv (4 : Nat) (V.i (0 : Int))] kR kR tI ?_
  refine aops_nil ?_
  refine xt_n ?_
  refine hK _ ?_
  clear hK K
  refine aw_seq_k fun K hK => ?_
  refine aw_seq_k fun K hK => ?_
  refine w_region (n' := 3) kR kR ?_
  refine aops_n hTT (M := []) (n := 3) [pv (6 : Nat) (V.sl (4 : Nat) (List.length l) fun (k : Nat) => Lf.c (glf l k)), pv (7 : Nat) (V.i (↑(List.length l) : Int)), pv (8 : Nat) (V.i (0 : Int))] kR kR tI ?_
  refine aops_nil ?_
  refine xt_n ?_
  refine hK _ ?_
  clear hK K
  refine aw_block ?_
  refine w_loop (ι := Nat) (fun k => [(0, V.lfs l), (1, .fn (.func 50) [] [.ptr [.i row], .ptr [.i col], .ptr [.b back]]), (7, .i l.length), (8, .i k)]) (fun _ => []) (fun k => k ≤ l.length ∧ ∀ j, j < k → (fun k => isPg (glf l k) row col back) j = false) (fun k => l.length - k) 0 ⟨Nat.zero_le _, fun _ h => by omega⟩ ?_ ?_
  · refine le_ren [] (.cons kR (.cons kR (.cons kR (.cons kR .nil)))) .nil kR kR
  rintro k ⟨hk, h0⟩
  refine aw_seq_k fun K hK => ?_
  refine w_region (n' := 2) kR kR ?_
  refine aops_n hTT (M := []) (n := 1) [pv (9 : Nat) (V.b (decide ((↑k : Int) < (↑(List.length l) : Int))))] kR kR tI ?_
  refine aops_nil ?_
  refine xt_n ?_
  refine hK _ ?_
  clear hK K
  refine aw_seq_k fun K hK => ?_
  refine w_cond (t := decide ((↑k : Int) < (↑(List.length l) : Int))) kR (fun c1 => ?_) (fun c1 => ?_)
  · simp at c1
    refine aw_skip ?_
    refine xt_n ?_
    refine hK _ ?_
    clear hK K
    refine aw_seq_k fun K hK => ?_
    refine aw_block ?_
    refine aw_seq_k fun K hK => ?_
    refine w_region (n' := 3) kR kR ?_
    refine aops_n hTT (M := []) (n := 2) [pv (10 : Nat) (V.i (↑k : Int)), pv (5 : Nat) (V.i (↑k : Int))] kR kR tI ?_
    refine aops_nil ?_
    refine xt_n ?_
    refine hK _ ?_
    clear hK K
    refine aw_seq_k fun K hK => ?_
    refine w_region (n' := 4) kR kR ?_
    refine aops_n hTT (M := []) (n := 5) [pv (11 : Nat) (V.fn (Fn.func (50 : Nat)) [] [V.ptr [V.i row], V.ptr [V.i col], V.ptr [V.b back]]), pv (12 : Nat) (V.sl (4 : Nat) (List.length l) fun (k : Nat) => Lf.c (glf l k)), pv (13 : Nat) (V.i (↑k : Int)), pc (14 : Nat) ((0 : Int) ≤ (↑k : Int) ∧ (↑k : Int) < (↑(List.length l) : Int)) (V.ptr [V.i (Lf.row (glf l k)), V.i (Lf.col (glf l k)), V.b (Lf.back (glf l k)), V.b (Lf.turned (glf l k))]), pv (15 : Nat) (V.agg [V.i (Lf.row (glf l k)), V.i (Lf.col (glf l k)), V.b (Lf.back (glf l k)), V.b (Lf.turned (glf l k))])] kR kR ⟨oM, tI⟩ ?_
    refine e_call (first := []) (caps := [V.ptr [V.i row], V.ptr [V.i col], V.ptr [V.b back]]) (isPg_ac (glf l k) row col back) kR kR kR kR kR ?_
    refine aops_nil ?_
    refine xt_n ?_
    refine hK _ ?_
    clear hK K
    refine w_cond (t := isPg (glf l k) row col back) kR (fun c2 => ?_) (fun c2 => ?_)
    · refine aw_seq_k fun K hK => ?_
      refine w_region (n' := 5) kR kR ?_
      refine aops_n hTT (M := []) (n := 2) [pv (17 : Nat) (V.i (↑k : Int)), pv (4 : Nat) (V.i (↑k : Int))] kR kR tI ?_
      refine aops_nil ?_
      refine xt_n ?_
      refine hK _ ?_
      clear hK K
      refine aw_ret ?_
      refine xb_r ?_
      refine xt_r ?_
      refine xt_r ?_
      refine xb_r ?_
      refine xt_r ?_
      rw [idxF_some (p := fun k => isPg (glf l k) row col back) c1 c2 h0]
      refine ret_pure (v' := V.i (↑k : Int)) (.inr rfl) kR kR kR
    refine aw_skip ?_
    refine xb_n ?_
    refine xt_n ?_
    refine hK _ ?_
    clear hK K
    refine w_region (n' := 5) kR kR ?_
    refine aops_n hTT (M := []) (n := 2) [pc (18 : Nat) ((-9223372036854775808 : Int) ≤ (↑k : Int) + 1 ∧ (↑k : Int) + 1 ≤ (9223372036854775807 : Int)) (V.i ((↑k : Int) + 1)), pv (8 : Nat) (V.i ((↑k : Int) + 1))] kR kR ⟨oM, tI⟩ ?_
    refine aops_nil ?_
    refine xt_n ?_
    refine ⟨k + 1, ⟨by omega, fun j hj => ?_⟩, by refine le_ren [] (.cons kR (.cons kR (.cons kR (.cons kR .nil)))) .nil kR kR, by omega⟩
    by_cases he : j = k
    · subst he; exact c2
    · exact h0 j oM
  simp at c1
  obtain rfl : k = l.length := by omega
  refine aw_exit ?_
  refine xt_x ?_
  refine xt_x ?_
  refine xb_same ?_
  refine xt_n ?_
  clear hK K
  refine hK _ ?_
  clear hK K
  refine aw_seq_k fun K hK => ?_
  refine w_region (n' := 3) kR kR ?_
  refine aops_n hTT (M := []) (n := 1) [pv (4 : Nat) (V.i (-1 : Int))] kR kR tI ?_
  refine aops_nil ?_
  refine xt_n ?_
  refine hK _ ?_
  clear hK K
  refine aw_ret ?_
  rw [idxF_none h0]
  refine ret_pure (v' := V.i (-1 : Int)) (.inr rfl) kR kR kR
set_option maxRecDepth 100000 in
theorem containsFold_ac (l : List Int) (hl : l.length ≤ 4611686018427387904) : AC Tryd.prog 51 [V.ints l, .fn (.func 52) [] []] (.b (decide (0 ≤ idxF (fun k => folB (gi l k)) l.length))) [] := by
  refine ac_intro hTT hMX (fn := Tryd.f51) (N := _) ⟨Tryd.func51, rfl, Tryd.ntmps51, kR⟩ (by simp) fun C hC hF => ?_
  refine aw_seq_k fun K hK => ?_
  refine w_region (n' := 2) kR kR ?_
  refine aops_n hTT (M := []) (n := 1) [pv (4 : Nat) (V.b false)] kR kR tI ?_
  refine aops_nil ?_
  refine xt_n ?_
  refine hK _ ?_
  clear hK K
  refine aw_seq_k fun K hK => ?_
  refine w_region (n' := 3) kR kR ?_
  refine aops_n hTT (M := []) (n := 2) [pv (5 : Nat) (V.sl (1 : Nat) (List.length l) fun (k : Nat) => [V.i (gi l k)]), pv (6 : Nat) (V.fn (Fn.func (52 : Nat)) [] [])] kR kR tI ?_
  refine e_call (first := []) (caps := []) (indexFold_ac l hl) kR kR kR kR kR ?_
  refine aops_n hTT (M := []) (n := 2) [pv (8 : Nat) (V.b (decide ((0 : Int) ≤ idxF (fun (k : Nat) => folB (gi l k)) (List.length l)))), pv (4 : Nat) (V.b (decide ((0 : Int) ≤ idxF (fun (k : Nat) => folB (gi l k)) (List.length l))))] kR kR tI ?_
  refine aops_nil ?_
  refine xt_n ?_
  refine hK _ ?_
  clear hK K
  refine aw_ret ?_
  refine ret_pure (v' := V.b (decide ((0 : Int) ≤ idxF (fun (k : Nat) => folB (gi l k)) (List.length l)))) (.inr rfl) kR kR kR
set_option maxRecDepth 100000 in
theorem CheckFolds_ac (f : List Int) (hl : f.length ≤ 4611686018427387904) : AC Tryd.prog 19 [V.ints f] (.i (chkF f)) [] := by
  refine ac_intro hTT hMX (fn := Tryd.f19) (N := _) ⟨Tryd.func19, rfl, Tryd.ntmps19, kR⟩ (by simp) fun C hC hF => ?_
  refine aw_seq_k fun K hK => ?_
  refine w_region (n' := 2) kR kR ?_
  refine aops_n hTT (M := []) (n := 1) [pv (2 : Nat) (V.i (0 : Int))] kR kR tI ?_
  refine aops_nil ?_
  refine xt_n ?_
  refine hK _ ?_
  clear hK K
  refine aw_seq_k fun K hK => ?_
  refine aw_seq_k fun K hK => ?_
  refine w_region (n' := 3) kR kR ?_
  refine aops_n hTT (M := []) (n := 8) [pv (3 : Nat) (V.sl (1 : Nat) (List.length f) fun (k : Nat) => [V.i (gi f k)]), pv (4 : Nat) (V.i (↑(List.length f) : Int)), pv (5 : Nat) (V.b (decide ((↑(List.length f) : Int) = 0))), pv (6 : Nat) (V.b (decide ((↑(List.length f) : Int) = 0))), pc (7 : Nat) ((True ∧ True) ∧ ((decide ((↑(List.length f) : Int) = 0) == false) = true → True)) (V.gd (decide ((↑(List.length f) : Int) = 0) == false) (V.sl (1 : Nat) (List.length f) fun (k : Nat) => [V.i (gi f k)])), pc (8 : Nat) ((((decide ((↑(List.length f) : Int) = 0) == false) = true → (decide ((↑(List.length f) : Int) = 0) == false) = true) ∧ True) ∧ ((decide ((↑(List.length f) : Int) = 0) == false) = true → True)) (V.gd (decide ((↑(List.length f) : Int) = 0) == false) (V.i (↑(List.length f) : Int))), pc (9 : Nat) ((((decide ((↑(List.length f) : Int) = 0) == false) = true → (decide ((↑(List.length f) : Int) = 0) == false) = true) ∧ True ∧ True) ∧ ((decide ((↑(List.length f) : Int) = 0) == false) = true → True)) (V.gd (decide ((↑(List.length f) : Int) = 0) == false) (V.b (decide ((5 : Int) < (↑(List.length f) : Int))))), pc (10 : Nat) (True ∧ (decide ((↑(List.length f) : Int) = 0) = false → (decide ((↑(List.length f) : Int) = 0) == false) = true)) (V.b (decide ((↑(List.length f) : Int) = 0) || decide ((5 : Int) < (↑(List.length f) : Int))))] kR kR ⟨⟨⟨tI, tI⟩, (fun _ => tI)⟩, ⟨⟨(by (exact fun h => h)), tI⟩, (fun _ => tI)⟩, ⟨⟨(by (exact fun h => h)), ⟨tI, tI⟩⟩, (fun _ => tI)⟩, ⟨tI, (by (intro h; rw [h]; rfl))⟩, tI⟩ ?_
  refine aops_nil ?_
  refine xt_n ?_
  refine hK _ ?_
  clear hK K
  refine w_cond (t := decide ((↑(List.length f) : Int) = 0) || decide ((5 : Int) < (↑(List.length f) : Int))) kR (fun c1 => ?_) (fun c1 => ?_)
  · have h1 : f.length = 0 ∨ 5 < f.length := by
      simp at c1
      rcases c1 with h | h
      · exact .inl (by rw [h]; rfl)
      · exact .inr oM
    refine aw_seq_k fun K hK => ?_
    refine w_region (n' := 4) kR kR ?_
    refine aops_n hTT (M := []) (n := 1) [pv (2 : Nat) (V.i (6 : Int))] kR kR tI ?_
    refine aops_nil ?_
    refine xt_n ?_
    refine hK _ ?_
    clear hK K
    refine aw_ret ?_
    refine xt_r ?_
    rw [chkF_many h1]
    refine ret_pure (v' := V.i (6 : Int)) (.inr rfl) kR kR kR
  have h1 : ¬ (f.length = 0 ∨ 5 < f.length) := by
    simp at c1
    intro h
    rcases h with h | h
    · exact c1.1 (List.length_eq_zero_iff.1 h)
    · omega
  refine aw_skip ?_
  refine xt_n ?_
  refine hK _ ?_
  clear hK K
  refine aw_seq_k fun K hK => ?_
  refine aw_seq_k fun K hK => ?_
  refine w_region (n' := 4) kR kR ?_
  refine aops_n hTT (M := []) (n := 1) [pv (11 : Nat) (V.sl (1 : Nat) (List.length f) fun (k : Nat) => [V.i (gi f k)])] kR kR tI ?_
  refine e_call (first := []) (caps := []) (containsFold_ac f hl) kR kR kR kR kR ?_
  refine aops_nil ?_
  refine xt_n ?_
  refine hK _ ?_
  clear hK K
  rcases idxF_inv (p := fun k => folB (gi f k)) (n := f.length) with ⟨e, h⟩ | ⟨i, hi, e, h, _⟩
  · rw [e]
    refine w_false (t := false) kR rfl ?_
    refine aw_skip ?_
    refine xt_n ?_
    refine hK _ ?_
    clear hK K
    refine aw_seq_k fun K hK => ?_
    refine w_region (n' := 5) kR kR ?_
    refine aops_n hTT (M := []) (n := 1) [pv (2 : Nat) (V.i (0 : Int))] kR kR tI ?_
    refine aops_nil ?_
    refine xt_n ?_
    refine hK _ ?_
    clear hK K
    refine aw_ret ?_
    rw [chkF_ok h1 h]
    refine ret_pure (v' := V.i (0 : Int)) (.inr rfl) kR kR kR
  · rw [e]
    refine w_cond (t := decide ((0 : Int) ≤ (↑i : Int))) kR (fun c2 => ?_) (fun c2 => ?_)
    · refine aw_seq_k fun K hK => ?_
      refine w_region (n' := 5) kR kR ?_
      refine aops_n hTT (M := []) (n := 1) [pv (2 : Nat) (V.i (2 : Int))] kR kR tI ?_
      refine aops_nil ?_
      refine xt_n ?_
      refine hK _ ?_
      clear hK K
      refine aw_ret ?_
      refine xt_r ?_
      rw [chkF_bad h1 hi h]
      refine ret_pure (v' := V.i (2 : Int)) (.inr rfl) kR kR kR
    · simp at c2
theorem pg_1 {f : List Int} {k : Nat} (h : k < (stkL f).length) {G : Nat → List V} {r : Nat → Nat} (g0 : G 0 = (glf (stkL f) k).c) (g1 : G 1 = (glf (stkL f) k).flip.c) :
    ∀ i, i < 2 * k + 2 → appRow (2 * k) (fun j => (glf (pgL f) j).c) G i = V.renL r (glf (pgL f) i).c := by
  obtain ⟨h1, h2⟩ := pgL_at h
  intro i hi
  by_cases h3 : i < 2 * k
  · rw [appRow, if_pos h3]; rfl
  · rw [appRow, if_neg h3]
    by_cases h4 : i = 2 * k
    · subst h4; rw [Nat.sub_self, g0, h1]; rfl
    · obtain rfl : i = 2 * k + 1 := by omega
      rw [show 2 * k + 1 - 2 * k = 1 by omega, g1, h2]; rfl
def pgV (f : List Int) : V := if chkF f = 0 then .tup [V.lfs (pgL f), .i 0] else .tup [.nil, .i (chkF f)]
set_option maxHeartbeats 4000000 in
set_option maxRecDepth 100000 in
theorem Pages_ac (f : List Int) (hl : f.length ≤ 4611686018427387904) : AC Tryd.prog 15 [V.ints f] (pgV f) [] := by
  refine ac_intro hTT hMX (fn := Tryd.f15) (N := _) ⟨Tryd.func15, rfl, Tryd.ntmps15, kR⟩ (by simp) fun C hC hF => ?_
  refine aw_seq_k fun K hK => ?_
  refine w_region (n' := 2) kR kR ?_
  refine aops_n hTT (M := []) (n := 2) [pv (2 : Nat) V.nil, pv (3 : Nat) (V.i (0 : Int))] kR kR tI ?_
  refine aops_nil ?_
  refine xt_n ?_
  refine hK _ ?_
  clear hK K
  refine aw_seq_k fun K hK => ?_
  refine aw_seq_k fun K hK => ?_
  refine w_region (n' := 3) kR kR ?_
  refine aops_n hTT (M := []) (n := 1) [pv (8 : Nat) (V.sl (1 : Nat) (List.length f) fun (k : Nat) => [V.i (gi f k)])] kR kR tI ?_
  refine e_call (first := []) (caps := []) (CheckFolds_ac f hl) kR kR kR kR kR ?_
  refine aops_n hTT (M := []) (n := 1) [pv (4 : Nat) (V.i (chkF f))] kR kR tI ?_
  refine aops_nil ?_
  refine xt_n ?_
  refine hK _ ?_
  clear hK K
  refine aw_seq_k fun K hK => ?_
  refine w_region (n' := 4) kR kR ?_
  refine aops_n hTT (M := []) (n := 2) [pv (10 : Nat) (V.i (chkF f)), pv (11 : Nat) (V.b !decide (chkF f = 0))] kR kR tI ?_
  refine aops_nil ?_
  refine xt_n ?_
  refine hK _ ?_
  clear hK K
  refine w_cond (t := !decide (chkF f = 0)) kR (fun c1 => ?_) (fun c1 => ?_)
  · have h1 : ¬ chkF f = 0 := by simpa using c1
    refine aw_seq_k fun K hK => ?_
    refine w_region (n' := 5) kR kR ?_
    refine aops_n hTT (M := []) (n := 3) [pv (12 : Nat) (V.i (chkF f)), pv (2 : Nat) V.nil, pv (3 : Nat) (V.i (chkF f))] kR kR tI ?_
    refine aops_nil ?_
    refine xt_n ?_
    refine hK _ ?_
    clear hK K
    refine aw_ret ?_
    refine xt_r ?_
    rw [pgV, if_neg h1]
    refine ret_pure (v' := V.tup [V.nil, V.i (chkF f)]) (.inr rfl) kR kR kR
  have h1 : chkF f = 0 := by simpa using c1
  obtain ⟨⟨l1, l2⟩, l3⟩ := chkF_inv h1
  have hf := FO_of l3
  have hlen : (stkL f).length ≤ 32 := by rw [stkL_len]; exact pow_le5 l2
  refine aw_skip ?_
  refine xt_n ?_
  refine hK _ ?_
  clear hK K
  refine aw_seq_k fun K hK => ?_
  refine w_region (n' := 5) kR kR ?_
  refine aops_n hTT (M := []) (n := 1) [pn (5 : Nat) (V.ref (400005 : Nat) (0 : Nat)) (400005 : Nat) (Ob.box (24 : Nat) [V.nil])] kR kR tI ?_
  refine aops_nil ?_
  refine xt_n ?_
  refine hK _ ?_
  clear hK K
  refine aw_seq_k fun K hK => ?_
  refine aw_seq_k fun K hK => ?_
  refine w_region (n' := 6) kR kR ?_
  refine aops_n hTT (M := []) (n := 1) [pv (13 : Nat) (V.sl (1 : Nat) (List.length f) fun (k : Nat) => [V.i (gi f k)])] kR kR tI ?_
  refine e_call (first := []) (caps := []) (stack_ac f) kR kR kR kR kR ?_
  refine aops_nil ?_
  refine xt_n ?_
  refine hK _ ?_
  clear hK K
  refine aw_block ?_
  refine w_le (le_openIn 400005 0 (t := 24) (cs := [.nil]) 31 4 (fun k => (glf (pgL f) k).c) kR kR rfl rfl) ?_
  refine w_range4 (caps := [V.ptr [V.sl (1 : Nat) (List.length f) fun (k : Nat) => [V.i (gi f k)]]]) hF [500] [0] [(500, 400005), (0, 600000)] (fun _ _ h => by rw [hC] at h; cases h) (stack1_it f hf l2) kR kR ?_ kR [(5, V.ref 500 0)] (fun k => k ≤ (stkL f).length) (fun k => [Ob.box 24 [.own 0], Ob.row 31 4 (2 * k) fun j => (glf (pgL f) j).c]) (fun _ _ _ => False) ?_ kR kR kR (.cons kR .nil) (.cons ⟨Ob.box (24 : Nat) [V.own (600000 : Nat)], kR, .box kR⟩ (.cons ⟨Ob.row (31 : Nat) (4 : Nat) (0 : Nat) fun (k : Nat) => Lf.c (glf (pgL f) k), kR, .row kR (fun _ _ => rfl)⟩ .nil)) kR ?_ ?_ ?_
  · intro x hx
    simp only [stV, List.mem_map] at hx
    obtain ⟨j, _, rfl⟩ := hx
    rfl
  · exact Nat.zero_le _
  · rintro C' ⟨lx, hF⟩ k x hx _
    have h2 : k < (stkL f).length := by have := (List.getElem?_eq_some_iff.1 hx).1; rwa [stV_len] at this
    rw [stV_get h2] at hx
    injection hx with hx
    subst hx
    refine w_region (n' := 2) kR kR ?_
    refine aops_n hTT (M := []) (n := 2) [pn (6 : Nat) (V.ref (100006 : Nat) (0 : Nat)) (100006 : Nat) (Ob.box (31 : Nat) [V.i (0 : Int), V.i (0 : Int), V.b false, V.b false]), pw ((0 : Nat) + (4 : Nat) ≤ (4 : Nat)) (100006 : Nat) (Ob.box (31 : Nat) [V.i (Lf.row (glf (stkL f) k)), V.i (Lf.col (glf (stkL f) k)), V.b (Lf.back (glf (stkL f) k)), V.b (Lf.turned (glf (stkL f) k))])] kR kR ⟨oM, tI⟩ ?_
    refine aops_nil ?_
    refine xt_n ?_
    refine aw_block ?_
    refine aw_seq_k fun K hK => ?_
    refine w_region (n' := 3) kR kR ?_
    refine aops_n hTT (M := []) (n := 3) [pc (16 : Nat) ((0 : Nat) ≤ (4 : Nat)) (V.agg [V.i (Lf.row (glf (stkL f) k)), V.i (Lf.col (glf (stkL f) k)), V.b (Lf.back (glf (stkL f) k)), V.b (Lf.turned (glf (stkL f) k))]), pn (7 : Nat) (V.ref (200007 : Nat) (0 : Nat)) (200007 : Nat) (Ob.box (31 : Nat) [V.i (0 : Int), V.i (0 : Int), V.b false, V.b false]), pw ((0 : Nat) + (4 : Nat) ≤ (4 : Nat)) (200007 : Nat) (Ob.box (31 : Nat) [V.i (Lf.row (glf (stkL f) k)), V.i (Lf.col (glf (stkL f) k)), V.b (Lf.back (glf (stkL f) k)), V.b (Lf.turned (glf (stkL f) k))])] kR kR ⟨oM, oM, tI⟩ ?_
    refine aops_nil ?_
    refine xt_n ?_
    refine hK _ ?_
    clear hK K
    refine aw_seq_k fun K hK => ?_
    refine w_region (n' := 4) kR kR ?_
    refine aops_n hTT (M := []) (n := 5) [pv (17 : Nat) (V.ref (100006 : Nat) (2 : Nat)), pc (18 : Nat) ((2 : Nat) ≤ (4 : Nat)) (V.b (Lf.back (glf (stkL f) k))), pv (19 : Nat) (V.b !Lf.back (glf (stkL f) k)), pv (20 : Nat) (V.ref (200007 : Nat) (2 : Nat)), pw ((2 : Nat) + (1 : Nat) ≤ (4 : Nat)) (200007 : Nat) (Ob.box (31 : Nat) [V.i (Lf.row (glf (stkL f) k)), V.i (Lf.col (glf (stkL f) k)), V.b !Lf.back (glf (stkL f) k), V.b (Lf.turned (glf (stkL f) k))])] kR kR ⟨oM, oM, tI⟩ ?_
    refine aops_nil ?_
    refine xt_n ?_
    refine hK _ ?_
    clear hK K
    refine w_region (n' := 5) kR kR ?_
    refine aops_n hTT (M := []) (n := 6) [pc (21 : Nat) ((0 : Nat) ≤ (1 : Nat)) (V.own (0 : Nat)), pc (22 : Nat) ((0 : Nat) ≤ (4 : Nat)) (V.agg [V.i (Lf.row (glf (stkL f) k)), V.i (Lf.col (glf (stkL f) k)), V.b (Lf.back (glf (stkL f) k)), V.b (Lf.turned (glf (stkL f) k))]), pc (23 : Nat) ((0 : Nat) ≤ (4 : Nat)) (V.agg [V.i (Lf.row (glf (stkL f) k)), V.i (Lf.col (glf (stkL f) k)), V.b !Lf.back (glf (stkL f) k), V.b (Lf.turned (glf (stkL f) k))]), pv (24 : Nat) (V.sl (4 : Nat) (2 : Nat) fun (i : Nat) => List.take (4 : Nat) (List.drop (i * 4) [V.i (Lf.row (glf (stkL f) k)), V.i (Lf.col (glf (stkL f) k)), V.b (Lf.back (glf (stkL f) k)), V.b (Lf.turned (glf (stkL f) k)), V.i (Lf.row (glf (stkL f) k)), V.i (Lf.col (glf (stkL f) k)), V.b !Lf.back (glf (stkL f) k), V.b (Lf.turned (glf (stkL f) k))])), PR.mk (some (25 : Nat)) (some ((2 : Nat) * k + 2 ≤ (1099511627776 : Nat))) (V.own (400025 : Nat)) [((0 : Nat), none), ((400025 : Nat), some (Ob.row (31 : Nat) (4 : Nat) ((2 : Nat) * k + 2) (appRow ((2 : Nat) * k) (fun (j : Nat) => Lf.c (glf (pgL f) j)) fun (i : Nat) => List.take (4 : Nat) (List.drop (i * 4) [V.i (Lf.row (glf (stkL f) k)), V.i (Lf.col (glf (stkL f) k)), V.b (Lf.back (glf (stkL f) k)), V.b (Lf.turned (glf (stkL f) k)), V.i (Lf.row (glf (stkL f) k)), V.i (Lf.col (glf (stkL f) k)), V.b !Lf.back (glf (stkL f) k), V.b (Lf.turned (glf (stkL f) k))]))))] false, pw ((0 : Nat) + (1 : Nat) ≤ (1 : Nat)) (500 : Nat) (Ob.box (24 : Nat) [V.own (400025 : Nat)])] kR kR ⟨oM, oM, oM, oM, oM, tI⟩ ?_
    refine aops_nil ?_
    refine xb_n ?_
    refine ⟨h2, ?_⟩
    refine le_ren (sl := [(500, Ob.box (24 : Nat) [V.own (0 : Nat)]), (0, Ob.row (31 : Nat) (4 : Nat) ((2 : Nat) * (k + 1)) fun (j : Nat) => Lf.c (glf (pgL f) j))]) [(0, 400025)] .nil (.cons ⟨Ob.box (24 : Nat) [V.own (400025 : Nat)], kR, .box kR⟩ (.cons ⟨Ob.row (31 : Nat) (4 : Nat) ((2 : Nat) * k + 2) (appRow ((2 : Nat) * k) (fun (j : Nat) => Lf.c (glf (pgL f) j)) fun (i : Nat) => List.take (4 : Nat) (List.drop (i * 4) [V.i (Lf.row (glf (stkL f) k)), V.i (Lf.col (glf (stkL f) k)), V.b (Lf.back (glf (stkL f) k)), V.b (Lf.turned (glf (stkL f) k)), V.i (Lf.row (glf (stkL f) k)), V.i (Lf.col (glf (stkL f) k)), V.b !Lf.back (glf (stkL f) k), V.b (Lf.turned (glf (stkL f) k))])), kR, .row kR ?_⟩ .nil)) kR kR
    exact pg_1 h2 rfl rfl
  · rw [stV_len]
    intro _
    refine xb_n ?_
    refine xt_n ?_
    refine hK _ ?_
    clear hK K
    refine aw_seq_k fun K hK => ?_
    refine w_region (n' := 2) kR kR ?_
    refine aops_n hTT (M := []) (n := 3) [pc (26 : Nat) ((0 : Nat) ≤ (1 : Nat)) (V.own (0 : Nat)), pv (2 : Nat) (V.own (0 : Nat)), pv (3 : Nat) (V.i (0 : Int))] kR kR ⟨oM, tI⟩ ?_
    refine aops_nil ?_
    refine xt_n ?_
    refine hK _ ?_
    clear hK K
    refine aw_ret ?_
    rw [pgV, if_pos h1]
    refine ret_of_le (le_shut 2 0 (e := (31 : Nat)) (sz := (4 : Nat)) (n := (2 : Nat) * List.length (stkL f)) (n' := (pgL f).length) (row := fun (j : Nat) => Lf.c (glf (pgL f) j)) (row' := (fun j => (glf (pgL f) j).c)) kR kR (fun _ _ => rfl) ?_ ?_) ?_
    · exact (pgL_len f).symm
    · exact fun _ _ => rfl
    refine ret_pure (v' := V.tup [V.sl (4 : Nat) (List.length (pgL f)) fun (j : Nat) => Lf.c (glf (pgL f) j), V.i (0 : Int)]) (.inr rfl) kR kR kR
  · exact fun _ _ _ _ h => h.elim
def pgI (f : List Int) (row col : Int) (back : Bool) : Int := idxF (fun k => isPg (glf (pgL f) k) row col back) (pgL f).length
def pageN (f : List Int) (row col : Int) (back : Bool) : Int := if chkF f = 0 then (if pgI f row col back < 0 then 0 else pgI f row col back + 1) else 0
def pageE (f : List Int) (row col : Int) (back : Bool) : Int := if chkF f = 0 then (if pgI f row col back < 0 then 3 else 0) else chkF f
theorem pgL_len32 {f : List Int} (h : f.length ≤ 5) : (pgL f).length ≤ 64 := by
  rw [pgL_len, stkL_len]
  have := pow_le5 h
  omega
theorem pgI_le (f : List Int) (row col : Int) (back : Bool) : pgI f row col back < (pgL f).length := by
  rcases idxF_inv (p := fun k => isPg (glf (pgL f) k) row col back) (n := (pgL f).length) with ⟨e, _⟩ | ⟨i, hi, e, _⟩
  · unfold pgI; omega
  · unfold pgI; omega
set_option maxRecDepth 100000 in
theorem Page_ac (f : List Int) (row col : Int) (back : Bool) (hl : f.length ≤ 4611686018427387904) : AC Tryd.prog 17 [V.ints f, .i row, .i col, .b back] (.tup [.i (pageN f row col back), .i (pageE f row col back)]) [] := by
  refine ac_intro hTT hMX (fn := Tryd.f17) (N := _) ⟨Tryd.func17, rfl, Tryd.ntmps17, kR⟩ (by simp) fun C hC hF => ?_
  have A := Pages_ac f hl
  refine aw_seq_k fun K hK => ?_
  refine w_region (n' := 2) kR kR ?_
  refine aops_n hTT (M := []) (n := 5) [pv (5 : Nat) (V.ptr [V.i row]), pv (6 : Nat) (V.ptr [V.i col]), pv (7 : Nat) (V.ptr [V.b back]), pv (8 : Nat) (V.i (0 : Int)), pv (9 : Nat) (V.i (0 : Int))] kR kR tI ?_
  refine aops_nil ?_
  refine xt_n ?_
  refine hK _ ?_
  clear hK K
  refine aw_seq_k fun K hK => ?_
  refine w_region (n' := 3) kR kR ?_
  refine aops_n hTT (M := []) (n := 1) [pv (14 : Nat) (V.sl (1 : Nat) (List.length f) fun (k : Nat) => [V.i (gi f k)])] kR kR tI ?_
  by_cases h1 : chkF f = 0
  · rw [pgV, if_pos h1] at A
    have h2 := pgL_len32 (chkF_inv h1).1.2
    have h3 := pgI_le f row col back
    refine e_call (first := []) (caps := []) (A) kR kR kR kR kR ?_
    refine aops_n hTT (M := []) (n := 5) [pv (13 : Nat) (V.tup [V.sl (4 : Nat) (List.length (pgL f)) fun (k : Nat) => Lf.c (glf (pgL f) k), V.i (0 : Int)]), pv (16 : Nat) (V.sl (4 : Nat) (List.length (pgL f)) fun (k : Nat) => Lf.c (glf (pgL f) k)), pv (17 : Nat) (V.i (0 : Int)), pv (10 : Nat) (V.sl (4 : Nat) (List.length (pgL f)) fun (k : Nat) => Lf.c (glf (pgL f) k)), pv (11 : Nat) (V.i (0 : Int))] kR kR tI ?_
    refine aops_nil ?_
    refine xt_n ?_
    refine hK _ ?_
    clear hK K
    refine aw_seq_k fun K hK => ?_
    refine aw_seq_k fun K hK => ?_
    refine w_region (n' := 4) kR kR ?_
    refine aops_n hTT (M := []) (n := 2) [pv (18 : Nat) (V.i (0 : Int)), pv (19 : Nat) (V.b false)] kR kR tI ?_
    refine aops_nil ?_
    refine xt_n ?_
    refine hK _ ?_
    clear hK K
    refine w_false (t := false) kR rfl ?_
    refine aw_skip ?_
    refine xt_n ?_
    refine hK _ ?_
    clear hK K
    refine aw_seq_k fun K hK => ?_
    refine w_region (n' := 5) kR kR ?_
    refine aops_n hTT (M := []) (n := 2) [pv (21 : Nat) (V.sl (4 : Nat) (List.length (pgL f)) fun (k : Nat) => Lf.c (glf (pgL f) k)), pv (22 : Nat) (V.fn (Fn.func (50 : Nat)) [] [V.ptr [V.i row], V.ptr [V.i col], V.ptr [V.b back]])] kR kR tI ?_
    refine e_call (first := []) (caps := []) (indexPg_ac (pgL f) row col back oM) kR kR kR kR kR ?_
    rw [show idxF (fun k => isPg (glf (pgL f) k) row col back) (pgL f).length = pgI f row col back from rfl]
    refine aops_n hTT (M := []) (n := 1) [pv (12 : Nat) (V.i (pgI f row col back))] kR kR tI ?_
    refine aops_nil ?_
    refine xt_n ?_
    refine hK _ ?_
    clear hK K
    refine aw_seq_k fun K hK => ?_
    refine aw_seq_k fun K hK => ?_
    refine w_region (n' := 6) kR kR ?_
    refine aops_n hTT (M := []) (n := 2) [pv (24 : Nat) (V.i (pgI f row col back)), pv (25 : Nat) (V.b (decide (pgI f row col back < 0)))] kR kR tI ?_
    refine aops_nil ?_
    refine xt_n ?_
    refine hK _ ?_
    clear hK K
    refine w_cond (t := decide (pgI f row col back < 0)) kR (fun c1 => ?_) (fun c1 => ?_)
    · simp at c1
      refine aw_seq_k fun K hK => ?_
      refine w_region (n' := 7) kR kR ?_
      refine aops_n hTT (M := []) (n := 2) [pv (8 : Nat) (V.i (0 : Int)), pv (9 : Nat) (V.i (3 : Int))] kR kR tI ?_
      refine aops_nil ?_
      refine xt_n ?_
      refine hK _ ?_
      clear hK K
      refine aw_ret ?_
      refine xt_r ?_
      rw [pageN, pageE, if_pos h1, if_pos h1, if_pos c1, if_pos c1]
      refine ret_pure (v' := V.tup [V.i (0 : Int), V.i (3 : Int)]) (.inr rfl) kR kR kR
    simp at c1
    refine aw_skip ?_
    refine xt_n ?_
    refine hK _ ?_
    clear hK K
    refine aw_seq_k fun K hK => ?_
    refine w_region (n' := 7) kR kR ?_
    refine aops_n hTT (M := []) (n := 4) [pv (26 : Nat) (V.i (pgI f row col back)), pc (27 : Nat) ((-9223372036854775808 : Int) ≤ pgI f row col back + 1 ∧ pgI f row col back + 1 ≤ (9223372036854775807 : Int)) (V.i (pgI f row col back + 1)), pv (8 : Nat) (V.i (pgI f row col back + 1)), pv (9 : Nat) (V.i (0 : Int))] kR kR ⟨oM, tI⟩ ?_
    refine aops_nil ?_
    refine xt_n ?_
    refine hK _ ?_
    clear hK K
    refine aw_ret ?_
    rw [pageN, pageE, if_pos h1, if_pos h1, if_neg oM, if_neg oM]
    refine ret_pure (v' := V.tup [V.i (pgI f row col back + 1), V.i (0 : Int)]) (.inr rfl) kR kR kR
  · rw [pgV, if_neg h1] at A
    refine e_call (first := []) (caps := []) (A) kR kR kR kR kR ?_
    refine aops_n hTT (M := []) (n := 5) [pv (13 : Nat) (V.tup [V.nil, V.i (chkF f)]), pv (16 : Nat) V.nil, pv (17 : Nat) (V.i (chkF f)), pv (10 : Nat) V.nil, pv (11 : Nat) (V.i (chkF f))] kR kR tI ?_
    refine aops_nil ?_
    refine xt_n ?_
    refine hK _ ?_
    clear hK K
    refine aw_seq_k fun K hK => ?_
    refine aw_seq_k fun K hK => ?_
    refine w_region (n' := 4) kR kR ?_
    refine aops_n hTT (M := []) (n := 2) [pv (18 : Nat) (V.i (chkF f)), pv (19 : Nat) (V.b !decide (chkF f = 0))] kR kR tI ?_
    refine aops_nil ?_
    refine xt_n ?_
    refine hK _ ?_
    clear hK K
    refine w_cond (t := !decide (chkF f = 0)) kR (fun c1 => ?_) (fun c1 => ?_)
    · refine aw_seq_k fun K hK => ?_
      refine w_region (n' := 5) kR kR ?_
      refine aops_n hTT (M := []) (n := 3) [pv (20 : Nat) (V.i (chkF f)), pv (8 : Nat) (V.i (0 : Int)), pv (9 : Nat) (V.i (chkF f))] kR kR tI ?_
      refine aops_nil ?_
      refine xt_n ?_
      refine hK _ ?_
      clear hK K
      refine aw_ret ?_
      refine xt_r ?_
      rw [pageN, pageE, if_neg h1, if_neg h1]
      refine ret_pure (v' := V.tup [V.i (0 : Int), V.i (chkF f)]) (.inr rfl) kR kR kR
    · simp at c1
      exact absurd c1 h1
end Go.Proofs.YtfckkkmacjjmhaaDoor

namespace Go.Proofs.YtfckkkmacjjmhaaDoor
open Go.Ab Go.RowKit Go.Dw Go.Shelf
set_option maxRecDepth 100000 in
theorem copB_ac (n : Int) : AC Tryd.prog 58 [.i n] (.b (copB n)) [] := by
  refine ac_intro hTT hMX (fn := Tryd.f58) (N := _) ⟨Tryd.func58, rfl, Tryd.ntmps58, kR⟩ (by simp) fun C hC hF => ?_
  refine aw_seq_k fun K hK => ?_
  refine w_region (n' := 2) kR kR ?_
  refine aops_n hTT (M := []) (n := 1) [pv (2 : Nat) (V.b false)] kR kR tI ?_
  refine aops_nil ?_
  refine xt_n ?_
  refine hK _ ?_
  clear hK K
  refine aw_seq_k fun K hK => ?_
  refine w_region (n' := 3) kR kR ?_
  refine aops_n hTT (M := []) (n := 1) [pv (3 : Nat) (V.i n)] kR kR tI ?_
  refine e_call (first := []) (caps := []) (soutside_ac n 1 1048576) kR kR kR kR kR ?_
  refine aops_n hTT (M := []) (n := 1) [pv (2 : Nat) (V.b (decide (n < 1) || decide ((1048576 : Int) < n)))] kR kR tI ?_
  refine aops_nil ?_
  refine xt_n ?_
  refine hK _ ?_
  clear hK K
  refine aw_ret ?_
  refine ret_pure (v' := V.b (decide (n < 1) || decide ((1048576 : Int) < n))) (.inr rfl) kR kR kR
set_option maxRecDepth 100000 in
theorem indexCop_ac (l : List Int) (hl : l.length ≤ 4611686018427387904) : AC Tryd.prog 80 [V.ints l, .fn (.func 58) [] []] (.i (idxF (fun k => copB (gi l k)) l.length)) [] := by
  refine ac_intro hTT hMX (fn := Tryd.f80) (N := _) ⟨Tryd.func80, rfl, Tryd.ntmps80, kR⟩ (by simp) fun C hC hF => ?_
  refine aw_seq_k fun K hK => ?_
  refine w_region (n' := 2) kR kR ?_
  refine aops_n hTT (M := []) (n := 1) [pv (4 : Nat) (V.i (0 : Int))] kR kR tI ?_
  refine aops_nil ?_
  refine xt_n ?_
  refine hK _ ?_
  clear hK K
  refine aw_seq_k fun K hK => ?_
  refine aw_seq_k fun K hK => ?_
  refine w_region (n' := 3) kR kR ?_
  refine aops_n hTT (M := []) (n := 3) [pv (6 : Nat) (V.sl (1 : Nat) (List.length l) fun (k : Nat) => [V.i (gi l k)]), pv (7 : Nat) (V.i (↑(List.length l) : Int)), pv (8 : Nat) (V.i (0 : Int))] kR kR tI ?_
  refine aops_nil ?_
  refine xt_n ?_
  refine hK _ ?_
  clear hK K
  refine aw_block ?_
  refine w_loop (ι := Nat) (fun k => [(0, V.ints l), (1, .fn (.func 58) [] []), (7, .i l.length), (8, .i k)]) (fun _ => []) (fun k => k ≤ l.length ∧ ∀ j, j < k → (fun k => copB (gi l k)) j = false) (fun k => l.length - k) 0 ⟨Nat.zero_le _, fun _ h => by omega⟩ ?_ ?_
  · refine le_ren [] (.cons kR (.cons kR (.cons kR (.cons kR .nil)))) .nil kR kR
  rintro k ⟨hk, h0⟩
  refine aw_seq_k fun K hK => ?_
  refine w_region (n' := 2) kR kR ?_
  refine aops_n hTT (M := []) (n := 1) [pv (9 : Nat) (V.b (decide ((↑k : Int) < (↑(List.length l) : Int))))] kR kR tI ?_
  refine aops_nil ?_
  refine xt_n ?_
  refine hK _ ?_
  clear hK K
  refine aw_seq_k fun K hK => ?_
  refine w_cond (t := decide ((↑k : Int) < (↑(List.length l) : Int))) kR (fun c1 => ?_) (fun c1 => ?_)
  · simp at c1
    refine aw_skip ?_
    refine xt_n ?_
    refine hK _ ?_
    clear hK K
    refine aw_seq_k fun K hK => ?_
    refine aw_block ?_
    refine aw_seq_k fun K hK => ?_
    refine w_region (n' := 3) kR kR ?_
    refine aops_n hTT (M := []) (n := 2) [pv (10 : Nat) (V.i (↑k : Int)), pv (5 : Nat) (V.i (↑k : Int))] kR kR tI ?_
    refine aops_nil ?_
    refine xt_n ?_
    refine hK _ ?_
    clear hK K
    refine aw_seq_k fun K hK => ?_
    refine w_region (n' := 4) kR kR ?_
    refine aops_n hTT (M := []) (n := 5) [pv (11 : Nat) (V.fn (Fn.func (58 : Nat)) [] []), pv (12 : Nat) (V.sl (1 : Nat) (List.length l) fun (k : Nat) => [V.i (gi l k)]), pv (13 : Nat) (V.i (↑k : Int)), pc (14 : Nat) ((0 : Int) ≤ (↑k : Int) ∧ (↑k : Int) < (↑(List.length l) : Int)) (V.ptr [V.i (gi l k)]), pv (15 : Nat) (V.i (gi l k))] kR kR ⟨oM, tI⟩ ?_
    refine e_call (first := []) (caps := []) (copB_ac (gi l k)) kR kR kR kR kR ?_
    refine aops_nil ?_
    refine xt_n ?_
    refine hK _ ?_
    clear hK K
    refine w_cond (t := copB (gi l k)) kR (fun c2 => ?_) (fun c2 => ?_)
    · refine aw_seq_k fun K hK => ?_
      refine w_region (n' := 5) kR kR ?_
      refine aops_n hTT (M := []) (n := 2) [pv (17 : Nat) (V.i (↑k : Int)), pv (4 : Nat) (V.i (↑k : Int))] kR kR tI ?_
      refine aops_nil ?_
      refine xt_n ?_
      refine hK _ ?_
      clear hK K
      refine aw_ret ?_
      refine xb_r ?_
      refine xt_r ?_
      refine xt_r ?_
      refine xb_r ?_
      refine xt_r ?_
      rw [idxF_some (p := fun k => copB (gi l k)) c1 c2 h0]
      refine ret_pure (v' := V.i (↑k : Int)) (.inr rfl) kR kR kR
    refine aw_skip ?_
    refine xb_n ?_
    refine xt_n ?_
    refine hK _ ?_
    clear hK K
    refine w_region (n' := 5) kR kR ?_
    refine aops_n hTT (M := []) (n := 2) [pc (18 : Nat) ((-9223372036854775808 : Int) ≤ (↑k : Int) + 1 ∧ (↑k : Int) + 1 ≤ (9223372036854775807 : Int)) (V.i ((↑k : Int) + 1)), pv (8 : Nat) (V.i ((↑k : Int) + 1))] kR kR ⟨oM, tI⟩ ?_
    refine aops_nil ?_
    refine xt_n ?_
    refine ⟨k + 1, ⟨by omega, fun j hj => ?_⟩, by refine le_ren [] (.cons kR (.cons kR (.cons kR (.cons kR .nil)))) .nil kR kR, by omega⟩
    by_cases he : j = k
    · subst he; exact c2
    · exact h0 j oM
  simp at c1
  obtain rfl : k = l.length := by omega
  refine aw_exit ?_
  refine xt_x ?_
  refine xt_x ?_
  refine xb_same ?_
  refine xt_n ?_
  clear hK K
  refine hK _ ?_
  clear hK K
  refine aw_seq_k fun K hK => ?_
  refine w_region (n' := 3) kR kR ?_
  refine aops_n hTT (M := []) (n := 1) [pv (4 : Nat) (V.i (-1 : Int))] kR kR tI ?_
  refine aops_nil ?_
  refine xt_n ?_
  refine hK _ ?_
  clear hK K
  refine aw_ret ?_
  rw [idxF_none h0]
  refine ret_pure (v' := V.i (-1 : Int)) (.inr rfl) kR kR kR
set_option maxRecDepth 100000 in
theorem containsCop_ac (l : List Int) (hl : l.length ≤ 4611686018427387904) : AC Tryd.prog 57 [V.ints l, .fn (.func 58) [] []] (.b (decide (0 ≤ idxF (fun k => copB (gi l k)) l.length))) [] := by
  refine ac_intro hTT hMX (fn := Tryd.f57) (N := _) ⟨Tryd.func57, rfl, Tryd.ntmps57, kR⟩ (by simp) fun C hC hF => ?_
  refine aw_seq_k fun K hK => ?_
  refine w_region (n' := 2) kR kR ?_
  refine aops_n hTT (M := []) (n := 1) [pv (4 : Nat) (V.b false)] kR kR tI ?_
  refine aops_nil ?_
  refine xt_n ?_
  refine hK _ ?_
  clear hK K
  refine aw_seq_k fun K hK => ?_
  refine w_region (n' := 3) kR kR ?_
  refine aops_n hTT (M := []) (n := 2) [pv (5 : Nat) (V.sl (1 : Nat) (List.length l) fun (k : Nat) => [V.i (gi l k)]), pv (6 : Nat) (V.fn (Fn.func (58 : Nat)) [] [])] kR kR tI ?_
  refine e_call (first := []) (caps := []) (indexCop_ac l hl) kR kR kR kR kR ?_
  refine aops_n hTT (M := []) (n := 2) [pv (8 : Nat) (V.b (decide ((0 : Int) ≤ idxF (fun (k : Nat) => copB (gi l k)) (List.length l)))), pv (4 : Nat) (V.b (decide ((0 : Int) ≤ idxF (fun (k : Nat) => copB (gi l k)) (List.length l))))] kR kR tI ?_
  refine aops_nil ?_
  refine xt_n ?_
  refine hK _ ?_
  clear hK K
  refine aw_ret ?_
  refine ret_pure (v' := V.b (decide ((0 : Int) ≤ idxF (fun (k : Nat) => copB (gi l k)) (List.length l)))) (.inr rfl) kR kR kR
set_option maxRecDepth 100000 in
theorem CheckCopies_ac (c : List Int) (slots plate : Int) (hl : c.length ≤ 4611686018427387904) : AC Tryd.prog 24 [V.ints c, .i slots, .i plate] (.i (chkC c slots plate)) [] := by
  refine ac_intro hTT hMX (fn := Tryd.f24) (N := _) ⟨Tryd.func24, rfl, Tryd.ntmps24, kR⟩ (by simp) fun C hC hF => ?_
  refine aw_seq_k fun K hK => ?_
  refine w_region (n' := 2) kR kR ?_
  refine aops_n hTT (M := []) (n := 1) [pv (6 : Nat) (V.i (0 : Int))] kR kR tI ?_
  refine aops_nil ?_
  refine xt_n ?_
  refine hK _ ?_
  clear hK K
  refine aw_seq_k fun K hK => ?_
  refine aw_block ?_
  refine aw_seq_k fun K hK => ?_
  refine w_region (n' := 3) kR kR ?_
  refine aops_n hTT (M := []) (n := 4) [pv (8 : Nat) (V.sl (1 : Nat) (List.length c) fun (k : Nat) => [V.i (gi c k)]), pv (9 : Nat) (V.i (↑(List.length c) : Int)), pv (10 : Nat) (V.b (decide ((8 : Int) < (↑(List.length c) : Int)))), pv (7 : Nat) (V.b (decide ((8 : Int) < (↑(List.length c) : Int))))] kR kR tI ?_
  refine aops_nil ?_
  refine xt_n ?_
  refine hK _ ?_
  clear hK K
  refine w_cond (t := decide ((8 : Int) < (↑(List.length c) : Int))) kR (fun c1 => ?_) (fun c1 => ?_)
  · have h1 : 8 < c.length := by simp at c1; omega
    refine aw_seq_k fun K hK => ?_
    refine w_region (n' := 4) kR kR ?_
    refine aops_n hTT (M := []) (n := 1) [pv (6 : Nat) (V.i (6 : Int))] kR kR tI ?_
    refine aops_nil ?_
    refine xt_n ?_
    refine hK _ ?_
    clear hK K
    refine aw_ret ?_
    refine xb_r ?_
    refine xt_r ?_
    rw [chkC_1 h1]
    refine ret_pure (v' := V.i (6 : Int)) (.inr rfl) kR kR kR
  have h1 : ¬ 8 < c.length := by simp at c1; omega
  refine aw_seq_k fun K hK => ?_
  refine w_region (n' := 4) kR kR ?_
  refine aops_n hTT (M := []) (n := 1) [pv (12 : Nat) (V.sl (1 : Nat) (List.length c) fun (k : Nat) => [V.i (gi c k)])] kR kR tI ?_
  refine e_call (first := []) (caps := []) (containsCop_ac c hl) kR kR kR kR kR ?_
  refine aops_n hTT (M := []) (n := 1) [pv (11 : Nat) (V.b (decide ((0 : Int) ≤ idxF (fun (k : Nat) => copB (gi c k)) (List.length c))))] kR kR tI ?_
  refine aops_nil ?_
  refine xt_n ?_
  refine hK _ ?_
  clear hK K
  rcases idxF_inv (p := fun k => copB (gi c k)) (n := c.length) with ⟨e, h⟩ | ⟨i, hi, e, h, _⟩
  · rw [e]
    refine w_false (t := false) kR rfl ?_
    refine aw_seq_k fun K hK => ?_
    refine w_region (n' := 5) kR kR ?_
    refine aops_n hTT (M := []) (n := 1) [pv (15 : Nat) (V.i slots)] kR kR tI ?_
    refine e_call (first := []) (caps := []) (soutside_ac slots 1 64) kR kR kR kR kR ?_
    refine aops_n hTT (M := []) (n := 2) [pv (17 : Nat) (V.b (decide (slots < 1) || decide ((64 : Int) < slots))), pc (18 : Nat) ((True ∧ True) ∧ (((decide (slots < 1) || decide ((64 : Int) < slots)) == false) = true → True)) (V.gd ((decide (slots < 1) || decide ((64 : Int) < slots)) == false) (V.i plate))] kR kR ⟨⟨⟨tI, tI⟩, (fun _ => tI)⟩, tI⟩ ?_
    refine e_callG 1 (g := (decide (slots < 1) || decide ((64 : Int) < slots)) == false) (first := []) (caps := []) kR (fun g => soutside_ac plate 0 1048576) kR kR kR kR kR kR ?_
    refine aops_n hTT (M := []) (n := 2) [pc (20 : Nat) (True ∧ ((decide (slots < 1) || decide ((64 : Int) < slots)) = false → ((decide (slots < 1) || decide ((64 : Int) < slots)) == false) = true)) (V.b (decide (slots < 1) || decide ((64 : Int) < slots) || (decide (plate < 0) || decide ((1048576 : Int) < plate)))), pv (14 : Nat) (V.b (decide (slots < 1) || decide ((64 : Int) < slots) || (decide (plate < 0) || decide ((1048576 : Int) < plate))))] kR kR ⟨⟨tI, (by (intro h; rw [h]; rfl))⟩, tI⟩ ?_
    refine aops_nil ?_
    refine xt_n ?_
    refine hK _ ?_
    clear hK K
    refine w_cond (t := decide (slots < 1) || decide ((64 : Int) < slots) || (decide (plate < 0) || decide ((1048576 : Int) < plate))) kR (fun c2 => ?_) (fun c2 => ?_)
    · refine aw_seq_k fun K hK => ?_
      refine w_region (n' := 6) kR kR ?_
      refine aops_n hTT (M := []) (n := 1) [pv (6 : Nat) (V.i (3 : Int))] kR kR tI ?_
      refine aops_nil ?_
      refine xt_n ?_
      refine hK _ ?_
      clear hK K
      refine aw_ret ?_
      refine xb_r ?_
      refine xt_r ?_
      rw [chkC_3 h1 h c2]
      refine ret_pure (v' := V.i (3 : Int)) (.inr rfl) kR kR kR
    · refine aw_skip ?_
      refine xb_n ?_
      refine xt_n ?_
      refine hK _ ?_
      clear hK K
      refine aw_seq_k fun K hK => ?_
      refine w_region (n' := 6) kR kR ?_
      refine aops_n hTT (M := []) (n := 1) [pv (6 : Nat) (V.i (0 : Int))] kR kR tI ?_
      refine aops_nil ?_
      refine xt_n ?_
      refine hK _ ?_
      clear hK K
      refine aw_ret ?_
      rw [chkC_4 h1 h (by rw [outB, outB, c2]; simp)]
      refine ret_pure (v' := V.i (0 : Int)) (.inr rfl) kR kR kR
  · rw [e]
    refine w_cond (t := decide ((0 : Int) ≤ (↑i : Int))) kR (fun c2 => ?_) (fun c2 => ?_)
    · refine aw_seq_k fun K hK => ?_
      refine w_region (n' := 5) kR kR ?_
      refine aops_n hTT (M := []) (n := 1) [pv (6 : Nat) (V.i (2 : Int))] kR kR tI ?_
      refine aops_nil ?_
      refine xt_n ?_
      refine hK _ ?_
      clear hK K
      refine aw_ret ?_
      refine xb_r ?_
      refine xt_r ?_
      rw [chkC_2 h1 hi h]
      refine ret_pure (v' := V.i (2 : Int)) (.inr rfl) kR kR kR
    · simp at c2
set_option maxRecDepth 100000 in
theorem places_ac (c : List Int) (s : Int) (h : CO c) (hl : c.length ≤ 4096) (hs : 1 ≤ s ∧ s ≤ 1048576) : AC Tryd.prog 54 [V.ints c, .i s] (.tup [V.ints (c.map fun n => plc n s), .i (plcS c s c.length)]) [] := by
  obtain ⟨s1, s2⟩ := hs
  refine ac_intro hTT hMX (fn := Tryd.f54) (N := _) ⟨Tryd.func54, rfl, Tryd.ntmps54, kR⟩ (by simp) fun C hC hF => ?_
  refine aw_seq_k fun K hK => ?_
  refine w_region (n' := 2) kR kR ?_
  refine aops_n hTT (M := []) (n := 2) [pv (4 : Nat) V.nil, pv (5 : Nat) (V.i (0 : Int))] kR kR tI ?_
  refine aops_nil ?_
  refine xt_n ?_
  refine hK _ ?_
  clear hK K
  refine aw_seq_k fun K hK => ?_
  refine w_region (n' := 3) kR kR ?_
  refine aops_n hTT (M := []) (n := 1) [pv (6 : Nat) V.nil] kR kR tI ?_
  refine aops_nil ?_
  refine xt_n ?_
  refine hK _ ?_
  clear hK K
  refine aw_seq_k fun K hK => ?_
  refine w_region (n' := 4) kR kR ?_
  refine aops_n hTT (M := []) (n := 1) [pv (7 : Nat) (V.i (0 : Int))] kR kR tI ?_
  refine aops_nil ?_
  refine xt_n ?_
  refine hK _ ?_
  clear hK K
  refine aw_seq_k fun K hK => ?_
  refine aw_seq_k fun K hK => ?_
  refine w_region (n' := 5) kR kR ?_
  refine aops_n hTT (M := []) (n := 3) [pv (11 : Nat) (V.sl (1 : Nat) (List.length c) fun (k : Nat) => [V.i (gi c k)]), pv (12 : Nat) (V.i (↑(List.length c) : Int)), pv (13 : Nat) (V.i (0 : Int))] kR kR tI ?_
  refine aops_nil ?_
  refine xt_n ?_
  refine hK _ ?_
  clear hK K
  refine aw_block ?_
  refine w_le (le_open 6 2 1 (fun k => [.i (plc (gi c k) s)]) kR rfl) ?_
  refine w_loop (ι := Nat) (fun k => [(1, .i s), (6, .own 6), (7, .i (plcS c s k)), (11, V.ints c), (12, .i c.length), (13, .i k)]) (fun k => [(6, .row 2 1 k fun k => [.i (plc (gi c k) s)])]) (fun k => k ≤ c.length) (fun k => c.length - k) 0 (Nat.zero_le _) ?_ ?_
  · refine le_ren (sl := [(6, Ob.row (2 : Nat) (1 : Nat) (0 : Nat) fun (k : Nat) => [V.i (plc (gi c k) s)])]) [(6, 500006)] (.cons kR (.cons kR (.cons kR (.cons kR (.cons kR (.cons kR .nil)))))) (.cons ⟨Ob.row (2 : Nat) (1 : Nat) (0 : Nat) fun (k : Nat) => [V.i (plc (gi c k) s)], kR, .row kR (fun _ _ => rfl)⟩ .nil) kR kR
  intro k hk
  have hb := plcS_bd h s1 k hk
  refine aw_seq_k fun K hK => ?_
  refine w_region (n' := 2) kR kR ?_
  refine aops_n hTT (M := []) (n := 1) [pv (14 : Nat) (V.b (decide ((↑k : Int) < (↑(List.length c) : Int))))] kR kR tI ?_
  refine aops_nil ?_
  refine xt_n ?_
  refine hK _ ?_
  clear hK K
  refine aw_seq_k fun K hK => ?_
  refine w_cond (t := decide ((↑k : Int) < (↑(List.length c) : Int))) kR (fun c1 => ?_) (fun c1 => ?_)
  · simp at c1
    obtain ⟨q1, q2⟩ := h.gi c1
    have e1 := tdiv_plc q1 s1
    have p1 := plc_pos q1 s1
    have p2 := plc_le q1 s1
    refine aw_skip ?_
    refine xt_n ?_
    refine hK _ ?_
    clear hK K
    refine aw_seq_k fun K hK => ?_
    refine aw_block ?_
    refine aw_seq_k fun K hK => ?_
    refine w_region (n' := 3) kR kR ?_
    refine aops_n hTT (M := []) (n := 3) [pc (15 : Nat) ((0 : Int) ≤ (↑k : Int) ∧ (↑k : Int) < (↑(List.length c) : Int)) (V.ptr [V.i (gi c k)]), pv (16 : Nat) (V.i (gi c k)), pv (9 : Nat) (V.i (gi c k))] kR kR ⟨oM, tI⟩ ?_
    refine aops_nil ?_
    refine xt_n ?_
    refine hK _ ?_
    clear hK K
    refine aw_seq_k fun K hK => ?_
    refine w_region (n' := 4) kR kR ?_
    refine aops_n hTT (M := []) (n := 7) [pv (17 : Nat) (V.i (gi c k)), pv (18 : Nat) (V.i s), pc (19 : Nat) ((-9223372036854775808 : Int) ≤ gi c k + s ∧ gi c k + s ≤ 9223372036854775807) (V.i (gi c k + s)), pc (20 : Nat) ((-9223372036854775808 : Int) ≤ gi c k + s - 1 ∧ gi c k + s - 1 ≤ (9223372036854775807 : Int)) (V.i (gi c k + s - 1)), pv (21 : Nat) (V.i s), pc (22 : Nat) ((0 : Int) < s ∧ (-9223372036854775808 : Int) ≤ gi c k + s - 1 ∧ gi c k + s - 1 ≤ (9223372036854775807 : Int)) (V.i (Int.tdiv (gi c k + s - 1) s)), pv (10 : Nat) (V.i (Int.tdiv (gi c k + s - 1) s))] kR kR ⟨oM, oM, ⟨oM, oM⟩, tI⟩ ?_
    refine aops_nil ?_
    refine xt_n ?_
    refine hK _ ?_
    clear hK K
    refine aw_seq_k fun K hK => ?_
    rw [e1]
    refine w_region (n' := 5) kR kR ?_
    refine aops_n hTT (M := []) (n := 5) [pv (23 : Nat) (V.own (6 : Nat)), pv (24 : Nat) (V.i (plc (gi c k) s)), pv (25 : Nat) (V.sl (1 : Nat) (1 : Nat) fun (i : Nat) => List.take (1 : Nat) (List.drop (i * 1) [V.i (plc (gi c k) s)])), PR.mk (some (26 : Nat)) (some (k + 1 ≤ (1099511627776 : Nat))) (V.own (400026 : Nat)) [((6 : Nat), none), ((400026 : Nat), some (Ob.row (2 : Nat) (1 : Nat) (k + 1) (appRow k (fun (k : Nat) => [V.i (plc (gi c k) s)]) fun (i : Nat) => List.take (1 : Nat) (List.drop (i * 1) [V.i (plc (gi c k) s)]))))] false, pv (6 : Nat) (V.own (400026 : Nat))] kR kR ⟨oM, tI⟩ ?_
    refine aops_nil ?_
    refine xt_n ?_
    refine hK _ ?_
    clear hK K
    refine w_region (n' := 6) kR kR ?_
    refine aops_n hTT (M := []) (n := 4) [pv (27 : Nat) (V.i (plcS c s k)), pv (28 : Nat) (V.i (plc (gi c k) s)), pc (29 : Nat) ((-9223372036854775808 : Int) ≤ plcS c s k + plc (gi c k) s ∧ plcS c s k + plc (gi c k) s ≤ 9223372036854775807) (V.i (plcS c s k + plc (gi c k) s)), pv (7 : Nat) (V.i (plcS c s k + plc (gi c k) s))] kR kR ⟨oM, tI⟩ ?_
    refine aops_nil ?_
    refine xb_n ?_
    refine xt_n ?_
    refine hK _ ?_
    clear hK K
    refine w_region (n' := 7) kR kR ?_
    refine aops_n hTT (M := []) (n := 2) [pc (30 : Nat) ((-9223372036854775808 : Int) ≤ (↑k : Int) + 1 ∧ (↑k : Int) + 1 ≤ (9223372036854775807 : Int)) (V.i ((↑k : Int) + 1)), pv (13 : Nat) (V.i ((↑k : Int) + 1))] kR kR ⟨oM, tI⟩ ?_
    refine aops_nil ?_
    refine xt_n ?_
    refine ⟨k + 1, by omega, ?_, by omega⟩
    refine le_ren (tl := [(1, V.i s), (6, V.own (6 : Nat)), (7, V.i (plcS c s (k + 1))), (11, V.sl (1 : Nat) (List.length c) fun (k : Nat) => [V.i (gi c k)]), (12, V.i (↑(List.length c) : Int)), (13, V.i (↑(k + 1) : Int))]) (sl := [(6, Ob.row (2 : Nat) (1 : Nat) (k + 1) fun (k : Nat) => [V.i (plc (gi c k) s)])]) [(6, 400026)] (.cons kR (.cons kR (.cons kR (.cons kR (.cons kR (.cons kR .nil)))))) (.cons ⟨Ob.row (2 : Nat) (1 : Nat) (k + 1) (appRow k (fun (k : Nat) => [V.i (plc (gi c k) s)]) fun (i : Nat) => List.take (1 : Nat) (List.drop (i * 1) [V.i (plc (gi c k) s)])), kR, .row kR ?_⟩ .nil) kR kR
    exact appRow_i rfl rfl
  simp at c1
  obtain rfl : k = c.length := by omega
  refine aw_exit ?_
  refine xt_x ?_
  refine xt_x ?_
  refine xb_same ?_
  refine xt_n ?_
  clear hK K
  refine hK _ ?_
  clear hK K
  refine aw_seq_k fun K hK => ?_
  refine w_region (n' := 3) kR kR ?_
  refine aops_n hTT (M := []) (n := 4) [pv (31 : Nat) (V.own (6 : Nat)), pv (32 : Nat) (V.i (plcS c s (List.length c))), pv (4 : Nat) (V.own (6 : Nat)), pv (5 : Nat) (V.i (plcS c s (List.length c)))] kR kR tI ?_
  refine aops_nil ?_
  refine xt_n ?_
  refine hK _ ?_
  clear hK K
  refine aw_ret ?_
  refine ret_of_le (le_shut 4 6 (e := (2 : Nat)) (sz := (1 : Nat)) (n := List.length c) (n' := (c.map fun n => plc n s).length) (row := fun (k : Nat) => [V.i (plc (gi c k) s)]) (row' := (fun k => [.i (gi (c.map fun n => plc n s) k)])) kR kR (fun _ _ => rfl) ?_ ?_) ?_
  · simp
  · intro i hi; rw [gi_map hi]
  refine ret_pure (v' := V.tup [V.sl (1 : Nat) (List.length (List.map (fun (n : Int) => plc n s) c)) fun (k : Nat) => [V.i (gi (List.map (fun (n : Int) => plc n s) c) k)], V.i (plcS c s (List.length c))]) (.inr rfl) kR kR kR
def mxP (c : List Int) : Nat → Int
  | 0 => gi c 0
  | k + 1 => max (mxP c k) (gi c (k + 1))
theorem mxP_ge {c : List Int} : ∀ {k i : Nat}, i ≤ k → gi c i ≤ mxP c k
  | 0, i, h => by
    obtain rfl : i = 0 := by omega
    exact Int.le_refl _
  | k + 1, i, h => by
    rw [mxP]
    by_cases he : i = k + 1
    · subst he; omega
    · have := mxP_ge (c := c) (k := k) (i := i) oM; omega
theorem mxP_bd {c : List Int} (h : CO c) : ∀ {k : Nat}, k < c.length → 1 ≤ mxP c k ∧ mxP c k ≤ 1048576
  | 0, hk => h.gi hk
  | k + 1, hk => by
    have := mxP_bd h (k := k) oM
    have := h.gi hk
    rw [mxP]; omega
set_option maxRecDepth 100000 in
theorem Max_ac (c : List Int) (h0 : 0 < c.length) (hl : c.length ≤ 4096) : AC Tryd.prog 79 [V.ints c] (.i (mxP c (c.length - 1))) [] := by
  refine ac_intro hTT hMX (fn := Tryd.f79) (N := _) ⟨Tryd.func79, rfl, Tryd.ntmps79, kR⟩ (by simp) fun C hC hF => ?_
  refine aw_seq_k fun K hK => ?_
  refine w_region (n' := 2) kR kR ?_
  refine aops_n hTT (M := []) (n := 1) [pv (2 : Nat) (V.i (0 : Int))] kR kR tI ?_
  refine aops_nil ?_
  refine xt_n ?_
  refine hK _ ?_
  clear hK K
  refine aw_seq_k fun K hK => ?_
  refine aw_seq_k fun K hK => ?_
  refine w_region (n' := 3) kR kR ?_
  refine aops_n hTT (M := []) (n := 3) [pv (5 : Nat) (V.sl (1 : Nat) (List.length c) fun (k : Nat) => [V.i (gi c k)]), pv (6 : Nat) (V.i (↑(List.length c) : Int)), pv (7 : Nat) (V.b (decide ((↑(List.length c) : Int) < 1)))] kR kR tI ?_
  refine aops_nil ?_
  refine xt_n ?_
  refine hK _ ?_
  clear hK K
  refine w_cond (t := decide ((↑(List.length c) : Int) < 1)) kR (fun c1 => ?_) (fun c1 => ?_)
  · simp at c1
    omega
  refine aw_skip ?_
  refine xt_n ?_
  refine hK _ ?_
  clear hK K
  refine aw_seq_k fun K hK => ?_
  refine w_region (n' := 4) kR kR ?_
  refine aops_n hTT (M := []) (n := 4) [pv (9 : Nat) (V.sl (1 : Nat) (List.length c) fun (k : Nat) => [V.i (gi c k)]), pc (10 : Nat) ((0 : Int) ≤ (0 : Int) ∧ (0 : Int) < (↑(List.length c) : Int)) (V.ptr [V.i (gi c (0 : Nat))]), pv (11 : Nat) (V.i (gi c (0 : Nat))), pv (3 : Nat) (V.i (gi c (0 : Nat)))] kR kR ⟨oM, tI⟩ ?_
  refine aops_nil ?_
  refine xt_n ?_
  refine hK _ ?_
  clear hK K
  refine aw_seq_k fun K hK => ?_
  refine aw_seq_k fun K hK => ?_
  refine w_region (n' := 5) kR kR ?_
  refine aops_n hTT (M := []) (n := 1) [pv (4 : Nat) (V.i (1 : Int))] kR kR tI ?_
  refine aops_nil ?_
  refine xt_n ?_
  refine hK _ ?_
  clear hK K
  refine aw_block ?_
  refine w_loop (ι := Nat) (fun k => [(0, V.ints c), (3, .i (mxP c k)), (4, .i (k + 1 : Nat))]) (fun k => []) (fun k => k < c.length) (fun k => c.length - k) 0 h0 ?_ ?_
  · refine le_ren [] (.cons kR (.cons kR (.cons kR .nil))) .nil kR kR
  intro k hk
  refine aw_seq_k fun K hK => ?_
  refine aw_seq_k fun K hK => ?_
  refine w_region (n' := 2) kR kR ?_
  refine aops_n hTT (M := []) (n := 4) [pv (12 : Nat) (V.i (↑(k + 1) : Int)), pv (13 : Nat) (V.sl (1 : Nat) (List.length c) fun (k : Nat) => [V.i (gi c k)]), pv (14 : Nat) (V.i (↑(List.length c) : Int)), pv (15 : Nat) (V.b (decide ((↑(k + 1) : Int) < (↑(List.length c) : Int))))] kR kR tI ?_
  refine aops_nil ?_
  refine xt_n ?_
  refine hK _ ?_
  clear hK K
  refine w_cond (t := decide ((↑(k + 1) : Int) < (↑(List.length c) : Int))) kR (fun c2 => ?_) (fun c2 => ?_)
  · simp at c2
    refine aw_skip ?_
    refine xt_n ?_
    refine hK _ ?_
    clear hK K
    refine aw_seq_k fun K hK => ?_
    refine aw_block ?_
    refine w_region (n' := 3) kR kR ?_
    refine aops_n hTT (M := []) (n := 7) [pv (18 : Nat) (V.i (mxP c k)), pv (19 : Nat) (V.sl (1 : Nat) (List.length c) fun (k : Nat) => [V.i (gi c k)]), pv (20 : Nat) (V.i (↑(k + 1) : Int)), pc (21 : Nat) ((0 : Int) ≤ (↑(k + 1) : Int) ∧ (↑(k + 1) : Int) < (↑(List.length c) : Int)) (V.ptr [V.i (gi c (k + 1))]), pv (22 : Nat) (V.i (gi c (k + 1))), pv (23 : Nat) (V.i (max (mxP c k) (gi c (k + 1)))), pv (3 : Nat) (V.i (max (mxP c k) (gi c (k + 1))))] kR kR ⟨oM, tI⟩ ?_
    refine aops_nil ?_
    refine xb_n ?_
    refine xt_n ?_
    refine hK _ ?_
    clear hK K
    refine w_region (n' := 4) kR kR ?_
    refine aops_n hTT (M := []) (n := 3) [pv (16 : Nat) (V.i (↑(k + 1) : Int)), pc (17 : Nat) ((-9223372036854775808 : Int) ≤ (↑(k + 1) : Int) + 1 ∧ (↑(k + 1) : Int) + 1 ≤ (9223372036854775807 : Int)) (V.i ((↑(k + 1) : Int) + 1)), pv (4 : Nat) (V.i ((↑(k + 1) : Int) + 1))] kR kR ⟨oM, tI⟩ ?_
    refine aops_nil ?_
    refine xt_n ?_
    refine ⟨k + 1, by omega, by refine le_ren [] (.cons kR (.cons kR (.cons kR .nil))) .nil kR kR, by omega⟩
  simp at c2
  obtain rfl : k = c.length - 1 := by omega
  refine aw_exit ?_
  refine xt_x ?_
  refine xt_x ?_
  refine xb_same ?_
  refine xt_n ?_
  clear hK K
  refine hK _ ?_
  clear hK K
  refine aw_seq_k fun K hK => ?_
  refine w_region (n' := 3) kR kR ?_
  refine aops_n hTT (M := []) (n := 2) [pv (24 : Nat) (V.i (mxP c (List.length c - 1))), pv (2 : Nat) (V.i (mxP c (List.length c - 1)))] kR kR tI ?_
  refine aops_nil ?_
  refine xt_n ?_
  refine hK _ ?_
  clear hK K
  refine aw_ret ?_
  refine ret_pure (v' := V.i (mxP c (List.length c - 1))) (.inr rfl) kR kR kR
theorem half {a b : Int} (h0 : 0 ≤ a) (h : a < b) : a ≤ (a + b).tdiv 2 ∧ (a + b).tdiv 2 < b := by
  rw [Int.tdiv_eq_ediv_of_nonneg oM]
  omega
def runV (c : List Int) (slots : Int) : V := .tup [.i (if slots < c.length then 0 else fewN c slots), .b (decide ((c.length : Int) ≤ slots))]
set_option maxRecDepth 100000 in
theorem run_ac (c : List Int) (slots : Int) (h : CO c) (hl : c.length ≤ 4096) : AC Tryd.prog 53 [V.ints c, .i slots] (runV c slots) [] := by
  refine ac_intro hTT hMX (fn := Tryd.f53) (N := _) ⟨Tryd.func53, rfl, Tryd.ntmps53, kR⟩ (by simp) fun C hC hF => ?_
  refine aw_seq_k fun K hK => ?_
  refine w_region (n' := 2) kR kR ?_
  refine aops_n hTT (M := []) (n := 2) [pv (4 : Nat) (V.i (0 : Int)), pv (5 : Nat) (V.b false)] kR kR tI ?_
  refine aops_nil ?_
  refine xt_n ?_
  refine hK _ ?_
  clear hK K
  refine aw_seq_k fun K hK => ?_
  refine aw_seq_k fun K hK => ?_
  refine w_region (n' := 3) kR kR ?_
  refine aops_n hTT (M := []) (n := 4) [pv (11 : Nat) (V.sl (1 : Nat) (List.length c) fun (k : Nat) => [V.i (gi c k)]), pv (12 : Nat) (V.i (↑(List.length c) : Int)), pv (13 : Nat) (V.i slots), pv (14 : Nat) (V.b (decide (slots < (↑(List.length c) : Int))))] kR kR tI ?_
  refine aops_nil ?_
  refine xt_n ?_
  refine hK _ ?_
  clear hK K
  refine w_cond (t := decide (slots < (↑(List.length c) : Int))) kR (fun c1 => ?_) (fun c1 => ?_)
  · simp at c1
    refine aw_seq_k fun K hK => ?_
    refine w_region (n' := 4) kR kR ?_
    refine aops_n hTT (M := []) (n := 2) [pv (4 : Nat) (V.i (0 : Int)), pv (5 : Nat) (V.b false)] kR kR tI ?_
    refine aops_nil ?_
    refine xt_n ?_
    refine hK _ ?_
    clear hK K
    refine aw_ret ?_
    refine xt_r ?_
    rw [runV, if_pos c1, decide_eq_false oM]
    refine ret_pure (v' := V.tup [V.i (0 : Int), V.b false]) (.inr rfl) kR kR kR
  simp at c1
  refine aw_skip ?_
  refine xt_n ?_
  refine hK _ ?_
  clear hK K
  refine aw_seq_k fun K hK => ?_
  refine aw_seq_k fun K hK => ?_
  refine w_region (n' := 4) kR kR ?_
  refine aops_n hTT (M := []) (n := 3) [pv (15 : Nat) (V.sl (1 : Nat) (List.length c) fun (k : Nat) => [V.i (gi c k)]), pv (16 : Nat) (V.i (↑(List.length c) : Int)), pv (17 : Nat) (V.b (decide ((↑(List.length c) : Int) = 0)))] kR kR tI ?_
  refine aops_nil ?_
  refine xt_n ?_
  refine hK _ ?_
  clear hK K
  refine w_cond (t := decide ((↑(List.length c) : Int) = 0)) kR (fun c2 => ?_) (fun c2 => ?_)
  · have h0 : c.length = 0 := by
      simp at c2
      exact List.length_eq_zero_iff.2 c2
    refine aw_seq_k fun K hK => ?_
    refine w_region (n' := 5) kR kR ?_
    refine aops_n hTT (M := []) (n := 2) [pv (4 : Nat) (V.i (0 : Int)), pv (5 : Nat) (V.b true)] kR kR tI ?_
    refine aops_nil ?_
    refine xt_n ?_
    refine hK _ ?_
    clear hK K
    refine aw_ret ?_
    refine xt_r ?_
    rw [runV, if_neg oM, decide_eq_true c1, fewN_nil h0]
    refine ret_pure (v' := V.tup [V.i (0 : Int), V.b true]) (.inr rfl) kR kR kR
  have h0 : c.length ≠ 0 := by
    simp at c2
    exact fun h => c2 (List.length_eq_zero_iff.1 h)
  have hm := mxP_bd h (k := c.length - 1) oM
  have htop := plcS_top (c := c) (s := mxP c (c.length - 1)) hm.1 (fun i hi => mxP_ge oM) c.length (Nat.le_refl _)
  refine aw_skip ?_
  refine xt_n ?_
  refine hK _ ?_
  clear hK K
  refine aw_seq_k fun K hK => ?_
  refine w_region (n' := 5) kR kR ?_
  refine aops_n hTT (M := []) (n := 1) [pv (18 : Nat) (V.sl (1 : Nat) (List.length c) fun (k : Nat) => [V.i (gi c k)])] kR kR tI ?_
  refine e_call (first := []) (caps := []) (Max_ac c oM hl) kR kR kR kR kR ?_
  refine aops_n hTT (M := []) (n := 2) [pv (6 : Nat) (V.i (1 : Int)), pv (7 : Nat) (V.i (mxP c (List.length c - 1)))] kR kR tI ?_
  refine aops_nil ?_
  refine xt_n ?_
  refine hK _ ?_
  clear hK K
  refine aw_seq_k fun K hK => ?_
  refine aw_block ?_
  refine w_loop (ι := Int × Int) (fun x => [(0, V.ints c), (1, .i slots), (6, .i x.1), (7, .i x.2)]) (fun _ => []) (fun x => (1 ≤ x.1 ∧ x.1 ≤ x.2 ∧ x.2 ≤ 1048576) ∧ plcS c x.2 c.length ≤ slots ∧ ∀ s, 1 ≤ s → s < x.1 → slots < plcS c s c.length) (fun x => (x.2 - x.1).toNat) (1, mxP c (c.length - 1)) ⟨⟨by omega, hm.1, hm.2⟩, by simp only; omega, fun s h1 h2 => by simp only at h2; omega⟩ ?_ ?_
  · refine le_ren [] (.cons kR (.cons kR (.cons kR (.cons kR .nil)))) .nil kR kR
  rintro ⟨lo, hi⟩ ⟨⟨l1, l2, l3⟩, h1, h2⟩
  simp only at l1 l2 l3 h1 h2
  refine aw_seq_k fun K hK => ?_
  refine aw_seq_k fun K hK => ?_
  refine w_region (n' := 2) kR kR ?_
  refine aops_n hTT (M := []) (n := 3) [pv (20 : Nat) (V.i lo), pv (21 : Nat) (V.i hi), pv (22 : Nat) (V.b (decide (lo < hi)))] kR kR tI ?_
  refine aops_nil ?_
  refine xt_n ?_
  refine hK _ ?_
  clear hK K
  refine w_cond (t := decide (lo < hi)) kR (fun c3 => ?_) (fun c3 => ?_)
  · simp at c3
    have hh := half oM c3
    refine aw_skip ?_
    refine xt_n ?_
    refine hK _ ?_
    clear hK K
    refine aw_block ?_
    refine aw_seq_k fun K hK => ?_
    refine w_region (n' := 3) kR kR ?_
    refine aops_n hTT (M := []) (n := 5) [pv (23 : Nat) (V.i lo), pv (24 : Nat) (V.i hi), pc (25 : Nat) ((-9223372036854775808 : Int) ≤ lo + hi ∧ lo + hi ≤ 9223372036854775807) (V.i (lo + hi)), pc (26 : Nat) ((0 : Int) < (2 : Int) ∧ (-9223372036854775808 : Int) ≤ lo + hi ∧ lo + hi ≤ 9223372036854775807) (V.i (Int.tdiv (lo + hi) (2 : Int))), pv (8 : Nat) (V.i (Int.tdiv (lo + hi) (2 : Int)))] kR kR ⟨oM, ⟨oM, oM⟩, tI⟩ ?_
    refine aops_nil ?_
    refine xt_n ?_
    refine hK _ ?_
    clear hK K
    refine aw_seq_k fun K hK => ?_
    refine w_region (n' := 4) kR kR ?_
    refine aops_n hTT (M := []) (n := 2) [pv (28 : Nat) (V.sl (1 : Nat) (List.length c) fun (k : Nat) => [V.i (gi c k)]), pv (29 : Nat) (V.i (Int.tdiv (lo + hi) (2 : Int)))] kR kR tI ?_
    refine e_call (first := []) (caps := []) (places_ac c ((lo + hi).tdiv 2) h hl oM) kR kR kR kR kR ?_
    refine aops_n hTT (M := []) (n := 5) [pv (27 : Nat) (V.tup [V.sl (1 : Nat) (List.length (List.map (fun (n : Int) => plc n (Int.tdiv (lo + hi) (2 : Int))) c)) fun (k : Nat) => [V.i (gi (List.map (fun (n : Int) => plc n (Int.tdiv (lo + hi) (2 : Int))) c) k)], V.i (plcS c (Int.tdiv (lo + hi) (2 : Int)) (List.length c))]), pv (31 : Nat) (V.sl (1 : Nat) (List.length (List.map (fun (n : Int) => plc n (Int.tdiv (lo + hi) (2 : Int))) c)) fun (k : Nat) => [V.i (gi (List.map (fun (n : Int) => plc n (Int.tdiv (lo + hi) (2 : Int))) c) k)]), pv (32 : Nat) (V.i (plcS c (Int.tdiv (lo + hi) (2 : Int)) (List.length c))), pv (9 : Nat) (V.sl (1 : Nat) (List.length (List.map (fun (n : Int) => plc n (Int.tdiv (lo + hi) (2 : Int))) c)) fun (k : Nat) => [V.i (gi (List.map (fun (n : Int) => plc n (Int.tdiv (lo + hi) (2 : Int))) c) k)]), pv (10 : Nat) (V.i (plcS c (Int.tdiv (lo + hi) (2 : Int)) (List.length c)))] kR kR tI ?_
    refine aops_nil ?_
    refine xt_n ?_
    refine hK _ ?_
    clear hK K
    refine aw_seq_k fun K hK => ?_
    refine w_region (n' := 5) kR kR ?_
    refine aops_n hTT (M := []) (n := 3) [pv (33 : Nat) (V.i (plcS c (Int.tdiv (lo + hi) (2 : Int)) (List.length c))), pv (34 : Nat) (V.i slots), pv (35 : Nat) (V.b (decide (plcS c (Int.tdiv (lo + hi) (2 : Int)) (List.length c) ≤ slots)))] kR kR tI ?_
    refine aops_nil ?_
    refine xt_n ?_
    refine hK _ ?_
    clear hK K
    refine w_cond (t := decide (plcS c (Int.tdiv (lo + hi) (2 : Int)) (List.length c) ≤ slots)) kR (fun c4 => ?_) (fun c4 => ?_)
    · simp at c4
      refine w_region (n' := 6) kR kR ?_
      refine aops_n hTT (M := []) (n := 2) [pv (36 : Nat) (V.i (Int.tdiv (lo + hi) (2 : Int))), pv (7 : Nat) (V.i (Int.tdiv (lo + hi) (2 : Int)))] kR kR tI ?_
      refine aops_nil ?_
      refine xb_n ?_
      refine xt_n ?_
      refine ⟨(lo, (lo + hi).tdiv 2), ⟨⟨l1, hh.1, by simp only; omega⟩, c4, h2⟩, by refine le_ren [] (.cons kR (.cons kR (.cons kR (.cons kR .nil)))) .nil kR kR, by simp only; omega⟩
    · simp at c4
      refine w_region (n' := 6) kR kR ?_
      refine aops_n hTT (M := []) (n := 3) [pv (37 : Nat) (V.i (Int.tdiv (lo + hi) (2 : Int))), pc (38 : Nat) ((-9223372036854775808 : Int) ≤ Int.tdiv (lo + hi) (2 : Int) + (1 : Int) ∧ Int.tdiv (lo + hi) (2 : Int) + (1 : Int) ≤ (9223372036854775807 : Int)) (V.i (Int.tdiv (lo + hi) (2 : Int) + (1 : Int))), pv (6 : Nat) (V.i (Int.tdiv (lo + hi) (2 : Int) + (1 : Int)))] kR kR ⟨oM, tI⟩ ?_
      refine aops_nil ?_
      refine xb_n ?_
      refine xt_n ?_
      refine ⟨((lo + hi).tdiv 2 + 1, hi), ⟨⟨by simp only; omega, by simp only; omega, l3⟩, h1, fun s hs1 hs2 => ?_⟩, by refine le_ren [] (.cons kR (.cons kR (.cons kR (.cons kR .nil)))) .nil kR kR, by simp only; omega⟩
      simp only at hs2
      have := plcS_mono h hs1 (show s ≤ (lo + hi).tdiv 2 by omega) c.length (Nat.le_refl _)
      omega
  · simp at c3
    obtain rfl : lo = hi := by omega
    refine aw_exit ?_
    refine xt_x ?_
    refine xt_x ?_
    refine xb_same ?_
    refine xt_n ?_
    clear hK K
    refine hK _ ?_
    clear hK K
    refine aw_seq_k fun K hK => ?_
    refine w_region (n' := 3) kR kR ?_
    refine aops_n hTT (M := []) (n := 3) [pv (39 : Nat) (V.i lo), pv (4 : Nat) (V.i lo), pv (5 : Nat) (V.b true)] kR kR tI ?_
    refine aops_nil ?_
    refine xt_n ?_
    refine hK _ ?_
    clear hK K
    refine aw_ret ?_
    rw [runV, if_neg oM, decide_eq_true c1, fewN_eq h c1 h0 ⟨l1, h1, h2⟩]
    refine ret_pure (v' := V.tup [V.i lo, V.b true]) (.inr rfl) kR kR kR
theorem runS_1 {c : List Int} {slots : Int} (h : chkC c slots 0 ≠ 0) : runE c slots = chkC c slots 0 ∧ runS c slots = 0 ∧ runL c slots = [] := by
  have e : runE c slots = chkC c slots 0 := by rw [runE, if_pos h]
  exact ⟨e, by rw [runS, e, if_neg h], by rw [runL, e, if_neg h]⟩
theorem runS_2 {c : List Int} {slots : Int} (h : chkC c slots 0 = 0) (h2 : slots < c.length) : runE c slots = 14 ∧ runS c slots = 0 ∧ runL c slots = [] := by
  have e : runE c slots = 14 := by rw [runE, if_neg (fun k => k h), if_pos h2]
  exact ⟨e, by rw [runS, e, if_neg oM], by rw [runL, e, if_neg oM]⟩
theorem runS_3 {c : List Int} {slots : Int} (h : chkC c slots 0 = 0) (h2 : ¬ slots < c.length) : runE c slots = 0 ∧ runS c slots = fewN c slots ∧ runL c slots = c.map fun n => plc n (fewN c slots) := by
  have e : runE c slots = 0 := by rw [runE, if_neg (fun k => k h), if_neg h2]
  exact ⟨e, by rw [runS, e, if_pos rfl], by rw [runL, e, if_pos rfl]⟩
set_option maxRecDepth 100000 in
theorem Run_ac (c : List Int) (slots : Int) (hl : c.length ≤ 4611686018427387904) : AC Tryd.prog 21 [V.ints c, .i slots] (.tup [.i (runS c slots), V.ints (runL c slots), .i (runE c slots)]) [] := by
  refine ac_intro hTT hMX (fn := Tryd.f21) (N := _) ⟨Tryd.func21, rfl, Tryd.ntmps21, kR⟩ (by simp) fun C hC hF => ?_
  refine aw_seq_k fun K hK => ?_
  refine w_region (n' := 2) kR kR ?_
  refine aops_n hTT (M := []) (n := 3) [pv (4 : Nat) (V.i (0 : Int)), pv (5 : Nat) V.nil, pv (6 : Nat) (V.i (0 : Int))] kR kR tI ?_
  refine aops_nil ?_
  refine xt_n ?_
  refine hK _ ?_
  clear hK K
  refine aw_seq_k fun K hK => ?_
  refine aw_seq_k fun K hK => ?_
  refine w_region (n' := 3) kR kR ?_
  refine aops_n hTT (M := []) (n := 2) [pv (12 : Nat) (V.sl (1 : Nat) (List.length c) fun (k : Nat) => [V.i (gi c k)]), pv (13 : Nat) (V.i slots)] kR kR tI ?_
  refine e_call (first := []) (caps := []) (CheckCopies_ac c slots 0 hl) kR kR kR kR kR ?_
  refine aops_n hTT (M := []) (n := 1) [pv (7 : Nat) (V.i (chkC c slots (0 : Int)))] kR kR tI ?_
  refine aops_nil ?_
  refine xt_n ?_
  refine hK _ ?_
  clear hK K
  refine aw_seq_k fun K hK => ?_
  refine w_region (n' := 4) kR kR ?_
  refine aops_n hTT (M := []) (n := 2) [pv (15 : Nat) (V.i (chkC c slots (0 : Int))), pv (16 : Nat) (V.b !decide (chkC c slots (0 : Int) = (0 : Int)))] kR kR tI ?_
  refine aops_nil ?_
  refine xt_n ?_
  refine hK _ ?_
  clear hK K
  refine w_cond (t := !decide (chkC c slots (0 : Int) = (0 : Int))) kR (fun c1 => ?_) (fun c1 => ?_)
  · obtain ⟨e1, e2, e3⟩ := runS_1 (c := c) (slots := slots) (by simpa using c1)
    refine aw_seq_k fun K hK => ?_
    refine w_region (n' := 5) kR kR ?_
    refine aops_n hTT (M := []) (n := 4) [pv (17 : Nat) (V.i (chkC c slots (0 : Int))), pv (4 : Nat) (V.i (0 : Int)), pv (5 : Nat) V.nil, pv (6 : Nat) (V.i (chkC c slots (0 : Int)))] kR kR tI ?_
    refine aops_nil ?_
    refine xt_n ?_
    refine hK _ ?_
    clear hK K
    refine aw_ret ?_
    refine xt_r ?_
    rw [e1, e2, e3]
    refine ret_of_le (le_nil 5 (sz := 1) 0 (fun k => [.i (gi [] k)]) kR ?_) ?_
    · rfl
    refine ret_pure (v' := V.tup [V.i (0 : Int), V.sl (1 : Nat) (0 : Nat) fun (k : Nat) => [V.i (gi [] k)], V.i (chkC c slots (0 : Int))]) (.inr rfl) kR kR kR
  have h1 : chkC c slots 0 = 0 := by simpa using c1
  obtain ⟨l8, hco, hs, _⟩ := chkC_inv h1
  have A := run_ac c slots hco oM
  refine aw_skip ?_
  refine xt_n ?_
  refine hK _ ?_
  clear hK K
  refine aw_seq_k fun K hK => ?_
  refine w_region (n' := 5) kR kR ?_
  refine aops_n hTT (M := []) (n := 2) [pv (19 : Nat) (V.sl (1 : Nat) (List.length c) fun (k : Nat) => [V.i (gi c k)]), pv (20 : Nat) (V.i slots)] kR kR tI ?_
  by_cases h2 : slots < c.length
  · obtain ⟨e1, e2, e3⟩ := runS_2 h1 h2
    rw [runV, if_pos h2, decide_eq_false oM] at A
    refine e_call (first := []) (caps := []) (A) kR kR kR kR kR ?_
    refine aops_n hTT (M := []) (n := 5) [pv (18 : Nat) (V.tup [V.i (0 : Int), V.b false]), pv (22 : Nat) (V.i (0 : Int)), pv (23 : Nat) (V.b false), pv (8 : Nat) (V.i (0 : Int)), pv (9 : Nat) (V.b false)] kR kR tI ?_
    refine aops_nil ?_
    refine xt_n ?_
    refine hK _ ?_
    clear hK K
    refine aw_seq_k fun K hK => ?_
    refine aw_seq_k fun K hK => ?_
    refine w_region (n' := 6) kR kR ?_
    refine aops_n hTT (M := []) (n := 2) [pv (24 : Nat) (V.b false), pv (25 : Nat) (V.b true)] kR kR tI ?_
    refine aops_nil ?_
    refine xt_n ?_
    refine hK _ ?_
    clear hK K
    refine w_true (t := true) kR rfl ?_
    refine aw_seq_k fun K hK => ?_
    refine w_region (n' := 7) kR kR ?_
    refine aops_n hTT (M := []) (n := 3) [pv (4 : Nat) (V.i (0 : Int)), pv (5 : Nat) V.nil, pv (6 : Nat) (V.i (14 : Int))] kR kR tI ?_
    refine aops_nil ?_
    refine xt_n ?_
    refine hK _ ?_
    clear hK K
    refine aw_ret ?_
    refine xt_r ?_
    rw [e1, e2, e3]
    refine ret_of_le (le_nil 5 (sz := 1) 0 (fun k => [.i (gi [] k)]) kR ?_) ?_
    · rfl
    refine ret_pure (v' := V.tup [V.i (0 : Int), V.sl (1 : Nat) (0 : Nat) fun (k : Nat) => [V.i (gi [] k)], V.i (14 : Int)]) (.inr rfl) kR kR kR
  obtain ⟨e1, e2, e3⟩ := runS_3 h1 h2
  rw [runV, if_neg h2, decide_eq_true oM] at A
  refine e_call (first := []) (caps := []) (A) kR kR kR kR kR ?_
  refine aops_n hTT (M := []) (n := 5) [pv (18 : Nat) (V.tup [V.i (fewN c slots), V.b true]), pv (22 : Nat) (V.i (fewN c slots)), pv (23 : Nat) (V.b true), pv (8 : Nat) (V.i (fewN c slots)), pv (9 : Nat) (V.b true)] kR kR tI ?_
  refine aops_nil ?_
  refine xt_n ?_
  refine hK _ ?_
  clear hK K
  refine aw_seq_k fun K hK => ?_
  refine aw_seq_k fun K hK => ?_
  refine w_region (n' := 6) kR kR ?_
  refine aops_n hTT (M := []) (n := 2) [pv (24 : Nat) (V.b true), pv (25 : Nat) (V.b false)] kR kR tI ?_
  refine aops_nil ?_
  refine xt_n ?_
  refine hK _ ?_
  clear hK K
  refine w_false (t := false) kR rfl ?_
  refine aw_skip ?_
  refine xt_n ?_
  refine hK _ ?_
  clear hK K
  refine aw_seq_k fun K hK => ?_
  refine aw_seq_k fun K hK => ?_
  refine w_region (n' := 7) kR kR ?_
  refine aops_n hTT (M := []) (n := 2) [pv (26 : Nat) (V.i (fewN c slots)), pv (27 : Nat) (V.b (decide (fewN c slots = 0)))] kR kR tI ?_
  refine aops_nil ?_
  refine xt_n ?_
  refine hK _ ?_
  clear hK K
  refine w_cond (t := decide (fewN c slots = 0)) kR (fun c3 => ?_) (fun c3 => ?_)
  · have h0 : c.length = 0 := by
      simp at c3
      by_cases h0 : c.length = 0
      · exact h0
      · have := (fewN_spec (slots := slots) hco oM h0).1.pos; omega
    have hn : c = [] := List.length_eq_zero_iff.1 h0
    refine aw_seq_k fun K hK => ?_
    refine w_region (n' := 8) kR kR ?_
    refine aops_n hTT (M := []) (n := 3) [pv (4 : Nat) (V.i (0 : Int)), pv (5 : Nat) V.nil, pv (6 : Nat) (V.i (0 : Int))] kR kR tI ?_
    refine aops_nil ?_
    refine xt_n ?_
    refine hK _ ?_
    clear hK K
    refine aw_ret ?_
    refine xt_r ?_
    rw [e1, e2, e3, fewN_nil h0, hn]
    refine ret_of_le (le_nil 5 (sz := 1) 0 (fun k => [.i (gi [] k)]) kR ?_) ?_
    · rfl
    refine ret_pure (v' := V.tup [V.i (0 : Int), V.sl (1 : Nat) (0 : Nat) fun (k : Nat) => [V.i (gi [] k)], V.i (0 : Int)]) (.inr rfl) kR kR kR
  have h0 : c.length ≠ 0 := fun h => by simp at c3; exact absurd (fewN_nil h) c3
  have hr := fewN_spec (slots := slots) hco oM h0
  refine aw_skip ?_
  refine xt_n ?_
  refine hK _ ?_
  clear hK K
  refine aw_seq_k fun K hK => ?_
  refine w_region (n' := 8) kR kR ?_
  refine aops_n hTT (M := []) (n := 2) [pv (29 : Nat) (V.sl (1 : Nat) (List.length c) fun (k : Nat) => [V.i (gi c k)]), pv (30 : Nat) (V.i (fewN c slots))] kR kR tI ?_
  refine e_call (first := []) (caps := []) (places_ac c (fewN c slots) hco oM ⟨hr.1.pos, hr.2⟩) kR kR kR kR kR ?_
  refine aops_n hTT (M := []) (n := 5) [pv (28 : Nat) (V.tup [V.sl (1 : Nat) (List.length (List.map (fun (n : Int) => plc n (fewN c slots)) c)) fun (k : Nat) => [V.i (gi (List.map (fun (n : Int) => plc n (fewN c slots)) c) k)], V.i (plcS c (fewN c slots) (List.length c))]), pv (32 : Nat) (V.sl (1 : Nat) (List.length (List.map (fun (n : Int) => plc n (fewN c slots)) c)) fun (k : Nat) => [V.i (gi (List.map (fun (n : Int) => plc n (fewN c slots)) c) k)]), pv (33 : Nat) (V.i (plcS c (fewN c slots) (List.length c))), pv (10 : Nat) (V.sl (1 : Nat) (List.length (List.map (fun (n : Int) => plc n (fewN c slots)) c)) fun (k : Nat) => [V.i (gi (List.map (fun (n : Int) => plc n (fewN c slots)) c) k)]), pv (11 : Nat) (V.i (plcS c (fewN c slots) (List.length c)))] kR kR tI ?_
  refine aops_nil ?_
  refine xt_n ?_
  refine hK _ ?_
  clear hK K
  refine aw_seq_k fun K hK => ?_
  refine w_region (n' := 9) kR kR ?_
  refine aops_n hTT (M := []) (n := 5) [pv (34 : Nat) (V.i (fewN c slots)), pv (35 : Nat) (V.sl (1 : Nat) (List.length (List.map (fun (n : Int) => plc n (fewN c slots)) c)) fun (k : Nat) => [V.i (gi (List.map (fun (n : Int) => plc n (fewN c slots)) c) k)]), pv (4 : Nat) (V.i (fewN c slots)), pv (5 : Nat) (V.sl (1 : Nat) (List.length (List.map (fun (n : Int) => plc n (fewN c slots)) c)) fun (k : Nat) => [V.i (gi (List.map (fun (n : Int) => plc n (fewN c slots)) c) k)]), pv (6 : Nat) (V.i (0 : Int))] kR kR tI ?_
  refine aops_nil ?_
  refine xt_n ?_
  refine hK _ ?_
  clear hK K
  refine aw_ret ?_
  rw [e1, e2, e3]
  refine ret_pure (v' := V.tup [V.i (fewN c slots), V.sl (1 : Nat) (List.length (List.map (fun (n : Int) => plc n (fewN c slots)) c)) fun (k : Nat) => [V.i (gi (List.map (fun (n : Int) => plc n (fewN c slots)) c) k)], V.i (0 : Int)]) (.inr rfl) kR kR kR
end Go.Proofs.YtfckkkmacjjmhaaDoor

namespace Go.Proofs.YtfckkkmacjjmhaaDoor
open Go.Ab Go.RowKit Go.Dw Go.Shelf
def exN : List Pan := [⟨-1, 0, 0, 310, 310⟩, ⟨0, 0, 0, 310, 310⟩, ⟨1, 1, 0, 310, 20⟩]
def exV : V := .sl 5 3 fun i => ([V.i (-1), V.i 0, V.i 0, V.i 310, V.i 310, V.i 0, V.i 0, V.i 0, V.i 310, V.i 310, V.i 1, V.i 1, V.i 0, V.i 310, V.i 20].drop (i * 5)).take 5
set_option maxRecDepth 100000 in
theorem Example_ac : AC Tryd.prog 46 [] exV [] := by
  refine ac_intro hTT hMX (fn := Tryd.f46) (N := _) ⟨Tryd.func46, rfl, Tryd.ntmps46, kR⟩ (by simp) fun C hC hF => ?_
  refine aw_seq_k fun K hK => ?_
  refine w_region (n' := 2) kR kR ?_
  refine aops_n hTT (M := []) (n := 1) [pv (0 : Nat) V.nil] kR kR tI ?_
  refine aops_nil ?_
  refine xt_n ?_
  refine hK _ ?_
  clear hK K
  refine aw_seq_k fun K hK => ?_
  refine w_region (n' := 3) kR kR ?_
  refine aops_n hTT (M := []) (n := 5) [pv (1 : Nat) (V.agg [V.i (-1 : Int), V.i (0 : Int), V.i (0 : Int), V.i (310 : Int), V.i (310 : Int)]), pv (2 : Nat) (V.agg [V.i (0 : Int), V.i (0 : Int), V.i (0 : Int), V.i (310 : Int), V.i (310 : Int)]), pv (3 : Nat) (V.agg [V.i (1 : Int), V.i (1 : Int), V.i (0 : Int), V.i (310 : Int), V.i (20 : Int)]), pv (4 : Nat) (V.sl (5 : Nat) (3 : Nat) fun (i : Nat) => List.take (5 : Nat) (List.drop (i * 5) [V.i (-1 : Int), V.i (0 : Int), V.i (0 : Int), V.i (310 : Int), V.i (310 : Int), V.i (0 : Int), V.i (0 : Int), V.i (0 : Int), V.i (310 : Int), V.i (310 : Int), V.i (1 : Int), V.i (1 : Int), V.i (0 : Int), V.i (310 : Int), V.i (20 : Int)])), pv (0 : Nat) (V.sl (5 : Nat) (3 : Nat) fun (i : Nat) => List.take (5 : Nat) (List.drop (i * 5) [V.i (-1 : Int), V.i (0 : Int), V.i (0 : Int), V.i (310 : Int), V.i (310 : Int), V.i (0 : Int), V.i (0 : Int), V.i (0 : Int), V.i (310 : Int), V.i (310 : Int), V.i (1 : Int), V.i (1 : Int), V.i (0 : Int), V.i (310 : Int), V.i (20 : Int)]))] kR kR tI ?_
  refine aops_nil ?_
  refine xt_n ?_
  refine hK _ ?_
  clear hK K
  refine aw_ret ?_
  refine ret_pure (v' := V.sl (5 : Nat) (3 : Nat) fun (i : Nat) => List.take (5 : Nat) (List.drop (i * 5) [V.i (-1 : Int), V.i (0 : Int), V.i (0 : Int), V.i (310 : Int), V.i (310 : Int), V.i (0 : Int), V.i (0 : Int), V.i (0 : Int), V.i (310 : Int), V.i (310 : Int), V.i (1 : Int), V.i (1 : Int), V.i (0 : Int), V.i (310 : Int), V.i (20 : Int)])) (.inr rfl) kR kR kR
theorem exV_imp : RImp exV (V.pans exN) := RImp.rows rfl fun i hi => by
  match i, hi with
  | 0, _ => rfl
  | 1, _ => rfl
  | 2, _ => rfl
theorem RImp_lit1 (l : List Int) : RImp (.sl 1 l.length fun i => ((l.map V.i).drop (i * 1)).take 1) (V.ints l) := RImp.rows rfl fun i hi => by
  rw [Nat.mul_one, List.drop_eq_getElem_cons (by simpa using hi)]
  simp [gi, List.getD_eq_getElem?_getD, List.getElem?_eq_getElem hi]
theorem ex_net : netE exN = 0 := by decide +kernel
theorem ex_page : pageN [1, 2] 0 1 true = 5 ∧ pageE [1, 2] 0 1 true = 0 := by decide +kernel
theorem ex_co : CO [1000, 300] := fun x hx => by simp at hx; omega
theorem ex_run : fewN [1000, 300] 8 = 167 := by
  refine fewN_eq ex_co (by decide) (by decide) ⟨by decide, by decide +kernel, fun s h1 h2 => ?_⟩
  have := plcS_mono ex_co h1 (show s ≤ 166 by omega) 2 (by decide)
  have e : plcS [1000, 300] 166 2 = 9 := by decide +kernel
  show (8 : Int) < plcS [1000, 300] s 2
  omega
theorem ex_runS : runS [1000, 300] 8 = 167 ∧ runE [1000, 300] 8 = 0 := by
  have h : chkC [1000, 300] 8 0 = 0 := by decide +kernel
  obtain ⟨e1, e2, _⟩ := runS_3 h (slots := 8) (by decide)
  exact ⟨by rw [e2, ex_run], e1⟩
set_option maxHeartbeats 2000000 in
set_option maxRecDepth 100000 in
theorem sWorks_ac : AC Tryd.prog 14 [] (.b true) [] := by
  refine ac_intro hTT hMX (fn := Tryd.f14) (N := _) ⟨Tryd.func14, rfl, Tryd.ntmps14, kR⟩ (by simp) fun C hC hF => ?_
  have A1 := Page_ac [1, 2] 0 1 true (by simp)
  rw [ex_page.1, ex_page.2] at A1
  have A2 := Run_ac [1000, 300] 8 (by simp)
  rw [ex_runS.1, ex_runS.2] at A2
  have A3 := Folded_ac exN (by decide)
  rw [ex_net, netN_1 ex_net] at A3
  refine aw_seq_k fun K hK => ?_
  refine w_region (n' := 2) kR kR ?_
  refine aops_n hTT (M := []) (n := 1) [pv (0 : Nat) (V.b false)] kR kR tI ?_
  refine aops_nil ?_
  refine xt_n ?_
  refine hK _ ?_
  clear hK K
  refine aw_seq_k fun K hK => ?_
  refine w_region (n' := 3) kR kR ?_
  refine aops_n hTT (M := []) (n := 1) [pv (9 : Nat) (V.sl (1 : Nat) (2 : Nat) fun (i : Nat) => List.take (1 : Nat) (List.drop (i * 1) [V.i (1 : Int), V.i (2 : Int)]))] kR kR tI ?_
  refine e_call (first := []) (caps := []) (AC.conv (A1) (args' := [V.sl (1 : Nat) (2 : Nat) fun (i : Nat) => List.take (1 : Nat) (List.drop (i * 1) [V.i (1 : Int), V.i (2 : Int)]), V.i (0 : Int), V.i (1 : Int), V.b true]) ⟨?_, RImp.refl _, RImp.refl _, RImp.refl _, trivial⟩) kR kR kR kR kR ?_
  · exact RImp_lit1 [1, 2]
  refine aops_n hTT (M := []) (n := 5) [pv (8 : Nat) (V.tup [V.i (5 : Int), V.i (0 : Int)]), pv (11 : Nat) (V.i (5 : Int)), pv (12 : Nat) (V.i (0 : Int)), pv (1 : Nat) (V.i (5 : Int)), pv (2 : Nat) (V.i (0 : Int))] kR kR tI ?_
  refine aops_nil ?_
  refine xt_n ?_
  refine hK _ ?_
  clear hK K
  refine aw_seq_k fun K hK => ?_
  refine w_region (n' := 4) kR kR ?_
  refine aops_n hTT (M := []) (n := 1) [pv (14 : Nat) (V.sl (1 : Nat) (2 : Nat) fun (i : Nat) => List.take (1 : Nat) (List.drop (i * 1) [V.i (1000 : Int), V.i (300 : Int)]))] kR kR tI ?_
  refine e_call (first := []) (caps := []) (AC.conv (A2) (args' := [V.sl (1 : Nat) (2 : Nat) fun (i : Nat) => List.take (1 : Nat) (List.drop (i * 1) [V.i (1000 : Int), V.i (300 : Int)]), V.i (8 : Int)]) ⟨?_, RImp.refl _, trivial⟩) kR kR kR kR kR ?_
  · exact RImp_lit1 [1000, 300]
  refine aops_n hTT (M := []) (n := 7) [pv (13 : Nat) (V.tup [V.i (167 : Int), V.sl (1 : Nat) (2 : Nat) fun (k : Nat) => [V.i (gi (runL [(1000 : Int), (300 : Int)] (8 : Int)) k)], V.i (0 : Int)]), pv (16 : Nat) (V.i (167 : Int)), pv (17 : Nat) (V.sl (1 : Nat) (2 : Nat) fun (k : Nat) => [V.i (gi (runL [(1000 : Int), (300 : Int)] (8 : Int)) k)]), pv (18 : Nat) (V.i (0 : Int)), pv (3 : Nat) (V.i (167 : Int)), pv (4 : Nat) (V.sl (1 : Nat) (2 : Nat) fun (k : Nat) => [V.i (gi (runL [(1000 : Int), (300 : Int)] (8 : Int)) k)]), pv (5 : Nat) (V.i (0 : Int))] kR kR tI ?_
  refine aops_nil ?_
  refine xt_n ?_
  refine hK _ ?_
  clear hK K
  refine aw_seq_k fun K hK => ?_
  refine w_region (n' := 5) kR kR ?_
  refine e_call (first := []) (caps := []) (Example_ac) kR kR kR kR kR ?_
  skip
  refine e_call (first := []) (caps := []) (AC.conv (A3) (args' := [V.sl (5 : Nat) (3 : Nat) fun (i : Nat) => List.take (5 : Nat) (List.drop (i * 5) [V.i (-1 : Int), V.i (0 : Int), V.i (0 : Int), V.i (310 : Int), V.i (310 : Int), V.i (0 : Int), V.i (0 : Int), V.i (0 : Int), V.i (310 : Int), V.i (310 : Int), V.i (1 : Int), V.i (1 : Int), V.i (0 : Int), V.i (310 : Int), V.i (20 : Int)])]) ⟨?_, trivial⟩) kR kR kR kR kR ?_
  · exact exV_imp
  refine aops_n hTT (M := []) (n := 5) [pv (19 : Nat) (V.tup [V.sl (5 : Nat) (3 : Nat) fun (k : Nat) => Rc.c (foldR exN k), V.i (0 : Int)]), pv (22 : Nat) (V.sl (5 : Nat) (3 : Nat) fun (k : Nat) => Rc.c (foldR exN k)), pv (23 : Nat) (V.i (0 : Int)), pv (6 : Nat) (V.sl (5 : Nat) (3 : Nat) fun (k : Nat) => Rc.c (foldR exN k)), pv (7 : Nat) (V.i (0 : Int))] kR kR tI ?_
  refine aops_nil ?_
  refine xt_n ?_
  refine hK _ ?_
  clear hK K
  refine aw_seq_k fun K hK => ?_
  refine w_region (n' := 6) kR kR ?_
  refine aops_n hTT (M := []) (n := 27) [pv (24 : Nat) (V.i (0 : Int)), pv (25 : Nat) (V.i (0 : Int)), pc (26 : Nat) ((-9223372036854775808 : Int) ≤ (0 : Int) + (0 : Int) ∧ (0 : Int) + (0 : Int) ≤ (9223372036854775807 : Int)) (V.i (0 : Int)), pv (27 : Nat) (V.i (0 : Int)), pc (28 : Nat) ((-9223372036854775808 : Int) ≤ (0 : Int) + (0 : Int) ∧ (0 : Int) + (0 : Int) ≤ (9223372036854775807 : Int)) (V.i (0 : Int)), pv (29 : Nat) (V.b true), pv (30 : Nat) (V.b true), pc (31 : Nat) ((True ∧ True) ∧ ((true == true) = true → True)) (V.gd (true == true) (V.i (5 : Int))), pc (32 : Nat) ((((true == true) = true → (true == true) = true) ∧ True ∧ True) ∧ ((true == true) = true → True)) (V.gd (true == true) (V.b true)), pc (33 : Nat) ((true = true → (true == true) = true) ∧ True) (V.b true), pv (34 : Nat) (V.b true), pc (35 : Nat) ((True ∧ True) ∧ ((true == true) = true → True)) (V.gd (true == true) (V.i (167 : Int))), pc (36 : Nat) ((((true == true) = true → (true == true) = true) ∧ True ∧ True) ∧ ((true == true) = true → True)) (V.gd (true == true) (V.b true)), pc (37 : Nat) ((true = true → (true == true) = true) ∧ True) (V.b true), pv (38 : Nat) (V.b true), pc (39 : Nat) ((True ∧ True) ∧ ((true == true) = true → True)) (V.gd (true == true) (V.sl (5 : Nat) (3 : Nat) fun (k : Nat) => Rc.c (foldR exN k))), pc (40 : Nat) ((((true == true) = true → (true == true) = true) ∧ True) ∧ ((true == true) = true → True)) (V.gd (true == true) (V.i (3 : Int))), pc (41 : Nat) ((((true == true) = true → (true == true) = true) ∧ True ∧ True) ∧ ((true == true) = true → True)) (V.gd (true == true) (V.b true)), pc (42 : Nat) ((true = true → (true == true) = true) ∧ True) (V.b true), pv (43 : Nat) (V.b true), pc (44 : Nat) ((True ∧ True) ∧ ((true == true) = true → True)) (V.gd (true == true) (V.sl (5 : Nat) (3 : Nat) fun (k : Nat) => Rc.c (foldR exN k))), pc (45 : Nat) ((((true == true) = true → (true == true) = true) ∧ True ∧ True) ∧ ((true == true) = true → (0 : Int) ≤ (2 : Int) ∧ (2 : Int) < (↑(3 : Nat) : Int))) (V.gd (true == true) (V.ptr [V.i (Rc.x0 (foldR exN (2 : Nat))), V.i (Rc.y0 (foldR exN (2 : Nat))), V.i (Rc.x1 (foldR exN (2 : Nat))), V.i (Rc.y1 (foldR exN (2 : Nat))), V.b (Rc.down (foldR exN (2 : Nat)))])), pc (46 : Nat) ((((true == true) = true → (true == true) = true) ∧ True) ∧ ((true == true) = true → True)) (V.gd (true == true) (V.agg [V.i (Rc.x0 (foldR exN (2 : Nat))), V.i (Rc.y0 (foldR exN (2 : Nat))), V.i (Rc.x1 (foldR exN (2 : Nat))), V.i (Rc.y1 (foldR exN (2 : Nat))), V.b (Rc.down (foldR exN (2 : Nat)))])), pc (47 : Nat) ((True ∧ True ∧ True ∧ True) ∧ ((true == true) = true → True)) (V.gd (true == true) (V.agg [V.i (0 : Int), V.i (290 : Int), V.i (310 : Int), V.i (310 : Int), V.b false])), pc (48 : Nat) ((((true == true) = true → (true == true) = true) ∧ ((true == true) = true → (true == true) = true) ∧ True) ∧ ((true == true) = true → True)) (V.gd (true == true) (V.b (Rc.down (foldR exN (2 : Nat)) == false && true))), pc (49 : Nat) ((true = true → (true == true) = true) ∧ True) (V.b (Rc.down (foldR exN (2 : Nat)) == false && true)), pv (0 : Nat) (V.b (Rc.down (foldR exN (2 : Nat)) == false && true))] kR kR ⟨oM, oM, ⟨⟨tI, tI⟩, (fun _ => tI)⟩, ⟨⟨(by (exact fun h => h)), ⟨tI, tI⟩⟩, (fun _ => tI)⟩, ⟨(by (exact fun h => h)), tI⟩, ⟨⟨tI, tI⟩, (fun _ => tI)⟩, ⟨⟨(by (exact fun h => h)), ⟨tI, tI⟩⟩, (fun _ => tI)⟩, ⟨(by (exact fun h => h)), tI⟩, ⟨⟨tI, tI⟩, (fun _ => tI)⟩, ⟨⟨(by (exact fun h => h)), tI⟩, (fun _ => tI)⟩, ⟨⟨(by (exact fun h => h)), ⟨tI, tI⟩⟩, (fun _ => tI)⟩, ⟨(by (exact fun h => h)), tI⟩, ⟨⟨tI, tI⟩, (fun _ => tI)⟩, ⟨⟨(by (exact fun h => h)), ⟨tI, tI⟩⟩, (by (intro _; simp; done))⟩, ⟨⟨(by (exact fun h => h)), tI⟩, (fun _ => tI)⟩, ⟨⟨tI, ⟨tI, ⟨tI, tI⟩⟩⟩, (fun _ => tI)⟩, ⟨⟨(by (exact fun h => h)), ⟨(by (exact fun h => h)), tI⟩⟩, (fun _ => tI)⟩, ⟨(by (exact fun h => h)), tI⟩, tI⟩ ?_
  refine aops_nil ?_
  refine xt_n ?_
  refine hK _ ?_
  clear hK K
  refine aw_ret ?_
  refine ret_pure (v' := V.b (Rc.down (foldR exN (2 : Nat)) == false && true)) (.inr rfl) kR kR kR
end Go.Proofs.YtfckkkmacjjmhaaDoor
