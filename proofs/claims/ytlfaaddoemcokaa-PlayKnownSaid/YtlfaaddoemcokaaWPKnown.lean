/-
  PlayKnown: the walk of the law. No condition.
-/
import Derived.Test.YtlfaaddoemcokaaPAb19
import Derived.Test.YtlfaaddoemcokaaPC
import Derived.Test.YtlfaaddoemcokaaPAb9
import Derived.Test.YtlfaaddoemcokaaPAb10
import Derived.Test.YtlfaaddoemcokaaPAb15
import Derived.Test.YtlfaaddoemcokaaPAb16
import Derived.Test.YtlfaaddoemcokaaPAb24
import Derived.Test.YtlfaaddoemcokaaWTips
import Derived.Test.YtlfaaddoemcokaaMC
namespace Go.Proofs.Ytlfaaddoemcokaa
open Go.Ab Go.RowKit Go.Dw Go.Shelf

def exTv : V := .sl 1 3 fun i => List.take 1 (List.drop (i * 1) [V.i 0, V.i 2, V.i 10])
def exLv : V := .sl 2 3 fun i => List.take 2 (List.drop (i * 2) [V.i (-100), V.i 100, V.i (-100), V.i 90, V.i (-95), V.i 100])
theorem kLit1 {row : Nat → List V} {n : Nat} {l : List Int} (hn : n = l.length) (h : ∀ i, i < l.length → row i = [.i (gi l i)]) : RImp (.sl 1 n row) (V.ints l) := RImp.rows hn fun i hi => h i (by omega)
theorem kLit2 {row : Nat → List V} {n : Nat} {l : List Pt} (hn : n = l.length) (h : ∀ i, i < l.length → row i = [.i (gp l i).1, .i (gp l i).2]) : RImp (.sl 2 n row) (V.pts l) := RImp.rows hn fun i hi => h i (by omega)
theorem lt1 {p : Nat → Prop} (h0 : p 0) : ∀ i, i < 1 → p i := fun i hi => by
  have e : i = 0 := by omega
  rw [e]; exact h0
theorem lt3 {p : Nat → Prop} (h0 : p 0) (h1 : p 1) (h2 : p 2) : ∀ i, i < 3 → p i := fun i hi => by
  rcases (by omega : i = 0 ∨ i = 1 ∨ i = 2) with rfl | rfl | rfl
  · exact h0
  · exact h1
  · exact h2
theorem exT_imp : RImp exTv (V.ints exT) := kLit1 rfl (lt3 rfl rfl rfl)
theorem exL_imp : RImp exLv (V.pts exL) := kLit2 rfl (lt3 rfl rfl rfl)
set_option maxRecDepth 100000 in
theorem pExample_ac : AC Try.prog 57 [] (.tup [.agg [.sl 1 3 fun i => List.take 1 (List.drop (i * 1) [V.i 0, V.i 2, V.i 10])], .sl 2 3 fun i => List.take 2 (List.drop (i * 2) [V.i (-100), V.i 100, V.i (-100), V.i 90, V.i (-95), V.i 100])]) [] := by
  refine ac_intro hTT hMX (fn := Try.f57) (N := _) ⟨Try.func57, rfl, Try.ntmps57, by kernel_rfl⟩ (by simp) fun C hC hF => ?_
  refine aw_seq_k fun K hK => ?_
  refine w_region (n' := 2) (by kernel_rfl) (by kernel_rfl) ?_
  refine aops_n hTT (M := []) (n := 2) [pn (0 : Nat) (V.ref (100000 : Nat) (0 : Nat)) (100000 : Nat) (Ob.box (24 : Nat) [V.nil]), pv (1 : Nat) V.nil] (by kernel_rfl) (by kernel_rfl) True.intro ?_
  refine aops_nil ?_
  refine xt_n ?_
  refine hK _ ?_
  clear hK K
  refine aw_seq_k fun K hK => ?_
  refine w_region (n' := 3) (by kernel_rfl) (by kernel_rfl) ?_
  refine aops_n hTT (M := []) (n := 8) [pv (2 : Nat) (V.sl (1 : Nat) (3 : Nat) fun (i : Nat) => List.take (1 : Nat) (List.drop (i * (1 : Nat)) [V.i (0 : Int), V.i (2 : Int), V.i (10 : Int)])), pv (3 : Nat) (V.agg [V.sl (1 : Nat) (3 : Nat) fun (i : Nat) => List.take (1 : Nat) (List.drop (i * (1 : Nat)) [V.i (0 : Int), V.i (2 : Int), V.i (10 : Int)])]), pv (4 : Nat) (V.agg [V.i (-100 : Int), V.i (100 : Int)]), pv (5 : Nat) (V.agg [V.i (-100 : Int), V.i (90 : Int)]), pv (6 : Nat) (V.agg [V.i (-95 : Int), V.i (100 : Int)]), pv (7 : Nat) (V.sl (2 : Nat) (3 : Nat) fun (i : Nat) => List.take (2 : Nat) (List.drop (i * (2 : Nat)) [V.i (-100 : Int), V.i (100 : Int), V.i (-100 : Int), V.i (90 : Int), V.i (-95 : Int), V.i (100 : Int)])), pw ((0 : Nat) + (1 : Nat) ≤ (1 : Nat)) (100000 : Nat) (Ob.box (24 : Nat) [V.sl (1 : Nat) (3 : Nat) fun (i : Nat) => List.take (1 : Nat) (List.drop (i * (1 : Nat)) [V.i (0 : Int), V.i (2 : Int), V.i (10 : Int)])]), pv (1 : Nat) (V.sl (2 : Nat) (3 : Nat) fun (i : Nat) => List.take (2 : Nat) (List.drop (i * (2 : Nat)) [V.i (-100 : Int), V.i (100 : Int), V.i (-100 : Int), V.i (90 : Int), V.i (-95 : Int), V.i (100 : Int)]))] (by kernel_rfl) (by kernel_rfl) ⟨(by omega), True.intro⟩ ?_
  refine aops_nil ?_
  refine xt_n ?_
  refine hK _ ?_
  clear hK K
  refine aw_ret ?_
  refine ret_pure (v' := V.tup [V.agg [V.sl (1 : Nat) (3 : Nat) fun (i : Nat) => List.take (1 : Nat) (List.drop (i * (1 : Nat)) [V.i (0 : Int), V.i (2 : Int), V.i (10 : Int)])], V.sl (2 : Nat) (3 : Nat) fun (i : Nat) => List.take (2 : Nat) (List.drop (i * (2 : Nat)) [V.i (-100 : Int), V.i (100 : Int), V.i (-100 : Int), V.i (90 : Int), V.i (-95 : Int), V.i (100 : Int)])]) (.inr rfl) (by kernel_rfl) (by kernel_rfl) (by kernel_rfl)
theorem k1_ac : AC Try.prog 24 [.agg [V.ints exT], V.pts exL] (.tup [V.pts [(-100, 92), (-98, 90), (-95, 92)], .i 0]) [] := by
  have A := Sweep_ac exT exL (by decide) (by decide)
  rw [show wallsS exT exL = [(-100, 92), (-98, 90), (-95, 92)] by decide +kernel, ex_both] at A
  exact A
theorem k2_ac : AC Try.prog 35 [.agg [V.ints exT], V.pts exL] (.tup [.i 0, .i 1, .i 0]) [] := by
  have A := Miss_ac exT exL (by decide) (by decide)
  rw [show missO exT exL = (0, 1, 0) by decide +kernel] at A
  exact A
theorem k3_ac : AC Try.prog 35 [.agg [V.ints [0]], V.pts exL] (.tup [.i 0, .i 0, .i 5]) [] := by
  have A := Miss_ac [0] exL (by decide) (by decide)
  rw [show missO [0] exL = (0, 0, 5) by decide +kernel] at A
  exact A
theorem k4_ac : AC Try.prog 38 [.i 10, .i 4, .b false] (.tup [.agg [V.ints [0, 0, 4]], .i 0]) [] := by
  have A := Round_ok 10 4 false (by decide +kernel)
  rw [show eltL 10 4 false = [0, 0, 4] by decide +kernel] at A
  exact A
theorem k5_ac : AC Try.prog 38 [.i 10, .i 4, .b true] (.tup [.agg [V.ints [0, 1, 4]], .i 0]) [] := by
  have A := Round_ok 10 4 true (by decide +kernel)
  rw [show eltL 10 4 true = [0, 1, 4] by decide +kernel] at A
  exact A
theorem k6_ac : AC Try.prog 52 [V.pts exL, .i 4, .i 10] (.tup [.i 3, .i 0]) [] := by
  have A := Greatest_ac exL 4 10 (by decide)
  rw [show greatR exL 4 10 = 3 by decide +kernel, show greatE exL 4 10 = 0 by decide +kernel] at A
  exact A
theorem k7_ac : AC Try.prog 49 [.i 160, .i 1130000, .i 1000] (.tup [.i 1, .i 0]) [] := by
  have A := wow_ac 160 1130000 1000
  rw [show wowI 160 1130000 1000 = (1, 0) by decide +kernel] at A
  exact A
theorem k8_ac : ∃ a b c d : Nat → Int, (a 0 = -100 ∧ b 0 = -97 ∧ c 0 = 90 ∧ d 0 = 92) ∧ AC Try.prog 43 [.agg [V.ints exT], .agg [V.ints exT], V.pts exL, .i 1] (.tup [.sl 4 3 fun k => [.i (a k), .i (b k), .i (c k), .i (d k)], .i 0]) [] := by
  have A := Hear_ac exT exT exL 1 (by decide) (by decide) (by decide)
  rw [hearV, show hearNn exT exT exL 1 = 3 by decide +kernel, show hearE exT exT exL 1 = 0 by decide +kernel] at A
  have e : hearAt (readP exT exL) (readP exT exL) 3 2 0 = (-100, -97, 90, 92) := by decide +kernel
  refine ⟨fun k => (hearAt (readP exT exL) (readP exT exL) 3 2 k).1, fun k => (hearAt (readP exT exL) (readP exT exL) 3 2 k).2.1, fun k => (hearAt (readP exT exL) (readP exT exL) 3 2 k).2.2.1, fun k => (hearAt (readP exT exL) (readP exT exL) 3 2 k).2.2.2, ?_, A⟩
  simp only [e]
  exact ⟨trivial, trivial, trivial, trivial⟩
theorem k9_ac : AC Try.prog 30 [.agg [.i 20, .i 0], V.pts exL] (.tup [.i 1, .i 1, .i 0]) [] := by
  have A := Jump_ac 20 0 exL (by decide) (by decide)
  rw [show jumpI 20 0 exL = (1, 1, 0) by decide +kernel] at A
  exact A
theorem k10_ac : AC Try.prog 30 [.agg [.i 30, .i 60], V.pts exL] (.tup [.i 1, .i (-1), .i 0]) [] := by
  have A := Jump_ac 30 60 exL (by decide) (by decide)
  rw [show jumpI 30 60 exL = (1, -1, 0) by decide +kernel] at A
  exact A
theorem k11_ac : AC Try.prog 30 [.agg [.i 25, .i 0], V.pts exL] (.tup [.i 0, .i 0, .i 5]) [] := by
  have A := Jump_ac 25 0 exL (by decide) (by decide)
  rw [show jumpI 25 0 exL = (0, 0, 5) by decide +kernel] at A
  exact A
theorem k12_ac : AC Try.prog 37 [V.pts exL, V.ints [1000, 990, 980], .i 2, .i 0, .i 950] (.tup [.i 0, .i 0]) [] := by
  have A := DropF_ac exL [1000, 990, 980] 2 0 950 (by decide) (by decide)
  rw [show dropF exL [1000, 990, 980] 2 0 950 = (0, 0) by decide +kernel] at A
  exact A
theorem k13_ac : AC Try.prog 37 [V.pts exL, V.ints [1000, 990, 980], .i 2, .i 0, .i 890] (.tup [.i 2, .i 0]) [] := by
  have A := DropF_ac exL [1000, 990, 980] 2 0 890 (by decide) (by decide)
  rw [show dropF exL [1000, 990, 980] 2 0 890 = (2, 0) by decide +kernel] at A
  exact A
theorem k14_ac : AC Try.prog 37 [V.pts exL, V.ints [1000, 990, 980], .i 2, .i 0, .i 840] (.tup [.i 0, .i 5]) [] := by
  have A := DropF_ac exL [1000, 990, 980] 2 0 840 (by decide) (by decide)
  rw [show dropF exL [1000, 990, 980] 2 0 840 = (0, 5) by decide +kernel] at A
  exact A
set_option maxHeartbeats 2000000 in
set_option maxRecDepth 100000 in
theorem pknown_law : AC Try.prog 18 [] (.b true) [] := by
  refine ac_intro hTT hMX (fn := Try.f18) (N := _) ⟨Try.func18, rfl, Try.ntmps18, by kernel_rfl⟩ (by simp) fun C hC hF => ?_
  refine aw_seq_k fun K hK => ?_
  refine w_region (n' := 2) (by kernel_rfl) (by kernel_rfl) ?_
  refine aops_n hTT (M := []) (n := 1) [pv (0 : Nat) (V.b false)] (by kernel_rfl) (by kernel_rfl) True.intro ?_
  refine aops_nil ?_
  refine xt_n ?_
  refine hK _ ?_
  clear hK K
  refine aw_seq_k fun K hK => ?_
  refine w_region (n' := 3) (by kernel_rfl) (by kernel_rfl) ?_
  refine e_call (first := []) (caps := []) (pExample_ac) (by kernel_rfl) (by kernel_rfl) (by kernel_rfl) (by kernel_rfl) (by kernel_rfl) ?_
  obtain ⟨ha, hb, hc, hd, ⟨z1, z2, z3, z4⟩, k8⟩ := k8_ac
  refine aops_n hTT (M := []) (n := 6) [pv (22 : Nat) (V.tup [V.agg [V.sl (1 : Nat) (3 : Nat) fun (i : Nat) => List.take (1 : Nat) (List.drop (i * (1 : Nat)) [V.i (0 : Int), V.i (2 : Int), V.i (10 : Int)])], V.sl (2 : Nat) (3 : Nat) fun (i : Nat) => List.take (2 : Nat) (List.drop (i * (2 : Nat)) [V.i (-100 : Int), V.i (100 : Int), V.i (-100 : Int), V.i (90 : Int), V.i (-95 : Int), V.i (100 : Int)])]), pv (24 : Nat) (V.agg [V.sl (1 : Nat) (3 : Nat) fun (i : Nat) => List.take (1 : Nat) (List.drop (i * (1 : Nat)) [V.i (0 : Int), V.i (2 : Int), V.i (10 : Int)])]), pv (25 : Nat) (V.sl (2 : Nat) (3 : Nat) fun (i : Nat) => List.take (2 : Nat) (List.drop (i * (2 : Nat)) [V.i (-100 : Int), V.i (100 : Int), V.i (-100 : Int), V.i (90 : Int), V.i (-95 : Int), V.i (100 : Int)])), pn (1 : Nat) (V.ref (200001 : Nat) (0 : Nat)) (200001 : Nat) (Ob.box (24 : Nat) [V.nil]), pw ((0 : Nat) + (1 : Nat) ≤ (1 : Nat)) (200001 : Nat) (Ob.box (24 : Nat) [V.sl (1 : Nat) (3 : Nat) fun (i : Nat) => List.take (1 : Nat) (List.drop (i * (1 : Nat)) [V.i (0 : Int), V.i (2 : Int), V.i (10 : Int)])]), pv (2 : Nat) (V.sl (2 : Nat) (3 : Nat) fun (i : Nat) => List.take (2 : Nat) (List.drop (i * (2 : Nat)) [V.i (-100 : Int), V.i (100 : Int), V.i (-100 : Int), V.i (90 : Int), V.i (-95 : Int), V.i (100 : Int)]))] (by kernel_rfl) (by kernel_rfl) ⟨(by omega), True.intro⟩ ?_
  refine aops_nil ?_
  refine xt_n ?_
  refine hK _ ?_
  clear hK K
  refine aw_seq_k fun K hK => ?_
  refine w_region (n' := 4) (by kernel_rfl) (by kernel_rfl) ?_
  refine aops_n hTT (M := []) (n := 2) [pc (27 : Nat) ((0 : Nat) ≤ (1 : Nat)) (V.agg [V.sl (1 : Nat) (3 : Nat) fun (i : Nat) => List.take (1 : Nat) (List.drop (i * (1 : Nat)) [V.i (0 : Int), V.i (2 : Int), V.i (10 : Int)])]), pv (28 : Nat) (V.sl (2 : Nat) (3 : Nat) fun (i : Nat) => List.take (2 : Nat) (List.drop (i * (2 : Nat)) [V.i (-100 : Int), V.i (100 : Int), V.i (-100 : Int), V.i (90 : Int), V.i (-95 : Int), V.i (100 : Int)]))] (by kernel_rfl) (by kernel_rfl) ⟨(by omega), True.intro⟩ ?_
  refine e_call (first := []) (caps := []) (AC.conv (k1_ac) (args' := [V.agg [V.sl (1 : Nat) (3 : Nat) fun (i : Nat) => List.take (1 : Nat) (List.drop (i * (1 : Nat)) [V.i (0 : Int), V.i (2 : Int), V.i (10 : Int)])], V.sl (2 : Nat) (3 : Nat) fun (i : Nat) => List.take (2 : Nat) (List.drop (i * (2 : Nat)) [V.i (-100 : Int), V.i (100 : Int), V.i (-100 : Int), V.i (90 : Int), V.i (-95 : Int), V.i (100 : Int)])]) ⟨?_, ?_, trivial⟩) (by kernel_rfl) (by kernel_rfl) (by kernel_rfl) (by kernel_rfl) (by kernel_rfl) ?_
  · exact exT_imp.agg1
  · exact exL_imp
  refine aops_n hTT (M := []) (n := 5) [pv (26 : Nat) (V.tup [V.sl (2 : Nat) (3 : Nat) fun (k : Nat) => [V.i (Prod.fst (gp [((-100 : Int), (92 : Int)), ((-98 : Int), (90 : Int)), ((-95 : Int), (92 : Int))] k)), V.i (Prod.snd (gp [((-100 : Int), (92 : Int)), ((-98 : Int), (90 : Int)), ((-95 : Int), (92 : Int))] k))], V.i (0 : Int)]), pv (30 : Nat) (V.sl (2 : Nat) (3 : Nat) fun (k : Nat) => [V.i (Prod.fst (gp [((-100 : Int), (92 : Int)), ((-98 : Int), (90 : Int)), ((-95 : Int), (92 : Int))] k)), V.i (Prod.snd (gp [((-100 : Int), (92 : Int)), ((-98 : Int), (90 : Int)), ((-95 : Int), (92 : Int))] k))]), pv (31 : Nat) (V.i (0 : Int)), pv (3 : Nat) (V.sl (2 : Nat) (3 : Nat) fun (k : Nat) => [V.i (Prod.fst (gp [((-100 : Int), (92 : Int)), ((-98 : Int), (90 : Int)), ((-95 : Int), (92 : Int))] k)), V.i (Prod.snd (gp [((-100 : Int), (92 : Int)), ((-98 : Int), (90 : Int)), ((-95 : Int), (92 : Int))] k))]), pv (4 : Nat) (V.i (0 : Int))] (by kernel_rfl) (by kernel_rfl) True.intro ?_
  refine aops_nil ?_
  refine xt_n ?_
  refine hK _ ?_
  clear hK K
  refine aw_seq_k fun K hK => ?_
  refine w_region (n' := 5) (by kernel_rfl) (by kernel_rfl) ?_
  refine aops_n hTT (M := []) (n := 2) [pc (33 : Nat) ((0 : Nat) ≤ (1 : Nat)) (V.agg [V.sl (1 : Nat) (3 : Nat) fun (i : Nat) => List.take (1 : Nat) (List.drop (i * (1 : Nat)) [V.i (0 : Int), V.i (2 : Int), V.i (10 : Int)])]), pv (34 : Nat) (V.sl (2 : Nat) (3 : Nat) fun (i : Nat) => List.take (2 : Nat) (List.drop (i * (2 : Nat)) [V.i (-100 : Int), V.i (100 : Int), V.i (-100 : Int), V.i (90 : Int), V.i (-95 : Int), V.i (100 : Int)]))] (by kernel_rfl) (by kernel_rfl) ⟨(by omega), True.intro⟩ ?_
  refine e_call (first := []) (caps := []) (AC.conv (k2_ac) (args' := [V.agg [V.sl (1 : Nat) (3 : Nat) fun (i : Nat) => List.take (1 : Nat) (List.drop (i * (1 : Nat)) [V.i (0 : Int), V.i (2 : Int), V.i (10 : Int)])], V.sl (2 : Nat) (3 : Nat) fun (i : Nat) => List.take (2 : Nat) (List.drop (i * (2 : Nat)) [V.i (-100 : Int), V.i (100 : Int), V.i (-100 : Int), V.i (90 : Int), V.i (-95 : Int), V.i (100 : Int)])]) ⟨?_, ?_, trivial⟩) (by kernel_rfl) (by kernel_rfl) (by kernel_rfl) (by kernel_rfl) (by kernel_rfl) ?_
  · exact exT_imp.agg1
  · exact exL_imp
  refine aops_n hTT (M := []) (n := 7) [pv (32 : Nat) (V.tup [V.i (0 : Int), V.i (1 : Int), V.i (0 : Int)]), pv (36 : Nat) (V.i (0 : Int)), pv (37 : Nat) (V.i (1 : Int)), pv (38 : Nat) (V.i (0 : Int)), pv (5 : Nat) (V.i (0 : Int)), pv (6 : Nat) (V.i (1 : Int)), pv (7 : Nat) (V.i (0 : Int))] (by kernel_rfl) (by kernel_rfl) True.intro ?_
  refine aops_nil ?_
  refine xt_n ?_
  refine hK _ ?_
  clear hK K
  refine aw_seq_k fun K hK => ?_
  refine w_region (n' := 6) (by kernel_rfl) (by kernel_rfl) ?_
  refine aops_n hTT (M := []) (n := 3) [pv (40 : Nat) (V.sl (1 : Nat) (1 : Nat) fun (i : Nat) => List.take (1 : Nat) (List.drop (i * (1 : Nat)) [V.i (0 : Int)])), pv (41 : Nat) (V.agg [V.sl (1 : Nat) (1 : Nat) fun (i : Nat) => List.take (1 : Nat) (List.drop (i * (1 : Nat)) [V.i (0 : Int)])]), pv (42 : Nat) (V.sl (2 : Nat) (3 : Nat) fun (i : Nat) => List.take (2 : Nat) (List.drop (i * (2 : Nat)) [V.i (-100 : Int), V.i (100 : Int), V.i (-100 : Int), V.i (90 : Int), V.i (-95 : Int), V.i (100 : Int)]))] (by kernel_rfl) (by kernel_rfl) True.intro ?_
  refine e_call (first := []) (caps := []) (AC.conv (k3_ac) (args' := [V.agg [V.sl (1 : Nat) (1 : Nat) fun (i : Nat) => List.take (1 : Nat) (List.drop (i * (1 : Nat)) [V.i (0 : Int)])], V.sl (2 : Nat) (3 : Nat) fun (i : Nat) => List.take (2 : Nat) (List.drop (i * (2 : Nat)) [V.i (-100 : Int), V.i (100 : Int), V.i (-100 : Int), V.i (90 : Int), V.i (-95 : Int), V.i (100 : Int)])]) ⟨?_, ?_, trivial⟩) (by kernel_rfl) (by kernel_rfl) (by kernel_rfl) (by kernel_rfl) (by kernel_rfl) ?_
  · exact RImp.agg1 (kLit1 rfl (lt1 rfl))
  · exact exL_imp
  refine aops_n hTT (M := []) (n := 7) [pv (39 : Nat) (V.tup [V.i (0 : Int), V.i (0 : Int), V.i (5 : Int)]), pv (44 : Nat) (V.i (0 : Int)), pv (45 : Nat) (V.i (0 : Int)), pv (46 : Nat) (V.i (5 : Int)), pv (8 : Nat) (V.i (0 : Int)), pv (9 : Nat) (V.i (0 : Int)), pv (10 : Nat) (V.i (5 : Int))] (by kernel_rfl) (by kernel_rfl) True.intro ?_
  refine aops_nil ?_
  refine xt_n ?_
  refine hK _ ?_
  clear hK K
  refine aw_seq_k fun K hK => ?_
  refine w_region (n' := 7) (by kernel_rfl) (by kernel_rfl) ?_
  refine e_call (first := []) (caps := []) (k4_ac) (by kernel_rfl) (by kernel_rfl) (by kernel_rfl) (by kernel_rfl) (by kernel_rfl) ?_
  refine aops_n hTT (M := []) (n := 6) [pv (47 : Nat) (V.tup [V.agg [V.sl (1 : Nat) (3 : Nat) fun (k : Nat) => [V.i (gi [(0 : Int), (0 : Int), (4 : Int)] k)]], V.i (0 : Int)]), pv (49 : Nat) (V.agg [V.sl (1 : Nat) (3 : Nat) fun (k : Nat) => [V.i (gi [(0 : Int), (0 : Int), (4 : Int)] k)]]), pv (50 : Nat) (V.i (0 : Int)), pn (11 : Nat) (V.ref (600011 : Nat) (0 : Nat)) (600011 : Nat) (Ob.box (24 : Nat) [V.nil]), pw ((0 : Nat) + (1 : Nat) ≤ (1 : Nat)) (600011 : Nat) (Ob.box (24 : Nat) [V.sl (1 : Nat) (3 : Nat) fun (k : Nat) => [V.i (gi [(0 : Int), (0 : Int), (4 : Int)] k)]]), pv (12 : Nat) (V.i (0 : Int))] (by kernel_rfl) (by kernel_rfl) ⟨(by omega), True.intro⟩ ?_
  refine aops_nil ?_
  refine xt_n ?_
  refine hK _ ?_
  clear hK K
  refine aw_seq_k fun K hK => ?_
  refine w_region (n' := 8) (by kernel_rfl) (by kernel_rfl) ?_
  refine e_call (first := []) (caps := []) (k5_ac) (by kernel_rfl) (by kernel_rfl) (by kernel_rfl) (by kernel_rfl) (by kernel_rfl) ?_
  refine aops_n hTT (M := []) (n := 6) [pv (51 : Nat) (V.tup [V.agg [V.sl (1 : Nat) (3 : Nat) fun (k : Nat) => [V.i (gi [(0 : Int), (1 : Int), (4 : Int)] k)]], V.i (0 : Int)]), pv (53 : Nat) (V.agg [V.sl (1 : Nat) (3 : Nat) fun (k : Nat) => [V.i (gi [(0 : Int), (1 : Int), (4 : Int)] k)]]), pv (54 : Nat) (V.i (0 : Int)), pn (13 : Nat) (V.ref (700013 : Nat) (0 : Nat)) (700013 : Nat) (Ob.box (24 : Nat) [V.nil]), pw ((0 : Nat) + (1 : Nat) ≤ (1 : Nat)) (700013 : Nat) (Ob.box (24 : Nat) [V.sl (1 : Nat) (3 : Nat) fun (k : Nat) => [V.i (gi [(0 : Int), (1 : Int), (4 : Int)] k)]]), pv (14 : Nat) (V.i (0 : Int))] (by kernel_rfl) (by kernel_rfl) ⟨(by omega), True.intro⟩ ?_
  refine aops_nil ?_
  refine xt_n ?_
  refine hK _ ?_
  clear hK K
  refine aw_seq_k fun K hK => ?_
  refine aw_seq_k fun K hK => ?_
  refine w_region (n' := 9) (by kernel_rfl) (by kernel_rfl) ?_
  refine aops_n hTT (M := []) (n := 24) [pv (55 : Nat) (V.i (0 : Int)), pv (56 : Nat) (V.b false), pv (57 : Nat) (V.b false), pc (58 : Nat) ((True ∧ True) ∧ ((false == false) = true → True)) (V.gd (false == false) (V.i (0 : Int))), pc (59 : Nat) ((((false == false) = true → (false == false) = true) ∧ True ∧ True) ∧ ((false == false) = true → True)) (V.gd (false == false) (V.b false)), pc (60 : Nat) (True ∧ (false = false → (false == false) = true)) (V.b false), pv (61 : Nat) (V.b false), pc (62 : Nat) ((True ∧ True) ∧ ((false == false) = true → True)) (V.gd (false == false) (V.i (5 : Int))), pc (63 : Nat) ((((false == false) = true → (false == false) = true) ∧ True ∧ True) ∧ ((false == false) = true → True)) (V.gd (false == false) (V.b false)), pc (64 : Nat) (True ∧ (false = false → (false == false) = true)) (V.b false), pv (65 : Nat) (V.b false), pc (66 : Nat) ((True ∧ True) ∧ ((false == false) = true → True)) (V.gd (false == false) (V.i (0 : Int))), pc (67 : Nat) ((((false == false) = true → (false == false) = true) ∧ True ∧ True) ∧ ((false == false) = true → True)) (V.gd (false == false) (V.b false)), pc (68 : Nat) (True ∧ (false = false → (false == false) = true)) (V.b false), pv (69 : Nat) (V.b false), pc (70 : Nat) ((True ∧ True) ∧ ((false == false) = true → True)) (V.gd (false == false) (V.i (0 : Int))), pc (71 : Nat) ((((false == false) = true → (false == false) = true) ∧ True ∧ True) ∧ ((false == false) = true → True)) (V.gd (false == false) (V.b false)), pc (72 : Nat) (True ∧ (false = false → (false == false) = true)) (V.b false), pv (73 : Nat) (V.b false), pc (74 : Nat) ((True ∧ True) ∧ ((false == false) = true → True)) (V.gd (false == false) (V.sl (2 : Nat) (3 : Nat) fun (k : Nat) => [V.i (Prod.fst (gp [((-100 : Int), (92 : Int)), ((-98 : Int), (90 : Int)), ((-95 : Int), (92 : Int))] k)), V.i (Prod.snd (gp [((-100 : Int), (92 : Int)), ((-98 : Int), (90 : Int)), ((-95 : Int), (92 : Int))] k))])), pc (75 : Nat) ((True ∧ True ∧ True) ∧ ((false == false) = true → True)) (V.gd (false == false) (V.agg [V.i (-100 : Int), V.i (92 : Int)])), pc (76 : Nat) ((True ∧ True ∧ True) ∧ ((false == false) = true → True)) (V.gd (false == false) (V.agg [V.i (-98 : Int), V.i (90 : Int)])), pc (77 : Nat) ((True ∧ True ∧ True) ∧ ((false == false) = true → True)) (V.gd (false == false) (V.agg [V.i (-95 : Int), V.i (92 : Int)])), pc (78 : Nat) ((((false == false) = true → (false == false) = true) ∧ ((false == false) = true → (false == false) = true) ∧ ((false == false) = true → (false == false) = true) ∧ True) ∧ ((false == false) = true → True)) (V.gd (false == false) (V.sl (2 : Nat) (3 : Nat) fun (i : Nat) => List.take (2 : Nat) (List.drop (i * (2 : Nat)) [V.i (-100 : Int), V.i (92 : Int), V.i (-98 : Int), V.i (90 : Int), V.i (-95 : Int), V.i (92 : Int)])))] (by kernel_rfl) (by kernel_rfl) ⟨⟨⟨True.intro, True.intro⟩, (fun _ => True.intro)⟩, ⟨⟨(by (exact fun h => h)), ⟨True.intro, True.intro⟩⟩, (fun _ => True.intro)⟩, ⟨True.intro, (by (intro h; rw [h]; rfl))⟩, ⟨⟨True.intro, True.intro⟩, (fun _ => True.intro)⟩, ⟨⟨(by (exact fun h => h)), ⟨True.intro, True.intro⟩⟩, (fun _ => True.intro)⟩, ⟨True.intro, (by (intro h; rw [h]; rfl))⟩, ⟨⟨True.intro, True.intro⟩, (fun _ => True.intro)⟩, ⟨⟨(by (exact fun h => h)), ⟨True.intro, True.intro⟩⟩, (fun _ => True.intro)⟩, ⟨True.intro, (by (intro h; rw [h]; rfl))⟩, ⟨⟨True.intro, True.intro⟩, (fun _ => True.intro)⟩, ⟨⟨(by (exact fun h => h)), ⟨True.intro, True.intro⟩⟩, (fun _ => True.intro)⟩, ⟨True.intro, (by (intro h; rw [h]; rfl))⟩, ⟨⟨True.intro, True.intro⟩, (fun _ => True.intro)⟩, ⟨⟨True.intro, ⟨True.intro, True.intro⟩⟩, (fun _ => True.intro)⟩, ⟨⟨True.intro, ⟨True.intro, True.intro⟩⟩, (fun _ => True.intro)⟩, ⟨⟨True.intro, ⟨True.intro, True.intro⟩⟩, (fun _ => True.intro)⟩, ⟨⟨(by (exact fun h => h)), ⟨(by (exact fun h => h)), ⟨(by (exact fun h => h)), True.intro⟩⟩⟩, (fun _ => True.intro)⟩, True.intro⟩ ?_
  refine e_callG 2 (g := false == false) (first := []) (caps := []) (by kernel_rfl) (fun _ => AC.conv (same_ac [(-100, 92), (-98, 90), (-95, 92)] [(-100, 92), (-98, 90), (-95, 92)] (by decide) (by decide)) (args' := [V.sl (2 : Nat) (3 : Nat) fun (k : Nat) => [V.i (Prod.fst (gp [((-100 : Int), (92 : Int)), ((-98 : Int), (90 : Int)), ((-95 : Int), (92 : Int))] k)), V.i (Prod.snd (gp [((-100 : Int), (92 : Int)), ((-98 : Int), (90 : Int)), ((-95 : Int), (92 : Int))] k))], V.sl (2 : Nat) (3 : Nat) fun (i : Nat) => List.take (2 : Nat) (List.drop (i * (2 : Nat)) [V.i (-100 : Int), V.i (92 : Int), V.i (-98 : Int), V.i (90 : Int), V.i (-95 : Int), V.i (92 : Int)])]) ⟨RImp.refl _, ?_, trivial⟩) (by kernel_rfl) (by kernel_rfl) (by kernel_rfl) (by kernel_rfl) (by kernel_rfl) (by kernel_rfl) ?_
  · exact kLit2 rfl (lt3 rfl rfl rfl)
  refine aops_n hTT (M := []) (n := 14) [pc (80 : Nat) ((((false == false) = true → (false == false) = true) ∧ True) ∧ ((false == false) = true → True)) (V.gd (false == false) (V.b false)), pc (81 : Nat) (True ∧ (false = false → (false == false) = true)) (V.b false), pv (82 : Nat) (V.b false), pc (83 : Nat) ((True ∧ True) ∧ ((false == false) = true → True)) (V.gd (false == false) (V.i (0 : Int))), pc (84 : Nat) ((((false == false) = true → (false == false) = true) ∧ True ∧ True) ∧ ((false == false) = true → True)) (V.gd (false == false) (V.b false)), pc (85 : Nat) (True ∧ (false = false → (false == false) = true)) (V.b false), pv (86 : Nat) (V.b false), pc (87 : Nat) ((True ∧ True) ∧ ((false == false) = true → True)) (V.gd (false == false) (V.i (1 : Int))), pc (88 : Nat) ((((false == false) = true → (false == false) = true) ∧ True ∧ True) ∧ ((false == false) = true → True)) (V.gd (false == false) (V.b false)), pc (89 : Nat) (True ∧ (false = false → (false == false) = true)) (V.b false), pv (90 : Nat) (V.b false), pc (91 : Nat) ((True ∧ True) ∧ ((false == false) = true → True)) (V.gd (false == false) (V.ref (600011 : Nat) (0 : Nat))), pc (92 : Nat) ((((false == false) = true → (false == false) = true) ∧ True) ∧ ((false == false) = true → (0 : Nat) ≤ (1 : Nat))) (V.gd (false == false) (V.sl (1 : Nat) (3 : Nat) fun (k : Nat) => [V.i (gi [(0 : Int), (0 : Int), (4 : Int)] k)])), pc (93 : Nat) ((True ∧ True ∧ True ∧ True) ∧ ((false == false) = true → True)) (V.gd (false == false) (V.sl (1 : Nat) (3 : Nat) fun (i : Nat) => List.take (1 : Nat) (List.drop (i * (1 : Nat)) [V.i (0 : Int), V.i (0 : Int), V.i (4 : Int)])))] (by kernel_rfl) (by kernel_rfl) ⟨⟨⟨(by (exact fun h => h)), True.intro⟩, (fun _ => True.intro)⟩, ⟨True.intro, (by (intro h; rw [h]; rfl))⟩, ⟨⟨True.intro, True.intro⟩, (fun _ => True.intro)⟩, ⟨⟨(by (exact fun h => h)), ⟨True.intro, True.intro⟩⟩, (fun _ => True.intro)⟩, ⟨True.intro, (by (intro h; rw [h]; rfl))⟩, ⟨⟨True.intro, True.intro⟩, (fun _ => True.intro)⟩, ⟨⟨(by (exact fun h => h)), ⟨True.intro, True.intro⟩⟩, (fun _ => True.intro)⟩, ⟨True.intro, (by (intro h; rw [h]; rfl))⟩, ⟨⟨True.intro, True.intro⟩, (fun _ => True.intro)⟩, ⟨⟨(by (exact fun h => h)), True.intro⟩, (by (intro _; simp; done))⟩, ⟨⟨True.intro, ⟨True.intro, ⟨True.intro, True.intro⟩⟩⟩, (fun _ => True.intro)⟩, True.intro⟩ ?_
  refine e_callG 2 (g := false == false) (first := []) (caps := []) (by kernel_rfl) (fun _ => AC.conv (shapes_same [0, 0, 4] (by decide)) (args' := [V.sl (1 : Nat) (3 : Nat) fun (k : Nat) => [V.i (gi [(0 : Int), (0 : Int), (4 : Int)] k)], V.sl (1 : Nat) (3 : Nat) fun (i : Nat) => List.take (1 : Nat) (List.drop (i * (1 : Nat)) [V.i (0 : Int), V.i (0 : Int), V.i (4 : Int)])]) ⟨RImp.refl _, ?_, trivial⟩) (by kernel_rfl) (by kernel_rfl) (by kernel_rfl) (by kernel_rfl) (by kernel_rfl) (by kernel_rfl) ?_
  · exact kLit1 rfl (lt3 rfl rfl rfl)
  refine aops_n hTT (M := []) (n := 6) [pc (95 : Nat) ((((false == false) = true → (false == false) = true) ∧ True) ∧ ((false == false) = true → True)) (V.gd (false == false) (V.b false)), pc (96 : Nat) (True ∧ (false = false → (false == false) = true)) (V.b false), pv (97 : Nat) (V.b false), pc (98 : Nat) ((True ∧ True) ∧ ((false == false) = true → True)) (V.gd (false == false) (V.ref (700013 : Nat) (0 : Nat))), pc (99 : Nat) ((((false == false) = true → (false == false) = true) ∧ True) ∧ ((false == false) = true → (0 : Nat) ≤ (1 : Nat))) (V.gd (false == false) (V.sl (1 : Nat) (3 : Nat) fun (k : Nat) => [V.i (gi [(0 : Int), (1 : Int), (4 : Int)] k)])), pc (100 : Nat) ((True ∧ True ∧ True ∧ True) ∧ ((false == false) = true → True)) (V.gd (false == false) (V.sl (1 : Nat) (3 : Nat) fun (i : Nat) => List.take (1 : Nat) (List.drop (i * (1 : Nat)) [V.i (0 : Int), V.i (1 : Int), V.i (4 : Int)])))] (by kernel_rfl) (by kernel_rfl) ⟨⟨⟨(by (exact fun h => h)), True.intro⟩, (fun _ => True.intro)⟩, ⟨True.intro, (by (intro h; rw [h]; rfl))⟩, ⟨⟨True.intro, True.intro⟩, (fun _ => True.intro)⟩, ⟨⟨(by (exact fun h => h)), True.intro⟩, (by (intro _; simp; done))⟩, ⟨⟨True.intro, ⟨True.intro, ⟨True.intro, True.intro⟩⟩⟩, (fun _ => True.intro)⟩, True.intro⟩ ?_
  refine e_callG 2 (g := false == false) (first := []) (caps := []) (by kernel_rfl) (fun _ => AC.conv (shapes_same [0, 1, 4] (by decide)) (args' := [V.sl (1 : Nat) (3 : Nat) fun (k : Nat) => [V.i (gi [(0 : Int), (1 : Int), (4 : Int)] k)], V.sl (1 : Nat) (3 : Nat) fun (i : Nat) => List.take (1 : Nat) (List.drop (i * (1 : Nat)) [V.i (0 : Int), V.i (1 : Int), V.i (4 : Int)])]) ⟨RImp.refl _, ?_, trivial⟩) (by kernel_rfl) (by kernel_rfl) (by kernel_rfl) (by kernel_rfl) (by kernel_rfl) (by kernel_rfl) ?_
  · exact kLit1 rfl (lt3 rfl rfl rfl)
  refine aops_n hTT (M := []) (n := 2) [pc (102 : Nat) ((((false == false) = true → (false == false) = true) ∧ True) ∧ ((false == false) = true → True)) (V.gd (false == false) (V.b false)), pc (103 : Nat) (True ∧ (false = false → (false == false) = true)) (V.b false)] (by kernel_rfl) (by kernel_rfl) ⟨⟨⟨(by (exact fun h => h)), True.intro⟩, (fun _ => True.intro)⟩, ⟨True.intro, (by (intro h; rw [h]; rfl))⟩, True.intro⟩ ?_
  refine aops_nil ?_
  refine xt_n ?_
  refine hK _ ?_
  clear hK K
  refine w_false (t := false) (by kernel_rfl) rfl ?_
  refine aw_skip ?_
  refine xt_n ?_
  refine hK _ ?_
  clear hK K
  refine aw_seq_k fun K hK => ?_
  refine w_region (n' := 10) (by kernel_rfl) (by kernel_rfl) ?_
  refine aops_n hTT (M := []) (n := 1) [pv (105 : Nat) (V.sl (2 : Nat) (3 : Nat) fun (i : Nat) => List.take (2 : Nat) (List.drop (i * (2 : Nat)) [V.i (-100 : Int), V.i (100 : Int), V.i (-100 : Int), V.i (90 : Int), V.i (-95 : Int), V.i (100 : Int)]))] (by kernel_rfl) (by kernel_rfl) True.intro ?_
  refine e_call (first := []) (caps := []) (AC.conv (k6_ac) (args' := [V.sl (2 : Nat) (3 : Nat) fun (i : Nat) => List.take (2 : Nat) (List.drop (i * (2 : Nat)) [V.i (-100 : Int), V.i (100 : Int), V.i (-100 : Int), V.i (90 : Int), V.i (-95 : Int), V.i (100 : Int)]), V.i (4 : Int), V.i (10 : Int)]) ⟨?_, RImp.refl _, RImp.refl _, trivial⟩) (by kernel_rfl) (by kernel_rfl) (by kernel_rfl) (by kernel_rfl) (by kernel_rfl) ?_
  · exact exL_imp
  refine aops_n hTT (M := []) (n := 5) [pv (104 : Nat) (V.tup [V.i (3 : Int), V.i (0 : Int)]), pv (107 : Nat) (V.i (3 : Int)), pv (108 : Nat) (V.i (0 : Int)), pv (15 : Nat) (V.i (3 : Int)), pv (4 : Nat) (V.i (0 : Int))] (by kernel_rfl) (by kernel_rfl) True.intro ?_
  refine aops_nil ?_
  refine xt_n ?_
  refine hK _ ?_
  clear hK K
  refine aw_seq_k fun K hK => ?_
  refine w_region (n' := 11) (by kernel_rfl) (by kernel_rfl) ?_
  refine e_call (first := []) (caps := []) (k7_ac) (by kernel_rfl) (by kernel_rfl) (by kernel_rfl) (by kernel_rfl) (by kernel_rfl) ?_
  refine aops_n hTT (M := []) (n := 5) [pv (109 : Nat) (V.tup [V.i (1 : Int), V.i (0 : Int)]), pv (111 : Nat) (V.i (1 : Int)), pv (112 : Nat) (V.i (0 : Int)), pv (16 : Nat) (V.i (1 : Int)), pv (7 : Nat) (V.i (0 : Int))] (by kernel_rfl) (by kernel_rfl) True.intro ?_
  refine aops_nil ?_
  refine xt_n ?_
  refine hK _ ?_
  clear hK K
  refine aw_seq_k fun K hK => ?_
  refine w_region (n' := 12) (by kernel_rfl) (by kernel_rfl) ?_
  refine aops_n hTT (M := []) (n := 3) [pc (114 : Nat) ((0 : Nat) ≤ (1 : Nat)) (V.agg [V.sl (1 : Nat) (3 : Nat) fun (i : Nat) => List.take (1 : Nat) (List.drop (i * (1 : Nat)) [V.i (0 : Int), V.i (2 : Int), V.i (10 : Int)])]), pc (115 : Nat) ((0 : Nat) ≤ (1 : Nat)) (V.agg [V.sl (1 : Nat) (3 : Nat) fun (i : Nat) => List.take (1 : Nat) (List.drop (i * (1 : Nat)) [V.i (0 : Int), V.i (2 : Int), V.i (10 : Int)])]), pv (116 : Nat) (V.sl (2 : Nat) (3 : Nat) fun (i : Nat) => List.take (2 : Nat) (List.drop (i * (2 : Nat)) [V.i (-100 : Int), V.i (100 : Int), V.i (-100 : Int), V.i (90 : Int), V.i (-95 : Int), V.i (100 : Int)]))] (by kernel_rfl) (by kernel_rfl) ⟨(by omega), (by omega), True.intro⟩ ?_
  refine e_call (first := []) (caps := []) (AC.conv (k8) (args' := [V.agg [V.sl (1 : Nat) (3 : Nat) fun (i : Nat) => List.take (1 : Nat) (List.drop (i * (1 : Nat)) [V.i (0 : Int), V.i (2 : Int), V.i (10 : Int)])], V.agg [V.sl (1 : Nat) (3 : Nat) fun (i : Nat) => List.take (1 : Nat) (List.drop (i * (1 : Nat)) [V.i (0 : Int), V.i (2 : Int), V.i (10 : Int)])], V.sl (2 : Nat) (3 : Nat) fun (i : Nat) => List.take (2 : Nat) (List.drop (i * (2 : Nat)) [V.i (-100 : Int), V.i (100 : Int), V.i (-100 : Int), V.i (90 : Int), V.i (-95 : Int), V.i (100 : Int)]), V.i (1 : Int)]) ⟨?_, ?_, ?_, RImp.refl _, trivial⟩) (by kernel_rfl) (by kernel_rfl) (by kernel_rfl) (by kernel_rfl) (by kernel_rfl) ?_
  · exact exT_imp.agg1
  · exact exT_imp.agg1
  · exact exL_imp
  refine aops_n hTT (M := []) (n := 5) [pv (113 : Nat) (V.tup [V.sl (4 : Nat) (3 : Nat) fun (k : Nat) => [V.i (ha k), V.i (hb k), V.i (hc k), V.i (hd k)], V.i (0 : Int)]), pv (118 : Nat) (V.sl (4 : Nat) (3 : Nat) fun (k : Nat) => [V.i (ha k), V.i (hb k), V.i (hc k), V.i (hd k)]), pv (119 : Nat) (V.i (0 : Int)), pv (17 : Nat) (V.sl (4 : Nat) (3 : Nat) fun (k : Nat) => [V.i (ha k), V.i (hb k), V.i (hc k), V.i (hd k)]), pv (10 : Nat) (V.i (0 : Int))] (by kernel_rfl) (by kernel_rfl) True.intro ?_
  refine aops_nil ?_
  refine xt_n ?_
  refine hK _ ?_
  clear hK K
  refine aw_seq_k fun K hK => ?_
  refine aw_seq_k fun K hK => ?_
  refine w_region (n' := 13) (by kernel_rfl) (by kernel_rfl) ?_
  refine aops_n hTT (M := []) (n := 32) [pv (120 : Nat) (V.i (0 : Int)), pv (121 : Nat) (V.b false), pv (122 : Nat) (V.b false), pc (123 : Nat) ((True ∧ True) ∧ ((false == false) = true → True)) (V.gd (false == false) (V.i (0 : Int))), pc (124 : Nat) ((((false == false) = true → (false == false) = true) ∧ True ∧ True) ∧ ((false == false) = true → True)) (V.gd (false == false) (V.b false)), pc (125 : Nat) (True ∧ (false = false → (false == false) = true)) (V.b false), pv (126 : Nat) (V.b false), pc (127 : Nat) ((True ∧ True) ∧ ((false == false) = true → True)) (V.gd (false == false) (V.i (0 : Int))), pc (128 : Nat) ((((false == false) = true → (false == false) = true) ∧ True ∧ True) ∧ ((false == false) = true → True)) (V.gd (false == false) (V.b false)), pc (129 : Nat) (True ∧ (false = false → (false == false) = true)) (V.b false), pv (130 : Nat) (V.b false), pc (131 : Nat) ((True ∧ True) ∧ ((false == false) = true → True)) (V.gd (false == false) (V.i (3 : Int))), pc (132 : Nat) ((((false == false) = true → (false == false) = true) ∧ True ∧ True) ∧ ((false == false) = true → True)) (V.gd (false == false) (V.b false)), pc (133 : Nat) (True ∧ (false = false → (false == false) = true)) (V.b false), pv (134 : Nat) (V.b false), pc (135 : Nat) ((True ∧ True) ∧ ((false == false) = true → True)) (V.gd (false == false) (V.i (1 : Int))), pc (136 : Nat) ((((false == false) = true → (false == false) = true) ∧ True ∧ True) ∧ ((false == false) = true → True)) (V.gd (false == false) (V.b false)), pc (137 : Nat) (True ∧ (false = false → (false == false) = true)) (V.b false), pv (138 : Nat) (V.b false), pc (139 : Nat) ((True ∧ True) ∧ ((false == false) = true → True)) (V.gd (false == false) (V.sl (4 : Nat) (3 : Nat) fun (k : Nat) => [V.i (ha k), V.i (hb k), V.i (hc k), V.i (hd k)])), pc (140 : Nat) ((((false == false) = true → (false == false) = true) ∧ True) ∧ ((false == false) = true → True)) (V.gd (false == false) (V.i (↑(3 : Nat) : Int))), pc (141 : Nat) ((((false == false) = true → (false == false) = true) ∧ True ∧ True) ∧ ((false == false) = true → True)) (V.gd (false == false) (V.b false)), pc (142 : Nat) (True ∧ (false = false → (false == false) = true)) (V.b false), pv (143 : Nat) (V.b false), pc (144 : Nat) ((True ∧ True) ∧ ((false == false) = true → True)) (V.gd (false == false) (V.sl (4 : Nat) (3 : Nat) fun (k : Nat) => [V.i (ha k), V.i (hb k), V.i (hc k), V.i (hd k)])), pc (145 : Nat) ((((false == false) = true → (false == false) = true) ∧ True ∧ True) ∧ ((false == false) = true → (0 : Int) ≤ (0 : Int) ∧ (0 : Int) < (↑(3 : Nat) : Int))) (V.gd (false == false) (V.ptr [V.i (ha (0 : Nat)), V.i (hb (0 : Nat)), V.i (hc (0 : Nat)), V.i (hd (0 : Nat))])), pc (146 : Nat) ((((false == false) = true → (false == false) = true) ∧ True) ∧ ((false == false) = true → True)) (V.gd (false == false) (V.agg [V.i (ha (0 : Nat)), V.i (hb (0 : Nat)), V.i (hc (0 : Nat)), V.i (hd (0 : Nat))])), pc (147 : Nat) ((True ∧ True ∧ True) ∧ ((false == false) = true → True)) (V.gd (false == false) (V.agg [V.i (-100 : Int), V.i (-97 : Int)])), pc (148 : Nat) ((True ∧ True ∧ True) ∧ ((false == false) = true → True)) (V.gd (false == false) (V.agg [V.i (90 : Int), V.i (92 : Int)])), pc (149 : Nat) ((((false == false) = true → (false == false) = true) ∧ ((false == false) = true → (false == false) = true) ∧ True) ∧ ((false == false) = true → True)) (V.gd (false == false) (V.agg [V.i (-100 : Int), V.i (-97 : Int), V.i (90 : Int), V.i (92 : Int)])), pc (150 : Nat) ((((false == false) = true → (false == false) = true) ∧ ((false == false) = true → (false == false) = true) ∧ True) ∧ ((false == false) = true → True)) (V.gd (false == false) (V.b !(decide (ha (0 : Nat) = (-100 : Int)) && (decide (hb (0 : Nat) = (-97 : Int)) && (decide (hc (0 : Nat) = (90 : Int)) && (decide (hd (0 : Nat) = (92 : Int)) && true)))))), pc (151 : Nat) (True ∧ (false = false → (false == false) = true)) (V.b !(decide (ha (0 : Nat) = (-100 : Int)) && (decide (hb (0 : Nat) = (-97 : Int)) && (decide (hc (0 : Nat) = (90 : Int)) && (decide (hd (0 : Nat) = (92 : Int)) && true)))))] (by kernel_rfl) (by kernel_rfl) ⟨⟨⟨True.intro, True.intro⟩, (fun _ => True.intro)⟩, ⟨⟨(by (exact fun h => h)), ⟨True.intro, True.intro⟩⟩, (fun _ => True.intro)⟩, ⟨True.intro, (by (intro h; rw [h]; rfl))⟩, ⟨⟨True.intro, True.intro⟩, (fun _ => True.intro)⟩, ⟨⟨(by (exact fun h => h)), ⟨True.intro, True.intro⟩⟩, (fun _ => True.intro)⟩, ⟨True.intro, (by (intro h; rw [h]; rfl))⟩, ⟨⟨True.intro, True.intro⟩, (fun _ => True.intro)⟩, ⟨⟨(by (exact fun h => h)), ⟨True.intro, True.intro⟩⟩, (fun _ => True.intro)⟩, ⟨True.intro, (by (intro h; rw [h]; rfl))⟩, ⟨⟨True.intro, True.intro⟩, (fun _ => True.intro)⟩, ⟨⟨(by (exact fun h => h)), ⟨True.intro, True.intro⟩⟩, (fun _ => True.intro)⟩, ⟨True.intro, (by (intro h; rw [h]; rfl))⟩, ⟨⟨True.intro, True.intro⟩, (fun _ => True.intro)⟩, ⟨⟨(by (exact fun h => h)), True.intro⟩, (fun _ => True.intro)⟩, ⟨⟨(by (exact fun h => h)), ⟨True.intro, True.intro⟩⟩, (fun _ => True.intro)⟩, ⟨True.intro, (by (intro h; rw [h]; rfl))⟩, ⟨⟨True.intro, True.intro⟩, (fun _ => True.intro)⟩, ⟨⟨(by (exact fun h => h)), ⟨True.intro, True.intro⟩⟩, (by (intro _; simp; done))⟩, ⟨⟨(by (exact fun h => h)), True.intro⟩, (fun _ => True.intro)⟩, ⟨⟨True.intro, ⟨True.intro, True.intro⟩⟩, (fun _ => True.intro)⟩, ⟨⟨True.intro, ⟨True.intro, True.intro⟩⟩, (fun _ => True.intro)⟩, ⟨⟨(by (exact fun h => h)), ⟨(by (exact fun h => h)), True.intro⟩⟩, (fun _ => True.intro)⟩, ⟨⟨(by (exact fun h => h)), ⟨(by (exact fun h => h)), True.intro⟩⟩, (fun _ => True.intro)⟩, ⟨True.intro, (by (intro h; rw [h]; rfl))⟩, True.intro⟩ ?_
  refine aops_nil ?_
  refine xt_n ?_
  refine hK _ ?_
  clear hK K
  refine w_cond (t := !(decide (ha (0 : Nat) = (-100 : Int)) && (decide (hb (0 : Nat) = (-97 : Int)) && (decide (hc (0 : Nat) = (90 : Int)) && (decide (hd (0 : Nat) = (92 : Int)) && true))))) (by kernel_rfl) (fun c1 => ?_) (fun c1 => ?_)
  · exfalso
    simp [z1, z2, z3, z4] at c1
  refine aw_skip ?_
  refine xt_n ?_
  refine hK _ ?_
  clear hK K
  refine aw_seq_k fun K hK => ?_
  refine w_region (n' := 14) (by kernel_rfl) (by kernel_rfl) ?_
  refine aops_n hTT (M := []) (n := 2) [pv (153 : Nat) (V.agg [V.i (20 : Int), V.i (0 : Int)]), pv (154 : Nat) (V.sl (2 : Nat) (3 : Nat) fun (i : Nat) => List.take (2 : Nat) (List.drop (i * (2 : Nat)) [V.i (-100 : Int), V.i (100 : Int), V.i (-100 : Int), V.i (90 : Int), V.i (-95 : Int), V.i (100 : Int)]))] (by kernel_rfl) (by kernel_rfl) True.intro ?_
  refine e_call (first := []) (caps := []) (AC.conv (k9_ac) (args' := [V.agg [V.i (20 : Int), V.i (0 : Int)], V.sl (2 : Nat) (3 : Nat) fun (i : Nat) => List.take (2 : Nat) (List.drop (i * (2 : Nat)) [V.i (-100 : Int), V.i (100 : Int), V.i (-100 : Int), V.i (90 : Int), V.i (-95 : Int), V.i (100 : Int)])]) ⟨RImp.refl _, ?_, trivial⟩) (by kernel_rfl) (by kernel_rfl) (by kernel_rfl) (by kernel_rfl) (by kernel_rfl) ?_
  · exact exL_imp
  refine aops_n hTT (M := []) (n := 7) [pv (152 : Nat) (V.tup [V.i (1 : Int), V.i (1 : Int), V.i (0 : Int)]), pv (156 : Nat) (V.i (1 : Int)), pv (157 : Nat) (V.i (1 : Int)), pv (158 : Nat) (V.i (0 : Int)), pv (5 : Nat) (V.i (1 : Int)), pv (18 : Nat) (V.i (1 : Int)), pv (4 : Nat) (V.i (0 : Int))] (by kernel_rfl) (by kernel_rfl) True.intro ?_
  refine aops_nil ?_
  refine xt_n ?_
  refine hK _ ?_
  clear hK K
  refine aw_seq_k fun K hK => ?_
  refine w_region (n' := 15) (by kernel_rfl) (by kernel_rfl) ?_
  refine aops_n hTT (M := []) (n := 2) [pv (160 : Nat) (V.agg [V.i (30 : Int), V.i (60 : Int)]), pv (161 : Nat) (V.sl (2 : Nat) (3 : Nat) fun (i : Nat) => List.take (2 : Nat) (List.drop (i * (2 : Nat)) [V.i (-100 : Int), V.i (100 : Int), V.i (-100 : Int), V.i (90 : Int), V.i (-95 : Int), V.i (100 : Int)]))] (by kernel_rfl) (by kernel_rfl) True.intro ?_
  refine e_call (first := []) (caps := []) (AC.conv (k10_ac) (args' := [V.agg [V.i (30 : Int), V.i (60 : Int)], V.sl (2 : Nat) (3 : Nat) fun (i : Nat) => List.take (2 : Nat) (List.drop (i * (2 : Nat)) [V.i (-100 : Int), V.i (100 : Int), V.i (-100 : Int), V.i (90 : Int), V.i (-95 : Int), V.i (100 : Int)])]) ⟨RImp.refl _, ?_, trivial⟩) (by kernel_rfl) (by kernel_rfl) (by kernel_rfl) (by kernel_rfl) (by kernel_rfl) ?_
  · exact exL_imp
  refine aops_n hTT (M := []) (n := 7) [pv (159 : Nat) (V.tup [V.i (1 : Int), V.i (-1 : Int), V.i (0 : Int)]), pv (163 : Nat) (V.i (1 : Int)), pv (164 : Nat) (V.i (-1 : Int)), pv (165 : Nat) (V.i (0 : Int)), pv (19 : Nat) (V.i (1 : Int)), pv (20 : Nat) (V.i (-1 : Int)), pv (7 : Nat) (V.i (0 : Int))] (by kernel_rfl) (by kernel_rfl) True.intro ?_
  refine aops_nil ?_
  refine xt_n ?_
  refine hK _ ?_
  clear hK K
  refine aw_seq_k fun K hK => ?_
  refine w_region (n' := 16) (by kernel_rfl) (by kernel_rfl) ?_
  refine aops_n hTT (M := []) (n := 2) [pv (167 : Nat) (V.agg [V.i (25 : Int), V.i (0 : Int)]), pv (168 : Nat) (V.sl (2 : Nat) (3 : Nat) fun (i : Nat) => List.take (2 : Nat) (List.drop (i * (2 : Nat)) [V.i (-100 : Int), V.i (100 : Int), V.i (-100 : Int), V.i (90 : Int), V.i (-95 : Int), V.i (100 : Int)]))] (by kernel_rfl) (by kernel_rfl) True.intro ?_
  refine e_call (first := []) (caps := []) (AC.conv (k11_ac) (args' := [V.agg [V.i (25 : Int), V.i (0 : Int)], V.sl (2 : Nat) (3 : Nat) fun (i : Nat) => List.take (2 : Nat) (List.drop (i * (2 : Nat)) [V.i (-100 : Int), V.i (100 : Int), V.i (-100 : Int), V.i (90 : Int), V.i (-95 : Int), V.i (100 : Int)])]) ⟨RImp.refl _, ?_, trivial⟩) (by kernel_rfl) (by kernel_rfl) (by kernel_rfl) (by kernel_rfl) (by kernel_rfl) ?_
  · exact exL_imp
  refine aops_n hTT (M := []) (n := 5) [pv (166 : Nat) (V.tup [V.i (0 : Int), V.i (0 : Int), V.i (5 : Int)]), pv (170 : Nat) (V.i (0 : Int)), pv (171 : Nat) (V.i (0 : Int)), pv (172 : Nat) (V.i (5 : Int)), pv (10 : Nat) (V.i (5 : Int))] (by kernel_rfl) (by kernel_rfl) True.intro ?_
  refine aops_nil ?_
  refine xt_n ?_
  refine hK _ ?_
  clear hK K
  refine aw_seq_k fun K hK => ?_
  refine aw_seq_k fun K hK => ?_
  refine w_region (n' := 17) (by kernel_rfl) (by kernel_rfl) ?_
  refine aops_n hTT (M := []) (n := 26) [pv (173 : Nat) (V.i (0 : Int)), pv (174 : Nat) (V.b false), pv (175 : Nat) (V.b false), pc (176 : Nat) ((True ∧ True) ∧ ((false == false) = true → True)) (V.gd (false == false) (V.i (0 : Int))), pc (177 : Nat) ((((false == false) = true → (false == false) = true) ∧ True ∧ True) ∧ ((false == false) = true → True)) (V.gd (false == false) (V.b false)), pc (178 : Nat) (True ∧ (false = false → (false == false) = true)) (V.b false), pv (179 : Nat) (V.b false), pc (180 : Nat) ((True ∧ True) ∧ ((false == false) = true → True)) (V.gd (false == false) (V.i (5 : Int))), pc (181 : Nat) ((((false == false) = true → (false == false) = true) ∧ True ∧ True) ∧ ((false == false) = true → True)) (V.gd (false == false) (V.b false)), pc (182 : Nat) (True ∧ (false = false → (false == false) = true)) (V.b false), pv (183 : Nat) (V.b false), pc (184 : Nat) ((True ∧ True) ∧ ((false == false) = true → True)) (V.gd (false == false) (V.i (1 : Int))), pc (185 : Nat) ((((false == false) = true → (false == false) = true) ∧ True ∧ True) ∧ ((false == false) = true → True)) (V.gd (false == false) (V.b false)), pc (186 : Nat) (True ∧ (false = false → (false == false) = true)) (V.b false), pv (187 : Nat) (V.b false), pc (188 : Nat) ((True ∧ True) ∧ ((false == false) = true → True)) (V.gd (false == false) (V.i (1 : Int))), pc (189 : Nat) ((((false == false) = true → (false == false) = true) ∧ True ∧ True) ∧ ((false == false) = true → True)) (V.gd (false == false) (V.b false)), pc (190 : Nat) (True ∧ (false = false → (false == false) = true)) (V.b false), pv (191 : Nat) (V.b false), pc (192 : Nat) ((True ∧ True) ∧ ((false == false) = true → True)) (V.gd (false == false) (V.i (1 : Int))), pc (193 : Nat) ((((false == false) = true → (false == false) = true) ∧ True ∧ True) ∧ ((false == false) = true → True)) (V.gd (false == false) (V.b false)), pc (194 : Nat) (True ∧ (false = false → (false == false) = true)) (V.b false), pv (195 : Nat) (V.b false), pc (196 : Nat) ((True ∧ True) ∧ ((false == false) = true → True)) (V.gd (false == false) (V.i (-1 : Int))), pc (197 : Nat) ((((false == false) = true → (false == false) = true) ∧ True ∧ True) ∧ ((false == false) = true → True)) (V.gd (false == false) (V.b false)), pc (198 : Nat) (True ∧ (false = false → (false == false) = true)) (V.b false)] (by kernel_rfl) (by kernel_rfl) ⟨⟨⟨True.intro, True.intro⟩, (fun _ => True.intro)⟩, ⟨⟨(by (exact fun h => h)), ⟨True.intro, True.intro⟩⟩, (fun _ => True.intro)⟩, ⟨True.intro, (by (intro h; rw [h]; rfl))⟩, ⟨⟨True.intro, True.intro⟩, (fun _ => True.intro)⟩, ⟨⟨(by (exact fun h => h)), ⟨True.intro, True.intro⟩⟩, (fun _ => True.intro)⟩, ⟨True.intro, (by (intro h; rw [h]; rfl))⟩, ⟨⟨True.intro, True.intro⟩, (fun _ => True.intro)⟩, ⟨⟨(by (exact fun h => h)), ⟨True.intro, True.intro⟩⟩, (fun _ => True.intro)⟩, ⟨True.intro, (by (intro h; rw [h]; rfl))⟩, ⟨⟨True.intro, True.intro⟩, (fun _ => True.intro)⟩, ⟨⟨(by (exact fun h => h)), ⟨True.intro, True.intro⟩⟩, (fun _ => True.intro)⟩, ⟨True.intro, (by (intro h; rw [h]; rfl))⟩, ⟨⟨True.intro, True.intro⟩, (fun _ => True.intro)⟩, ⟨⟨(by (exact fun h => h)), ⟨True.intro, True.intro⟩⟩, (fun _ => True.intro)⟩, ⟨True.intro, (by (intro h; rw [h]; rfl))⟩, ⟨⟨True.intro, True.intro⟩, (fun _ => True.intro)⟩, ⟨⟨(by (exact fun h => h)), ⟨True.intro, True.intro⟩⟩, (fun _ => True.intro)⟩, ⟨True.intro, (by (intro h; rw [h]; rfl))⟩, True.intro⟩ ?_
  refine aops_nil ?_
  refine xt_n ?_
  refine hK _ ?_
  clear hK K
  refine w_false (t := false) (by kernel_rfl) rfl ?_
  refine aw_skip ?_
  refine xt_n ?_
  refine hK _ ?_
  clear hK K
  refine aw_seq_k fun K hK => ?_
  refine w_region (n' := 18) (by kernel_rfl) (by kernel_rfl) ?_
  refine aops_n hTT (M := []) (n := 2) [pv (199 : Nat) (V.sl (1 : Nat) (3 : Nat) fun (i : Nat) => List.take (1 : Nat) (List.drop (i * (1 : Nat)) [V.i (1000 : Int), V.i (990 : Int), V.i (980 : Int)])), pv (21 : Nat) (V.sl (1 : Nat) (3 : Nat) fun (i : Nat) => List.take (1 : Nat) (List.drop (i * (1 : Nat)) [V.i (1000 : Int), V.i (990 : Int), V.i (980 : Int)]))] (by kernel_rfl) (by kernel_rfl) True.intro ?_
  refine aops_nil ?_
  refine xt_n ?_
  refine hK _ ?_
  clear hK K
  refine aw_seq_k fun K hK => ?_
  refine w_region (n' := 19) (by kernel_rfl) (by kernel_rfl) ?_
  refine aops_n hTT (M := []) (n := 2) [pv (201 : Nat) (V.sl (2 : Nat) (3 : Nat) fun (i : Nat) => List.take (2 : Nat) (List.drop (i * (2 : Nat)) [V.i (-100 : Int), V.i (100 : Int), V.i (-100 : Int), V.i (90 : Int), V.i (-95 : Int), V.i (100 : Int)])), pv (202 : Nat) (V.sl (1 : Nat) (3 : Nat) fun (i : Nat) => List.take (1 : Nat) (List.drop (i * (1 : Nat)) [V.i (1000 : Int), V.i (990 : Int), V.i (980 : Int)]))] (by kernel_rfl) (by kernel_rfl) True.intro ?_
  refine e_call (first := []) (caps := []) (AC.conv (k12_ac) (args' := [V.sl (2 : Nat) (3 : Nat) fun (i : Nat) => List.take (2 : Nat) (List.drop (i * (2 : Nat)) [V.i (-100 : Int), V.i (100 : Int), V.i (-100 : Int), V.i (90 : Int), V.i (-95 : Int), V.i (100 : Int)]), V.sl (1 : Nat) (3 : Nat) fun (i : Nat) => List.take (1 : Nat) (List.drop (i * (1 : Nat)) [V.i (1000 : Int), V.i (990 : Int), V.i (980 : Int)]), V.i (2 : Int), V.i (0 : Int), V.i (950 : Int)]) ⟨?_, ?_, RImp.refl _, RImp.refl _, RImp.refl _, trivial⟩) (by kernel_rfl) (by kernel_rfl) (by kernel_rfl) (by kernel_rfl) (by kernel_rfl) ?_
  · exact exL_imp
  · exact kLit1 rfl (lt3 rfl rfl rfl)
  refine aops_n hTT (M := []) (n := 5) [pv (200 : Nat) (V.tup [V.i (0 : Int), V.i (0 : Int)]), pv (204 : Nat) (V.i (0 : Int)), pv (205 : Nat) (V.i (0 : Int)), pv (5 : Nat) (V.i (0 : Int)), pv (4 : Nat) (V.i (0 : Int))] (by kernel_rfl) (by kernel_rfl) True.intro ?_
  refine aops_nil ?_
  refine xt_n ?_
  refine hK _ ?_
  clear hK K
  refine aw_seq_k fun K hK => ?_
  refine w_region (n' := 20) (by kernel_rfl) (by kernel_rfl) ?_
  refine aops_n hTT (M := []) (n := 2) [pv (207 : Nat) (V.sl (2 : Nat) (3 : Nat) fun (i : Nat) => List.take (2 : Nat) (List.drop (i * (2 : Nat)) [V.i (-100 : Int), V.i (100 : Int), V.i (-100 : Int), V.i (90 : Int), V.i (-95 : Int), V.i (100 : Int)])), pv (208 : Nat) (V.sl (1 : Nat) (3 : Nat) fun (i : Nat) => List.take (1 : Nat) (List.drop (i * (1 : Nat)) [V.i (1000 : Int), V.i (990 : Int), V.i (980 : Int)]))] (by kernel_rfl) (by kernel_rfl) True.intro ?_
  refine e_call (first := []) (caps := []) (AC.conv (k13_ac) (args' := [V.sl (2 : Nat) (3 : Nat) fun (i : Nat) => List.take (2 : Nat) (List.drop (i * (2 : Nat)) [V.i (-100 : Int), V.i (100 : Int), V.i (-100 : Int), V.i (90 : Int), V.i (-95 : Int), V.i (100 : Int)]), V.sl (1 : Nat) (3 : Nat) fun (i : Nat) => List.take (1 : Nat) (List.drop (i * (1 : Nat)) [V.i (1000 : Int), V.i (990 : Int), V.i (980 : Int)]), V.i (2 : Int), V.i (0 : Int), V.i (890 : Int)]) ⟨?_, ?_, RImp.refl _, RImp.refl _, RImp.refl _, trivial⟩) (by kernel_rfl) (by kernel_rfl) (by kernel_rfl) (by kernel_rfl) (by kernel_rfl) ?_
  · exact exL_imp
  · exact kLit1 rfl (lt3 rfl rfl rfl)
  refine aops_n hTT (M := []) (n := 5) [pv (206 : Nat) (V.tup [V.i (2 : Int), V.i (0 : Int)]), pv (210 : Nat) (V.i (2 : Int)), pv (211 : Nat) (V.i (0 : Int)), pv (19 : Nat) (V.i (2 : Int)), pv (7 : Nat) (V.i (0 : Int))] (by kernel_rfl) (by kernel_rfl) True.intro ?_
  refine aops_nil ?_
  refine xt_n ?_
  refine hK _ ?_
  clear hK K
  refine aw_seq_k fun K hK => ?_
  refine w_region (n' := 21) (by kernel_rfl) (by kernel_rfl) ?_
  refine aops_n hTT (M := []) (n := 2) [pv (213 : Nat) (V.sl (2 : Nat) (3 : Nat) fun (i : Nat) => List.take (2 : Nat) (List.drop (i * (2 : Nat)) [V.i (-100 : Int), V.i (100 : Int), V.i (-100 : Int), V.i (90 : Int), V.i (-95 : Int), V.i (100 : Int)])), pv (214 : Nat) (V.sl (1 : Nat) (3 : Nat) fun (i : Nat) => List.take (1 : Nat) (List.drop (i * (1 : Nat)) [V.i (1000 : Int), V.i (990 : Int), V.i (980 : Int)]))] (by kernel_rfl) (by kernel_rfl) True.intro ?_
  refine e_call (first := []) (caps := []) (AC.conv (k14_ac) (args' := [V.sl (2 : Nat) (3 : Nat) fun (i : Nat) => List.take (2 : Nat) (List.drop (i * (2 : Nat)) [V.i (-100 : Int), V.i (100 : Int), V.i (-100 : Int), V.i (90 : Int), V.i (-95 : Int), V.i (100 : Int)]), V.sl (1 : Nat) (3 : Nat) fun (i : Nat) => List.take (1 : Nat) (List.drop (i * (1 : Nat)) [V.i (1000 : Int), V.i (990 : Int), V.i (980 : Int)]), V.i (2 : Int), V.i (0 : Int), V.i (840 : Int)]) ⟨?_, ?_, RImp.refl _, RImp.refl _, RImp.refl _, trivial⟩) (by kernel_rfl) (by kernel_rfl) (by kernel_rfl) (by kernel_rfl) (by kernel_rfl) ?_
  · exact exL_imp
  · exact kLit1 rfl (lt3 rfl rfl rfl)
  refine aops_n hTT (M := []) (n := 4) [pv (212 : Nat) (V.tup [V.i (0 : Int), V.i (5 : Int)]), pv (216 : Nat) (V.i (0 : Int)), pv (217 : Nat) (V.i (5 : Int)), pv (10 : Nat) (V.i (5 : Int))] (by kernel_rfl) (by kernel_rfl) True.intro ?_
  refine aops_nil ?_
  refine xt_n ?_
  refine hK _ ?_
  clear hK K
  refine aw_seq_k fun K hK => ?_
  refine w_region (n' := 22) (by kernel_rfl) (by kernel_rfl) ?_
  refine aops_n hTT (M := []) (n := 19) [pv (218 : Nat) (V.i (0 : Int)), pv (219 : Nat) (V.b true), pv (220 : Nat) (V.b true), pc (221 : Nat) ((True ∧ True) ∧ ((true == true) = true → True)) (V.gd (true == true) (V.i (0 : Int))), pc (222 : Nat) ((((true == true) = true → (true == true) = true) ∧ True ∧ True) ∧ ((true == true) = true → True)) (V.gd (true == true) (V.b true)), pc (223 : Nat) ((true = true → (true == true) = true) ∧ True) (V.b true), pv (224 : Nat) (V.b true), pc (225 : Nat) ((True ∧ True) ∧ ((true == true) = true → True)) (V.gd (true == true) (V.i (5 : Int))), pc (226 : Nat) ((((true == true) = true → (true == true) = true) ∧ True ∧ True) ∧ ((true == true) = true → True)) (V.gd (true == true) (V.b true)), pc (227 : Nat) ((true = true → (true == true) = true) ∧ True) (V.b true), pv (228 : Nat) (V.b true), pc (229 : Nat) ((True ∧ True) ∧ ((true == true) = true → True)) (V.gd (true == true) (V.i (0 : Int))), pc (230 : Nat) ((((true == true) = true → (true == true) = true) ∧ True ∧ True) ∧ ((true == true) = true → True)) (V.gd (true == true) (V.b true)), pc (231 : Nat) ((true = true → (true == true) = true) ∧ True) (V.b true), pv (232 : Nat) (V.b true), pc (233 : Nat) ((True ∧ True) ∧ ((true == true) = true → True)) (V.gd (true == true) (V.i (2 : Int))), pc (234 : Nat) ((((true == true) = true → (true == true) = true) ∧ True ∧ True) ∧ ((true == true) = true → True)) (V.gd (true == true) (V.b true)), pc (235 : Nat) ((true = true → (true == true) = true) ∧ True) (V.b true), pv (236 : Nat) (V.b true)] (by kernel_rfl) (by kernel_rfl) ⟨⟨⟨True.intro, True.intro⟩, (fun _ => True.intro)⟩, ⟨⟨(by (exact fun h => h)), ⟨True.intro, True.intro⟩⟩, (fun _ => True.intro)⟩, ⟨(by (exact fun h => h)), True.intro⟩, ⟨⟨True.intro, True.intro⟩, (fun _ => True.intro)⟩, ⟨⟨(by (exact fun h => h)), ⟨True.intro, True.intro⟩⟩, (fun _ => True.intro)⟩, ⟨(by (exact fun h => h)), True.intro⟩, ⟨⟨True.intro, True.intro⟩, (fun _ => True.intro)⟩, ⟨⟨(by (exact fun h => h)), ⟨True.intro, True.intro⟩⟩, (fun _ => True.intro)⟩, ⟨(by (exact fun h => h)), True.intro⟩, ⟨⟨True.intro, True.intro⟩, (fun _ => True.intro)⟩, ⟨⟨(by (exact fun h => h)), ⟨True.intro, True.intro⟩⟩, (fun _ => True.intro)⟩, ⟨(by (exact fun h => h)), True.intro⟩, True.intro⟩ ?_
  refine e_callG 0 (g := true == true) (first := []) (caps := []) (by kernel_rfl) (fun _ => works_ac) (by kernel_rfl) (by kernel_rfl) (by kernel_rfl) (by kernel_rfl) (by kernel_rfl) (by kernel_rfl) ?_
  refine aops_n hTT (M := []) (n := 2) [pc (238 : Nat) ((true = true → (true == true) = true) ∧ True) (V.b true), pv (0 : Nat) (V.b true)] (by kernel_rfl) (by kernel_rfl) ⟨⟨(by (exact fun h => h)), True.intro⟩, True.intro⟩ ?_
  refine aops_nil ?_
  refine xt_n ?_
  refine hK _ ?_
  clear hK K
  refine aw_ret ?_
  refine ret_pure (v' := V.b true) (.inr rfl) (by kernel_rfl) (by kernel_rfl) (by kernel_rfl)
def pknownSh : List Sh := []
theorem pknown_all (x : TL pknownSh) (_ : wfL pknownSh x) : AC Try.prog 18 (valL pknownSh x) (V.b true) [] := pknown_law
end Go.Proofs.Ytlfaaddoemcokaa
