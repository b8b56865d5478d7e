/-
  The chapter's few examples hold. No condition.
-/
import Derived.Test.YtblipieipldanaaFA10
namespace Go.Proofs.Ytblipieipldanaa
open Go.Ab Go.RowKit Go.Dw Go.Shelf

theorem RImp.agg {us' us : List V} (h : A2 us' us) : RImp (.agg us') (.agg us) := by
  intro w L x hx
  obtain ⟨xs, rfl, hl⟩ := hx.agg_inv
  have hv := h.rv hl.rv
  exact .agg' ⟨hv.1, fun i u x hu hx => ⟨hv.2 i u x hu hx, hl.one x (List.mem_of_getElem? hx)⟩⟩
/-- slices that are written out -/
theorem RImp.lit1 (l : List Int) : RImp (.sl 1 l.length fun i => ((l.map V.i).drop (i * 1)).take 1) (V.ints l) := by
  refine .rows rfl fun i hi => ?_
  rw [Nat.mul_one, List.drop_eq_getElem_cons (by simpa using hi)]
  simp [gi_eq hi]
theorem RImp.lit2 (l : List Pt) : RImp (.sl 2 l.length fun i => ((l.flatMap fun p => [V.i p.1, V.i p.2]).drop (i * 2)).take 2) (V.pts l) := by
  refine .rows rfl fun i hi => ?_
  have key : ∀ (l : List Pt) (i : Nat) (_ : i < l.length), ((l.flatMap fun p => [V.i p.1, V.i p.2]).drop (i * 2)).take 2 = [V.i (gp l i).1, V.i (gp l i).2] := by
    intro l
    induction l with
    | nil => intro i hi; simp at hi
    | cons p l ih =>
      intro i hi
      cases i with
      | zero => rfl
      | succ i =>
        have := ih i (by simpa using hi)
        rw [show (i + 1) * 2 = i * 2 + 2 by omega]
        simpa [gp] using this
  exact key l i hi
def cvW : Cv := ⟨[64], [128], 256⟩
set_option maxRecDepth 100000 in
theorem fWorks_ac : AC Try.prog 22 [] (.b true) [] := by
  refine ac_intro hTT hMX (fn := Try.f22) (N := _) ⟨Try.func22, rfl, Try.ntmps22, by kernel_rfl⟩ (by simp) fun C hC hF => ?_
  refine aw_seq_k fun K hK => ?_
  refine w_region (n' := 2) (by kernel_rfl) (by kernel_rfl) ?_
  refine aops_n hTT (M := []) (n := 1) [pv (0 : Nat) (V.b false)] (by kernel_rfl) (by kernel_rfl) True.intro ?_
  refine aops_nil ?_
  refine xt_n ?_
  refine hK _ ?_
  clear hK K
  refine aw_seq_k fun K hK => ?_
  refine w_region (n' := 3) (by kernel_rfl) (by kernel_rfl) ?_
  refine aops_n hTT (M := []) (n := 4) [pv (6 : Nat) (V.sl (1 : Nat) (1 : Nat) fun (i : Nat) => List.take (1 : Nat) (List.drop (i * (1 : Nat)) [V.i (64 : Int)])), pv (7 : Nat) (V.sl (1 : Nat) (1 : Nat) fun (i : Nat) => List.take (1 : Nat) (List.drop (i * (1 : Nat)) [V.i (128 : Int)])), pv (8 : Nat) (V.agg [V.sl (1 : Nat) (1 : Nat) fun (i : Nat) => List.take (1 : Nat) (List.drop (i * (1 : Nat)) [V.i (64 : Int)]), V.sl (1 : Nat) (1 : Nat) fun (i : Nat) => List.take (1 : Nat) (List.drop (i * (1 : Nat)) [V.i (128 : Int)]), V.i (256 : Int)]), pv (9 : Nat) (V.sl (1 : Nat) (4 : Nat) fun (i : Nat) => List.take (1 : Nat) (List.drop (i * (1 : Nat)) [V.i (100 : Int), V.i (0 : Int), V.i (0 : Int), V.i (-3 : Int)]))] (by kernel_rfl) (by kernel_rfl) True.intro ?_
  refine e_call (first := []) (caps := []) (AC.conv (Apply_ac cvW [100, 0, 0, -3] ⟨by decide, by decide⟩ (by decide)) (args' := [V.agg [V.sl (1 : Nat) (1 : Nat) fun (i : Nat) => List.take (1 : Nat) (List.drop (i * (1 : Nat)) [V.i (64 : Int)]), V.sl (1 : Nat) (1 : Nat) fun (i : Nat) => List.take (1 : Nat) (List.drop (i * (1 : Nat)) [V.i (128 : Int)]), V.i (256 : Int)], V.sl (1 : Nat) (4 : Nat) fun (i : Nat) => List.take (1 : Nat) (List.drop (i * (1 : Nat)) [V.i (100 : Int), V.i (0 : Int), V.i (0 : Int), V.i (-3 : Int)])]) ⟨?_, ?_, trivial⟩) (by kernel_rfl) (by kernel_rfl) (by kernel_rfl) (by kernel_rfl) (by kernel_rfl) ?_
  · exact RImp.agg ⟨RImp.lit1 [64], RImp.lit1 [128], RImp.refl _, trivial⟩
  · exact RImp.lit1 [100, 0, 0, -3]
  rw [show apR cvW false [100, 0, 0, -3] = (0, [100, 75, 37, 15]) by decide +kernel]
  refine aops_n hTT (M := []) (n := 5) [pv (5 : Nat) (V.tup [V.sl (1 : Nat) (4 : Nat) fun (k : Nat) => [V.i (gi [(100 : Int), (75 : Int), (37 : Int), (15 : Int)] k)], V.i (0 : Int)]), pv (11 : Nat) (V.sl (1 : Nat) (4 : Nat) fun (k : Nat) => [V.i (gi [(100 : Int), (75 : Int), (37 : Int), (15 : Int)] k)]), pv (12 : Nat) (V.i (0 : Int)), pv (1 : Nat) (V.sl (1 : Nat) (4 : Nat) fun (k : Nat) => [V.i (gi [(100 : Int), (75 : Int), (37 : Int), (15 : Int)] k)]), pv (2 : Nat) (V.i (0 : Int))] (by kernel_rfl) (by kernel_rfl) True.intro ?_
  refine aops_nil ?_
  refine xt_n ?_
  refine hK _ ?_
  clear hK K
  refine aw_seq_k fun K hK => ?_
  refine w_region (n' := 4) (by kernel_rfl) (by kernel_rfl) ?_
  refine aops_n hTT (M := []) (n := 4) [pv (14 : Nat) (V.agg [V.i (50 : Int), V.i (0 : Int)]), pv (15 : Nat) (V.agg [V.i (400 : Int), V.i (-100 : Int)]), pv (16 : Nat) (V.agg [V.i (0 : Int), V.i (0 : Int)]), pv (17 : Nat) (V.sl (2 : Nat) (3 : Nat) fun (i : Nat) => List.take (2 : Nat) (List.drop (i * (2 : Nat)) [V.i (50 : Int), V.i (0 : Int), V.i (400 : Int), V.i (-100 : Int), V.i (0 : Int), V.i (0 : Int)]))] (by kernel_rfl) (by kernel_rfl) True.intro ?_
  refine e_call (first := []) (caps := []) (AC.conv (Gains_ac [(50, 0), (400, -100), (0, 0)] 100 50 (by decide)) (args' := [V.sl (2 : Nat) (3 : Nat) fun (i : Nat) => List.take (2 : Nat) (List.drop (i * (2 : Nat)) [V.i (50 : Int), V.i (0 : Int), V.i (400 : Int), V.i (-100 : Int), V.i (0 : Int), V.i (0 : Int)]), V.i (100 : Int), V.i (50 : Int)]) ⟨?_, RImp.refl _, RImp.refl _, trivial⟩) (by kernel_rfl) (by kernel_rfl) (by kernel_rfl) (by kernel_rfl) (by kernel_rfl) ?_
  · exact RImp.lit2 [(50, 0), (400, -100), (0, 0)]
  rw [show gainR [(50, 0), (400, -100), (0, 0)] 100 50 = [114, 64, 114] by decide +kernel, show gainE [(50, 0), (400, -100), (0, 0)] 100 50 = 0 by decide +kernel]
  refine aops_n hTT (M := []) (n := 5) [pv (13 : Nat) (V.tup [V.sl (1 : Nat) (3 : Nat) fun (k : Nat) => [V.i (gi [(114 : Int), (64 : Int), (114 : Int)] k)], V.i (0 : Int)]), pv (19 : Nat) (V.sl (1 : Nat) (3 : Nat) fun (k : Nat) => [V.i (gi [(114 : Int), (64 : Int), (114 : Int)] k)]), pv (20 : Nat) (V.i (0 : Int)), pv (3 : Nat) (V.sl (1 : Nat) (3 : Nat) fun (k : Nat) => [V.i (gi [(114 : Int), (64 : Int), (114 : Int)] k)]), pv (4 : Nat) (V.i (0 : Int))] (by kernel_rfl) (by kernel_rfl) True.intro ?_
  refine aops_nil ?_
  refine xt_n ?_
  refine hK _ ?_
  clear hK K
  refine aw_seq_k fun K hK => ?_
  refine w_region (n' := 5) (by kernel_rfl) (by kernel_rfl) ?_
  refine aops_n hTT (M := []) (n := 7) [pv (21 : Nat) (V.i (0 : Int)), pv (22 : Nat) (V.i (0 : Int)), pc (23 : Nat) ((-9223372036854775808 : Int) ≤ (0 : Int) + (0 : Int) ∧ (0 : Int) + (0 : Int) ≤ (9223372036854775807 : Int)) (V.i (0 : Int)), pv (24 : Nat) (V.b true), pv (25 : Nat) (V.b true), pc (26 : Nat) ((True ∧ True) ∧ ((true == true) = true → True)) (V.gd (true == true) (V.sl (1 : Nat) (4 : Nat) fun (k : Nat) => [V.i (gi [(100 : Int), (75 : Int), (37 : Int), (15 : Int)] k)])), pc (27 : Nat) ((True ∧ True ∧ True ∧ True ∧ True) ∧ ((true == true) = true → True)) (V.gd (true == true) (V.sl (1 : Nat) (4 : Nat) fun (i : Nat) => List.take (1 : Nat) (List.drop (i * (1 : Nat)) [V.i (100 : Int), V.i (75 : Int), V.i (37 : Int), V.i (15 : Int)])))] (by kernel_rfl) (by kernel_rfl) ⟨(by omega), ⟨⟨True.intro, True.intro⟩, (fun _ => True.intro)⟩, ⟨⟨True.intro, ⟨True.intro, ⟨True.intro, ⟨True.intro, True.intro⟩⟩⟩⟩, (fun _ => True.intro)⟩, True.intro⟩ ?_
  refine e_callG 2 (g := true == true) (first := []) (caps := []) (by kernel_rfl) (fun _ => AC.conv (refSame_ac [100, 75, 37, 15] [100, 75, 37, 15] (by decide) (by decide)) (args' := [V.sl (1 : Nat) (4 : Nat) fun (k : Nat) => [V.i (gi [(100 : Int), (75 : Int), (37 : Int), (15 : Int)] k)], V.sl (1 : Nat) (4 : Nat) fun (i : Nat) => List.take (1 : Nat) (List.drop (i * (1 : Nat)) [V.i (100 : Int), V.i (75 : Int), V.i (37 : Int), V.i (15 : Int)])]) ⟨RImp.refl _, ?_, trivial⟩) (by kernel_rfl) (by kernel_rfl) (by kernel_rfl) (by kernel_rfl) (by kernel_rfl) (by kernel_rfl) ?_
  · exact RImp.lit1 [100, 75, 37, 15]
  refine aops_n hTT (M := []) (n := 4) [pc (29 : Nat) ((true = true → (true == true) = true) ∧ True) (V.b true), pv (30 : Nat) (V.b true), pc (31 : Nat) ((True ∧ True) ∧ ((true == true) = true → True)) (V.gd (true == true) (V.sl (1 : Nat) (3 : Nat) fun (k : Nat) => [V.i (gi [(114 : Int), (64 : Int), (114 : Int)] k)])), pc (32 : Nat) ((True ∧ True ∧ True ∧ True) ∧ ((true == true) = true → True)) (V.gd (true == true) (V.sl (1 : Nat) (3 : Nat) fun (i : Nat) => List.take (1 : Nat) (List.drop (i * (1 : Nat)) [V.i (114 : Int), V.i (64 : Int), V.i (114 : Int)])))] (by kernel_rfl) (by kernel_rfl) ⟨⟨(by (exact fun h => h)), True.intro⟩, ⟨⟨True.intro, True.intro⟩, (fun _ => True.intro)⟩, ⟨⟨True.intro, ⟨True.intro, ⟨True.intro, True.intro⟩⟩⟩, (fun _ => True.intro)⟩, True.intro⟩ ?_
  refine e_callG 2 (g := true == true) (first := []) (caps := []) (by kernel_rfl) (fun _ => AC.conv (refSame_ac [114, 64, 114] [114, 64, 114] (by decide) (by decide)) (args' := [V.sl (1 : Nat) (3 : Nat) fun (k : Nat) => [V.i (gi [(114 : Int), (64 : Int), (114 : Int)] k)], V.sl (1 : Nat) (3 : Nat) fun (i : Nat) => List.take (1 : Nat) (List.drop (i * (1 : Nat)) [V.i (114 : Int), V.i (64 : Int), V.i (114 : Int)])]) ⟨RImp.refl _, ?_, trivial⟩) (by kernel_rfl) (by kernel_rfl) (by kernel_rfl) (by kernel_rfl) (by kernel_rfl) (by kernel_rfl) ?_
  · exact RImp.lit1 [114, 64, 114]
  refine aops_n hTT (M := []) (n := 2) [pc (34 : Nat) ((true = true → (true == true) = true) ∧ True) (V.b true), pv (0 : Nat) (V.b true)] (by kernel_rfl) (by kernel_rfl) ⟨⟨(by (exact fun h => h)), True.intro⟩, True.intro⟩ ?_
  refine aops_nil ?_
  refine xt_n ?_
  refine hK _ ?_
  clear hK K
  refine aw_ret ?_
  refine ret_pure (v' := V.b true) (.inr rfl) (by kernel_rfl) (by kernel_rfl) (by kernel_rfl)
end Go.Proofs.Ytblipieipldanaa
