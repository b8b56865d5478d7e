/-
  The chapter's examples that all laws use. No condition.
-/
import Derived.Test.YtfckkkmacjjmhaaDoorSN8
namespace Go.Proofs.YtfckkkmacjjmhaaDoor
open Go.Ab Go.RowKit Go.Dw Go.Shelf

def exN : List Pan := [⟨-1, 0, 0, 310, 310⟩, ⟨0, 0, 0, 310, 310⟩, ⟨1, 1, 0, 310, 20⟩]
def exV : V := .sl 5 3 fun i => ([V.i (-1), V.i 0, V.i 0, V.i 310, V.i 310, V.i 0, V.i 0, V.i 0, V.i 310, V.i 310, V.i 1, V.i 1, V.i 0, V.i 310, V.i 20].drop (i * 5)).take 5
set_option maxRecDepth 100000 in
theorem Example_ac : AC Tryd.prog 46 [] exV [] := by
  refine ac_intro hTT hMX (fn := Tryd.f46) (N := _) ⟨Tryd.func46, rfl, Tryd.ntmps46, by kernel_rfl⟩ (by simp) fun C hC hF => ?_
  refine aw_seq_k fun K hK => ?_
  refine w_region (n' := 2) (by kernel_rfl) (by kernel_rfl) ?_
  refine aops_n hTT (M := []) (n := 1) [pv (0 : Nat) V.nil] (by kernel_rfl) (by kernel_rfl) True.intro ?_
  refine aops_nil ?_
  refine xt_n ?_
  refine hK _ ?_
  clear hK K
  refine aw_seq_k fun K hK => ?_
  refine w_region (n' := 3) (by kernel_rfl) (by kernel_rfl) ?_
  refine aops_n hTT (M := []) (n := 5) [pv (1 : Nat) (V.agg [V.i (-1 : Int), V.i (0 : Int), V.i (0 : Int), V.i (310 : Int), V.i (310 : Int)]), pv (2 : Nat) (V.agg [V.i (0 : Int), V.i (0 : Int), V.i (0 : Int), V.i (310 : Int), V.i (310 : Int)]), pv (3 : Nat) (V.agg [V.i (1 : Int), V.i (1 : Int), V.i (0 : Int), V.i (310 : Int), V.i (20 : Int)]), pv (4 : Nat) (V.sl (5 : Nat) (3 : Nat) fun (i : Nat) => List.take (5 : Nat) (List.drop (i * (5 : Nat)) [V.i (-1 : Int), V.i (0 : Int), V.i (0 : Int), V.i (310 : Int), V.i (310 : Int), V.i (0 : Int), V.i (0 : Int), V.i (0 : Int), V.i (310 : Int), V.i (310 : Int), V.i (1 : Int), V.i (1 : Int), V.i (0 : Int), V.i (310 : Int), V.i (20 : Int)])), pv (0 : Nat) (V.sl (5 : Nat) (3 : Nat) fun (i : Nat) => List.take (5 : Nat) (List.drop (i * (5 : Nat)) [V.i (-1 : Int), V.i (0 : Int), V.i (0 : Int), V.i (310 : Int), V.i (310 : Int), V.i (0 : Int), V.i (0 : Int), V.i (0 : Int), V.i (310 : Int), V.i (310 : Int), V.i (1 : Int), V.i (1 : Int), V.i (0 : Int), V.i (310 : Int), V.i (20 : Int)]))] (by kernel_rfl) (by kernel_rfl) True.intro ?_
  refine aops_nil ?_
  refine xt_n ?_
  refine hK _ ?_
  clear hK K
  refine aw_ret ?_
  refine ret_pure (v' := V.sl (5 : Nat) (3 : Nat) fun (i : Nat) => List.take (5 : Nat) (List.drop (i * (5 : Nat)) [V.i (-1 : Int), V.i (0 : Int), V.i (0 : Int), V.i (310 : Int), V.i (310 : Int), V.i (0 : Int), V.i (0 : Int), V.i (0 : Int), V.i (310 : Int), V.i (310 : Int), V.i (1 : Int), V.i (1 : Int), V.i (0 : Int), V.i (310 : Int), V.i (20 : Int)])) (.inr rfl) (by kernel_rfl) (by kernel_rfl) (by kernel_rfl)
theorem exV_imp : RImp exV (V.pans exN) := RImp.rows rfl fun i hi => by
  match i, hi with
  | 0, _ => rfl
  | 1, _ => rfl
  | 2, _ => rfl
theorem RImp_lit1 (l : List Int) : RImp (.sl 1 l.length fun i => ((l.map V.i).drop (i * 1)).take 1) (V.ints l) := RImp.rows rfl fun i hi => by
  rw [Nat.mul_one, List.drop_eq_getElem_cons (by simpa using hi)]
  simp [gi, List.getD_eq_getElem?_getD, List.getElem?_eq_getElem hi]
theorem ex_net : netE exN = 0 := by decide +kernel
theorem ex_2 : foldR exN 2 = ⟨0, 290, 310, 310, false⟩ := by rfl
theorem ex_page : pageN [1, 2] 0 1 true = 5 ∧ pageE [1, 2] 0 1 true = 0 := by decide +kernel
theorem ex_co : CO [1000, 300] := fun x hx => by simp at hx; omega
theorem ex_run : fewN [1000, 300] 8 = 167 := by
  refine fewN_eq ex_co (by decide) (by decide) ⟨by decide, by decide +kernel, fun s h1 h2 => ?_⟩
  have := plcS_mono ex_co h1 (show s ≤ 166 by omega) 2 (by decide)
  have e : plcS [1000, 300] 166 2 = 9 := by decide +kernel
  show (8 : Int) < plcS [1000, 300] s 2
  omega
theorem ex_runS : runS [1000, 300] 8 = 167 ∧ runE [1000, 300] 8 = 0 := by
  have h : chkC [1000, 300] 8 0 = 0 := by decide +kernel
  obtain ⟨e1, e2, _⟩ := runS_3 h (slots := 8) (by decide)
  exact ⟨by rw [e2, ex_run], e1⟩
set_option maxHeartbeats 2000000 in
set_option maxRecDepth 100000 in
theorem sWorks_ac : AC Tryd.prog 14 [] (.b true) [] := by
  refine ac_intro hTT hMX (fn := Tryd.f14) (N := _) ⟨Tryd.func14, rfl, Tryd.ntmps14, by kernel_rfl⟩ (by simp) fun C hC hF => ?_
  have A1 := Page_ac [1, 2] 0 1 true (by simp)
  rw [ex_page.1, ex_page.2] at A1
  have A2 := Run_ac [1000, 300] 8 (by simp)
  rw [ex_runS.1, ex_runS.2] at A2
  have A3 := Folded_ac exN (by decide)
  rw [ex_net, netN_1 ex_net] at A3
  refine aw_seq_k fun K hK => ?_
  refine w_region (n' := 2) (by kernel_rfl) (by kernel_rfl) ?_
  refine aops_n hTT (M := []) (n := 1) [pv (0 : Nat) (V.b false)] (by kernel_rfl) (by kernel_rfl) True.intro ?_
  refine aops_nil ?_
  refine xt_n ?_
  refine hK _ ?_
  clear hK K
  refine aw_seq_k fun K hK => ?_
  refine w_region (n' := 3) (by kernel_rfl) (by kernel_rfl) ?_
  refine aops_n hTT (M := []) (n := 1) [pv (9 : Nat) (V.sl (1 : Nat) (2 : Nat) fun (i : Nat) => List.take (1 : Nat) (List.drop (i * (1 : Nat)) [V.i (1 : Int), V.i (2 : Int)]))] (by kernel_rfl) (by kernel_rfl) True.intro ?_
  refine e_call (first := []) (caps := []) (AC.conv (A1) (args' := [V.sl (1 : Nat) (2 : Nat) fun (i : Nat) => List.take (1 : Nat) (List.drop (i * (1 : Nat)) [V.i (1 : Int), V.i (2 : Int)]), V.i (0 : Int), V.i (1 : Int), V.b true]) ⟨?_, RImp.refl _, RImp.refl _, RImp.refl _, trivial⟩) (by kernel_rfl) (by kernel_rfl) (by kernel_rfl) (by kernel_rfl) (by kernel_rfl) ?_
  · exact RImp_lit1 [1, 2]
  refine aops_n hTT (M := []) (n := 5) [pv (8 : Nat) (V.tup [V.i (5 : Int), V.i (0 : Int)]), pv (11 : Nat) (V.i (5 : Int)), pv (12 : Nat) (V.i (0 : Int)), pv (1 : Nat) (V.i (5 : Int)), pv (2 : Nat) (V.i (0 : Int))] (by kernel_rfl) (by kernel_rfl) True.intro ?_
  refine aops_nil ?_
  refine xt_n ?_
  refine hK _ ?_
  clear hK K
  refine aw_seq_k fun K hK => ?_
  refine w_region (n' := 4) (by kernel_rfl) (by kernel_rfl) ?_
  refine aops_n hTT (M := []) (n := 1) [pv (14 : Nat) (V.sl (1 : Nat) (2 : Nat) fun (i : Nat) => List.take (1 : Nat) (List.drop (i * (1 : Nat)) [V.i (1000 : Int), V.i (300 : Int)]))] (by kernel_rfl) (by kernel_rfl) True.intro ?_
  refine e_call (first := []) (caps := []) (AC.conv (A2) (args' := [V.sl (1 : Nat) (2 : Nat) fun (i : Nat) => List.take (1 : Nat) (List.drop (i * (1 : Nat)) [V.i (1000 : Int), V.i (300 : Int)]), V.i (8 : Int)]) ⟨?_, RImp.refl _, trivial⟩) (by kernel_rfl) (by kernel_rfl) (by kernel_rfl) (by kernel_rfl) (by kernel_rfl) ?_
  · exact RImp_lit1 [1000, 300]
  refine aops_n hTT (M := []) (n := 7) [pv (13 : Nat) (V.tup [V.i (167 : Int), V.sl (1 : Nat) (2 : Nat) fun (k : Nat) => [V.i (gi (runL [(1000 : Int), (300 : Int)] (8 : Int)) k)], V.i (0 : Int)]), pv (16 : Nat) (V.i (167 : Int)), pv (17 : Nat) (V.sl (1 : Nat) (2 : Nat) fun (k : Nat) => [V.i (gi (runL [(1000 : Int), (300 : Int)] (8 : Int)) k)]), pv (18 : Nat) (V.i (0 : Int)), pv (3 : Nat) (V.i (167 : Int)), pv (4 : Nat) (V.sl (1 : Nat) (2 : Nat) fun (k : Nat) => [V.i (gi (runL [(1000 : Int), (300 : Int)] (8 : Int)) k)]), pv (5 : Nat) (V.i (0 : Int))] (by kernel_rfl) (by kernel_rfl) True.intro ?_
  refine aops_nil ?_
  refine xt_n ?_
  refine hK _ ?_
  clear hK K
  refine aw_seq_k fun K hK => ?_
  refine w_region (n' := 5) (by kernel_rfl) (by kernel_rfl) ?_
  refine e_call (first := []) (caps := []) (Example_ac) (by kernel_rfl) (by kernel_rfl) (by kernel_rfl) (by kernel_rfl) (by kernel_rfl) ?_
  skip
  refine e_call (first := []) (caps := []) (AC.conv (A3) (args' := [V.sl (5 : Nat) (3 : Nat) fun (i : Nat) => List.take (5 : Nat) (List.drop (i * (5 : Nat)) [V.i (-1 : Int), V.i (0 : Int), V.i (0 : Int), V.i (310 : Int), V.i (310 : Int), V.i (0 : Int), V.i (0 : Int), V.i (0 : Int), V.i (310 : Int), V.i (310 : Int), V.i (1 : Int), V.i (1 : Int), V.i (0 : Int), V.i (310 : Int), V.i (20 : Int)])]) ⟨?_, trivial⟩) (by kernel_rfl) (by kernel_rfl) (by kernel_rfl) (by kernel_rfl) (by kernel_rfl) ?_
  · exact exV_imp
  refine aops_n hTT (M := []) (n := 5) [pv (19 : Nat) (V.tup [V.sl (5 : Nat) (3 : Nat) fun (k : Nat) => Rc.c (foldR exN k), V.i (0 : Int)]), pv (22 : Nat) (V.sl (5 : Nat) (3 : Nat) fun (k : Nat) => Rc.c (foldR exN k)), pv (23 : Nat) (V.i (0 : Int)), pv (6 : Nat) (V.sl (5 : Nat) (3 : Nat) fun (k : Nat) => Rc.c (foldR exN k)), pv (7 : Nat) (V.i (0 : Int))] (by kernel_rfl) (by kernel_rfl) True.intro ?_
  refine aops_nil ?_
  refine xt_n ?_
  refine hK _ ?_
  clear hK K
  refine aw_seq_k fun K hK => ?_
  refine w_region (n' := 6) (by kernel_rfl) (by kernel_rfl) ?_
  refine aops_n hTT (M := []) (n := 27) [pv (24 : Nat) (V.i (0 : Int)), pv (25 : Nat) (V.i (0 : Int)), pc (26 : Nat) ((-9223372036854775808 : Int) ≤ (0 : Int) + (0 : Int) ∧ (0 : Int) + (0 : Int) ≤ (9223372036854775807 : Int)) (V.i ((0 : Int) + (0 : Int))), pv (27 : Nat) (V.i (0 : Int)), pc (28 : Nat) ((-9223372036854775808 : Int) ≤ (0 : Int) + (0 : Int) + (0 : Int) ∧ (0 : Int) + (0 : Int) + (0 : Int) ≤ (9223372036854775807 : Int)) (V.i ((0 : Int) + (0 : Int) + (0 : Int))), pv (29 : Nat) (V.b true), pv (30 : Nat) (V.b true), pc (31 : Nat) ((True ∧ True) ∧ ((true == true) = true → True)) (V.gd (true == true) (V.i (5 : Int))), pc (32 : Nat) ((((true == true) = true → (true == true) = true) ∧ True ∧ True) ∧ ((true == true) = true → True)) (V.gd (true == true) (V.b true)), pc (33 : Nat) ((true = true → (true == true) = true) ∧ True) (V.b true), pv (34 : Nat) (V.b true), pc (35 : Nat) ((True ∧ True) ∧ ((true == true) = true → True)) (V.gd (true == true) (V.i (167 : Int))), pc (36 : Nat) ((((true == true) = true → (true == true) = true) ∧ True ∧ True) ∧ ((true == true) = true → True)) (V.gd (true == true) (V.b true)), pc (37 : Nat) ((true = true → (true == true) = true) ∧ True) (V.b true), pv (38 : Nat) (V.b true), pc (39 : Nat) ((True ∧ True) ∧ ((true == true) = true → True)) (V.gd (true == true) (V.sl (5 : Nat) (3 : Nat) fun (k : Nat) => Rc.c (foldR exN k))), pc (40 : Nat) ((((true == true) = true → (true == true) = true) ∧ True) ∧ ((true == true) = true → True)) (V.gd (true == true) (V.i (↑(3 : Nat) : Int))), pc (41 : Nat) ((((true == true) = true → (true == true) = true) ∧ True ∧ True) ∧ ((true == true) = true → True)) (V.gd (true == true) (V.b true)), pc (42 : Nat) ((true = true → (true == true) = true) ∧ True) (V.b true), pv (43 : Nat) (V.b true), pc (44 : Nat) ((True ∧ True) ∧ ((true == true) = true → True)) (V.gd (true == true) (V.sl (5 : Nat) (3 : Nat) fun (k : Nat) => Rc.c (foldR exN k))), pc (45 : Nat) ((((true == true) = true → (true == true) = true) ∧ True ∧ True) ∧ ((true == true) = true → (0 : Int) ≤ (2 : Int) ∧ (2 : Int) < (↑(3 : Nat) : Int))) (V.gd (true == true) (V.ptr [V.i (Rc.x0 (foldR exN (2 : Nat))), V.i (Rc.y0 (foldR exN (2 : Nat))), V.i (Rc.x1 (foldR exN (2 : Nat))), V.i (Rc.y1 (foldR exN (2 : Nat))), V.b (Rc.down (foldR exN (2 : Nat)))])), pc (46 : Nat) ((((true == true) = true → (true == true) = true) ∧ True) ∧ ((true == true) = true → True)) (V.gd (true == true) (V.agg [V.i (Rc.x0 (foldR exN (2 : Nat))), V.i (Rc.y0 (foldR exN (2 : Nat))), V.i (Rc.x1 (foldR exN (2 : Nat))), V.i (Rc.y1 (foldR exN (2 : Nat))), V.b (Rc.down (foldR exN (2 : Nat)))])), pc (47 : Nat) ((True ∧ True ∧ True ∧ True) ∧ ((true == true) = true → True)) (V.gd (true == true) (V.agg [V.i (0 : Int), V.i (290 : Int), V.i (310 : Int), V.i (310 : Int), V.b false])), pc (48 : Nat) ((((true == true) = true → (true == true) = true) ∧ ((true == true) = true → (true == true) = true) ∧ True) ∧ ((true == true) = true → True)) (V.gd (true == true) (V.b (Rc.down (foldR exN (2 : Nat)) == false && true))), pc (49 : Nat) ((true = true → (true == true) = true) ∧ True) (V.b (Rc.down (foldR exN (2 : Nat)) == false && true)), pv (0 : Nat) (V.b (Rc.down (foldR exN (2 : Nat)) == false && true))] (by kernel_rfl) (by kernel_rfl) ⟨(by omega), (by omega), ⟨⟨True.intro, True.intro⟩, (fun _ => True.intro)⟩, ⟨⟨(by (exact fun h => h)), ⟨True.intro, True.intro⟩⟩, (fun _ => True.intro)⟩, ⟨(by (exact fun h => h)), True.intro⟩, ⟨⟨True.intro, True.intro⟩, (fun _ => True.intro)⟩, ⟨⟨(by (exact fun h => h)), ⟨True.intro, True.intro⟩⟩, (fun _ => True.intro)⟩, ⟨(by (exact fun h => h)), True.intro⟩, ⟨⟨True.intro, True.intro⟩, (fun _ => True.intro)⟩, ⟨⟨(by (exact fun h => h)), True.intro⟩, (fun _ => True.intro)⟩, ⟨⟨(by (exact fun h => h)), ⟨True.intro, True.intro⟩⟩, (fun _ => True.intro)⟩, ⟨(by (exact fun h => h)), True.intro⟩, ⟨⟨True.intro, True.intro⟩, (fun _ => True.intro)⟩, ⟨⟨(by (exact fun h => h)), ⟨True.intro, True.intro⟩⟩, (by (intro _; simp; done))⟩, ⟨⟨(by (exact fun h => h)), True.intro⟩, (fun _ => True.intro)⟩, ⟨⟨True.intro, ⟨True.intro, ⟨True.intro, True.intro⟩⟩⟩, (fun _ => True.intro)⟩, ⟨⟨(by (exact fun h => h)), ⟨(by (exact fun h => h)), True.intro⟩⟩, (fun _ => True.intro)⟩, ⟨(by (exact fun h => h)), True.intro⟩, True.intro⟩ ?_
  refine aops_nil ?_
  refine xt_n ?_
  refine hK _ ?_
  clear hK K
  refine aw_ret ?_
  refine ret_pure (v' := V.b (Rc.down (foldR exN (2 : Nat)) == false && true)) (.inr rfl) (by kernel_rfl) (by kernel_rfl) (by kernel_rfl)
end Go.Proofs.YtfckkkmacjjmhaaDoor
