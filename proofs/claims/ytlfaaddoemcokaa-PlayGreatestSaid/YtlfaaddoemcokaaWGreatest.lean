/-
  PlayGreatest: the walk of the law. No condition.
-/
import Derived.Test.YtlfaaddoemcokaaPAb24
import Derived.Test.YtlfaaddoemcokaaPC
import Derived.Test.YtlfaaddoemcokaaMC
namespace Go.Proofs.Ytlfaaddoemcokaa
open Go.Ab Go.RowKit Go.Dw Go.Shelf

def longB (n : Nat) (m : Int) : Bool := (decide (m < (n : Int)) && decide ((n : Int) ≤ 4096)) || decide ((4106 : Int) < (n : Int))
set_option maxRecDepth 100000 in
theorem long_ac (l : List Pt) (m : Int) : AC Try.prog 32 [V.pts l, .i m] (.b (longB l.length m)) [] := by
  refine ac_intro hTT hMX (fn := Try.f32) (N := _) ⟨Try.func32, rfl, Try.ntmps32, by kernel_rfl⟩ (by simp) fun C hC hF => ?_
  refine aw_seq_k fun K hK => ?_
  refine w_region (n' := 2) (by kernel_rfl) (by kernel_rfl) ?_
  refine aops_n hTT (M := []) (n := 1) [pv (4 : Nat) (V.b false)] (by kernel_rfl) (by kernel_rfl) True.intro ?_
  refine aops_nil ?_
  refine xt_n ?_
  refine hK _ ?_
  clear hK K
  refine aw_seq_k fun K hK => ?_
  refine w_region (n' := 3) (by kernel_rfl) (by kernel_rfl) ?_
  refine aops_n hTT (M := []) (n := 15) [pv (5 : Nat) (V.sl (2 : Nat) (List.length l) fun (k : Nat) => [V.i (Prod.fst (gp l k)), V.i (Prod.snd (gp l k))]), pv (6 : Nat) (V.i (↑(List.length l) : Int)), pv (7 : Nat) (V.i m), pv (8 : Nat) (V.b (decide (m < (↑(List.length l) : Int)))), pv (9 : Nat) (V.b (decide (m < (↑(List.length l) : Int)))), pc (10 : Nat) ((True ∧ True) ∧ ((decide (m < (↑(List.length l) : Int)) == true) = true → True)) (V.gd (decide (m < (↑(List.length l) : Int)) == true) (V.sl (2 : Nat) (List.length l) fun (k : Nat) => [V.i (Prod.fst (gp l k)), V.i (Prod.snd (gp l k))])), pc (11 : Nat) ((((decide (m < (↑(List.length l) : Int)) == true) = true → (decide (m < (↑(List.length l) : Int)) == true) = true) ∧ True) ∧ ((decide (m < (↑(List.length l) : Int)) == true) = true → True)) (V.gd (decide (m < (↑(List.length l) : Int)) == true) (V.i (↑(List.length l) : Int))), pc (12 : Nat) ((((decide (m < (↑(List.length l) : Int)) == true) = true → (decide (m < (↑(List.length l) : Int)) == true) = true) ∧ True ∧ True) ∧ ((decide (m < (↑(List.length l) : Int)) == true) = true → True)) (V.gd (decide (m < (↑(List.length l) : Int)) == true) (V.b (decide ((↑(List.length l) : Int) ≤ (4096 : Int))))), pc (13 : Nat) ((decide (m < (↑(List.length l) : Int)) = true → (decide (m < (↑(List.length l) : Int)) == true) = true) ∧ True) (V.b (decide (m < (↑(List.length l) : Int)) && decide ((↑(List.length l) : Int) ≤ (4096 : Int)))), pv (14 : Nat) (V.b (decide (m < (↑(List.length l) : Int)) && decide ((↑(List.length l) : Int) ≤ (4096 : Int)))), pc (15 : Nat) ((True ∧ True) ∧ (((decide (m < (↑(List.length l) : Int)) && decide ((↑(List.length l) : Int) ≤ (4096 : Int))) == false) = true → True)) (V.gd ((decide (m < (↑(List.length l) : Int)) && decide ((↑(List.length l) : Int) ≤ (4096 : Int))) == false) (V.sl (2 : Nat) (List.length l) fun (k : Nat) => [V.i (Prod.fst (gp l k)), V.i (Prod.snd (gp l k))])), pc (16 : Nat) (((((decide (m < (↑(List.length l) : Int)) && decide ((↑(List.length l) : Int) ≤ (4096 : Int))) == false) = true → ((decide (m < (↑(List.length l) : Int)) && decide ((↑(List.length l) : Int) ≤ (4096 : Int))) == false) = true) ∧ True) ∧ (((decide (m < (↑(List.length l) : Int)) && decide ((↑(List.length l) : Int) ≤ (4096 : Int))) == false) = true → True)) (V.gd ((decide (m < (↑(List.length l) : Int)) && decide ((↑(List.length l) : Int) ≤ (4096 : Int))) == false) (V.i (↑(List.length l) : Int))), pc (17 : Nat) (((((decide (m < (↑(List.length l) : Int)) && decide ((↑(List.length l) : Int) ≤ (4096 : Int))) == false) = true → ((decide (m < (↑(List.length l) : Int)) && decide ((↑(List.length l) : Int) ≤ (4096 : Int))) == false) = true) ∧ True ∧ True) ∧ (((decide (m < (↑(List.length l) : Int)) && decide ((↑(List.length l) : Int) ≤ (4096 : Int))) == false) = true → True)) (V.gd ((decide (m < (↑(List.length l) : Int)) && decide ((↑(List.length l) : Int) ≤ (4096 : Int))) == false) (V.b (decide ((4106 : Int) < (↑(List.length l) : Int))))), pc (18 : Nat) (True ∧ ((decide (m < (↑(List.length l) : Int)) && decide ((↑(List.length l) : Int) ≤ (4096 : Int))) = false → ((decide (m < (↑(List.length l) : Int)) && decide ((↑(List.length l) : Int) ≤ (4096 : Int))) == false) = true)) (V.b (decide (m < (↑(List.length l) : Int)) && decide ((↑(List.length l) : Int) ≤ (4096 : Int)) || decide ((4106 : Int) < (↑(List.length l) : Int)))), pv (4 : Nat) (V.b (decide (m < (↑(List.length l) : Int)) && decide ((↑(List.length l) : Int) ≤ (4096 : Int)) || decide ((4106 : Int) < (↑(List.length l) : Int))))] (by kernel_rfl) (by kernel_rfl) ⟨⟨⟨True.intro, True.intro⟩, (fun _ => True.intro)⟩, ⟨⟨(by (exact fun h => h)), True.intro⟩, (fun _ => True.intro)⟩, ⟨⟨(by (exact fun h => h)), ⟨True.intro, True.intro⟩⟩, (fun _ => True.intro)⟩, ⟨(by (intro h; rw [h]; rfl)), True.intro⟩, ⟨⟨True.intro, True.intro⟩, (fun _ => True.intro)⟩, ⟨⟨(by (exact fun h => h)), True.intro⟩, (fun _ => True.intro)⟩, ⟨⟨(by (exact fun h => h)), ⟨True.intro, True.intro⟩⟩, (fun _ => True.intro)⟩, ⟨True.intro, (by (intro h; rw [h]; rfl))⟩, True.intro⟩ ?_
  refine aops_nil ?_
  refine xt_n ?_
  refine hK _ ?_
  clear hK K
  refine aw_ret ?_
  refine ret_pure (v' := V.b (decide (m < (↑(List.length l) : Int)) && decide ((↑(List.length l) : Int) ≤ (4096 : Int)) || decide ((4106 : Int) < (↑(List.length l) : Int)))) (.inr rfl) (by kernel_rfl) (by kernel_rfl) (by kernel_rfl)
set_option maxRecDepth 100000 in
theorem greatest_ac (l : List Pt) (a m : Int) (hl : l.length ≤ 4611686018427387904) : AC Try.prog 15 [V.pts l, .i a, .i m] (.b true) [] := by
  refine ac_intro hTT hMX (fn := Try.f15) (N := _) ⟨Try.func15, rfl, Try.ntmps15, by kernel_rfl⟩ (by simp) fun C hC hF => ?_
  refine aw_seq_k fun K hK => ?_
  refine w_region (n' := 2) (by kernel_rfl) (by kernel_rfl) ?_
  refine aops_n hTT (M := []) (n := 1) [pv (6 : Nat) (V.b false)] (by kernel_rfl) (by kernel_rfl) True.intro ?_
  refine aops_nil ?_
  refine xt_n ?_
  refine hK _ ?_
  clear hK K
  refine aw_seq_k fun K hK => ?_
  refine aw_seq_k fun K hK => ?_
  refine w_region (n' := 3) (by kernel_rfl) (by kernel_rfl) ?_
  refine aops_n hTT (M := []) (n := 1) [pv (11 : Nat) (V.sl (2 : Nat) (List.length l) fun (k : Nat) => [V.i (Prod.fst (gp l k)), V.i (Prod.snd (gp l k))])] (by kernel_rfl) (by kernel_rfl) True.intro ?_
  refine e_call (first := []) (caps := []) (long_ac l 20) (by kernel_rfl) (by kernel_rfl) (by kernel_rfl) (by kernel_rfl) (by kernel_rfl) ?_
  refine aops_nil ?_
  refine xt_n ?_
  refine hK _ ?_
  clear hK K
  refine w_cond (t := longB (List.length l) (20 : Int)) (by kernel_rfl) (fun h => ?_) (fun h => ?_)
  · refine aw_seq_k fun K hK => ?_
    refine w_region (n' := 4) (by kernel_rfl) (by kernel_rfl) ?_
    refine e_call (first := []) (caps := []) (works_ac) (by kernel_rfl) (by kernel_rfl) (by kernel_rfl) (by kernel_rfl) (by kernel_rfl) ?_
    refine aops_n hTT (M := []) (n := 1) [pv (6 : Nat) (V.b true)] (by kernel_rfl) (by kernel_rfl) True.intro ?_
    refine aops_nil ?_
    refine xt_n ?_
    refine hK _ ?_
    clear hK K
    refine aw_ret ?_
    refine xt_r ?_
    refine ret_pure (v' := V.b true) (.inr rfl) (by kernel_rfl) (by kernel_rfl) (by kernel_rfl)
  refine aw_skip ?_
  refine xt_n ?_
  refine hK _ ?_
  clear hK K
  refine aw_seq_k fun K hK => ?_
  refine w_region (n' := 4) (by kernel_rfl) (by kernel_rfl) ?_
  refine aops_n hTT (M := []) (n := 3) [pv (15 : Nat) (V.sl (2 : Nat) (List.length l) fun (k : Nat) => [V.i (Prod.fst (gp l k)), V.i (Prod.snd (gp l k))]), pv (16 : Nat) (V.i a), pv (17 : Nat) (V.i m)] (by kernel_rfl) (by kernel_rfl) True.intro ?_
  refine e_call (first := []) (caps := []) (Greatest_ac l a m hl) (by kernel_rfl) (by kernel_rfl) (by kernel_rfl) (by kernel_rfl) (by kernel_rfl) ?_
  refine aops_n hTT (M := []) (n := 5) [pv (14 : Nat) (V.tup [V.i (greatR l a m), V.i (greatE l a m)]), pv (19 : Nat) (V.i (greatR l a m)), pv (20 : Nat) (V.i (greatE l a m)), pv (7 : Nat) (V.i (greatR l a m)), pv (8 : Nat) (V.i (greatE l a m))] (by kernel_rfl) (by kernel_rfl) True.intro ?_
  refine aops_nil ?_
  refine xt_n ?_
  refine hK _ ?_
  clear hK K
  refine aw_seq_k fun K hK => ?_
  refine w_region (n' := 5) (by kernel_rfl) (by kernel_rfl) ?_
  refine aops_n hTT (M := []) (n := 3) [pv (22 : Nat) (V.sl (2 : Nat) (List.length l) fun (k : Nat) => [V.i (Prod.fst (gp l k)), V.i (Prod.snd (gp l k))]), pv (23 : Nat) (V.i a), pv (24 : Nat) (V.i m)] (by kernel_rfl) (by kernel_rfl) True.intro ?_
  refine e_call (first := []) (caps := []) (refGreatest_ac l a m hl) (by kernel_rfl) (by kernel_rfl) (by kernel_rfl) (by kernel_rfl) (by kernel_rfl) ?_
  refine aops_n hTT (M := []) (n := 5) [pv (21 : Nat) (V.tup [V.i (greatR l a m), V.i (greatE l a m)]), pv (26 : Nat) (V.i (greatR l a m)), pv (27 : Nat) (V.i (greatE l a m)), pv (9 : Nat) (V.i (greatR l a m)), pv (10 : Nat) (V.i (greatE l a m))] (by kernel_rfl) (by kernel_rfl) True.intro ?_
  refine aops_nil ?_
  refine xt_n ?_
  refine hK _ ?_
  clear hK K
  refine aw_seq_k fun K hK => ?_
  refine w_region (n' := 6) (by kernel_rfl) (by kernel_rfl) ?_
  refine aops_n hTT (M := []) (n := 9) [pv (28 : Nat) (V.i (greatR l a m)), pv (29 : Nat) (V.i (greatR l a m)), pv (30 : Nat) (V.b (decide (greatR l a m = greatR l a m))), pv (31 : Nat) (V.b (decide (greatR l a m = greatR l a m))), pc (32 : Nat) ((True ∧ True) ∧ ((decide (greatR l a m = greatR l a m) == true) = true → True)) (V.gd (decide (greatR l a m = greatR l a m) == true) (V.i (greatE l a m))), pc (33 : Nat) ((True ∧ True) ∧ ((decide (greatR l a m = greatR l a m) == true) = true → True)) (V.gd (decide (greatR l a m = greatR l a m) == true) (V.i (greatE l a m))), pc (34 : Nat) ((((decide (greatR l a m = greatR l a m) == true) = true → (decide (greatR l a m = greatR l a m) == true) = true) ∧ ((decide (greatR l a m = greatR l a m) == true) = true → (decide (greatR l a m = greatR l a m) == true) = true) ∧ True) ∧ ((decide (greatR l a m = greatR l a m) == true) = true → True)) (V.gd (decide (greatR l a m = greatR l a m) == true) (V.b (decide (greatE l a m = greatE l a m)))), pc (35 : Nat) ((decide (greatR l a m = greatR l a m) = true → (decide (greatR l a m = greatR l a m) == true) = true) ∧ True) (V.b (decide (greatR l a m = greatR l a m) && decide (greatE l a m = greatE l a m))), pv (36 : Nat) (V.b (decide (greatR l a m = greatR l a m) && decide (greatE l a m = greatE l a m)))] (by kernel_rfl) (by kernel_rfl) ⟨⟨⟨True.intro, True.intro⟩, (fun _ => True.intro)⟩, ⟨⟨True.intro, True.intro⟩, (fun _ => True.intro)⟩, ⟨⟨(by (exact fun h => h)), ⟨(by (exact fun h => h)), True.intro⟩⟩, (fun _ => True.intro)⟩, ⟨(by (intro h; rw [h]; rfl)), True.intro⟩, True.intro⟩ ?_
  refine e_callG 0 (g := (decide (greatR l a m = greatR l a m) && decide (greatE l a m = greatE l a m)) == true) (first := []) (caps := []) (by kernel_rfl) (fun _ => works_ac) (by kernel_rfl) (by kernel_rfl) (by kernel_rfl) (by kernel_rfl) (by kernel_rfl) (by kernel_rfl) ?_
  refine aops_n hTT (M := []) (n := 2) [pc (38 : Nat) (((decide (greatR l a m = greatR l a m) && decide (greatE l a m = greatE l a m)) = true → ((decide (greatR l a m = greatR l a m) && decide (greatE l a m = greatE l a m)) == true) = true) ∧ True) (V.b (decide (greatR l a m = greatR l a m) && decide (greatE l a m = greatE l a m) && true)), pv (6 : Nat) (V.b (decide (greatR l a m = greatR l a m) && decide (greatE l a m = greatE l a m) && true))] (by kernel_rfl) (by kernel_rfl) ⟨⟨(by (intro h; rw [h]; rfl)), True.intro⟩, True.intro⟩ ?_
  refine aops_nil ?_
  refine xt_n ?_
  refine hK _ ?_
  clear hK K
  refine aw_ret ?_
  refine ret_pure (v' := V.b (decide (greatR l a m = greatR l a m) && decide (greatE l a m = greatE l a m) && true)) (.inr rfl) (by kernel_rfl) ?_ (by kernel_rfl)
  simp
def greatestSh : List Sh := [(.sl (.fld (.int .i64) (.lst (.int .i64)))), (.int .i64), (.int .i64)]
theorem greatest_all (x : TL greatestSh) (hx : wfL greatestSh x) : AC Try.prog 15 (valL greatestSh x) (V.b true) [] := by
  obtain ⟨l, a, m, _⟩ := x
  obtain ⟨⟨h1, _⟩, _⟩ := hx
  exact greatest_ac l a m h1
end Go.Proofs.Ytlfaaddoemcokaa
