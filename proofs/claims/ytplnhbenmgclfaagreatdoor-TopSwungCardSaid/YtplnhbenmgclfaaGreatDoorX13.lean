/-
  Several texts in one: Grooves of the top's laws, and how much of one fits: the walks of the program. Conditions: told in each theorem. .. TopSwung: the walk of the law. No condition.
-/
import Derived.Test.YtplnhbenmgclfaaGreatDoorAbs42
import Derived.Test.YtplnhbenmgclfaaGreatDoorX12
import Derived.Test.YtplnhbenmgclfaaGreatDoorX07
import Derived.Test.YtplnhbenmgclfaaGreatDoorX09
import Derived.Test.YtplnhbenmgclfaaGreatDoorX04
import Derived.Test.YtplnhbenmgclfaaGreatDoorX03
import Derived.Test.YtplnhbenmgclfaaGreatDoorMC
import Derived.Test.YtplnhbenmgclfaaGreatDoorMD
import Derived.Test.YtplnhbenmgclfaaGreatDoorX01
import Derived.Test.YtplnhbenmgclfaaGreatDoorX06
namespace Go.Proofs.YtplnhbenmgclfaaGreatDoor
open Go.Ab Go.RowKit Go.Dw Go.Shelf
set_option maxRecDepth 100000 in
theorem within5_ac (x lo hi : Int) : AC Tryz.prog 74 [.i x, .i lo, .i hi] (.b (betB x lo hi)) [] := by
 refine acI hTT hMX Tryz.func74 Tryz.ntmps74 fun C hC hF => ?_
 refine sK fun K hK => wR 2 ?_; refine aX hTT 1 [] tI ?_; refine nK hK ?_; clear hK K; refine sK fun K hK => wR 3 ?_; refine aX hTT 9 [(4, .c (gA (decide (lo ≤ x) == true) True)), (5, .c (gA (decide (lo ≤ x) == true) True)), (6, .c (gC (decide (lo ≤ x) == true) True)), (7, .c ((decide (lo ≤ x) = true → (decide (lo ≤ x) == true) = true) ∧ True))] ⟨⟨⟨tI, tI⟩, (fun _ => tI)⟩, ⟨⟨tI, tI⟩, (fun _ => tI)⟩, ⟨⟨(by (exact fun h => h)), ⟨(by (exact fun h => h)), tI⟩⟩, (fun _ => tI)⟩, ⟨(by (intro h; rw [h]; rfl)), tI⟩, tI⟩ ?_; refine nK hK ?_; clear hK K
 refine aw_ret ?_
 refine rP (V.b (decide (lo ≤ x) && decide (x ≤ hi)))
set_option maxRecDepth 100000 in
theorem rCheck5_ac (b : Bl) : AC Tryz.prog 28 [b.v] (.i (blE b)) [] := by
 refine ac_intro hTT hMX (fn := Tryz.f28) (N := _) ⟨Tryz.func28, rfl, Tryz.ntmps28, kR⟩ (by simp) fun C hC hF => ?_
 refine sK fun K hK => ?_
 refine w_region (n' := 2) kR kR ?_
 refine aops_n hTT (M := []) (n := 2) [pv (1 : Nat) (V.ptr [V.i (Bl.per b), V.i (Bl.rim b), V.i (Bl.core b), V.i (Bl.land b), V.i (Bl.slow b), V.i (Bl.fast b)]), pv (2 : Nat) (V.i (0 : Int))] kR kR tI ?_
 refine aops_nil ?_
 refine xt_n ?_
 refine hK _ ?_
 clear hK K
 refine sK fun K hK => ?_
 refine sK fun K hK => ?_
 refine w_region (n' := 3) kR kR ?_
 refine aops_n hTT (M := []) (n := 2) [pv (3 : Nat) (V.ptr [V.i (Bl.per b), V.i (Bl.rim b), V.i (Bl.core b), V.i (Bl.land b), V.i (Bl.slow b), V.i (Bl.fast b)]), pv (4 : Nat) (V.i (Bl.per b))] kR kR tI ?_
 refine e_call (first := []) (caps := []) (within5_ac b.per 1 65536) kR kR kR kR kR ?_
 refine aops_n hTT (M := []) (n := 4) [pv (6 : Nat) (V.b !betB (Bl.per b) (1 : Int) (65536 : Int)), pv (7 : Nat) (V.b !betB (Bl.per b) (1 : Int) (65536 : Int)), pc (8 : Nat) ((True ∧ True) ∧ (((!betB (Bl.per b) (1 : Int) (65536 : Int)) == false) = true → True)) (V.gd ((!betB (Bl.per b) (1 : Int) (65536 : Int)) == false) (V.ptr [V.i (Bl.rim b), V.i (Bl.core b), V.i (Bl.land b), V.i (Bl.slow b), V.i (Bl.fast b)])), pc (9 : Nat) (((((!betB (Bl.per b) (1 : Int) (65536 : Int)) == false) = true → ((!betB (Bl.per b) (1 : Int) (65536 : Int)) == false) = true) ∧ True) ∧ (((!betB (Bl.per b) (1 : Int) (65536 : Int)) == false) = true → True)) (V.gd ((!betB (Bl.per b) (1 : Int) (65536 : Int)) == false) (V.i (Bl.rim b)))] kR kR ⟨⟨⟨tI, tI⟩, (fun _ => tI)⟩, ⟨⟨(by (exact fun h => h)), tI⟩, (fun _ => tI)⟩, tI⟩ ?_
 refine e_callG 1 (g := (!betB (Bl.per b) (1 : Int) (65536 : Int)) == false) (first := []) (caps := []) kR (fun h => within5_ac b.rim 0 4194304) kR kR kR kR kR kR ?_
 refine aops_n hTT (M := []) (n := 7) [pc (11 : Nat) (((((!betB (Bl.per b) (1 : Int) (65536 : Int)) == false) = true → ((!betB (Bl.per b) (1 : Int) (65536 : Int)) == false) = true) ∧ True) ∧ (((!betB (Bl.per b) (1 : Int) (65536 : Int)) == false) = true → True)) (V.gd ((!betB (Bl.per b) (1 : Int) (65536 : Int)) == false) (V.b !betB (Bl.rim b) (0 : Int) (4194304 : Int))), pc (12 : Nat) (True ∧ ((!betB (Bl.per b) (1 : Int) (65536 : Int)) = false → ((!betB (Bl.per b) (1 : Int) (65536 : Int)) == false) = true)) (V.b (!betB (Bl.per b) (1 : Int) (65536 : Int) || !betB (Bl.rim b) (0 : Int) (4194304 : Int))), pv (13 : Nat) (V.b (!betB (Bl.per b) (1 : Int) (65536 : Int) || !betB (Bl.rim b) (0 : Int) (4194304 : Int))), pc (14 : Nat) ((True ∧ True) ∧ (((!betB (Bl.per b) (1 : Int) (65536 : Int) || !betB (Bl.rim b) (0 : Int) (4194304 : Int)) == false) = true → True)) (V.gd ((!betB (Bl.per b) (1 : Int) (65536 : Int) || !betB (Bl.rim b) (0 : Int) (4194304 : Int)) == false) (V.ptr [V.i (Bl.core b), V.i (Bl.land b), V.i (Bl.slow b), V.i (Bl.fast b)])), pc (15 : Nat) (((((!betB (Bl.per b) (1 : Int) (65536 : Int) || !betB (Bl.rim b) (0 : Int) (4194304 : Int)) == false) = true → ((!betB (Bl.per b) (1 : Int) (65536 : Int) || !betB (Bl.rim b) (0 : Int) (4194304 : Int)) == false) = true) ∧ True) ∧ (((!betB (Bl.per b) (1 : Int) (65536 : Int) || !betB (Bl.rim b) (0 : Int) (4194304 : Int)) == false) = true → True)) (V.gd ((!betB (Bl.per b) (1 : Int) (65536 : Int) || !betB (Bl.rim b) (0 : Int) (4194304 : Int)) == false) (V.i (Bl.core b))), pc (16 : Nat) ((True ∧ True) ∧ (((!betB (Bl.per b) (1 : Int) (65536 : Int) || !betB (Bl.rim b) (0 : Int) (4194304 : Int)) == false) = true → True)) (V.gd ((!betB (Bl.per b) (1 : Int) (65536 : Int) || !betB (Bl.rim b) (0 : Int) (4194304 : Int)) == false) (V.ptr [V.i (Bl.rim b), V.i (Bl.core b), V.i (Bl.land b), V.i (Bl.slow b), V.i (Bl.fast b)])), pc (17 : Nat) (((((!betB (Bl.per b) (1 : Int) (65536 : Int) || !betB (Bl.rim b) (0 : Int) (4194304 : Int)) == false) = true → ((!betB (Bl.per b) (1 : Int) (65536 : Int) || !betB (Bl.rim b) (0 : Int) (4194304 : Int)) == false) = true) ∧ True) ∧ (((!betB (Bl.per b) (1 : Int) (65536 : Int) || !betB (Bl.rim b) (0 : Int) (4194304 : Int)) == false) = true → True)) (V.gd ((!betB (Bl.per b) (1 : Int) (65536 : Int) || !betB (Bl.rim b) (0 : Int) (4194304 : Int)) == false) (V.i (Bl.rim b)))] kR kR ⟨⟨⟨(by (exact fun h => h)), tI⟩, (fun _ => tI)⟩, ⟨tI, (by (intro h; rw [h]; rfl))⟩, ⟨⟨tI, tI⟩, (fun _ => tI)⟩, ⟨⟨(by (exact fun h => h)), tI⟩, (fun _ => tI)⟩, ⟨⟨tI, tI⟩, (fun _ => tI)⟩, ⟨⟨(by (exact fun h => h)), tI⟩, (fun _ => tI)⟩, tI⟩ ?_
 refine e_callG 2 (g := (!betB (Bl.per b) (1 : Int) (65536 : Int) || !betB (Bl.rim b) (0 : Int) (4194304 : Int)) == false) (first := []) (caps := []) kR (fun h => within5_ac b.core 0 b.rim) kR kR kR kR kR kR ?_
 refine aops_n hTT (M := []) (n := 5) [pc (19 : Nat) (((((!betB (Bl.per b) (1 : Int) (65536 : Int) || !betB (Bl.rim b) (0 : Int) (4194304 : Int)) == false) = true → ((!betB (Bl.per b) (1 : Int) (65536 : Int) || !betB (Bl.rim b) (0 : Int) (4194304 : Int)) == false) = true) ∧ True) ∧ (((!betB (Bl.per b) (1 : Int) (65536 : Int) || !betB (Bl.rim b) (0 : Int) (4194304 : Int)) == false) = true → True)) (V.gd ((!betB (Bl.per b) (1 : Int) (65536 : Int) || !betB (Bl.rim b) (0 : Int) (4194304 : Int)) == false) (V.b !betB (Bl.core b) (0 : Int) (Bl.rim b))), pc (20 : Nat) (True ∧ ((!betB (Bl.per b) (1 : Int) (65536 : Int) || !betB (Bl.rim b) (0 : Int) (4194304 : Int)) = false → ((!betB (Bl.per b) (1 : Int) (65536 : Int) || !betB (Bl.rim b) (0 : Int) (4194304 : Int)) == false) = true)) (V.b (!betB (Bl.per b) (1 : Int) (65536 : Int) || !betB (Bl.rim b) (0 : Int) (4194304 : Int) || !betB (Bl.core b) (0 : Int) (Bl.rim b))), pv (21 : Nat) (V.b (!betB (Bl.per b) (1 : Int) (65536 : Int) || !betB (Bl.rim b) (0 : Int) (4194304 : Int) || !betB (Bl.core b) (0 : Int) (Bl.rim b))), pc (22 : Nat) ((True ∧ True) ∧ (((!betB (Bl.per b) (1 : Int) (65536 : Int) || !betB (Bl.rim b) (0 : Int) (4194304 : Int) || !betB (Bl.core b) (0 : Int) (Bl.rim b)) == false) = true → True)) (V.gd ((!betB (Bl.per b) (1 : Int) (65536 : Int) || !betB (Bl.rim b) (0 : Int) (4194304 : Int) || !betB (Bl.core b) (0 : Int) (Bl.rim b)) == false) (V.ptr [V.i (Bl.land b), V.i (Bl.slow b), V.i (Bl.fast b)])), pc (23 : Nat) (((((!betB (Bl.per b) (1 : Int) (65536 : Int) || !betB (Bl.rim b) (0 : Int) (4194304 : Int) || !betB (Bl.core b) (0 : Int) (Bl.rim b)) == false) = true → ((!betB (Bl.per b) (1 : Int) (65536 : Int) || !betB (Bl.rim b) (0 : Int) (4194304 : Int) || !betB (Bl.core b) (0 : Int) (Bl.rim b)) == false) = true) ∧ True) ∧ (((!betB (Bl.per b) (1 : Int) (65536 : Int) || !betB (Bl.rim b) (0 : Int) (4194304 : Int) || !betB (Bl.core b) (0 : Int) (Bl.rim b)) == false) = true → True)) (V.gd ((!betB (Bl.per b) (1 : Int) (65536 : Int) || !betB (Bl.rim b) (0 : Int) (4194304 : Int) || !betB (Bl.core b) (0 : Int) (Bl.rim b)) == false) (V.i (Bl.land b)))] kR kR ⟨⟨⟨(by (exact fun h => h)), tI⟩, (fun _ => tI)⟩, ⟨tI, (by (intro h; rw [h]; rfl))⟩, ⟨⟨tI, tI⟩, (fun _ => tI)⟩, ⟨⟨(by (exact fun h => h)), tI⟩, (fun _ => tI)⟩, tI⟩ ?_
 refine e_callG 1 (g := (!betB (Bl.per b) (1 : Int) (65536 : Int) || !betB (Bl.rim b) (0 : Int) (4194304 : Int) || !betB (Bl.core b) (0 : Int) (Bl.rim b)) == false) (first := []) (caps := []) kR (fun h => within5_ac b.land 0 65536) kR kR kR kR kR kR ?_
 refine aops_n hTT (M := []) (n := 7) [pc (25 : Nat) (((((!betB (Bl.per b) (1 : Int) (65536 : Int) || !betB (Bl.rim b) (0 : Int) (4194304 : Int) || !betB (Bl.core b) (0 : Int) (Bl.rim b)) == false) = true → ((!betB (Bl.per b) (1 : Int) (65536 : Int) || !betB (Bl.rim b) (0 : Int) (4194304 : Int) || !betB (Bl.core b) (0 : Int) (Bl.rim b)) == false) = true) ∧ True) ∧ (((!betB (Bl.per b) (1 : Int) (65536 : Int) || !betB (Bl.rim b) (0 : Int) (4194304 : Int) || !betB (Bl.core b) (0 : Int) (Bl.rim b)) == false) = true → True)) (V.gd ((!betB (Bl.per b) (1 : Int) (65536 : Int) || !betB (Bl.rim b) (0 : Int) (4194304 : Int) || !betB (Bl.core b) (0 : Int) (Bl.rim b)) == false) (V.b !betB (Bl.land b) (0 : Int) (65536 : Int))), pc (26 : Nat) (True ∧ ((!betB (Bl.per b) (1 : Int) (65536 : Int) || !betB (Bl.rim b) (0 : Int) (4194304 : Int) || !betB (Bl.core b) (0 : Int) (Bl.rim b)) = false → ((!betB (Bl.per b) (1 : Int) (65536 : Int) || !betB (Bl.rim b) (0 : Int) (4194304 : Int) || !betB (Bl.core b) (0 : Int) (Bl.rim b)) == false) = true)) (V.b (!betB (Bl.per b) (1 : Int) (65536 : Int) || !betB (Bl.rim b) (0 : Int) (4194304 : Int) || !betB (Bl.core b) (0 : Int) (Bl.rim b) || !betB (Bl.land b) (0 : Int) (65536 : Int))), pv (27 : Nat) (V.b (!betB (Bl.per b) (1 : Int) (65536 : Int) || !betB (Bl.rim b) (0 : Int) (4194304 : Int) || !betB (Bl.core b) (0 : Int) (Bl.rim b) || !betB (Bl.land b) (0 : Int) (65536 : Int))), pc (28 : Nat) ((True ∧ True) ∧ (((!betB (Bl.per b) (1 : Int) (65536 : Int) || !betB (Bl.rim b) (0 : Int) (4194304 : Int) || !betB (Bl.core b) (0 : Int) (Bl.rim b) || !betB (Bl.land b) (0 : Int) (65536 : Int)) == false) = true → True)) (V.gd ((!betB (Bl.per b) (1 : Int) (65536 : Int) || !betB (Bl.rim b) (0 : Int) (4194304 : Int) || !betB (Bl.core b) (0 : Int) (Bl.rim b) || !betB (Bl.land b) (0 : Int) (65536 : Int)) == false) (V.ptr [V.i (Bl.slow b), V.i (Bl.fast b)])), pc (29 : Nat) (((((!betB (Bl.per b) (1 : Int) (65536 : Int) || !betB (Bl.rim b) (0 : Int) (4194304 : Int) || !betB (Bl.core b) (0 : Int) (Bl.rim b) || !betB (Bl.land b) (0 : Int) (65536 : Int)) == false) = true → ((!betB (Bl.per b) (1 : Int) (65536 : Int) || !betB (Bl.rim b) (0 : Int) (4194304 : Int) || !betB (Bl.core b) (0 : Int) (Bl.rim b) || !betB (Bl.land b) (0 : Int) (65536 : Int)) == false) = true) ∧ True) ∧ (((!betB (Bl.per b) (1 : Int) (65536 : Int) || !betB (Bl.rim b) (0 : Int) (4194304 : Int) || !betB (Bl.core b) (0 : Int) (Bl.rim b) || !betB (Bl.land b) (0 : Int) (65536 : Int)) == false) = true → True)) (V.gd ((!betB (Bl.per b) (1 : Int) (65536 : Int) || !betB (Bl.rim b) (0 : Int) (4194304 : Int) || !betB (Bl.core b) (0 : Int) (Bl.rim b) || !betB (Bl.land b) (0 : Int) (65536 : Int)) == false) (V.i (Bl.slow b))), pc (30 : Nat) ((True ∧ True) ∧ (((!betB (Bl.per b) (1 : Int) (65536 : Int) || !betB (Bl.rim b) (0 : Int) (4194304 : Int) || !betB (Bl.core b) (0 : Int) (Bl.rim b) || !betB (Bl.land b) (0 : Int) (65536 : Int)) == false) = true → True)) (V.gd ((!betB (Bl.per b) (1 : Int) (65536 : Int) || !betB (Bl.rim b) (0 : Int) (4194304 : Int) || !betB (Bl.core b) (0 : Int) (Bl.rim b) || !betB (Bl.land b) (0 : Int) (65536 : Int)) == false) (V.ptr [V.i (Bl.fast b)])), pc (31 : Nat) (((((!betB (Bl.per b) (1 : Int) (65536 : Int) || !betB (Bl.rim b) (0 : Int) (4194304 : Int) || !betB (Bl.core b) (0 : Int) (Bl.rim b) || !betB (Bl.land b) (0 : Int) (65536 : Int)) == false) = true → ((!betB (Bl.per b) (1 : Int) (65536 : Int) || !betB (Bl.rim b) (0 : Int) (4194304 : Int) || !betB (Bl.core b) (0 : Int) (Bl.rim b) || !betB (Bl.land b) (0 : Int) (65536 : Int)) == false) = true) ∧ True) ∧ (((!betB (Bl.per b) (1 : Int) (65536 : Int) || !betB (Bl.rim b) (0 : Int) (4194304 : Int) || !betB (Bl.core b) (0 : Int) (Bl.rim b) || !betB (Bl.land b) (0 : Int) (65536 : Int)) == false) = true → True)) (V.gd ((!betB (Bl.per b) (1 : Int) (65536 : Int) || !betB (Bl.rim b) (0 : Int) (4194304 : Int) || !betB (Bl.core b) (0 : Int) (Bl.rim b) || !betB (Bl.land b) (0 : Int) (65536 : Int)) == false) (V.i (Bl.fast b)))] kR kR ⟨⟨⟨(by (exact fun h => h)), tI⟩, (fun _ => tI)⟩, ⟨tI, (by (intro h; rw [h]; rfl))⟩, ⟨⟨tI, tI⟩, (fun _ => tI)⟩, ⟨⟨(by (exact fun h => h)), tI⟩, (fun _ => tI)⟩, ⟨⟨tI, tI⟩, (fun _ => tI)⟩, ⟨⟨(by (exact fun h => h)), tI⟩, (fun _ => tI)⟩, tI⟩ ?_
 refine e_callG 2 (g := (!betB (Bl.per b) (1 : Int) (65536 : Int) || !betB (Bl.rim b) (0 : Int) (4194304 : Int) || !betB (Bl.core b) (0 : Int) (Bl.rim b) || !betB (Bl.land b) (0 : Int) (65536 : Int)) == false) (first := []) (caps := []) kR (fun h => within5_ac b.slow 0 b.fast) kR kR kR kR kR kR ?_
 refine aops_n hTT (M := []) (n := 7) [pc (33 : Nat) (((((!betB (Bl.per b) (1 : Int) (65536 : Int) || !betB (Bl.rim b) (0 : Int) (4194304 : Int) || !betB (Bl.core b) (0 : Int) (Bl.rim b) || !betB (Bl.land b) (0 : Int) (65536 : Int)) == false) = true → ((!betB (Bl.per b) (1 : Int) (65536 : Int) || !betB (Bl.rim b) (0 : Int) (4194304 : Int) || !betB (Bl.core b) (0 : Int) (Bl.rim b) || !betB (Bl.land b) (0 : Int) (65536 : Int)) == false) = true) ∧ True) ∧ (((!betB (Bl.per b) (1 : Int) (65536 : Int) || !betB (Bl.rim b) (0 : Int) (4194304 : Int) || !betB (Bl.core b) (0 : Int) (Bl.rim b) || !betB (Bl.land b) (0 : Int) (65536 : Int)) == false) = true → True)) (V.gd ((!betB (Bl.per b) (1 : Int) (65536 : Int) || !betB (Bl.rim b) (0 : Int) (4194304 : Int) || !betB (Bl.core b) (0 : Int) (Bl.rim b) || !betB (Bl.land b) (0 : Int) (65536 : Int)) == false) (V.b !betB (Bl.slow b) (0 : Int) (Bl.fast b))), pc (34 : Nat) (True ∧ ((!betB (Bl.per b) (1 : Int) (65536 : Int) || !betB (Bl.rim b) (0 : Int) (4194304 : Int) || !betB (Bl.core b) (0 : Int) (Bl.rim b) || !betB (Bl.land b) (0 : Int) (65536 : Int)) = false → ((!betB (Bl.per b) (1 : Int) (65536 : Int) || !betB (Bl.rim b) (0 : Int) (4194304 : Int) || !betB (Bl.core b) (0 : Int) (Bl.rim b) || !betB (Bl.land b) (0 : Int) (65536 : Int)) == false) = true)) (V.b (!betB (Bl.per b) (1 : Int) (65536 : Int) || !betB (Bl.rim b) (0 : Int) (4194304 : Int) || !betB (Bl.core b) (0 : Int) (Bl.rim b) || !betB (Bl.land b) (0 : Int) (65536 : Int) || !betB (Bl.slow b) (0 : Int) (Bl.fast b))), pv (35 : Nat) (V.b (!betB (Bl.per b) (1 : Int) (65536 : Int) || !betB (Bl.rim b) (0 : Int) (4194304 : Int) || !betB (Bl.core b) (0 : Int) (Bl.rim b) || !betB (Bl.land b) (0 : Int) (65536 : Int) || !betB (Bl.slow b) (0 : Int) (Bl.fast b))), pc (36 : Nat) ((True ∧ True) ∧ (((!betB (Bl.per b) (1 : Int) (65536 : Int) || !betB (Bl.rim b) (0 : Int) (4194304 : Int) || !betB (Bl.core b) (0 : Int) (Bl.rim b) || !betB (Bl.land b) (0 : Int) (65536 : Int) || !betB (Bl.slow b) (0 : Int) (Bl.fast b)) == false) = true → True)) (V.gd ((!betB (Bl.per b) (1 : Int) (65536 : Int) || !betB (Bl.rim b) (0 : Int) (4194304 : Int) || !betB (Bl.core b) (0 : Int) (Bl.rim b) || !betB (Bl.land b) (0 : Int) (65536 : Int) || !betB (Bl.slow b) (0 : Int) (Bl.fast b)) == false) (V.ptr [V.i (Bl.fast b)])), pc (37 : Nat) (((((!betB (Bl.per b) (1 : Int) (65536 : Int) || !betB (Bl.rim b) (0 : Int) (4194304 : Int) || !betB (Bl.core b) (0 : Int) (Bl.rim b) || !betB (Bl.land b) (0 : Int) (65536 : Int) || !betB (Bl.slow b) (0 : Int) (Bl.fast b)) == false) = true → ((!betB (Bl.per b) (1 : Int) (65536 : Int) || !betB (Bl.rim b) (0 : Int) (4194304 : Int) || !betB (Bl.core b) (0 : Int) (Bl.rim b) || !betB (Bl.land b) (0 : Int) (65536 : Int) || !betB (Bl.slow b) (0 : Int) (Bl.fast b)) == false) = true) ∧ True) ∧ (((!betB (Bl.per b) (1 : Int) (65536 : Int) || !betB (Bl.rim b) (0 : Int) (4194304 : Int) || !betB (Bl.core b) (0 : Int) (Bl.rim b) || !betB (Bl.land b) (0 : Int) (65536 : Int) || !betB (Bl.slow b) (0 : Int) (Bl.fast b)) == false) = true → True)) (V.gd ((!betB (Bl.per b) (1 : Int) (65536 : Int) || !betB (Bl.rim b) (0 : Int) (4194304 : Int) || !betB (Bl.core b) (0 : Int) (Bl.rim b) || !betB (Bl.land b) (0 : Int) (65536 : Int) || !betB (Bl.slow b) (0 : Int) (Bl.fast b)) == false) (V.i (Bl.fast b))), pc (38 : Nat) (((((!betB (Bl.per b) (1 : Int) (65536 : Int) || !betB (Bl.rim b) (0 : Int) (4194304 : Int) || !betB (Bl.core b) (0 : Int) (Bl.rim b) || !betB (Bl.land b) (0 : Int) (65536 : Int) || !betB (Bl.slow b) (0 : Int) (Bl.fast b)) == false) = true → ((!betB (Bl.per b) (1 : Int) (65536 : Int) || !betB (Bl.rim b) (0 : Int) (4194304 : Int) || !betB (Bl.core b) (0 : Int) (Bl.rim b) || !betB (Bl.land b) (0 : Int) (65536 : Int) || !betB (Bl.slow b) (0 : Int) (Bl.fast b)) == false) = true) ∧ True ∧ True) ∧ (((!betB (Bl.per b) (1 : Int) (65536 : Int) || !betB (Bl.rim b) (0 : Int) (4194304 : Int) || !betB (Bl.core b) (0 : Int) (Bl.rim b) || !betB (Bl.land b) (0 : Int) (65536 : Int) || !betB (Bl.slow b) (0 : Int) (Bl.fast b)) == false) = true → True)) (V.gd ((!betB (Bl.per b) (1 : Int) (65536 : Int) || !betB (Bl.rim b) (0 : Int) (4194304 : Int) || !betB (Bl.core b) (0 : Int) (Bl.rim b) || !betB (Bl.land b) (0 : Int) (65536 : Int) || !betB (Bl.slow b) (0 : Int) (Bl.fast b)) == false) (V.b (decide ((65536 : Int) < Bl.fast b)))), pc (39 : Nat) (True ∧ ((!betB (Bl.per b) (1 : Int) (65536 : Int) || !betB (Bl.rim b) (0 : Int) (4194304 : Int) || !betB (Bl.core b) (0 : Int) (Bl.rim b) || !betB (Bl.land b) (0 : Int) (65536 : Int) || !betB (Bl.slow b) (0 : Int) (Bl.fast b)) = false → ((!betB (Bl.per b) (1 : Int) (65536 : Int) || !betB (Bl.rim b) (0 : Int) (4194304 : Int) || !betB (Bl.core b) (0 : Int) (Bl.rim b) || !betB (Bl.land b) (0 : Int) (65536 : Int) || !betB (Bl.slow b) (0 : Int) (Bl.fast b)) == false) = true)) (V.b (!betB (Bl.per b) (1 : Int) (65536 : Int) || !betB (Bl.rim b) (0 : Int) (4194304 : Int) || !betB (Bl.core b) (0 : Int) (Bl.rim b) || !betB (Bl.land b) (0 : Int) (65536 : Int) || !betB (Bl.slow b) (0 : Int) (Bl.fast b) || decide ((65536 : Int) < Bl.fast b)))] kR kR ⟨⟨⟨(by (exact fun h => h)), tI⟩, (fun _ => tI)⟩, ⟨tI, (by (intro h; rw [h]; rfl))⟩, ⟨⟨tI, tI⟩, (fun _ => tI)⟩, ⟨⟨(by (exact fun h => h)), tI⟩, (fun _ => tI)⟩, ⟨⟨(by (exact fun h => h)), ⟨tI, tI⟩⟩, (fun _ => tI)⟩, ⟨tI, (by (intro h; rw [h]; rfl))⟩, tI⟩ ?_
 refine aops_nil ?_
 refine xt_n ?_
 refine hK _ ?_
 clear hK K
 refine w_cond (t := !betB (Bl.per b) (1 : Int) (65536 : Int) || !betB (Bl.rim b) (0 : Int) (4194304 : Int) || !betB (Bl.core b) (0 : Int) (Bl.rim b) || !betB (Bl.land b) (0 : Int) (65536 : Int) || !betB (Bl.slow b) (0 : Int) (Bl.fast b) || decide ((65536 : Int) < Bl.fast b)) kR (fun c1 => ?_) (fun c1 => ?_)
 ·
  have e : blE b = 2 := blE_2 fun ⟨⟨q1, q2⟩, ⟨q3, q4⟩, ⟨q5, q6⟩, ⟨q7, q8⟩, ⟨q9, q10⟩, q11, q12⟩ => by
   simp [betB] at c1
   omega
  refine sK fun K hK => ?_
  refine w_region (n' := 4) kR kR ?_
  refine aops_n hTT (M := []) (n := 1) [pv (2 : Nat) (V.i (2 : Int))] kR kR tI ?_
  refine aops_nil ?_
  refine xt_n ?_
  refine hK _ ?_
  clear hK K
  refine aw_ret ?_
  refine xt_r ?_
  rw [e]
  refine ret_pure (v' := V.i (2 : Int)) (.inr rfl) kR kR kR
 ·
  have e : blE b = 0 := blE_ok.2 (by
   simp [betB] at c1
   unfold Bl.ok
   omega)
  refine aw_skip ?_
  refine xt_n ?_
  refine hK _ ?_
  clear hK K
  refine sK fun K hK => ?_
  refine w_region (n' := 4) kR kR ?_
  refine aops_n hTT (M := []) (n := 1) [pv (2 : Nat) (V.i (0 : Int))] kR kR tI ?_
  refine aops_nil ?_
  refine xt_n ?_
  refine hK _ ?_
  clear hK K
  refine aw_ret ?_
  rw [e]
  refine ret_pure (v' := V.i (0 : Int)) (.inr rfl) kR kR kR
theorem SOk.take {b : Bl} {l : List Pt} (h : SOk b l) (k : Nat) : SOk b (l.take k) := by
 refine ⟨h.b0, gChk_ok.2 ⟨?_, fun j hj => ?_⟩⟩
 ·
  have := h.len
  rw [List.length_take]; omega
 ·
  rw [List.length_take] at hj
  have : gp (l.take k) j = gp l j := by
   simp [gp, List.getD_eq_getElem?_getD, List.getElem?_take, show j < k by omega]
  rw [this]
  exact (gChk_ok.1 h.l0).2 j oM
end Go.Proofs.YtplnhbenmgclfaaGreatDoor

namespace Go.Proofs.YtplnhbenmgclfaaGreatDoor
open Go.Ab Go.RowKit Go.Dw Go.Shelf
theorem LCut.take {b : Bl} {l : List Pt} {g : Nat → Int} {k k' : Nat} (hk : k ≤ k') (h : LCut b (l.take k') g) : LCut b (l.take k) g := by
 refine ⟨fun v hv => ?_, fun v hv => ?_⟩
 ·
  rw [List.length_take] at hv
  have := h.1 v (by rw [List.length_take]; omega)
  rw [gp_take (show v < k' by omega)] at this
  rw [gp_take (show v < k by omega)]
  refine ⟨this.1, this.2.1, fun hp => ?_⟩
  have := this.2.2 hp
  rw [gp_take (show v - b.per.toNat < k' by omega)] at this
  rw [gp_take (show v - b.per.toNat < k by omega)]
  exact this
 ·
  rw [List.length_take] at hv
  have := h.2 v (by rw [List.length_take]; omega)
  rw [gp_take (show v < k' by omega)] at this
  rw [gp_take (show v < k by omega)]
  exact this
def Narrower (l m : List Pt) : Prop := m.length = l.length ∧ ∀ v, v < l.length → (gp l v).1 ≤ (gp m v).1 ∧ (gp m v).2 ≤ (gp l v).2
theorem Narrower.cut {b : Bl} {l m : List Pt} {g : Nat → Int} (hn : Narrower l m) (h : LCut b l g) : LCut b m g :=
 ⟨h.1.anti hn.1 (fun v hv => (hn.2 v hv).1) fun v hv => (hn.2 v hv).2, fun v hv => by
  have := h.2 v (by rw [← hn.1]; exact hv)
  have := (hn.2 v (by rw [← hn.1]; exact hv)).1
  omega⟩
theorem Narrower.take {l m : List Pt} (hn : Narrower l m) (k : Nat) : Narrower (l.take k) (m.take k) := by
 refine ⟨by rw [List.length_take, List.length_take, hn.1], fun v hv => ?_⟩
 rw [List.length_take] at hv
 rw [gp_take oM, gp_take oM]
 exact hn.2 v oM
theorem wall_gChk {c : Cut} {q : List Pt} (hc : cutE c = 0) (hs : sChk q = 0) : gChk (q.map (wallP c)) = 0 := by
 obtain ⟨h1, h2⟩ := sChk_ok.1 hs
 refine gChk_ok.2 ⟨by simpa using h1, fun k hk => ?_⟩
 rw [List.length_map] at hk
 rw [gp_map hk]
 exact wallP_gE hc (h2 k hk)
end Go.Proofs.YtplnhbenmgclfaaGreatDoor

namespace Go.Proofs.YtplnhbenmgclfaaGreatDoor
open Go.Ab Go.RowKit Go.Dw Go.Shelf
def evMu : List Nat := [42, 53, 60, 104, 110, 61, 101, 161, 174, 176, 182, 194, 203, 204, 205, 206, 207, 208, 209, 210, 218, 221, 222, 227]
def evM : ML := [(58, [21]), (162, [8]), (48, [24])]
def evLit (sz n : Nat) (cs : List V) : V := .sl sz n fun i => (cs.drop (i * sz)).take sz
def evR1 (l : List Int) : V := evLit 1 l.length (l.map V.i)
def evFl : List (Int × Int) → List V
  | [] => []
  | x :: l => .i x.1 :: .i x.2 :: evFl l
def evR2 (l : List (Int × Int)) : V := evLit 2 l.length (evFl l)
def evQ1 (l : List Int) : V := .sl 1 l.length (rowL (l.map fun x => [.i x]))
def evQ2 (l : List (Int × Int)) : V := .sl 2 l.length (rowL (l.map fun x => [.i x.1, .i x.2]))
theorem evIdf (l : List (List V)) (h : l.all V.idfL = true) (i : Nat) : V.idfL (rowL l i) = true := rowL_idf h i
def evCut : V := .agg [.i 400, .i 2000, .i 200, .i 2000, .i 1000, .i 1000, .i 100]
def evPt : List (Int × Int) := [(-400, 400), (-200, 600), (-400, 400)]
set_option maxRecDepth 100000 in
theorem ev_Cut0 : AM Tryz.prog 12 [evCut, evR2 [(0, 0), (100, 100), (0, 0)]] [] (.tup [.own 0, .i 0]) [] [.row 53 2 3 (rowL [[.i (-400), .i 400], [.i (-200), .i 600], [.i (-400), .i 400]])] := cAM' hTT hMX evM evMu kR kR
theorem ev_Cut : AC Tryz.prog 12 [evCut, evR2 [(0, 0), (100, 100), (0, 0)]] (.tup [evQ2 evPt, .i 0]) [] := AC.shut1 (ev_Cut0.ac (by decide)) rfl (fun _ _ => rfl) (evIdf _ rfl) rfl rfl
set_option maxRecDepth 100000 in
theorem ev_L : AC Tryz.prog 21 [evCut, evQ2 evPt, .i 1000] (.tup [.i 31831, .i 0]) [] := AM.ac (cAM' hTT hMX evM evMu kR kR) (by decide)
set_option maxRecDepth 100000 in
theorem ev_Ap0 : AM Tryz.prog 86 [.agg [evR1 [64], evR1 [128], .i 256], evR1 [100, 0, 0, -3]] [] (.tup [.own 0, .i 0]) [] [.row 2 1 4 (rowL [[.i 100], [.i 75], [.i 37], [.i 15]])] := cAM' hTT hMX evM evMu kR kR
theorem ev_Ap : AC Tryz.prog 86 [.agg [evR1 [64], evR1 [128], .i 256], evR1 [100, 0, 0, -3]] (.tup [evQ1 [100, 75, 37, 15], .i 0]) [] := AC.shut1 (ev_Ap0.ac (by decide)) rfl (fun _ _ => rfl) (evIdf _ rfl) rfl rfl
def evNa : ByteArray := ⟨#[97]⟩
def evTks : V := evLit 2 1 [.c (.string evNa), evR2 [(10, -10), (5, 0)]]
def evPrt : V := evLit 7 1 [.i 0, .i 0, .i 2, .i 0, .i 0, .i 0, .i 500]
set_option maxRecDepth 100000 in
theorem ev_Ren : AC Tryz.prog 17 [evTks, evPrt] (.tup [evQ2 [(5, -5), (2, 0)], .i 0]) [] := AM.ac (cAM' hTT hMX evM evMu kR kR) (by decide)
def evTrk (n : Nat) (l : List Int) : V := evLit 3 n (l.map V.i)
def evNf : ByteArray := ⟨#[102]⟩
def evFmt (l : List Int) : V := .agg (.c (.string evNf) :: l.map V.i)
set_option maxRecDepth 100000 in
theorem ev_Arr : AC Tryz.prog 125 [evFmt [1000, 400, 10, 20, 10, 30, 5], evTrk 3 [95, 20, 500, 30, 40, 800, 41, 10, 0]] (.tup [evQ1 [1, 0, 2], .i 0]) [] := AM.ac (cAM' hTT hMX evM evMu kR kR) (by decide)
set_option maxRecDepth 100000 in
theorem ev_Wid : AC Tryz.prog 35 [evFmt [1000, 400, 10, 20, 10, 30, 5], .agg [.i 95, .i 20, .i 500]] (.tup [.i 200, .i 0]) [] := AM.ac (cAM' hTT hMX evM evMu kR kR) (by decide)
end Go.Proofs.YtplnhbenmgclfaaGreatDoor

namespace Go.Proofs.YtplnhbenmgclfaaGreatDoor
open Go.Ab Go.RowKit Go.Dw Go.Shelf
set_option maxRecDepth 100000 in
theorem works03_ac : AC Tryz.prog 36 [] (.b true) [] := by
 refine acI hTT hMX Tryz.func36 Tryz.ntmps36 fun C hC hF => ?_
 refine sK fun K hK => wR 2 ?_; refine aX hTT 1 [] tI ?_; refine nK hK ?_; clear hK K; refine sK fun K hK => wR 3 ?_; refine aX hTT 3 [(1, .r (pn 1 (V.ref 200001 0) (200001 : Nat) (Ob.box 24 [V.i 0, V.i 0, V.i 0, V.i 0, V.i 0, V.i 0, V.i 0]))), (2, .r (pw ((0 : Nat) + (7 : Nat) ≤ (7 : Nat)) (200001 : Nat) (Ob.box 24 [V.i 400, V.i 2000, V.i 200, V.i 2000, V.i 1000, V.i 1000, V.i 100])))] ⟨oM, tI⟩ ?_; refine nK hK ?_; clear hK K; refine sK fun K hK => wR 4 ?_; refine aX hTT 5 [(0, .c ((0 : Nat) ≤ (7 : Nat)))] ⟨oM, tI⟩ ?_
 refine eC (ev_Cut) ?_
 refine aX hTT 5 [] tI ?_; refine nK hK ?_; clear hK K; refine sK fun K hK => wR 5 ?_; refine aX hTT 2 [(0, .c ((0 : Nat) ≤ (7 : Nat)))] ⟨oM, tI⟩ ?_
 refine eC (ev_L) ?_
 refine aX hTT 5 [] tI ?_; refine nK hK ?_; clear hK K; refine sK fun K hK => wR 6 ?_; refine aX hTT 4 [] tI ?_
 refine eC (ev_Ap) ?_
 refine aX hTT 5 [] tI ?_; refine nK hK ?_; clear hK K; refine sK fun K hK => wR 7 ?_; refine aX hTT 7 [] tI ?_
 refine eC (ev_Ren) ?_
 refine aX hTT 5 [] tI ?_; refine nK hK ?_; clear hK K; refine sK fun K hK => wR 8 ?_; refine aX hTT 54 ((3, .c (gA (true == true) True)) :: (4, .c (gD (true == true) True)) :: (5, .c ((true = true → (true == true) = true) ∧ True)) :: (7, .c (gA (true == true) True)) :: (8, .c (gD (true == true) True)) :: (9, .c ((true = true → (true == true) = true) ∧ True)) :: (11, .c (gA (true == true) True)) :: (12, .c (gD (true == true) True)) :: (13, .c ((true = true → (true == true) = true) ∧ True)) :: (15, .c (gA (true == true) True)) :: (16, .c (gB (true == true) True)) :: (17, .c (gD (true == true) True)) :: (18, .c ((true = true → (true == true) = true) ∧ True)) :: (20, .c (gA (true == true) True)) :: (21, .c (gD (true == true) ((0 : Int) ≤ (1 : Int) ∧ (1 : Int) < (↑(3 : Nat) : Int)))) :: (22, .c (gB (true == true) True)) :: (23, .c ((True ∧ True ∧ True) ∧ ((true == true) = true → True))) :: (24, .c (gC (true == true) True)) :: (25, .c ((true = true → (true == true) = true) ∧ True)) :: (27, .c (gA (true == true) True)) :: (28, .c (gD (true == true) True)) :: (29, .c ((true = true → (true == true) = true) ∧ True)) :: (31, .c (gA (true == true) True)) :: (32, .c (gB (true == true) True)) :: (33, .c (gD (true == true) True)) :: (34, .c ((true = true → (true == true) = true) ∧ True)) :: (36, .c (gA (true == true) True)) :: (37, .c (gD (true == true) ((0 : Int) ≤ (1 : Int) ∧ (1 : Int) < (↑(4 : Nat) : Int)))) :: (38, .c (gB (true == true) True)) :: (39, .c (gD (true == true) True)) :: (40, .c ((true = true → (true == true) = true) ∧ True)) :: (42, .c (gA (true == true) True)) :: (43, .c (gB (true == true) True)) :: (44, .c (gD (true == true) True)) :: (45, .c ((true = true → (true == true) = true) ∧ True)) :: (47, .c (gA (true == true) True)) :: (48, .c (gD (true == true) ((0 : Int) ≤ (0 : Int) ∧ (0 : Int) < (↑(2 : Nat) : Int)))) :: (49, .c (gB (true == true) True)) :: (50, .c ((True ∧ True ∧ True) ∧ ((true == true) = true → True))) :: (51, .c (gC (true == true) True)) :: (52, .c ((true = true → (true == true) = true) ∧ True)) :: []) ⟨⟨⟨tI, tI⟩, (fun _ => tI)⟩, ⟨⟨(by (exact fun h => h)), ⟨tI, tI⟩⟩, (fun _ => tI)⟩, ⟨(by (exact fun h => h)), tI⟩, ⟨⟨tI, tI⟩, (fun _ => tI)⟩, ⟨⟨(by (exact fun h => h)), ⟨tI, tI⟩⟩, (fun _ => tI)⟩, ⟨(by (exact fun h => h)), tI⟩, ⟨⟨tI, tI⟩, (fun _ => tI)⟩, ⟨⟨(by (exact fun h => h)), ⟨tI, tI⟩⟩, (fun _ => tI)⟩, ⟨(by (exact fun h => h)), tI⟩, ⟨⟨tI, tI⟩, (fun _ => tI)⟩, ⟨⟨(by (exact fun h => h)), tI⟩, (fun _ => tI)⟩, ⟨⟨(by (exact fun h => h)), ⟨tI, tI⟩⟩, (fun _ => tI)⟩, ⟨(by (exact fun h => h)), tI⟩, ⟨⟨tI, tI⟩, (fun _ => tI)⟩, ⟨⟨(by (exact fun h => h)), ⟨tI, tI⟩⟩, (by (intro _; simp; done))⟩, ⟨⟨(by (exact fun h => h)), tI⟩, (fun _ => tI)⟩, ⟨⟨tI, ⟨tI, tI⟩⟩, (fun _ => tI)⟩, ⟨⟨(by (exact fun h => h)), ⟨(by (exact fun h => h)), tI⟩⟩, (fun _ => tI)⟩, ⟨(by (exact fun h => h)), tI⟩, ⟨⟨tI, tI⟩, (fun _ => tI)⟩, ⟨⟨(by (exact fun h => h)), ⟨tI, tI⟩⟩, (fun _ => tI)⟩, ⟨(by (exact fun h => h)), tI⟩, ⟨⟨tI, tI⟩, (fun _ => tI)⟩, ⟨⟨(by (exact fun h => h)), tI⟩, (fun _ => tI)⟩, ⟨⟨(by (exact fun h => h)), ⟨tI, tI⟩⟩, (fun _ => tI)⟩, ⟨(by (exact fun h => h)), tI⟩, ⟨⟨tI, tI⟩, (fun _ => tI)⟩, ⟨⟨(by (exact fun h => h)), ⟨tI, tI⟩⟩, (by (intro _; simp; done))⟩, ⟨⟨(by (exact fun h => h)), tI⟩, (fun _ => tI)⟩, ⟨⟨(by (exact fun h => h)), ⟨tI, tI⟩⟩, (fun _ => tI)⟩, ⟨(by (exact fun h => h)), tI⟩, ⟨⟨tI, tI⟩, (fun _ => tI)⟩, ⟨⟨(by (exact fun h => h)), tI⟩, (fun _ => tI)⟩, ⟨⟨(by (exact fun h => h)), ⟨tI, tI⟩⟩, (fun _ => tI)⟩, ⟨(by (exact fun h => h)), tI⟩, ⟨⟨tI, tI⟩, (fun _ => tI)⟩, ⟨⟨(by (exact fun h => h)), ⟨tI, tI⟩⟩, (by (intro _; simp; done))⟩, ⟨⟨(by (exact fun h => h)), tI⟩, (fun _ => tI)⟩, ⟨⟨tI, ⟨tI, tI⟩⟩, (fun _ => tI)⟩, ⟨⟨(by (exact fun h => h)), ⟨(by (exact fun h => h)), tI⟩⟩, (fun _ => tI)⟩, ⟨(by (exact fun h => h)), tI⟩, tI⟩ ?_; refine nK hK ?_; clear hK K
 refine aw_ret ?_
 refine rP (V.b true)
end Go.Proofs.YtplnhbenmgclfaaGreatDoor

namespace Go.Proofs.YtplnhbenmgclfaaGreatDoor
open Go.Ab Go.RowKit Go.Dw Go.Shelf
set_option maxRecDepth 100000 in
theorem works04_ac : AC Tryz.prog 78 [] (.b true) [] := by
 refine acI hTT hMX Tryz.func78 Tryz.ntmps78 fun C hC hF => ?_
 refine sK fun K hK => wR 2 ?_; refine aX hTT 1 [] tI ?_; refine nK hK ?_; clear hK K; refine sK fun K hK => wR 3 ?_; refine aX hTT 3 [(1, .r (pn 1 (V.ref 200001 0) (200001 : Nat) (Ob.box 78 [V.c (Value.string (ByteArray.mk #[])), V.i 0, V.i 0, V.i 0, V.i 0, V.i 0, V.i 0, V.i 0]))), (2, .r (pw ((0 : Nat) + (8 : Nat) ≤ (8 : Nat)) (200001 : Nat) (Ob.box 78 [V.c (Value.string (ByteArray.mk #[(102 : UInt8)])), V.i 1000, V.i 400, V.i 10, V.i 20, V.i 10, V.i 30, V.i 5])))] ⟨oM, tI⟩ ?_; refine nK hK ?_; clear hK K; refine sK fun K hK => wR 4 ?_; refine aX hTT 5 [] tI ?_; refine nK hK ?_; clear hK K; refine sK fun K hK => wR 5 ?_; refine aX hTT 2 [(0, .c ((0 : Nat) ≤ (8 : Nat)))] ⟨oM, tI⟩ ?_
 refine eC (ev_Arr) ?_
 refine aX hTT 5 [] tI ?_; refine nK hK ?_; clear hK K; refine sK fun K hK => wD 6 ?_; refine aX hTT 4 [(0, .c ((0 : Nat) ≤ (8 : Nat))), (2, .c ((0 : Int) ≤ (0 : Int) ∧ (0 : Int) < (↑(3 : Nat) : Int)))] ⟨oM, oM, tI⟩ ?_
 refine eC (ev_Wid) ?_
 refine aX hTT 5 [] tI ?_; refine aops_nil ⟨kR, ?_⟩; refine xt_n (hK _ ?_); clear hK K; refine sK fun K hK => wR 7 ?_; refine aX hTT 22 [(3, .c (gA (true == true) True)), (4, .c (gD (true == true) True)), (5, .c ((true = true → (true == true) = true) ∧ True)), (7, .c (gA (true == true) True)), (8, .c (gB (true == true) True)), (9, .c (gD (true == true) True)), (10, .c ((true = true → (true == true) = true) ∧ True)), (12, .c (gA (true == true) True)), (13, .c (gD (true == true) ((0 : Int) ≤ (0 : Int) ∧ (0 : Int) < (↑(3 : Nat) : Int)))), (14, .c (gB (true == true) True)), (15, .c (gD (true == true) True)), (16, .c ((true = true → (true == true) = true) ∧ True)), (18, .c (gA (true == true) True)), (19, .c (gD (true == true) True)), (20, .c ((true = true → (true == true) = true) ∧ True))] ⟨⟨⟨tI, tI⟩, (fun _ => tI)⟩, ⟨⟨(by (exact fun h => h)), ⟨tI, tI⟩⟩, (fun _ => tI)⟩, ⟨(by (exact fun h => h)), tI⟩, ⟨⟨tI, tI⟩, (fun _ => tI)⟩, ⟨⟨(by (exact fun h => h)), tI⟩, (fun _ => tI)⟩, ⟨⟨(by (exact fun h => h)), ⟨tI, tI⟩⟩, (fun _ => tI)⟩, ⟨(by (exact fun h => h)), tI⟩, ⟨⟨tI, tI⟩, (fun _ => tI)⟩, ⟨⟨(by (exact fun h => h)), ⟨tI, tI⟩⟩, (by (intro _; simp; done))⟩, ⟨⟨(by (exact fun h => h)), tI⟩, (fun _ => tI)⟩, ⟨⟨(by (exact fun h => h)), ⟨tI, tI⟩⟩, (fun _ => tI)⟩, ⟨(by (exact fun h => h)), tI⟩, ⟨⟨tI, tI⟩, (fun _ => tI)⟩, ⟨⟨(by (exact fun h => h)), ⟨tI, tI⟩⟩, (fun _ => tI)⟩, ⟨(by (exact fun h => h)), tI⟩, tI⟩ ?_
 refine eG 0 (g := true == true) (fun _ => works03_ac) ?_
 refine aX hTT 2 [(0, .c ((true = true → (true == true) = true) ∧ True))] ⟨⟨(by (exact fun h => h)), tI⟩, tI⟩ ?_; refine nK hK ?_; clear hK K
 refine aw_ret ?_
 refine rP (V.b true)
end Go.Proofs.YtplnhbenmgclfaaGreatDoor

namespace Go.Proofs.YtplnhbenmgclfaaGreatDoor
open Go.Ab Go.RowKit Go.Dw Go.Shelf
def w6L : List Pt := [(-100, 100), (-100, 90), (-95, 100)]
theorem w6R : AC Tryz.prog 76 [.agg [V.ints [0, 2, 10]], V.pts w6L] (.tup [V.pts [(-100, 92), (-97, 90), (-95, 92)], .i 0]) [] := by
 have A := Read_ac [0, 2, 10] w6L (by decide) (by decide)
 rw [show wallsR [0, 2, 10] w6L = [(-100, 92), (-97, 90), (-95, 92)] by decide +kernel, show checkBoth [0, 2, 10] w6L = 0 by decide +kernel] at A
 exact A
theorem w6B : AC Tryz.prog 77 [V.pts w6L] (.tup [.agg [.i 0, .i 25], .i 0]) [] := by
 have A := Balance_ac w6L (by decide)
 rw [show balArm w6L = (0, 25) by decide +kernel, show checkPts w6L = 0 by decide +kernel] at A
 exact A
abbrev zzT60 : V := V.sl 2 3 fun (i : Nat) => List.take (2 : Nat) (List.drop (i * 2) [V.i (-100), V.i 100, V.i (-100), V.i 90, V.i (-95), V.i 100])
set_option maxRecDepth 100000 in
theorem works06_ac : AC Tryz.prog 31 [] (.b true) [] := by
 refine acI hTT hMX Tryz.func31 Tryz.ntmps31 fun C hC hF => ?_
 refine sK fun K hK => wR 2 ?_; refine aX hTT 1 [] tI ?_; refine nK hK ?_; clear hK K; refine sK fun K hK => wR 3 ?_; refine aX hTT 5 [] tI ?_; refine nK hK ?_; clear hK K; refine sK fun K hK => wR 4 ?_; refine aX hTT 3 [] tI ?_
 refine eC (AC.conv (w6R) (args' := [V.agg [V.sl 1 3 fun (i : Nat) => List.take (1 : Nat) (List.drop (i * 1) [V.i 0, V.i 2, V.i 10])], zzT60]) ⟨?_, ?_, trivial⟩) ?_
 ·
  exact RImp.aggs ⟨RImp.rows rfl fun i hi => by
   have hi : i < 3 := hi
   rcases (by omega : i = 0 ∨ i = 1 ∨ i = 2) with rfl | rfl | rfl <;> rfl, trivial⟩
 ·
  exact RImp.rows rfl fun i hi => by
   have hi : i < 3 := hi
   rcases (by omega : i = 0 ∨ i = 1 ∨ i = 2) with rfl | rfl | rfl <;> rfl
 refine aX hTT 5 [] tI ?_; refine nK hK ?_; clear hK K; refine sK fun K hK => wR 5 ?_; refine aX hTT 1 [] tI ?_
 refine eC (AC.conv (w6B) (args' := [zzT60]) ⟨?_, trivial⟩) ?_
 ·
  exact RImp.rows rfl fun i hi => by
   have hi : i < 3 := hi
   rcases (by omega : i = 0 ∨ i = 1 ∨ i = 2) with rfl | rfl | rfl <;> rfl
 refine aX hTT 6 [(3, .r (pn 4 (V.ref 400004 0) (400004 : Nat) (Ob.box 181 [V.i 0, V.i 0]))), (4, .r (pw ((0 : Nat) + (2 : Nat) ≤ (2 : Nat)) (400004 : Nat) (Ob.box 181 [V.i 0, V.i 25])))] ⟨oM, tI⟩ ?_; refine nK hK ?_; clear hK K; refine sK fun K hK => wR 6 ?_; refine aX hTT 24 [(3, .c (gA (true == true) True)), (4, .c (gD (true == true) True)), (5, .c ((true = true → (true == true) = true) ∧ True)), (7, .c (gA (true == true) True)), (8, .c (gB (true == true) True)), (9, .c (gD (true == true) True)), (10, .c ((true = true → (true == true) = true) ∧ True)), (12, .c (gA (true == true) True)), (13, .c (gD (true == true) ((0 : Int) ≤ (1 : Int) ∧ (1 : Int) < (↑(3 : Nat) : Int)))), (14, .c (gB (true == true) True)), (15, .c ((True ∧ True ∧ True) ∧ ((true == true) = true → True))), (16, .c (gC (true == true) True)), (17, .c ((true = true → (true == true) = true) ∧ True)), (19, .c (gA (true == true) ((0 : Nat) ≤ (2 : Nat)))), (20, .c (gA (true == true) True)), (21, .c (gC (true == true) True)), (22, .c ((true = true → (true == true) = true) ∧ True))] ⟨⟨⟨tI, tI⟩, (fun _ => tI)⟩, ⟨⟨(by (exact fun h => h)), ⟨tI, tI⟩⟩, (fun _ => tI)⟩, ⟨(by (exact fun h => h)), tI⟩, ⟨⟨tI, tI⟩, (fun _ => tI)⟩, ⟨⟨(by (exact fun h => h)), tI⟩, (fun _ => tI)⟩, ⟨⟨(by (exact fun h => h)), ⟨tI, tI⟩⟩, (fun _ => tI)⟩, ⟨(by (exact fun h => h)), tI⟩, ⟨⟨tI, tI⟩, (fun _ => tI)⟩, ⟨⟨(by (exact fun h => h)), ⟨tI, tI⟩⟩, (by (intro _; simp; done))⟩, ⟨⟨(by (exact fun h => h)), tI⟩, (fun _ => tI)⟩, ⟨⟨tI, ⟨tI, tI⟩⟩, (fun _ => tI)⟩, ⟨⟨(by (exact fun h => h)), ⟨(by (exact fun h => h)), tI⟩⟩, (fun _ => tI)⟩, ⟨(by (exact fun h => h)), tI⟩, ⟨⟨tI, tI⟩, (by (intro _; simp; done))⟩, ⟨⟨tI, tI⟩, (fun _ => tI)⟩, ⟨⟨(by (exact fun h => h)), ⟨(by (exact fun h => h)), tI⟩⟩, (fun _ => tI)⟩, ⟨(by (exact fun h => h)), tI⟩, tI⟩ ?_
 refine eG 0 (g := true == true) (fun _ => works04_ac) ?_
 refine aX hTT 2 [(0, .c ((true = true → (true == true) = true) ∧ True))] ⟨⟨(by (exact fun h => h)), tI⟩, tI⟩ ?_; refine nK hK ?_; clear hK K
 refine aw_ret ?_
 refine rP (V.b true)
end Go.Proofs.YtplnhbenmgclfaaGreatDoor

namespace Go.Proofs.YtplnhbenmgclfaaGreatDoor
open Go.Ab Go.RowKit Go.Dw Go.Shelf
theorem wf_ptsT {l : List Pt} (h : ∀ x ∈ l, Sh.wf (.fld (.int .i64) (.lst (.int .i64))) x) : ∀ k, k < l.length → inR2 (gp l k) := fun k hk => by
 have : gp l k = l[k] := by simp [gp, List.getD_eq_getElem?_getD, List.getElem?_eq_getElem hk]
 rw [this]
 obtain ⟨h1, h2⟩ := h _ (List.getElem_mem hk)
 have q1 := wf_i64 h1
 have q2 := wf_i64 h2
 exact ⟨by simp only [inR]; omega, by simp only [inR]; omega⟩
theorem wf_u32T {x : Int} (h : (Lit.int .u32 x).wf = true) : 0 ≤ x ∧ x ≤ 4294967295 := by
 simp [Lit.wf, IntKind.min, IntKind.max, IntKind.signed, IntKind.bits] at h; omega
end Go.Proofs.YtplnhbenmgclfaaGreatDoor

namespace Go.Proofs.YtplnhbenmgclfaaGreatDoor
open Go.Ab Go.RowKit Go.Dw Go.Shelf
theorem ceil_mono {x y z : Int} (hx : 0 ≤ x) (hz : 0 < z) (h : z ≤ y) : (x + y - 1).tdiv y ≤ (x + z - 1).tdiv z := by
 rw [Int.tdiv_eq_ediv_of_nonneg oM, Int.tdiv_eq_ediv_of_nonneg oM]
 have h1 : 0 ≤ (x + z - 1) / z := Int.ediv_nonneg oM oM
 have h2 : x + z - 1 < ((x + z - 1) / z + 1) * z := Int.lt_ediv_add_one_mul_self _ hz
 generalize (x + z - 1) / z = q at h1 h2
 have h3 : (q + 1) * z = q * z + z := by rw [Int.add_mul, Int.one_mul]
 have h4 : q * z ≤ q * y := Int.mul_le_mul_of_nonneg_left h h1
 have h5 : (q + 1) * y = q * y + y := by rw [Int.add_mul, Int.one_mul]
 have := Int.ediv_lt_of_lt_mul (a := x + y - 1) (b := q + 1) (c := y) oM oM
 omega
theorem wow_two {d i o per : Int} (hd : 0 ≤ d ∧ d ≤ 4194304) (hi : 1 ≤ i) (hio : i ≤ o) (ho : o ≤ 4194304) (hp : 1 ≤ per ∧ per ≤ 65536) :
  ((wowI d i per).2 = 14 ∧ ((wowI d o per).2 = 0 ∨ (wowI d o per).2 = 14)) ∨ ((wowI d i per).2 = 0 ∧ (wowI d o per).2 = 0 ∧ (wowI d o per).1 ≤ (wowI d i per).1 ∧ 0 ≤ (wowI d o per).1 ∧ (wowI d i per).1 ≤ 256) := by
 have hx : 0 ≤ d * 113 * per := Int.mul_nonneg oM oM
 have hc := ceil_mono (x := d * 113 * per) (y := 710 * o) (z := 710 * i) hx oM oM
 have hn : 0 ≤ (d * 113 * per + 710 * o - 1).tdiv (710 * o) := by
  rw [Int.tdiv_eq_ediv_of_nonneg oM]
  exact Int.ediv_nonneg oM oM
 simp only [wowI]
 have ho0 : ¬ o = 0 := by omega
 have hi0 : ¬ i = 0 := by omega
 have g1 : ¬ (d < 0 ∨ 4194304 < d ∨ i < 0 ∨ 4194304 < i ∨ per < 1 ∨ 65536 < per) := by omega
 have g2 : ¬ (d < 0 ∨ 4194304 < d ∨ o < 0 ∨ 4194304 < o ∨ per < 1 ∨ 65536 < per) := by omega
 rw [if_neg g1, if_neg g2]
 generalize (d * 113 * per + 710 * o - 1).tdiv (710 * o) = x at hc hn ⊢
 generalize (d * 113 * per + 710 * i - 1).tdiv (710 * i) = y at hc ⊢
 by_cases h1 : 256 < y
 ·
  by_cases h2 : 256 < x <;> simp [h1, h2, ho0, hi0]
 ·
  have h2 : ¬ 256 < x := by omega
  simp [h1, h2, ho0, hi0]
  omega
theorem blunt_self (t : List Int) : bluntB t t = true := bluntB_iff.2 ⟨by simp, fun k hk => by simp⟩
theorem lout_desc {b : Bl} {l : List Pt} {o : List Int} (hb : b.ok) (h : LOut b l o) : ∀ k, k + 1 < l.length → gi o (k + 1) ≤ gi o k := fun k hk => by
 have := ((h.2.1.1 (k + 1) hk).2.1 oM).1
 have h5 := hb.2.2.2.2.2.1
 rw [Nat.add_sub_cancel] at this
 omega
theorem desc_first {o : List Int} {n : Nat} (h : ∀ k, k + 1 < n → gi o (k + 1) ≤ gi o k) : ∀ k, k < n → gi o k ≤ gi o 0
 | 0, _ => Int.le_refl _
 | k + 1, hk => Int.le_trans (h k hk) (desc_first h k oM)
def swH (t : List Int) (l : List Pt) (r k : Nat) : Hd := hearAt (readP t l) (readP t l) l.length r k
set_option maxRecDepth 100000 in
theorem swung_law (p : List Pt) (c : Cut) (b : Bl) (t : List Int) (off : Int) (hl : p.length ≤ 4611686018427387904) (hr : ∀ k, k < p.length → inR2 (gp p k)) (ht : t.length ≤ 4611686018427387904) (hw : 0 ≤ off ∧ off ≤ 4294967295) : AC Tryz.prog 8 [V.pts p, c.v, b.v, .agg [V.ints t], .c (.int .u32 off)] (.b true) [] := by
 refine acI hTT hMX Tryz.func8 Tryz.ntmps8 fun C hC hF => ?_
 refine sK fun K hK => wR 2 ?_; refine aX hTT 4 [] tI ?_; refine nK hK ?_; clear hK K; refine sK fun K hK => ?_; refine sK fun K hK => wR 3 ?_; refine aX hTT 10 [(4, .c (gA (decide ((↑(List.length p) : Int) = 0) == false) True)), (5, .c (gB (decide ((↑(List.length p) : Int) = 0) == false) True)), (6, .c (gD (decide ((↑(List.length p) : Int) = 0) == false) True)), (7, .c (True ∧ (decide ((↑(List.length p) : Int) = 0) = false → (decide ((↑(List.length p) : Int) = 0) == false) = true))), (9, .c (gA ((decide ((↑(List.length p) : Int) = 0) || decide ((40 : Int) < (↑(List.length p) : Int))) == false) True))] ⟨⟨⟨tI, tI⟩, (fun _ => tI)⟩, ⟨⟨(by (exact fun h => h)), tI⟩, (fun _ => tI)⟩, ⟨⟨(by (exact fun h => h)), ⟨tI, tI⟩⟩, (fun _ => tI)⟩, ⟨tI, (by (intro h; rw [h]; rfl))⟩, ⟨⟨tI, tI⟩, (fun _ => tI)⟩, tI⟩ ?_
 refine eG 1 (g := (decide ((↑(List.length p) : Int) = 0) || decide ((40 : Int) < (↑(List.length p) : Int))) == false) (fun h => refCheck_ac c) ?_
 refine aX hTT 4 [(0, .c (gD ((decide ((↑(List.length p) : Int) = 0) || decide ((40 : Int) < (↑(List.length p) : Int))) == false) True)), (1, .c (True ∧ ((decide ((↑(List.length p) : Int) = 0) || decide ((40 : Int) < (↑(List.length p) : Int))) = false → ((decide ((↑(List.length p) : Int) = 0) || decide ((40 : Int) < (↑(List.length p) : Int))) == false) = true))), (3, .c (gA ((decide ((↑(List.length p) : Int) = 0) || decide ((40 : Int) < (↑(List.length p) : Int)) || !decide (cutE c = 0)) == false) True))] ⟨⟨⟨(by (exact fun h => h)), ⟨tI, tI⟩⟩, (fun _ => tI)⟩, ⟨tI, (by (intro h; rw [h]; rfl))⟩, ⟨⟨tI, tI⟩, (fun _ => tI)⟩, tI⟩ ?_
 refine eG 1 (g := (decide ((↑(List.length p) : Int) = 0) || decide ((40 : Int) < (↑(List.length p) : Int)) || !decide (cutE c = 0)) == false) (fun h => rCheckSamples_ac p hl hr) ?_
 refine aX hTT 4 [(0, .c (gD ((decide ((↑(List.length p) : Int) = 0) || decide ((40 : Int) < (↑(List.length p) : Int)) || !decide (cutE c = 0)) == false) True)), (1, .c (True ∧ ((decide ((↑(List.length p) : Int) = 0) || decide ((40 : Int) < (↑(List.length p) : Int)) || !decide (cutE c = 0)) = false → ((decide ((↑(List.length p) : Int) = 0) || decide ((40 : Int) < (↑(List.length p) : Int)) || !decide (cutE c = 0)) == false) = true))), (3, .c (gA ((decide ((↑(List.length p) : Int) = 0) || decide ((40 : Int) < (↑(List.length p) : Int)) || !decide (cutE c = 0) || !decide (sChk p = 0)) == false) True))] ⟨⟨⟨(by (exact fun h => h)), ⟨tI, tI⟩⟩, (fun _ => tI)⟩, ⟨tI, (by (intro h; rw [h]; rfl))⟩, ⟨⟨tI, tI⟩, (fun _ => tI)⟩, tI⟩ ?_
 refine eG 1 (g := (decide ((↑(List.length p) : Int) = 0) || decide ((40 : Int) < (↑(List.length p) : Int)) || !decide (cutE c = 0) || !decide (sChk p = 0)) == false) (fun h => rCheck5_ac b) ?_
 refine aX hTT 4 [(0, .c (gD ((decide ((↑(List.length p) : Int) = 0) || decide ((40 : Int) < (↑(List.length p) : Int)) || !decide (cutE c = 0) || !decide (sChk p = 0)) == false) True)), (1, .c (True ∧ ((decide ((↑(List.length p) : Int) = 0) || decide ((40 : Int) < (↑(List.length p) : Int)) || !decide (cutE c = 0) || !decide (sChk p = 0)) = false → ((decide ((↑(List.length p) : Int) = 0) || decide ((40 : Int) < (↑(List.length p) : Int)) || !decide (cutE c = 0) || !decide (sChk p = 0)) == false) = true))), (3, .c (gA ((decide ((↑(List.length p) : Int) = 0) || decide ((40 : Int) < (↑(List.length p) : Int)) || !decide (cutE c = 0) || !decide (sChk p = 0) || !decide (blE b = 0)) == false) True))] ⟨⟨⟨(by (exact fun h => h)), ⟨tI, tI⟩⟩, (fun _ => tI)⟩, ⟨tI, (by (intro h; rw [h]; rfl))⟩, ⟨⟨tI, tI⟩, (fun _ => tI)⟩, tI⟩ ?_
 refine eG 1 (g := (decide ((↑(List.length p) : Int) = 0) || decide ((40 : Int) < (↑(List.length p) : Int)) || !decide (cutE c = 0) || !decide (sChk p = 0) || !decide (blE b = 0)) == false) (fun h => refCheckTip_ac t ht) ?_
 refine aX hTT 2 [(0, .c (gD ((decide ((↑(List.length p) : Int) = 0) || decide ((40 : Int) < (↑(List.length p) : Int)) || !decide (cutE c = 0) || !decide (sChk p = 0) || !decide (blE b = 0)) == false) True)), (1, .c (True ∧ ((decide ((↑(List.length p) : Int) = 0) || decide ((40 : Int) < (↑(List.length p) : Int)) || !decide (cutE c = 0) || !decide (sChk p = 0) || !decide (blE b = 0)) = false → ((decide ((↑(List.length p) : Int) = 0) || decide ((40 : Int) < (↑(List.length p) : Int)) || !decide (cutE c = 0) || !decide (sChk p = 0) || !decide (blE b = 0)) == false) = true)))] ⟨⟨⟨(by (exact fun h => h)), ⟨tI, tI⟩⟩, (fun _ => tI)⟩, ⟨tI, (by (intro h; rw [h]; rfl))⟩, tI⟩ ?_; refine nK hK ?_; clear hK K
 refine w_cond (t := decide ((↑(List.length p) : Int) = 0) || decide ((40 : Int) < (↑(List.length p) : Int)) || !decide (cutE c = 0) || !decide (sChk p = 0) || !decide (blE b = 0) || !decide (checkTip t = 0)) kR (fun c1 => ?_) (fun c1 => ?_)
 ·
  refine sK fun K hK => ?_
  refine wR 4 ?_
  refine eC (works06_ac) ?_
  refine aX hTT 1 [] tI ?_; refine nK hK ?_; clear hK K
  refine aw_ret ?_
  refine xt_r ?_
  refine rP (V.b true)
 simp at c1
 obtain ⟨⟨⟨⟨⟨n0, n1⟩, n2⟩, n3⟩, n5⟩, n4⟩ := c1
 have hs := sChkA_ok.1 n3
 have hpts := wall_pts n2 n3
 have s1 : SOk b (p.map (wallP c)) := ⟨n5, wall_gChk n2 n3⟩
 have hb := s1.bl
 have len1 : (p.map (wallP c)).length = p.length := by simp
 have hd : 0 ≤ off.tmod 4194305 ∧ off.tmod 4194305 ≤ 4194304 := by rw [Int.tmod_eq_emod_of_nonneg hw.1]; omega
 refine aw_skip ?_
 refine xt_n (hK _ ?_); clear hK K; refine sK fun K hK => wR 4 ?_; refine aX hTT 2 [] tI ?_
 refine eC (Cut_ac c p hl) ?_
 rw [cutR, if_pos n2, if_pos n3]
 generalize p.map (wallP c) = l at s1 len1 hpts ⊢
 by_cases ho : ∃ o, LOut b l o
 ·
  obtain ⟨o, ho⟩ := ho
  have e1 := ho.1
  have de := lout_desc hb ho
  have df := desc_first de
  refine aX hTT 5 [] tI ?_; refine nK hK ?_; clear hK K; refine sK fun K hK => ?_; refine sK fun K hK => wR 5 ?_; refine aX hTT 2 [] tI ?_; refine nK hK ?_; clear hK K; refine w_false (t := false) kR rfl ?_
  refine aw_skip ?_
  refine xt_n (hK _ ?_); clear hK K; refine sK fun K hK => wR 6 ?_; refine aX hTT 2 [] tI ?_
  refine eC (Outer_ok b l s1 ho) ?_
  refine aX hTT 5 [] tI ?_; refine nK hK ?_; clear hK K; refine sK fun K hK => ?_; refine sK fun K hK => wR 7 ?_; refine aX hTT 2 [] tI ?_; refine nK hK ?_; clear hK K; refine w_false (t := false) kR rfl ?_
  refine aw_skip ?_
  refine xt_n (hK _ ?_); clear hK K; refine sK fun K hK => ?_; refine sK fun K hK => wR 8 ?_; refine aX hTT 5 [] tI ?_; refine nK hK ?_; clear hK K
  refine w_cond (t := !decide ((↑(List.length o) : Int) = (↑(List.length p) : Int))) kR (fun c2 => ?_) (fun c2 => ?_)
  ·
   simp at c2
   omega
  clear c2
  refine aw_skip ?_
  refine xt_n (hK _ ?_); clear hK K; refine sK fun K hK => ?_; refine sK fun K hK => wR 9 ?_; refine aX hTT 1 [] tI ?_; refine nK hK ?_; clear hK K
  refine aw_block ?_
  have hp0 : p.length ≠ 0 := by simpa using n0
  refine w_loop (ι := Nat) (fun k => [(0, V.pts p), (4, .c (.int .u32 off)), (7, .ptr b.c), (8, .ptr [V.ints t]), (11, V.pts l), (12, .i 0), (13, V.ints o), (14, .i (k + 1))]) (fun _ => []) (fun k => k + 1 ≤ o.length) (fun k => o.length - k) 0 oM ?_ ?_
  ·
   refine le_ren [] (.cons kR (.cons kR (.cons kR (.cons kR (.cons kR (.cons kR (.cons kR (.cons kR .nil)))))))) .nil kR kR
  intro k hk
  refine sK fun K hK => ?_; refine sK fun K hK => wR 2 ?_; refine aX hTT 4 [] tI ?_; refine nK hK ?_; clear hK K
  refine w_cond (t := decide ((↑k : Int) + 1 < (↑(List.length o) : Int))) kR (fun c3 => ?_) (fun c3 => ?_)
  ·
   have hk1 : k + 1 < o.length := by simp at c3; omega
   have d1 := de k oM
   have ek : ((k : Int) + 1 - 1).toNat = k := by omega
   have ek2 : ((k : Int) + 1).toNat = k + 1 := by omega
   refine aw_skip ?_
   refine xt_n (hK _ ?_); clear hK K; refine sK fun K hK => ?_
   refine aw_block ?_
   refine sK fun K hK => wD 3 ?_; refine aX hTT 10 [(2, .c ((0 : Int) ≤ (↑k : Int) + 1 ∧ (↑k : Int) + 1 < (↑(List.length o) : Int))), (6, .i ((↑k : Int) + 1 - (1 : Int))), (7, .c ((0 : Int) ≤ (↑k : Int) + 1 - (1 : Int) ∧ (↑k : Int) + 1 - (1 : Int) < (↑(List.length o) : Int)))] ⟨oM, oM, oM, tI⟩ ?_; refine aops_nil ⟨kR, ?_⟩; refine xt_n (hK _ ?_); clear hK K
   refine w_cond (t := decide (gi o (Int.toNat ((↑k : Int) + 1 - (1 : Int))) < gi o (k + 1))) kR (fun c4 => ?_) (fun c4 => ?_)
   ·
    simp at c4
    omega
   clear c4
   refine aw_skip ?_
   refine xb_n ?_; refine xt_n (hK _ ?_); clear hK K; refine wR 4 ?_; refine aX hTT 3 [(1, .i ((↑k : Int) + 1 + (1 : Int)))] ⟨oM, tI⟩ ?_; refine aops_nil ?_; refine xt_n ?_
   refine ⟨k + 1, by omega, ?_, by omega⟩
   refine le_ren [] (.cons kR (.cons kR (.cons kR (.cons kR (.cons kR (.cons kR (.cons kR (.cons kR .nil)))))))) .nil kR kR
  ·
   have hk2 : k + 1 = o.length := by simp at c3; omega
   have d2 := df ((o.length : Int) - 1).toNat oM
   refine aw_exit ?_
   refine xt_x ?_; refine xt_x ?_
   refine xb_same ?_
   refine xt_n ?_; clear hK K; refine hK _ ?_; clear hK K; refine sK fun K hK => wD 3 ?_; refine aX hTT 11 [(1, .c ((0 : Int) ≤ (0 : Int) ∧ (0 : Int) < (↑(List.length o) : Int))), (6, .i ((↑(List.length o) : Int) - 1)), (7, .c ((0 : Int) ≤ (↑(List.length o) : Int) - 1 ∧ (↑(List.length o) : Int) - 1 < (↑(List.length o) : Int)))] ⟨oM, oM, oM, tI⟩ ?_; refine aops_nil ⟨kR, ?_⟩; refine xt_n (hK _ ?_); clear hK K; refine sK fun K hK => wR 4 ?_; refine aX hTT 4 [(1, .i off), (2, .c ((4194305 : Int) ≠ (0 : Int)))] ⟨oM, oM, tI⟩ ?_; refine nK hK ?_; clear hK K; refine sK fun K hK => ?_; refine sK fun K hK => wR 5 ?_; refine aX hTT 6 [(3, .c (gA (decide (gi o (Int.toNat ((↑(List.length o) : Int) - 1)) < 1) == false) True)), (4, .c (gD (decide (gi o (Int.toNat ((↑(List.length o) : Int) - 1)) < 1) == false) True)), (5, .c (True ∧ (decide (gi o (Int.toNat ((↑(List.length o) : Int) - 1)) < 1) = false → (decide (gi o (Int.toNat ((↑(List.length o) : Int) - 1)) < 1) == false) = true)))] ⟨⟨⟨tI, tI⟩, (fun _ => tI)⟩, ⟨⟨(by (exact fun h => h)), ⟨tI, tI⟩⟩, (fun _ => tI)⟩, ⟨tI, (by (intro h; rw [h]; rfl))⟩, tI⟩ ?_; refine nK hK ?_; clear hK K
   refine w_cond (t := decide (gi o (Int.toNat ((↑(List.length o) : Int) - 1)) < 1) || decide ((4194304 : Int) < gi o (0 : Nat))) kR (fun c4 => ?_) (fun c4 => ?_)
   ·
    refine sK fun K hK => ?_
    refine wR 6 ?_
    refine eC (works06_ac) ?_
    refine aX hTT 1 [] tI ?_; refine nK hK ?_; clear hK K
    refine aw_ret ?_
    refine xt_r ?_
    refine rP (V.b true)
   rw [Bool.or_eq_false_iff, decide_eq_false_iff_not, decide_eq_false_iff_not] at c4
   have W := wow_two hd (i := gi o ((o.length : Int) - 1).toNat) (o := gi o 0) (per := b.per) oM d2 oM hb.1
   refine aw_skip ?_
   refine xt_n (hK _ ?_); clear hK K; refine sK fun K hK => wR 6 ?_; refine aX hTT 4 [] tI ?_
   refine eC (wow_ac (off.tmod 4194305) (gi o 0) b.per) ?_
   refine aX hTT 5 [] tI ?_; refine nK hK ?_; clear hK K; refine sK fun K hK => wR 7 ?_; refine aX hTT 4 [] tI ?_
   refine eC (wow_ac (off.tmod 4194305) (gi o ((o.length : Int) - 1).toNat) b.per) ?_
   generalize wowI (off.tmod 4194305) (gi o 0) b.per = a at W ⊢
   generalize wowI (off.tmod 4194305) (gi o ((o.length : Int) - 1).toNat) b.per = d at W ⊢
   refine aX hTT 5 [] tI ?_; refine nK hK ?_; clear hK K; refine sK fun K hK => ?_; refine sK fun K hK => wR 8 ?_; refine aX hTT 2 [] tI ?_; refine nK hK ?_; clear hK K
   refine w_cond (t := decide (Prod.snd d = 14)) kR (fun c5 => ?_) (fun c5 => ?_)
   ·
    simp at c5
    refine sK fun K hK => wR 9 ?_; refine aX hTT 7 [(3, .c (gA (decide (Prod.snd a = 0) == false) True)), (4, .c (gD (decide (Prod.snd a = 0) == false) True)), (5, .c (True ∧ (decide (Prod.snd a = 0) = false → (decide (Prod.snd a = 0) == false) = true)))] ⟨⟨⟨tI, tI⟩, (fun _ => tI)⟩, ⟨⟨(by (exact fun h => h)), ⟨tI, tI⟩⟩, (fun _ => tI)⟩, ⟨tI, (by (intro h; rw [h]; rfl))⟩, tI⟩ ?_
    refine eG 0 (g := (decide (Prod.snd a = 0) || decide (Prod.snd a = 14)) == true) (fun h => works06_ac) ?_
    refine aX hTT 2 [(0, .c (((decide (Prod.snd a = 0) || decide (Prod.snd a = 14)) = true → ((decide (Prod.snd a = 0) || decide (Prod.snd a = 14)) == true) = true) ∧ True))] ⟨⟨(by (intro h; rw [h]; rfl)), tI⟩, tI⟩ ?_; refine nK hK ?_; clear hK K
    refine aw_ret ?_
    refine xt_r ?_
    refine ret_pure (v' := V.b ((decide (Prod.snd a = 0) || decide (Prod.snd a = 14)) && true)) (.inr rfl) kR ?_ kR
    simp; omega
   simp at c5
   obtain ⟨w1, w2⟩ | ⟨w1, w2, w3, w4, w5⟩ := W
   ·
    exact absurd w1 c5
   refine aw_skip ?_
   refine xt_n (hK _ ?_); clear hK K; refine sK fun K hK => ?_; refine sK fun K hK => wR 9 ?_; refine aX hTT 11 [(3, .c (gA ((!decide (Prod.snd a = 0)) == false) True)), (4, .c (gD ((!decide (Prod.snd a = 0)) == false) True)), (5, .c (True ∧ ((!decide (Prod.snd a = 0)) = false → ((!decide (Prod.snd a = 0)) == false) = true))), (7, .c (gA ((!decide (Prod.snd a = 0) || !decide (Prod.snd d = 0)) == false) True)), (8, .c (gA ((!decide (Prod.snd a = 0) || !decide (Prod.snd d = 0)) == false) True)), (9, .c (gC ((!decide (Prod.snd a = 0) || !decide (Prod.snd d = 0)) == false) True)), (10, .c (True ∧ ((!decide (Prod.snd a = 0) || !decide (Prod.snd d = 0)) = false → ((!decide (Prod.snd a = 0) || !decide (Prod.snd d = 0)) == false) = true)))] ⟨⟨⟨tI, tI⟩, (fun _ => tI)⟩, ⟨⟨(by (exact fun h => h)), ⟨tI, tI⟩⟩, (fun _ => tI)⟩, ⟨tI, (by (intro h; rw [h]; rfl))⟩, ⟨⟨tI, tI⟩, (fun _ => tI)⟩, ⟨⟨tI, tI⟩, (fun _ => tI)⟩, ⟨⟨(by (exact fun h => h)), ⟨(by (exact fun h => h)), tI⟩⟩, (fun _ => tI)⟩, ⟨tI, (by (intro h; rw [h]; rfl))⟩, tI⟩ ?_; refine nK hK ?_; clear hK K
   refine w_cond (t := !decide (Prod.snd a = 0) || !decide (Prod.snd d = 0) || decide (Prod.fst d < Prod.fst a)) kR (fun c6 => ?_) (fun c6 => ?_)
   ·
    simp at c6
    omega
   clear c6
   have E : ∀ w : Int, 0 ≤ w ∧ w ≤ 256 → AC Tryz.prog 33 [.agg [V.ints t], .agg [V.ints t], V.pts l, .i w] (.tup [.sl 4 l.length fun k => vhd (swH t l (w.toNat + 1) k), .i 0]) [] := fun w h => by
    have A := Hear_ac t t l w ht ht oM
    have e := hearE_5 n4 (checkBoth_of n4 hpts) (blunt_self t) h
    rw [hearV, hearNn, if_pos e, e] at A
    exact A
   refine aw_skip ?_
   refine xt_n (hK _ ?_); clear hK K; refine sK fun K hK => wR 10 ?_; refine aX hTT 4 [] tI ?_
   refine eC (E a.1 oM) ?_
   refine aX hTT 5 [] tI ?_; refine nK hK ?_; clear hK K; refine sK fun K hK => wR 11 ?_; refine aX hTT 4 [] tI ?_
   refine eC (E d.1 oM) ?_
   refine aX hTT 5 [] tI ?_; refine nK hK ?_; clear hK K; refine sK fun K hK => ?_; refine sK fun K hK => wR 12 ?_; refine aX hTT 20 [(3, .c (gA (false == false) True)), (4, .c (gD (false == false) True)), (5, .c (True ∧ (false = false → (false == false) = true))), (7, .c (gA (false == false) True)), (8, .c (gB (false == false) True)), (9, .c (gA (false == false) True)), (10, .c (gB (false == false) True)), (11, .c (gC (false == false) True)), (12, .c (True ∧ (false = false → (false == false) = true))), (14, .c (gA ((!decide ((↑(List.length l) : Int) = (↑(List.length p) : Int))) == false) True)), (15, .c (gB ((!decide ((↑(List.length l) : Int) = (↑(List.length p) : Int))) == false) True)), (16, .c (gA ((!decide ((↑(List.length l) : Int) = (↑(List.length p) : Int))) == false) True)), (17, .c (gB ((!decide ((↑(List.length l) : Int) = (↑(List.length p) : Int))) == false) True)), (18, .c (gC ((!decide ((↑(List.length l) : Int) = (↑(List.length p) : Int))) == false) True)), (19, .c (True ∧ ((!decide ((↑(List.length l) : Int) = (↑(List.length p) : Int))) = false → ((!decide ((↑(List.length l) : Int) = (↑(List.length p) : Int))) == false) = true)))] ⟨⟨⟨tI, tI⟩, (fun _ => tI)⟩, ⟨⟨(by (exact fun h => h)), ⟨tI, tI⟩⟩, (fun _ => tI)⟩, ⟨tI, (by (intro h; rw [h]; rfl))⟩, ⟨⟨tI, tI⟩, (fun _ => tI)⟩, ⟨⟨(by (exact fun h => h)), tI⟩, (fun _ => tI)⟩, ⟨⟨tI, tI⟩, (fun _ => tI)⟩, ⟨⟨(by (exact fun h => h)), tI⟩, (fun _ => tI)⟩, ⟨⟨(by (exact fun h => h)), ⟨(by (exact fun h => h)), tI⟩⟩, (fun _ => tI)⟩, ⟨tI, (by (intro h; rw [h]; rfl))⟩, ⟨⟨tI, tI⟩, (fun _ => tI)⟩, ⟨⟨(by (exact fun h => h)), tI⟩, (fun _ => tI)⟩, ⟨⟨tI, tI⟩, (fun _ => tI)⟩, ⟨⟨(by (exact fun h => h)), tI⟩, (fun _ => tI)⟩, ⟨⟨(by (exact fun h => h)), ⟨(by (exact fun h => h)), tI⟩⟩, (fun _ => tI)⟩, ⟨tI, (by (intro h; rw [h]; rfl))⟩, tI⟩ ?_; refine nK hK ?_; clear hK K
   refine w_cond (t := !decide ((↑(List.length l) : Int) = (↑(List.length p) : Int)) || !decide ((↑(List.length l) : Int) = (↑(List.length p) : Int))) kR (fun c7 => ?_) (fun c7 => ?_)
   ·
    simp at c7
    omega
   clear c7
   refine aw_skip ?_
   refine xt_n (hK _ ?_); clear hK K; refine sK fun K hK => ?_; refine sK fun K hK => wR 13 ?_; refine aX hTT 1 [] tI ?_; refine nK hK ?_; clear hK K
   refine aw_block ?_
   clear de df c3 d2 c4 c5 hk2
   refine w_loop (ι := Nat) (fun k => [(21, .sl 4 l.length fun k => vhd (swH t l (a.1.toNat + 1) k)), (22, .sl 4 l.length fun k => vhd (swH t l (d.1.toNat + 1) k)), (23, .i k)]) (fun _ => []) (fun k => k ≤ l.length) (fun k => l.length - k) 0 (Nat.zero_le _) ?_ ?_
   ·
    refine le_ren [] (.cons kR (.cons kR (.cons kR .nil))) .nil kR kR
   intro j hj
   refine sK fun K hK => ?_; refine sK fun K hK => wR 2 ?_; refine aX hTT 4 [] tI ?_; refine nK hK ?_; clear hK K
   refine w_cond (t := decide ((↑j : Int) < (↑(List.length l) : Int))) kR (fun c3 => ?_) (fun c3 => ?_)
   ·
    have hj1 : j < l.length := by simpa using c3
    have q : (swH t l (d.1.toNat + 1) j).1 ≤ (swH t l (a.1.toNat + 1) j).1 ∧ (swH t l (a.1.toNat + 1) j).2.1 ≤ (swH t l (d.1.toNat + 1) j).2.1 ∧ (swH t l (d.1.toNat + 1) j).2.2.1 ≤ (swH t l (a.1.toNat + 1) j).2.2.1 ∧ (swH t l (a.1.toNat + 1) j).2.2.2 ≤ (swH t l (d.1.toNat + 1) j).2.2.2 := hear_wider oM
    refine aw_skip ?_
    refine xt_n (hK _ ?_); clear hK K; refine sK fun K hK => ?_
    refine aw_block ?_
    refine sK fun K hK => wD 3 ?_; refine aX hTT 58 ((2, .c ((0 : Int) ≤ (↑j : Int) ∧ (↑j : Int) < (↑(List.length l) : Int))) :: (8, .c ((0 : Int) ≤ (↑j : Int) ∧ (↑j : Int) < (↑(List.length l) : Int))) :: (14, .c (gA (decide (Prod.fst (swH t l (Int.toNat (Prod.fst a) + 1) j) < Prod.fst (swH t l (Int.toNat (Prod.fst d) + 1) j)) == false) True)) :: (15, .c (gA (decide (Prod.fst (swH t l (Int.toNat (Prod.fst a) + 1) j) < Prod.fst (swH t l (Int.toNat (Prod.fst d) + 1) j)) == false) True)) :: (16, .c (gC (decide (Prod.fst (swH t l (Int.toNat (Prod.fst a) + 1) j) < Prod.fst (swH t l (Int.toNat (Prod.fst d) + 1) j)) == false) ((0 : Int) ≤ (↑j : Int) ∧ (↑j : Int) < (↑(List.length l) : Int)))) :: (17, .c (gB (decide (Prod.fst (swH t l (Int.toNat (Prod.fst a) + 1) j) < Prod.fst (swH t l (Int.toNat (Prod.fst d) + 1) j)) == false) True)) :: (18, .c (gB (decide (Prod.fst (swH t l (Int.toNat (Prod.fst a) + 1) j) < Prod.fst (swH t l (Int.toNat (Prod.fst d) + 1) j)) == false) True)) :: (19, .c (gB (decide (Prod.fst (swH t l (Int.toNat (Prod.fst a) + 1) j) < Prod.fst (swH t l (Int.toNat (Prod.fst d) + 1) j)) == false) True)) :: (20, .c (gA (decide (Prod.fst (swH t l (Int.toNat (Prod.fst a) + 1) j) < Prod.fst (swH t l (Int.toNat (Prod.fst d) + 1) j)) == false) True)) :: (21, .c (gA (decide (Prod.fst (swH t l (Int.toNat (Prod.fst a) + 1) j) < Prod.fst (swH t l (Int.toNat (Prod.fst d) + 1) j)) == false) True)) :: (22, .c (gC (decide (Prod.fst (swH t l (Int.toNat (Prod.fst a) + 1) j) < Prod.fst (swH t l (Int.toNat (Prod.fst d) + 1) j)) == false) ((0 : Int) ≤ (↑j : Int) ∧ (↑j : Int) < (↑(List.length l) : Int)))) :: (23, .c (gB (decide (Prod.fst (swH t l (Int.toNat (Prod.fst a) + 1) j) < Prod.fst (swH t l (Int.toNat (Prod.fst d) + 1) j)) == false) True)) :: (24, .c (gB (decide (Prod.fst (swH t l (Int.toNat (Prod.fst a) + 1) j) < Prod.fst (swH t l (Int.toNat (Prod.fst d) + 1) j)) == false) True)) :: (25, .c (gB (decide (Prod.fst (swH t l (Int.toNat (Prod.fst a) + 1) j) < Prod.fst (swH t l (Int.toNat (Prod.fst d) + 1) j)) == false) True)) :: (26, .c (gC (decide (Prod.fst (swH t l (Int.toNat (Prod.fst a) + 1) j) < Prod.fst (swH t l (Int.toNat (Prod.fst d) + 1) j)) == false) True)) :: (27, .c (True ∧ (decide (Prod.fst (swH t l (Int.toNat (Prod.fst a) + 1) j) < Prod.fst (swH t l (Int.toNat (Prod.fst d) + 1) j)) = false → (decide (Prod.fst (swH t l (Int.toNat (Prod.fst a) + 1) j) < Prod.fst (swH t l (Int.toNat (Prod.fst d) + 1) j)) == false) = true))) :: (29, .c (gA ((decide (Prod.fst (swH t l (Int.toNat (Prod.fst a) + 1) j) < Prod.fst (swH t l (Int.toNat (Prod.fst d) + 1) j)) || decide (Prod.fst (Prod.snd (swH t l (Int.toNat (Prod.fst d) + 1) j)) < Prod.fst (Prod.snd (swH t l (Int.toNat (Prod.fst a) + 1) j)))) == false) True)) :: (30, .c (gA ((decide (Prod.fst (swH t l (Int.toNat (Prod.fst a) + 1) j) < Prod.fst (swH t l (Int.toNat (Prod.fst d) + 1) j)) || decide (Prod.fst (Prod.snd (swH t l (Int.toNat (Prod.fst d) + 1) j)) < Prod.fst (Prod.snd (swH t l (Int.toNat (Prod.fst a) + 1) j)))) == false) True)) :: (31, .c (gC ((decide (Prod.fst (swH t l (Int.toNat (Prod.fst a) + 1) j) < Prod.fst (swH t l (Int.toNat (Prod.fst d) + 1) j)) || decide (Prod.fst (Prod.snd (swH t l (Int.toNat (Prod.fst d) + 1) j)) < Prod.fst (Prod.snd (swH t l (Int.toNat (Prod.fst a) + 1) j)))) == false) ((0 : Int) ≤ (↑j : Int) ∧ (↑j : Int) < (↑(List.length l) : Int)))) :: (32, .c (gB ((decide (Prod.fst (swH t l (Int.toNat (Prod.fst a) + 1) j) < Prod.fst (swH t l (Int.toNat (Prod.fst d) + 1) j)) || decide (Prod.fst (Prod.snd (swH t l (Int.toNat (Prod.fst d) + 1) j)) < Prod.fst (Prod.snd (swH t l (Int.toNat (Prod.fst a) + 1) j)))) == false) True)) :: (33, .c (gB ((decide (Prod.fst (swH t l (Int.toNat (Prod.fst a) + 1) j) < Prod.fst (swH t l (Int.toNat (Prod.fst d) + 1) j)) || decide (Prod.fst (Prod.snd (swH t l (Int.toNat (Prod.fst d) + 1) j)) < Prod.fst (Prod.snd (swH t l (Int.toNat (Prod.fst a) + 1) j)))) == false) True)) :: (34, .c (gB ((decide (Prod.fst (swH t l (Int.toNat (Prod.fst a) + 1) j) < Prod.fst (swH t l (Int.toNat (Prod.fst d) + 1) j)) || decide (Prod.fst (Prod.snd (swH t l (Int.toNat (Prod.fst d) + 1) j)) < Prod.fst (Prod.snd (swH t l (Int.toNat (Prod.fst a) + 1) j)))) == false) True)) :: (35, .c (gA ((decide (Prod.fst (swH t l (Int.toNat (Prod.fst a) + 1) j) < Prod.fst (swH t l (Int.toNat (Prod.fst d) + 1) j)) || decide (Prod.fst (Prod.snd (swH t l (Int.toNat (Prod.fst d) + 1) j)) < Prod.fst (Prod.snd (swH t l (Int.toNat (Prod.fst a) + 1) j)))) == false) True)) :: (36, .c (gA ((decide (Prod.fst (swH t l (Int.toNat (Prod.fst a) + 1) j) < Prod.fst (swH t l (Int.toNat (Prod.fst d) + 1) j)) || decide (Prod.fst (Prod.snd (swH t l (Int.toNat (Prod.fst d) + 1) j)) < Prod.fst (Prod.snd (swH t l (Int.toNat (Prod.fst a) + 1) j)))) == false) True)) :: (37, .c (gC ((decide (Prod.fst (swH t l (Int.toNat (Prod.fst a) + 1) j) < Prod.fst (swH t l (Int.toNat (Prod.fst d) + 1) j)) || decide (Prod.fst (Prod.snd (swH t l (Int.toNat (Prod.fst d) + 1) j)) < Prod.fst (Prod.snd (swH t l (Int.toNat (Prod.fst a) + 1) j)))) == false) ((0 : Int) ≤ (↑j : Int) ∧ (↑j : Int) < (↑(List.length l) : Int)))) :: (38, .c (gB ((decide (Prod.fst (swH t l (Int.toNat (Prod.fst a) + 1) j) < Prod.fst (swH t l (Int.toNat (Prod.fst d) + 1) j)) || decide (Prod.fst (Prod.snd (swH t l (Int.toNat (Prod.fst d) + 1) j)) < Prod.fst (Prod.snd (swH t l (Int.toNat (Prod.fst a) + 1) j)))) == false) True)) :: (39, .c (gB ((decide (Prod.fst (swH t l (Int.toNat (Prod.fst a) + 1) j) < Prod.fst (swH t l (Int.toNat (Prod.fst d) + 1) j)) || decide (Prod.fst (Prod.snd (swH t l (Int.toNat (Prod.fst d) + 1) j)) < Prod.fst (Prod.snd (swH t l (Int.toNat (Prod.fst a) + 1) j)))) == false) True)) :: (40, .c (gB ((decide (Prod.fst (swH t l (Int.toNat (Prod.fst a) + 1) j) < Prod.fst (swH t l (Int.toNat (Prod.fst d) + 1) j)) || decide (Prod.fst (Prod.snd (swH t l (Int.toNat (Prod.fst d) + 1) j)) < Prod.fst (Prod.snd (swH t l (Int.toNat (Prod.fst a) + 1) j)))) == false) True)) :: (41, .c (gC ((decide (Prod.fst (swH t l (Int.toNat (Prod.fst a) + 1) j) < Prod.fst (swH t l (Int.toNat (Prod.fst d) + 1) j)) || decide (Prod.fst (Prod.snd (swH t l (Int.toNat (Prod.fst d) + 1) j)) < Prod.fst (Prod.snd (swH t l (Int.toNat (Prod.fst a) + 1) j)))) == false) True)) :: (42, .c (True ∧ ((decide (Prod.fst (swH t l (Int.toNat (Prod.fst a) + 1) j) < Prod.fst (swH t l (Int.toNat (Prod.fst d) + 1) j)) || decide (Prod.fst (Prod.snd (swH t l (Int.toNat (Prod.fst d) + 1) j)) < Prod.fst (Prod.snd (swH t l (Int.toNat (Prod.fst a) + 1) j)))) = false → ((decide (Prod.fst (swH t l (Int.toNat (Prod.fst a) + 1) j) < Prod.fst (swH t l (Int.toNat (Prod.fst d) + 1) j)) || decide (Prod.fst (Prod.snd (swH t l (Int.toNat (Prod.fst d) + 1) j)) < Prod.fst (Prod.snd (swH t l (Int.toNat (Prod.fst a) + 1) j)))) == false) = true))) :: (44, .c (gA ((decide (Prod.fst (swH t l (Int.toNat (Prod.fst a) + 1) j) < Prod.fst (swH t l (Int.toNat (Prod.fst d) + 1) j)) || decide (Prod.fst (Prod.snd (swH t l (Int.toNat (Prod.fst d) + 1) j)) < Prod.fst (Prod.snd (swH t l (Int.toNat (Prod.fst a) + 1) j))) || decide (Prod.fst (Prod.snd (Prod.snd (swH t l (Int.toNat (Prod.fst a) + 1) j))) < Prod.fst (Prod.snd (Prod.snd (swH t l (Int.toNat (Prod.fst d) + 1) j))))) == false) True)) :: (45, .c (gA ((decide (Prod.fst (swH t l (Int.toNat (Prod.fst a) + 1) j) < Prod.fst (swH t l (Int.toNat (Prod.fst d) + 1) j)) || decide (Prod.fst (Prod.snd (swH t l (Int.toNat (Prod.fst d) + 1) j)) < Prod.fst (Prod.snd (swH t l (Int.toNat (Prod.fst a) + 1) j))) || decide (Prod.fst (Prod.snd (Prod.snd (swH t l (Int.toNat (Prod.fst a) + 1) j))) < Prod.fst (Prod.snd (Prod.snd (swH t l (Int.toNat (Prod.fst d) + 1) j))))) == false) True)) :: (46, .c (gC ((decide (Prod.fst (swH t l (Int.toNat (Prod.fst a) + 1) j) < Prod.fst (swH t l (Int.toNat (Prod.fst d) + 1) j)) || decide (Prod.fst (Prod.snd (swH t l (Int.toNat (Prod.fst d) + 1) j)) < Prod.fst (Prod.snd (swH t l (Int.toNat (Prod.fst a) + 1) j))) || decide (Prod.fst (Prod.snd (Prod.snd (swH t l (Int.toNat (Prod.fst a) + 1) j))) < Prod.fst (Prod.snd (Prod.snd (swH t l (Int.toNat (Prod.fst d) + 1) j))))) == false) ((0 : Int) ≤ (↑j : Int) ∧ (↑j : Int) < (↑(List.length l) : Int)))) :: (47, .c (gB ((decide (Prod.fst (swH t l (Int.toNat (Prod.fst a) + 1) j) < Prod.fst (swH t l (Int.toNat (Prod.fst d) + 1) j)) || decide (Prod.fst (Prod.snd (swH t l (Int.toNat (Prod.fst d) + 1) j)) < Prod.fst (Prod.snd (swH t l (Int.toNat (Prod.fst a) + 1) j))) || decide (Prod.fst (Prod.snd (Prod.snd (swH t l (Int.toNat (Prod.fst a) + 1) j))) < Prod.fst (Prod.snd (Prod.snd (swH t l (Int.toNat (Prod.fst d) + 1) j))))) == false) True)) :: (48, .c (gB ((decide (Prod.fst (swH t l (Int.toNat (Prod.fst a) + 1) j) < Prod.fst (swH t l (Int.toNat (Prod.fst d) + 1) j)) || decide (Prod.fst (Prod.snd (swH t l (Int.toNat (Prod.fst d) + 1) j)) < Prod.fst (Prod.snd (swH t l (Int.toNat (Prod.fst a) + 1) j))) || decide (Prod.fst (Prod.snd (Prod.snd (swH t l (Int.toNat (Prod.fst a) + 1) j))) < Prod.fst (Prod.snd (Prod.snd (swH t l (Int.toNat (Prod.fst d) + 1) j))))) == false) True)) :: (49, .c (gB ((decide (Prod.fst (swH t l (Int.toNat (Prod.fst a) + 1) j) < Prod.fst (swH t l (Int.toNat (Prod.fst d) + 1) j)) || decide (Prod.fst (Prod.snd (swH t l (Int.toNat (Prod.fst d) + 1) j)) < Prod.fst (Prod.snd (swH t l (Int.toNat (Prod.fst a) + 1) j))) || decide (Prod.fst (Prod.snd (Prod.snd (swH t l (Int.toNat (Prod.fst a) + 1) j))) < Prod.fst (Prod.snd (Prod.snd (swH t l (Int.toNat (Prod.fst d) + 1) j))))) == false) True)) :: (50, .c (gA ((decide (Prod.fst (swH t l (Int.toNat (Prod.fst a) + 1) j) < Prod.fst (swH t l (Int.toNat (Prod.fst d) + 1) j)) || decide (Prod.fst (Prod.snd (swH t l (Int.toNat (Prod.fst d) + 1) j)) < Prod.fst (Prod.snd (swH t l (Int.toNat (Prod.fst a) + 1) j))) || decide (Prod.fst (Prod.snd (Prod.snd (swH t l (Int.toNat (Prod.fst a) + 1) j))) < Prod.fst (Prod.snd (Prod.snd (swH t l (Int.toNat (Prod.fst d) + 1) j))))) == false) True)) :: (51, .c (gA ((decide (Prod.fst (swH t l (Int.toNat (Prod.fst a) + 1) j) < Prod.fst (swH t l (Int.toNat (Prod.fst d) + 1) j)) || decide (Prod.fst (Prod.snd (swH t l (Int.toNat (Prod.fst d) + 1) j)) < Prod.fst (Prod.snd (swH t l (Int.toNat (Prod.fst a) + 1) j))) || decide (Prod.fst (Prod.snd (Prod.snd (swH t l (Int.toNat (Prod.fst a) + 1) j))) < Prod.fst (Prod.snd (Prod.snd (swH t l (Int.toNat (Prod.fst d) + 1) j))))) == false) True)) :: (52, .c (gC ((decide (Prod.fst (swH t l (Int.toNat (Prod.fst a) + 1) j) < Prod.fst (swH t l (Int.toNat (Prod.fst d) + 1) j)) || decide (Prod.fst (Prod.snd (swH t l (Int.toNat (Prod.fst d) + 1) j)) < Prod.fst (Prod.snd (swH t l (Int.toNat (Prod.fst a) + 1) j))) || decide (Prod.fst (Prod.snd (Prod.snd (swH t l (Int.toNat (Prod.fst a) + 1) j))) < Prod.fst (Prod.snd (Prod.snd (swH t l (Int.toNat (Prod.fst d) + 1) j))))) == false) ((0 : Int) ≤ (↑j : Int) ∧ (↑j : Int) < (↑(List.length l) : Int)))) :: (53, .c (gB ((decide (Prod.fst (swH t l (Int.toNat (Prod.fst a) + 1) j) < Prod.fst (swH t l (Int.toNat (Prod.fst d) + 1) j)) || decide (Prod.fst (Prod.snd (swH t l (Int.toNat (Prod.fst d) + 1) j)) < Prod.fst (Prod.snd (swH t l (Int.toNat (Prod.fst a) + 1) j))) || decide (Prod.fst (Prod.snd (Prod.snd (swH t l (Int.toNat (Prod.fst a) + 1) j))) < Prod.fst (Prod.snd (Prod.snd (swH t l (Int.toNat (Prod.fst d) + 1) j))))) == false) True)) :: (54, .c (gB ((decide (Prod.fst (swH t l (Int.toNat (Prod.fst a) + 1) j) < Prod.fst (swH t l (Int.toNat (Prod.fst d) + 1) j)) || decide (Prod.fst (Prod.snd (swH t l (Int.toNat (Prod.fst d) + 1) j)) < Prod.fst (Prod.snd (swH t l (Int.toNat (Prod.fst a) + 1) j))) || decide (Prod.fst (Prod.snd (Prod.snd (swH t l (Int.toNat (Prod.fst a) + 1) j))) < Prod.fst (Prod.snd (Prod.snd (swH t l (Int.toNat (Prod.fst d) + 1) j))))) == false) True)) :: (55, .c (gB ((decide (Prod.fst (swH t l (Int.toNat (Prod.fst a) + 1) j) < Prod.fst (swH t l (Int.toNat (Prod.fst d) + 1) j)) || decide (Prod.fst (Prod.snd (swH t l (Int.toNat (Prod.fst d) + 1) j)) < Prod.fst (Prod.snd (swH t l (Int.toNat (Prod.fst a) + 1) j))) || decide (Prod.fst (Prod.snd (Prod.snd (swH t l (Int.toNat (Prod.fst a) + 1) j))) < Prod.fst (Prod.snd (Prod.snd (swH t l (Int.toNat (Prod.fst d) + 1) j))))) == false) True)) :: (56, .c (gC ((decide (Prod.fst (swH t l (Int.toNat (Prod.fst a) + 1) j) < Prod.fst (swH t l (Int.toNat (Prod.fst d) + 1) j)) || decide (Prod.fst (Prod.snd (swH t l (Int.toNat (Prod.fst d) + 1) j)) < Prod.fst (Prod.snd (swH t l (Int.toNat (Prod.fst a) + 1) j))) || decide (Prod.fst (Prod.snd (Prod.snd (swH t l (Int.toNat (Prod.fst a) + 1) j))) < Prod.fst (Prod.snd (Prod.snd (swH t l (Int.toNat (Prod.fst d) + 1) j))))) == false) True)) :: (57, .c (True ∧ ((decide (Prod.fst (swH t l (Int.toNat (Prod.fst a) + 1) j) < Prod.fst (swH t l (Int.toNat (Prod.fst d) + 1) j)) || decide (Prod.fst (Prod.snd (swH t l (Int.toNat (Prod.fst d) + 1) j)) < Prod.fst (Prod.snd (swH t l (Int.toNat (Prod.fst a) + 1) j))) || decide (Prod.fst (Prod.snd (Prod.snd (swH t l (Int.toNat (Prod.fst a) + 1) j))) < Prod.fst (Prod.snd (Prod.snd (swH t l (Int.toNat (Prod.fst d) + 1) j))))) = false → ((decide (Prod.fst (swH t l (Int.toNat (Prod.fst a) + 1) j) < Prod.fst (swH t l (Int.toNat (Prod.fst d) + 1) j)) || decide (Prod.fst (Prod.snd (swH t l (Int.toNat (Prod.fst d) + 1) j)) < Prod.fst (Prod.snd (swH t l (Int.toNat (Prod.fst a) + 1) j))) || decide (Prod.fst (Prod.snd (Prod.snd (swH t l (Int.toNat (Prod.fst a) + 1) j))) < Prod.fst (Prod.snd (Prod.snd (swH t l (Int.toNat (Prod.fst d) + 1) j))))) == false) = true))) :: []) ⟨oM, oM, ⟨⟨tI, tI⟩, (fun _ => tI)⟩, ⟨⟨tI, tI⟩, (fun _ => tI)⟩, ⟨⟨(by (exact fun h => h)), ⟨(by (exact fun h => h)), tI⟩⟩, (by (intro hg; simp at hg; omega))⟩, ⟨⟨(by (exact fun h => h)), tI⟩, (fun _ => tI)⟩, ⟨⟨(by (exact fun h => h)), tI⟩, (fun _ => tI)⟩, ⟨⟨(by (exact fun h => h)), tI⟩, (fun _ => tI)⟩, ⟨⟨tI, tI⟩, (fun _ => tI)⟩, ⟨⟨tI, tI⟩, (fun _ => tI)⟩, ⟨⟨(by (exact fun h => h)), ⟨(by (exact fun h => h)), tI⟩⟩, (by (intro hg; simp at hg; omega))⟩, ⟨⟨(by (exact fun h => h)), tI⟩, (fun _ => tI)⟩, ⟨⟨(by (exact fun h => h)), tI⟩, (fun _ => tI)⟩, ⟨⟨(by (exact fun h => h)), tI⟩, (fun _ => tI)⟩, ⟨⟨(by (exact fun h => h)), ⟨(by (exact fun h => h)), tI⟩⟩, (fun _ => tI)⟩, ⟨tI, (by (intro h; rw [h]; rfl))⟩, ⟨⟨tI, tI⟩, (fun _ => tI)⟩, ⟨⟨tI, tI⟩, (fun _ => tI)⟩, ⟨⟨(by (exact fun h => h)), ⟨(by (exact fun h => h)), tI⟩⟩, (by (intro hg; simp at hg; omega))⟩, ⟨⟨(by (exact fun h => h)), tI⟩, (fun _ => tI)⟩, ⟨⟨(by (exact fun h => h)), tI⟩, (fun _ => tI)⟩, ⟨⟨(by (exact fun h => h)), tI⟩, (fun _ => tI)⟩, ⟨⟨tI, tI⟩, (fun _ => tI)⟩, ⟨⟨tI, tI⟩, (fun _ => tI)⟩, ⟨⟨(by (exact fun h => h)), ⟨(by (exact fun h => h)), tI⟩⟩, (by (intro hg; simp at hg; omega))⟩, ⟨⟨(by (exact fun h => h)), tI⟩, (fun _ => tI)⟩, ⟨⟨(by (exact fun h => h)), tI⟩, (fun _ => tI)⟩, ⟨⟨(by (exact fun h => h)), tI⟩, (fun _ => tI)⟩, ⟨⟨(by (exact fun h => h)), ⟨(by (exact fun h => h)), tI⟩⟩, (fun _ => tI)⟩, ⟨tI, (by (intro h; rw [h]; rfl))⟩, ⟨⟨tI, tI⟩, (fun _ => tI)⟩, ⟨⟨tI, tI⟩, (fun _ => tI)⟩, ⟨⟨(by (exact fun h => h)), ⟨(by (exact fun h => h)), tI⟩⟩, (by (intro hg; simp at hg; omega))⟩, ⟨⟨(by (exact fun h => h)), tI⟩, (fun _ => tI)⟩, ⟨⟨(by (exact fun h => h)), tI⟩, (fun _ => tI)⟩, ⟨⟨(by (exact fun h => h)), tI⟩, (fun _ => tI)⟩, ⟨⟨tI, tI⟩, (fun _ => tI)⟩, ⟨⟨tI, tI⟩, (fun _ => tI)⟩, ⟨⟨(by (exact fun h => h)), ⟨(by (exact fun h => h)), tI⟩⟩, (by (intro hg; simp at hg; omega))⟩, ⟨⟨(by (exact fun h => h)), tI⟩, (fun _ => tI)⟩, ⟨⟨(by (exact fun h => h)), tI⟩, (fun _ => tI)⟩, ⟨⟨(by (exact fun h => h)), tI⟩, (fun _ => tI)⟩, ⟨⟨(by (exact fun h => h)), ⟨(by (exact fun h => h)), tI⟩⟩, (fun _ => tI)⟩, ⟨tI, (by (intro h; rw [h]; rfl))⟩, tI⟩ ?_
    refine aops_nil ⟨kR, ?_⟩; refine xt_n (hK _ ?_); clear hK K
    refine w_cond (t := decide (Prod.fst (swH t l (Int.toNat (Prod.fst a) + 1) j) < Prod.fst (swH t l (Int.toNat (Prod.fst d) + 1) j)) || decide (Prod.fst (Prod.snd (swH t l (Int.toNat (Prod.fst d) + 1) j)) < Prod.fst (Prod.snd (swH t l (Int.toNat (Prod.fst a) + 1) j))) || decide (Prod.fst (Prod.snd (Prod.snd (swH t l (Int.toNat (Prod.fst a) + 1) j))) < Prod.fst (Prod.snd (Prod.snd (swH t l (Int.toNat (Prod.fst d) + 1) j)))) || decide (Prod.snd (Prod.snd (Prod.snd (swH t l (Int.toNat (Prod.fst d) + 1) j))) < Prod.snd (Prod.snd (Prod.snd (swH t l (Int.toNat (Prod.fst a) + 1) j))))) kR (fun c4 => ?_) (fun c4 => ?_)
    ·
     simp at c4
     omega
    clear c4
    refine aw_skip ?_
    refine xb_n ?_; refine xt_n (hK _ ?_); clear hK K; refine wR 4 ?_; refine aX hTT 3 [(1, .i ((↑j : Int) + 1))] ⟨oM, tI⟩ ?_; refine aops_nil ?_; refine xt_n ?_
    refine ⟨j + 1, by omega, by refine le_ren [] (.cons kR (.cons kR (.cons kR .nil))) .nil kR kR, by omega⟩
   ·
    refine aw_exit ?_
    refine xt_x ?_; refine xt_x ?_
    refine xb_same ?_
    refine xt_n ?_; clear hK K; refine hK _ ?_; clear hK K; refine sK fun K hK => wR 3 ?_
    refine eC (works06_ac) ?_
    refine aX hTT 1 [] tI ?_; refine nK hK ?_; clear hK K
    refine aw_ret ?_
    refine rP (V.b true)
 ·
  refine aX hTT 5 [] tI ?_
  refine nK hK ?_; clear hK K; refine sK fun K hK => ?_; refine sK fun K hK => wR 5 ?_; refine aX hTT 2 [] tI ?_; refine nK hK ?_; clear hK K; refine w_false (t := false) kR rfl ?_
  refine aw_skip ?_
  refine xt_n (hK _ ?_); clear hK K; refine sK fun K hK => wR 6 ?_; refine aX hTT 2 [] tI ?_
  refine eC (Outer_no b l s1 ho) ?_
  refine aX hTT 5 [] tI ?_; refine nK hK ?_; clear hK K; refine sK fun K hK => ?_; refine sK fun K hK => wR 7 ?_; refine aX hTT 2 [] tI ?_; refine nK hK ?_; clear hK K; refine w_true (t := true) kR rfl ?_; refine sK fun K hK => wR 8 ?_; refine aX hTT 3 [] tI ?_
  refine eG 0 (g := true == true) (fun h => works06_ac) ?_
  refine aX hTT 2 [(0, .c ((true = true → (true == true) = true) ∧ True))] ⟨⟨(by (exact fun h => h)), tI⟩, tI⟩ ?_; refine nK hK ?_; clear hK K
  refine aw_ret ?_
  refine xt_r ?_
  refine rP (V.b true)
def swungSh : List Sh := [(.sl (.fld (.int .i64) (.lst (.int .i64)))), (.fld (.int .i64) (.fld (.int .i64) (.fld (.int .i64) (.fld (.int .i64) (.fld (.int .i64) (.fld (.int .i64) (.lst (.int .i64)))))))), (.fld (.int .i64) (.fld (.int .i64) (.fld (.int .i64) (.fld (.int .i64) (.fld (.int .i64) (.lst (.int .i64))))))), (.lst (.sl (.int .i64))), (.int .u32)]
theorem swung_all (x : TL swungSh) (hx : wfL swungSh x) : AC Tryz.prog 8 (valL swungSh x) (V.b true) [] := by
 obtain ⟨p, ⟨h, g, th, wi, sl, je, sty⟩, ⟨b1, b2, b3, b4, b5, b6⟩, t, w, _⟩ := x
 obtain ⟨⟨h4, h5⟩, _, _, ⟨h6, _⟩, hw, _⟩ := hx
 exact swung_law p ⟨h, g, th, wi, sl, je, sty⟩ ⟨b1, b2, b3, b4, b5, b6⟩ t w h4 (wf_ptsT h5) h6 (wf_u32T hw)
end Go.Proofs.YtplnhbenmgclfaaGreatDoor
