/-
  Points with their neighbours, and the fault of a groove: the walks of the program. Conditions: told in each theorem.
-/
import Derived.Test.YtjjlgegccfolpaaGA3
namespace Go.Proofs.Ytjjlgegccfolpaa
open Go.Ab Go.RowKit Go.Dw Go.Shelf

def nb (l : List Pt) (i : Nat) : Option Pt := if 0 < i then some (gp l (i - 1)) else none
def na (l : List Pt) (i : Nat) : Option Pt := if i + 1 < l.length then some (gp l (i + 1)) else none
def nearI (l : List Pt) (i : Nat) : V := gNearV (nb l i) (gp l i) (na l i)
set_option maxRecDepth 100000 in
theorem at_ac (c : Cut) (l : List Pt) (r per : Int) (i : Nat) (hi : i < l.length) (hl : l.length ≤ 4096) : AC Try.prog 57 [.ptr (trC c l r per), .i i] (nearI l i) [] := by
  have e0 : 0 < i → ((i : Int) - 1).toNat = i - 1 := fun _ => by omega
  refine ac_intro hTT hMX (fn := Try.f57) (N := _) ⟨Try.func57, rfl, Try.ntmps57, by kernel_rfl⟩ (by simp) fun C hC hF => ?_
  refine aw_seq_k fun K hK => ?_
  refine w_region (n' := 2) (by kernel_rfl) (by kernel_rfl) ?_
  refine aops_n hTT (M := []) (n := 1) [pn (4 : Nat) (V.ref (100004 : Nat) (0 : Nat)) (100004 : Nat) (Ob.box (86 : Nat) [V.c (Value.pointer none), V.c (Value.pointer none), V.c (Value.pointer none)])] (by kernel_rfl) (by kernel_rfl) True.intro ?_
  refine aops_nil ?_
  refine xt_n ?_
  refine hK _ ?_
  clear hK K
  refine aw_seq_k fun K hK => ?_
  refine w_region (n' := 3) (by kernel_rfl) (by kernel_rfl) ?_
  refine aops_n hTT (M := []) (n := 9) [pv (6 : Nat) (V.ptr [V.i (Cut.half c), V.i (Cut.gain c), V.i (Cut.thin c), V.i (Cut.wide c), V.i (Cut.slope c), V.i (Cut.jerk c), V.i (Cut.sty c), V.sl (2 : Nat) (List.length l) fun (k : Nat) => [V.i (Prod.fst (gp l k)), V.i (Prod.snd (gp l k))], V.i r, V.i per]), pv (7 : Nat) (V.ptr [V.i (Cut.half c), V.i (Cut.gain c), V.i (Cut.thin c), V.i (Cut.wide c), V.i (Cut.slope c), V.i (Cut.jerk c), V.i (Cut.sty c), V.sl (2 : Nat) (List.length l) fun (k : Nat) => [V.i (Prod.fst (gp l k)), V.i (Prod.snd (gp l k))], V.i r, V.i per]), pv (8 : Nat) (V.ptr [V.sl (2 : Nat) (List.length l) fun (k : Nat) => [V.i (Prod.fst (gp l k)), V.i (Prod.snd (gp l k))], V.i r, V.i per]), pv (9 : Nat) (V.sl (2 : Nat) (List.length l) fun (k : Nat) => [V.i (Prod.fst (gp l k)), V.i (Prod.snd (gp l k))]), pv (10 : Nat) (V.i (↑i : Int)), pc (11 : Nat) ((0 : Int) ≤ (↑i : Int) ∧ (↑i : Int) < (↑(List.length l) : Int)) (V.ptr [V.i (Prod.fst (gp l i)), V.i (Prod.snd (gp l i))]), pv (12 : Nat) (V.agg [V.c (Value.pointer none), V.ptr [V.i (Prod.fst (gp l i)), V.i (Prod.snd (gp l i))], V.c (Value.pointer none)]), pn (5 : Nat) (V.ref (200005 : Nat) (0 : Nat)) (200005 : Nat) (Ob.box (86 : Nat) [V.c (Value.pointer none), V.c (Value.pointer none), V.c (Value.pointer none)]), pw ((0 : Nat) + (3 : Nat) ≤ (3 : Nat)) (200005 : Nat) (Ob.box (86 : Nat) [V.c (Value.pointer none), V.ptr [V.i (Prod.fst (gp l i)), V.i (Prod.snd (gp l i))], V.c (Value.pointer none)])] (by kernel_rfl) (by kernel_rfl) ⟨(by omega), (by omega), True.intro⟩ ?_
  refine aops_nil ?_
  refine xt_n ?_
  refine hK _ ?_
  clear hK K
  refine aw_seq_k fun K hK => ?_
  refine aw_seq_k fun K hK => ?_
  refine w_region (n' := 4) (by kernel_rfl) (by kernel_rfl) ?_
  refine aops_n hTT (M := []) (n := 2) [pv (13 : Nat) (V.i (↑i : Int)), pv (14 : Nat) (V.b (decide ((0 : Int) < (↑i : Int))))] (by kernel_rfl) (by kernel_rfl) True.intro ?_
  refine aops_nil ?_
  refine xt_n ?_
  refine hK _ ?_
  clear hK K
  refine w_cond (t := decide ((0 : Int) < (↑i : Int))) (by kernel_rfl) (fun c1 => ?_) (fun c1 => ?_)
  · have h1 : 0 < i := by simpa using c1
    refine w_region (n' := 5) (by kernel_rfl) (by kernel_rfl) ?_
    refine aops_n hTT (M := []) (n := 9) [pv (15 : Nat) (V.ptr [V.i (Cut.half c), V.i (Cut.gain c), V.i (Cut.thin c), V.i (Cut.wide c), V.i (Cut.slope c), V.i (Cut.jerk c), V.i (Cut.sty c), V.sl (2 : Nat) (List.length l) fun (k : Nat) => [V.i (Prod.fst (gp l k)), V.i (Prod.snd (gp l k))], V.i r, V.i per]), pv (16 : Nat) (V.ptr [V.i (Cut.half c), V.i (Cut.gain c), V.i (Cut.thin c), V.i (Cut.wide c), V.i (Cut.slope c), V.i (Cut.jerk c), V.i (Cut.sty c), V.sl (2 : Nat) (List.length l) fun (k : Nat) => [V.i (Prod.fst (gp l k)), V.i (Prod.snd (gp l k))], V.i r, V.i per]), pv (17 : Nat) (V.ptr [V.sl (2 : Nat) (List.length l) fun (k : Nat) => [V.i (Prod.fst (gp l k)), V.i (Prod.snd (gp l k))], V.i r, V.i per]), pv (18 : Nat) (V.sl (2 : Nat) (List.length l) fun (k : Nat) => [V.i (Prod.fst (gp l k)), V.i (Prod.snd (gp l k))]), pv (19 : Nat) (V.i (↑i : Int)), pc (20 : Nat) ((-9223372036854775808 : Int) ≤ (↑i : Int) - (1 : Int) ∧ (↑i : Int) - (1 : Int) ≤ (9223372036854775807 : Int)) (V.i ((↑i : Int) - (1 : Int))), pc (21 : Nat) ((0 : Int) ≤ (↑i : Int) - (1 : Int) ∧ (↑i : Int) - (1 : Int) < (↑(List.length l) : Int)) (V.ptr [V.i (Prod.fst (gp l (Int.toNat ((↑i : Int) - (1 : Int))))), V.i (Prod.snd (gp l (Int.toNat ((↑i : Int) - (1 : Int)))))]), pv (22 : Nat) (V.ref (200005 : Nat) (0 : Nat)), pw ((0 : Nat) + (1 : Nat) ≤ (3 : Nat)) (200005 : Nat) (Ob.box (86 : Nat) [V.ptr [V.i (Prod.fst (gp l (Int.toNat ((↑i : Int) - (1 : Int))))), V.i (Prod.snd (gp l (Int.toNat ((↑i : Int) - (1 : Int)))))], V.ptr [V.i (Prod.fst (gp l i)), V.i (Prod.snd (gp l i))], V.c (Value.pointer none)])] (by kernel_rfl) (by kernel_rfl) ⟨(by omega), (by omega), (by omega), True.intro⟩ ?_
    refine aops_nil ?_
    refine xt_n ?_
    refine hK _ ?_
    clear hK K
    refine aw_seq_k fun K hK => ?_
    refine aw_seq_k fun K hK => ?_
    refine w_region (n' := 6) (by kernel_rfl) (by kernel_rfl) ?_
    refine aops_n hTT (M := []) (n := 8) [pv (23 : Nat) (V.i (↑i : Int)), pc (24 : Nat) ((-9223372036854775808 : Int) ≤ (↑i : Int) + (1 : Int) ∧ (↑i : Int) + (1 : Int) ≤ (9223372036854775807 : Int)) (V.i ((↑i : Int) + (1 : Int))), pv (25 : Nat) (V.ptr [V.i (Cut.half c), V.i (Cut.gain c), V.i (Cut.thin c), V.i (Cut.wide c), V.i (Cut.slope c), V.i (Cut.jerk c), V.i (Cut.sty c), V.sl (2 : Nat) (List.length l) fun (k : Nat) => [V.i (Prod.fst (gp l k)), V.i (Prod.snd (gp l k))], V.i r, V.i per]), pv (26 : Nat) (V.ptr [V.i (Cut.half c), V.i (Cut.gain c), V.i (Cut.thin c), V.i (Cut.wide c), V.i (Cut.slope c), V.i (Cut.jerk c), V.i (Cut.sty c), V.sl (2 : Nat) (List.length l) fun (k : Nat) => [V.i (Prod.fst (gp l k)), V.i (Prod.snd (gp l k))], V.i r, V.i per]), pv (27 : Nat) (V.ptr [V.sl (2 : Nat) (List.length l) fun (k : Nat) => [V.i (Prod.fst (gp l k)), V.i (Prod.snd (gp l k))], V.i r, V.i per]), pv (28 : Nat) (V.sl (2 : Nat) (List.length l) fun (k : Nat) => [V.i (Prod.fst (gp l k)), V.i (Prod.snd (gp l k))]), pv (29 : Nat) (V.i (↑(List.length l) : Int)), pv (30 : Nat) (V.b (decide ((↑i : Int) + (1 : Int) < (↑(List.length l) : Int))))] (by kernel_rfl) (by kernel_rfl) ⟨(by omega), True.intro⟩ ?_
    refine aops_nil ?_
    refine xt_n ?_
    refine hK _ ?_
    clear hK K
    refine w_cond (t := decide ((↑i : Int) + (1 : Int) < (↑(List.length l) : Int))) (by kernel_rfl) (fun c2 => ?_) (fun c2 => ?_)
    · have h2 : i + 1 < l.length := by simp at c2; omega
      refine w_region (n' := 7) (by kernel_rfl) (by kernel_rfl) ?_
      refine aops_n hTT (M := []) (n := 9) [pv (31 : Nat) (V.ptr [V.i (Cut.half c), V.i (Cut.gain c), V.i (Cut.thin c), V.i (Cut.wide c), V.i (Cut.slope c), V.i (Cut.jerk c), V.i (Cut.sty c), V.sl (2 : Nat) (List.length l) fun (k : Nat) => [V.i (Prod.fst (gp l k)), V.i (Prod.snd (gp l k))], V.i r, V.i per]), pv (32 : Nat) (V.ptr [V.i (Cut.half c), V.i (Cut.gain c), V.i (Cut.thin c), V.i (Cut.wide c), V.i (Cut.slope c), V.i (Cut.jerk c), V.i (Cut.sty c), V.sl (2 : Nat) (List.length l) fun (k : Nat) => [V.i (Prod.fst (gp l k)), V.i (Prod.snd (gp l k))], V.i r, V.i per]), pv (33 : Nat) (V.ptr [V.sl (2 : Nat) (List.length l) fun (k : Nat) => [V.i (Prod.fst (gp l k)), V.i (Prod.snd (gp l k))], V.i r, V.i per]), pv (34 : Nat) (V.sl (2 : Nat) (List.length l) fun (k : Nat) => [V.i (Prod.fst (gp l k)), V.i (Prod.snd (gp l k))]), pv (35 : Nat) (V.i (↑i : Int)), pc (36 : Nat) ((-9223372036854775808 : Int) ≤ (↑i : Int) + (1 : Int) ∧ (↑i : Int) + (1 : Int) ≤ (9223372036854775807 : Int)) (V.i ((↑i : Int) + (1 : Int))), pc (37 : Nat) ((0 : Int) ≤ (↑i : Int) + (1 : Int) ∧ (↑i : Int) + (1 : Int) < (↑(List.length l) : Int)) (V.ptr [V.i (Prod.fst (gp l (i + (1 : Nat)))), V.i (Prod.snd (gp l (i + (1 : Nat))))]), pv (38 : Nat) (V.ref (200005 : Nat) (2 : Nat)), pw ((2 : Nat) + (1 : Nat) ≤ (3 : Nat)) (200005 : Nat) (Ob.box (86 : Nat) [V.ptr [V.i (Prod.fst (gp l (Int.toNat ((↑i : Int) - (1 : Int))))), V.i (Prod.snd (gp l (Int.toNat ((↑i : Int) - (1 : Int)))))], V.ptr [V.i (Prod.fst (gp l i)), V.i (Prod.snd (gp l i))], V.ptr [V.i (Prod.fst (gp l (i + (1 : Nat)))), V.i (Prod.snd (gp l (i + (1 : Nat))))]])] (by kernel_rfl) (by kernel_rfl) ⟨(by omega), (by omega), (by omega), True.intro⟩ ?_
      refine aops_nil ?_
      refine xt_n ?_
      refine hK _ ?_
      clear hK K
      refine aw_seq_k fun K hK => ?_
      refine w_region (n' := 8) (by kernel_rfl) (by kernel_rfl) ?_
      refine aops_n hTT (M := []) (n := 2) [pc (39 : Nat) ((0 : Nat) ≤ (3 : Nat)) (V.agg [V.ptr [V.i (Prod.fst (gp l (Int.toNat ((↑i : Int) - (1 : Int))))), V.i (Prod.snd (gp l (Int.toNat ((↑i : Int) - (1 : Int)))))], V.ptr [V.i (Prod.fst (gp l i)), V.i (Prod.snd (gp l i))], V.ptr [V.i (Prod.fst (gp l (i + (1 : Nat)))), V.i (Prod.snd (gp l (i + (1 : Nat))))]]), pw ((0 : Nat) + (3 : Nat) ≤ (3 : Nat)) (100004 : Nat) (Ob.box (86 : Nat) [V.ptr [V.i (Prod.fst (gp l (Int.toNat ((↑i : Int) - (1 : Int))))), V.i (Prod.snd (gp l (Int.toNat ((↑i : Int) - (1 : Int)))))], V.ptr [V.i (Prod.fst (gp l i)), V.i (Prod.snd (gp l i))], V.ptr [V.i (Prod.fst (gp l (i + (1 : Nat)))), V.i (Prod.snd (gp l (i + (1 : Nat))))]])] (by kernel_rfl) (by kernel_rfl) ⟨(by omega), (by omega), True.intro⟩ ?_
      refine aops_nil ?_
      refine xt_n ?_
      refine hK _ ?_
      clear hK K
      refine aw_ret ?_
      refine ret_of_le (le_freezeBox (t := (86 : Nat)) (cs := [V.ptr [V.i (Prod.fst (gp l (Int.toNat ((↑i : Int) - (1 : Int))))), V.i (Prod.snd (gp l (Int.toNat ((↑i : Int) - (1 : Int)))))], V.ptr [V.i (Prod.fst (gp l i)), V.i (Prod.snd (gp l i))], V.ptr [V.i (Prod.fst (gp l (i + (1 : Nat)))), V.i (Prod.snd (gp l (i + (1 : Nat))))]]) 200005 (by kernel_rfl) (by kernel_rfl)) ?_
      refine ret_of_le (le_freezeBox (t := (86 : Nat)) (cs := [V.ptr [V.i (Prod.fst (gp l (Int.toNat ((↑i : Int) - (1 : Int))))), V.i (Prod.snd (gp l (Int.toNat ((↑i : Int) - (1 : Int)))))], V.ptr [V.i (Prod.fst (gp l i)), V.i (Prod.snd (gp l i))], V.ptr [V.i (Prod.fst (gp l (i + (1 : Nat)))), V.i (Prod.snd (gp l (i + (1 : Nat))))]]) 100004 (by kernel_rfl) (by kernel_rfl)) ?_
      rw [nearI, nb, na, if_pos h1, if_pos h2, ← e0 h1]
      refine ret_pure (v' := V.agg [V.ptr [V.i (Prod.fst (gp l (Int.toNat ((↑i : Int) - (1 : Int))))), V.i (Prod.snd (gp l (Int.toNat ((↑i : Int) - (1 : Int)))))], V.ptr [V.i (Prod.fst (gp l i)), V.i (Prod.snd (gp l i))], V.ptr [V.i (Prod.fst (gp l (i + (1 : Nat)))), V.i (Prod.snd (gp l (i + (1 : Nat))))]]) (.inr rfl) (by kernel_rfl) (by kernel_rfl) (by kernel_rfl)
    · have h2 : ¬ i + 1 < l.length := by simp at c2; omega
      refine aw_skip ?_
      refine xt_n ?_
      refine hK _ ?_
      clear hK K
      refine aw_seq_k fun K hK => ?_
      refine w_region (n' := 7) (by kernel_rfl) (by kernel_rfl) ?_
      refine aops_n hTT (M := []) (n := 2) [pc (39 : Nat) ((0 : Nat) ≤ (3 : Nat)) (V.agg [V.ptr [V.i (Prod.fst (gp l (Int.toNat ((↑i : Int) - (1 : Int))))), V.i (Prod.snd (gp l (Int.toNat ((↑i : Int) - (1 : Int)))))], V.ptr [V.i (Prod.fst (gp l i)), V.i (Prod.snd (gp l i))], V.c (Value.pointer none)]), pw ((0 : Nat) + (3 : Nat) ≤ (3 : Nat)) (100004 : Nat) (Ob.box (86 : Nat) [V.ptr [V.i (Prod.fst (gp l (Int.toNat ((↑i : Int) - (1 : Int))))), V.i (Prod.snd (gp l (Int.toNat ((↑i : Int) - (1 : Int)))))], V.ptr [V.i (Prod.fst (gp l i)), V.i (Prod.snd (gp l i))], V.c (Value.pointer none)])] (by kernel_rfl) (by kernel_rfl) ⟨(by omega), (by omega), True.intro⟩ ?_
      refine aops_nil ?_
      refine xt_n ?_
      refine hK _ ?_
      clear hK K
      refine aw_ret ?_
      refine ret_of_le (le_freezeBox (t := (86 : Nat)) (cs := [V.ptr [V.i (Prod.fst (gp l (Int.toNat ((↑i : Int) - (1 : Int))))), V.i (Prod.snd (gp l (Int.toNat ((↑i : Int) - (1 : Int)))))], V.ptr [V.i (Prod.fst (gp l i)), V.i (Prod.snd (gp l i))], V.c (Value.pointer none)]) 200005 (by kernel_rfl) (by kernel_rfl)) ?_
      refine ret_of_le (le_freezeBox (t := (86 : Nat)) (cs := [V.ptr [V.i (Prod.fst (gp l (Int.toNat ((↑i : Int) - (1 : Int))))), V.i (Prod.snd (gp l (Int.toNat ((↑i : Int) - (1 : Int)))))], V.ptr [V.i (Prod.fst (gp l i)), V.i (Prod.snd (gp l i))], V.c (Value.pointer none)]) 100004 (by kernel_rfl) (by kernel_rfl)) ?_
      rw [nearI, nb, na, if_pos h1, if_neg h2, ← e0 h1]
      refine ret_pure (v' := V.agg [V.ptr [V.i (Prod.fst (gp l (Int.toNat ((↑i : Int) - (1 : Int))))), V.i (Prod.snd (gp l (Int.toNat ((↑i : Int) - (1 : Int)))))], V.ptr [V.i (Prod.fst (gp l i)), V.i (Prod.snd (gp l i))], V.c (Value.pointer none)]) (.inr rfl) (by kernel_rfl) (by kernel_rfl) (by kernel_rfl)
  · have h1 : ¬ 0 < i := by simpa using c1
    refine aw_skip ?_
    refine xt_n ?_
    refine hK _ ?_
    clear hK K
    refine aw_seq_k fun K hK => ?_
    refine aw_seq_k fun K hK => ?_
    refine w_region (n' := 5) (by kernel_rfl) (by kernel_rfl) ?_
    refine aops_n hTT (M := []) (n := 8) [pv (23 : Nat) (V.i (↑i : Int)), pc (24 : Nat) ((-9223372036854775808 : Int) ≤ (↑i : Int) + (1 : Int) ∧ (↑i : Int) + (1 : Int) ≤ (9223372036854775807 : Int)) (V.i ((↑i : Int) + (1 : Int))), pv (25 : Nat) (V.ptr [V.i (Cut.half c), V.i (Cut.gain c), V.i (Cut.thin c), V.i (Cut.wide c), V.i (Cut.slope c), V.i (Cut.jerk c), V.i (Cut.sty c), V.sl (2 : Nat) (List.length l) fun (k : Nat) => [V.i (Prod.fst (gp l k)), V.i (Prod.snd (gp l k))], V.i r, V.i per]), pv (26 : Nat) (V.ptr [V.i (Cut.half c), V.i (Cut.gain c), V.i (Cut.thin c), V.i (Cut.wide c), V.i (Cut.slope c), V.i (Cut.jerk c), V.i (Cut.sty c), V.sl (2 : Nat) (List.length l) fun (k : Nat) => [V.i (Prod.fst (gp l k)), V.i (Prod.snd (gp l k))], V.i r, V.i per]), pv (27 : Nat) (V.ptr [V.sl (2 : Nat) (List.length l) fun (k : Nat) => [V.i (Prod.fst (gp l k)), V.i (Prod.snd (gp l k))], V.i r, V.i per]), pv (28 : Nat) (V.sl (2 : Nat) (List.length l) fun (k : Nat) => [V.i (Prod.fst (gp l k)), V.i (Prod.snd (gp l k))]), pv (29 : Nat) (V.i (↑(List.length l) : Int)), pv (30 : Nat) (V.b (decide ((↑i : Int) + (1 : Int) < (↑(List.length l) : Int))))] (by kernel_rfl) (by kernel_rfl) ⟨(by omega), True.intro⟩ ?_
    refine aops_nil ?_
    refine xt_n ?_
    refine hK _ ?_
    clear hK K
    refine w_cond (t := decide ((↑i : Int) + (1 : Int) < (↑(List.length l) : Int))) (by kernel_rfl) (fun c2 => ?_) (fun c2 => ?_)
    · have h2 : i + 1 < l.length := by simp at c2; omega
      refine w_region (n' := 6) (by kernel_rfl) (by kernel_rfl) ?_
      refine aops_n hTT (M := []) (n := 9) [pv (31 : Nat) (V.ptr [V.i (Cut.half c), V.i (Cut.gain c), V.i (Cut.thin c), V.i (Cut.wide c), V.i (Cut.slope c), V.i (Cut.jerk c), V.i (Cut.sty c), V.sl (2 : Nat) (List.length l) fun (k : Nat) => [V.i (Prod.fst (gp l k)), V.i (Prod.snd (gp l k))], V.i r, V.i per]), pv (32 : Nat) (V.ptr [V.i (Cut.half c), V.i (Cut.gain c), V.i (Cut.thin c), V.i (Cut.wide c), V.i (Cut.slope c), V.i (Cut.jerk c), V.i (Cut.sty c), V.sl (2 : Nat) (List.length l) fun (k : Nat) => [V.i (Prod.fst (gp l k)), V.i (Prod.snd (gp l k))], V.i r, V.i per]), pv (33 : Nat) (V.ptr [V.sl (2 : Nat) (List.length l) fun (k : Nat) => [V.i (Prod.fst (gp l k)), V.i (Prod.snd (gp l k))], V.i r, V.i per]), pv (34 : Nat) (V.sl (2 : Nat) (List.length l) fun (k : Nat) => [V.i (Prod.fst (gp l k)), V.i (Prod.snd (gp l k))]), pv (35 : Nat) (V.i (↑i : Int)), pc (36 : Nat) ((-9223372036854775808 : Int) ≤ (↑i : Int) + (1 : Int) ∧ (↑i : Int) + (1 : Int) ≤ (9223372036854775807 : Int)) (V.i ((↑i : Int) + (1 : Int))), pc (37 : Nat) ((0 : Int) ≤ (↑i : Int) + (1 : Int) ∧ (↑i : Int) + (1 : Int) < (↑(List.length l) : Int)) (V.ptr [V.i (Prod.fst (gp l (i + (1 : Nat)))), V.i (Prod.snd (gp l (i + (1 : Nat))))]), pv (38 : Nat) (V.ref (200005 : Nat) (2 : Nat)), pw ((2 : Nat) + (1 : Nat) ≤ (3 : Nat)) (200005 : Nat) (Ob.box (86 : Nat) [V.c (Value.pointer none), V.ptr [V.i (Prod.fst (gp l i)), V.i (Prod.snd (gp l i))], V.ptr [V.i (Prod.fst (gp l (i + (1 : Nat)))), V.i (Prod.snd (gp l (i + (1 : Nat))))]])] (by kernel_rfl) (by kernel_rfl) ⟨(by omega), (by omega), (by omega), True.intro⟩ ?_
      refine aops_nil ?_
      refine xt_n ?_
      refine hK _ ?_
      clear hK K
      refine aw_seq_k fun K hK => ?_
      refine w_region (n' := 7) (by kernel_rfl) (by kernel_rfl) ?_
      refine aops_n hTT (M := []) (n := 2) [pc (39 : Nat) ((0 : Nat) ≤ (3 : Nat)) (V.agg [V.c (Value.pointer none), V.ptr [V.i (Prod.fst (gp l i)), V.i (Prod.snd (gp l i))], V.ptr [V.i (Prod.fst (gp l (i + (1 : Nat)))), V.i (Prod.snd (gp l (i + (1 : Nat))))]]), pw ((0 : Nat) + (3 : Nat) ≤ (3 : Nat)) (100004 : Nat) (Ob.box (86 : Nat) [V.c (Value.pointer none), V.ptr [V.i (Prod.fst (gp l i)), V.i (Prod.snd (gp l i))], V.ptr [V.i (Prod.fst (gp l (i + (1 : Nat)))), V.i (Prod.snd (gp l (i + (1 : Nat))))]])] (by kernel_rfl) (by kernel_rfl) ⟨(by omega), (by omega), True.intro⟩ ?_
      refine aops_nil ?_
      refine xt_n ?_
      refine hK _ ?_
      clear hK K
      refine aw_ret ?_
      refine ret_of_le (le_freezeBox (t := (86 : Nat)) (cs := [V.c (Value.pointer none), V.ptr [V.i (Prod.fst (gp l i)), V.i (Prod.snd (gp l i))], V.ptr [V.i (Prod.fst (gp l (i + (1 : Nat)))), V.i (Prod.snd (gp l (i + (1 : Nat))))]]) 200005 (by kernel_rfl) (by kernel_rfl)) ?_
      refine ret_of_le (le_freezeBox (t := (86 : Nat)) (cs := [V.c (Value.pointer none), V.ptr [V.i (Prod.fst (gp l i)), V.i (Prod.snd (gp l i))], V.ptr [V.i (Prod.fst (gp l (i + (1 : Nat)))), V.i (Prod.snd (gp l (i + (1 : Nat))))]]) 100004 (by kernel_rfl) (by kernel_rfl)) ?_
      rw [nearI, nb, na, if_neg h1, if_pos h2]
      refine ret_pure (v' := V.agg [V.c (Value.pointer none), V.ptr [V.i (Prod.fst (gp l i)), V.i (Prod.snd (gp l i))], V.ptr [V.i (Prod.fst (gp l (i + (1 : Nat)))), V.i (Prod.snd (gp l (i + (1 : Nat))))]]) (.inr rfl) (by kernel_rfl) (by kernel_rfl) (by kernel_rfl)
    · have h2 : ¬ i + 1 < l.length := by simp at c2; omega
      refine aw_skip ?_
      refine xt_n ?_
      refine hK _ ?_
      clear hK K
      refine aw_seq_k fun K hK => ?_
      refine w_region (n' := 6) (by kernel_rfl) (by kernel_rfl) ?_
      refine aops_n hTT (M := []) (n := 2) [pc (39 : Nat) ((0 : Nat) ≤ (3 : Nat)) (V.agg [V.c (Value.pointer none), V.ptr [V.i (Prod.fst (gp l i)), V.i (Prod.snd (gp l i))], V.c (Value.pointer none)]), pw ((0 : Nat) + (3 : Nat) ≤ (3 : Nat)) (100004 : Nat) (Ob.box (86 : Nat) [V.c (Value.pointer none), V.ptr [V.i (Prod.fst (gp l i)), V.i (Prod.snd (gp l i))], V.c (Value.pointer none)])] (by kernel_rfl) (by kernel_rfl) ⟨(by omega), (by omega), True.intro⟩ ?_
      refine aops_nil ?_
      refine xt_n ?_
      refine hK _ ?_
      clear hK K
      refine aw_ret ?_
      refine ret_of_le (le_freezeBox (t := (86 : Nat)) (cs := [V.c (Value.pointer none), V.ptr [V.i (Prod.fst (gp l i)), V.i (Prod.snd (gp l i))], V.c (Value.pointer none)]) 200005 (by kernel_rfl) (by kernel_rfl)) ?_
      refine ret_of_le (le_freezeBox (t := (86 : Nat)) (cs := [V.c (Value.pointer none), V.ptr [V.i (Prod.fst (gp l i)), V.i (Prod.snd (gp l i))], V.c (Value.pointer none)]) 100004 (by kernel_rfl) (by kernel_rfl)) ?_
      rw [nearI, nb, na, if_neg h1, if_neg h2]
      refine ret_pure (v' := V.agg [V.c (Value.pointer none), V.ptr [V.i (Prod.fst (gp l i)), V.i (Prod.snd (gp l i))], V.c (Value.pointer none)]) (.inr rfl) (by kernel_rfl) (by kernel_rfl) (by kernel_rfl)
abbrev TrO (c : Cut) (l : List Pt) (r per : Int) : Ob := .box 90 (trC c l r per)
def allV (l : List Pt) : List (List V) := (List.range l.length).map fun i : Nat => [V.i i, nearI l i]
theorem allV_get {l : List Pt} {k : Nat} (h : k < l.length) : (allV l)[k]? = some [V.i k, nearI l k] := by simp [allV, h]
theorem allV_len (l : List Pt) : (allV l).length = l.length := by simp [allV]
theorem near_idf (b : Option Pt) (h : Pt) (a : Option Pt) (n : Int) : V.idfL [V.i n, gNearV b h a] = true := by cases b <;> cases a <;> rfl
theorem nearI_idf (l : List Pt) (i : Nat) : V.idf (nearI l i) = true := by
  unfold nearI
  cases nb l i <;> cases na l i <;> rfl
set_option maxRecDepth 100000 in
theorem all_it (c : Cut) (l : List Pt) (r per : Int) (hl : l.length ≤ 4096) : AIt Try.prog 86 [.ptr [.ptr (trC c l r per)]] (allV l) := by
  refine ait_intro hTT hMX (fn := Try.f86) (N := _) ⟨Try.func86, rfl, Try.ntmps86, by kernel_rfl⟩ rfl (by simp) fun C Y hC => ?_
  rw [allV_len]
  refine awj_seq_a hC fun K hK => ?_
  refine w_region (n' := 2) (by kernel_rfl) (by kernel_rfl) ?_
  refine aops_n hTT (M := []) (n := 6) [pv (4 : Nat) (V.ptr [V.i (Cut.half c), V.i (Cut.gain c), V.i (Cut.thin c), V.i (Cut.wide c), V.i (Cut.slope c), V.i (Cut.jerk c), V.i (Cut.sty c), V.sl (2 : Nat) (List.length l) fun (k : Nat) => [V.i (Prod.fst (gp l k)), V.i (Prod.snd (gp l k))], V.i r, V.i per]), pv (5 : Nat) (V.ptr [V.i (Cut.half c), V.i (Cut.gain c), V.i (Cut.thin c), V.i (Cut.wide c), V.i (Cut.slope c), V.i (Cut.jerk c), V.i (Cut.sty c), V.sl (2 : Nat) (List.length l) fun (k : Nat) => [V.i (Prod.fst (gp l k)), V.i (Prod.snd (gp l k))], V.i r, V.i per]), pv (6 : Nat) (V.ptr [V.sl (2 : Nat) (List.length l) fun (k : Nat) => [V.i (Prod.fst (gp l k)), V.i (Prod.snd (gp l k))], V.i r, V.i per]), pv (7 : Nat) (V.sl (2 : Nat) (List.length l) fun (k : Nat) => [V.i (Prod.fst (gp l k)), V.i (Prod.snd (gp l k))]), pv (8 : Nat) (V.i (↑(List.length l) : Int)), pv (9 : Nat) (V.i (0 : Int))] (by kernel_rfl) (by kernel_rfl) True.intro ?_
  refine aops_nil ?_
  refine xt_n ?_
  refine hK _ ?_
  clear hK K
  refine awj_block ?_
  refine awj_loop (ι := Nat) (fun k => ⟨mkT [(0, .c (.func (.yield Y.l) #[] #[])), (1, .ptr [.ptr (trC c l r per)]), (8, .i l.length), (9, .i k)], mkS [], 1⟩) (fun k => k) (fun k => k ≤ l.length) (fun k => l.length - k) 0 (Nat.zero_le _) ?_ rfl ?_
  · refine le_ren [] (.cons (by kernel_rfl) (.cons (by kernel_rfl) (.cons (by kernel_rfl) (.cons (by kernel_rfl) .nil)))) .nil (by kernel_rfl) (by kernel_rfl)
  intro k hk
  refine awj_seq_a hC fun K hK => ?_
  refine w_region (n' := 2) (by kernel_rfl) (by kernel_rfl) ?_
  refine aops_n hTT (M := []) (n := 1) [pv (10 : Nat) (V.b (decide ((↑k : Int) < (↑(List.length l) : Int))))] (by kernel_rfl) (by kernel_rfl) True.intro ?_
  refine aops_nil ?_
  refine xt_n ?_
  refine hK _ ?_
  clear hK K
  refine awj_seq_a hC fun K hK => ?_
  refine w_cond (t := decide ((↑k : Int) < (↑(List.length l) : Int))) (by kernel_rfl) (fun c1 => ?_) (fun c1 => ?_)
  · have h1 : k < l.length := by simpa using c1
    refine aw_skip ?_
    refine xt_n ?_
    refine hK _ ?_
    clear hK K
    refine awj_seq ?_
    refine awj_block ?_
    refine awj_seq_a hC fun K hK => ?_
    refine w_region (n' := 3) (by kernel_rfl) (by kernel_rfl) ?_
    refine aops_n hTT (M := []) (n := 2) [pv (11 : Nat) (V.i (↑k : Int)), pv (3 : Nat) (V.i (↑k : Int))] (by kernel_rfl) (by kernel_rfl) True.intro ?_
    refine aops_nil ?_
    refine xt_n ?_
    refine hK _ ?_
    clear hK K
    refine awj_seq (awj_yield hC 5 (by kernel_rfl) rfl ?_)
    refine aops_n hTT (M := []) (n := 4) [pv (12 : Nat) (V.c (Value.func (Fn.yield (YE.l Y)) #[] #[])), pv (13 : Nat) (V.i (↑k : Int)), pv (14 : Nat) (V.ptr [V.i (Cut.half c), V.i (Cut.gain c), V.i (Cut.thin c), V.i (Cut.wide c), V.i (Cut.slope c), V.i (Cut.jerk c), V.i (Cut.sty c), V.sl (2 : Nat) (List.length l) fun (k : Nat) => [V.i (Prod.fst (gp l k)), V.i (Prod.snd (gp l k))], V.i r, V.i per]), pv (15 : Nat) (V.i (↑k : Int))] (by kernel_rfl) (by kernel_rfl) True.intro ?_
    refine e_call (first := []) (caps := []) (at_ac c l r per k h1 hl) (by kernel_rfl) (by kernel_rfl) (by kernel_rfl) ?_ (by kernel_rfl) ?_
    · exact nearI_idf l k
    refine aops_nil ?_
    refine ⟨by kernel_rfl, ⟨_, allV_get h1, RImp.refl _, RImp.refl _, trivial⟩, near_idf _ _ _ _, ?_, ?_⟩
    · refine aops_n hTT (M := []) (n := 1) [pv (18 : Nat) (V.b false)] (by kernel_rfl) (by kernel_rfl) True.intro ?_
      refine aops_nil ?_
      refine xjt_n ?_
      refine awj_cond (t := false) (by kernel_rfl) (fun h => by cases h) (fun _ => ?_)
      refine awj_skip ?_
      refine xjb_n ?_
      refine xjt_n ?_
      refine awj_aw hC ?_
      refine w_region (n' := 5) (by kernel_rfl) (by kernel_rfl) ?_
      refine aops_n hTT (M := []) (n := 2) [pc (19 : Nat) ((-9223372036854775808 : Int) ≤ (↑k : Int) + (1 : Int) ∧ (↑k : Int) + (1 : Int) ≤ (9223372036854775807 : Int)) (V.i ((↑k : Int) + (1 : Int))), pv (9 : Nat) (V.i ((↑k : Int) + (1 : Int)))] (by kernel_rfl) (by kernel_rfl) ⟨(by omega), True.intro⟩ ?_
      refine aops_nil ?_
      refine xjt_n ?_
      refine ⟨rfl, k + 1, by omega, ?_, rfl, by omega⟩
      refine le_ren [] (.cons (by kernel_rfl) (.cons (by kernel_rfl) (.cons (by kernel_rfl) (.cons (by kernel_rfl) .nil)))) .nil (by kernel_rfl) (by kernel_rfl)
    · refine aops_n hTT (M := []) (n := 1) [pv (18 : Nat) (V.b true)] (by kernel_rfl) (by kernel_rfl) True.intro ?_
      refine aops_nil ?_
      refine xjt_n ?_
      refine awj_cond (t := true) (by kernel_rfl) (fun _ => ?_) (fun h => by cases h)
      refine awj_ret ?_
      refine xjb_r ?_
      refine xjt_r ?_
      refine xjt_r ?_
      refine xjb_r ?_
      exact ⟨.inr rfl, fun h => (by cases h), fun _ => h1⟩
  · have h1 : k = l.length := by simp at c1; omega
    refine aw_exit ?_
    refine xt_x ?_
    refine xjt_x ?_
    refine xjb_same ?_
    exact ⟨.inl rfl, fun _ => h1, fun h => by cases h⟩
end Go.Proofs.Ytjjlgegccfolpaa
