/-
  Several texts in one: The costs of gangs: walks. Conditions: told in each theorem. .. The best gang: walks, joined. No condition but the length of a list that is in memory.
-/
import Derived.Test.YtfckkkmacjjmhaaDoorAbs42
import Derived.Test.YtfckkkmacjjmhaaDoorX04
import Derived.Test.YtfckkkmacjjmhaaDoorX01
import Derived.Test.YtfckkkmacjjmhaaDoorX02
import Derived.Test.YtfckkkmacjjmhaaDoorSPl10
namespace Go.Proofs.YtfckkkmacjjmhaaDoor
open Go.Ab Go.RowKit Go.Dw Go.Shelf
abbrev PlB (c : List Int) (slots plate : Int) (k : Nat) : Ob := .box 102 [V.ints c, .i slots, .i plate, .own k]
abbrev KnO (c : List Int) (slots plate : Int) (kn : List Nat) : Ob := .mp (false, kn.length) (knF c slots plate kn)
theorem kn_inN (c : List Int) (slots plate : Int) (K : List Nat) (n : Nat) (k : MK) (u : V) (h : (knF c slots plate K).look k = some u) : V.inN n u = true := by
 change (knR c slots plate K k).map V.c = some u at h
 cases e : knR c slots plate K k with
 | none => rw [e] at h; cases h
 | some v => rw [e] at h; cases h; rfl
abbrev yySG11 (c : List Int) (slots : Int) (plate : Int) : Ob := Ob.box 102 [V.sl 1 (List.length c) fun (k : Nat) => [V.i (gi c k)], V.i slots, V.i plate, V.own 501]
abbrev yySG10 (c : List Int) (slots : Int) (plate : Int) := (500, (yySG11 c slots plate))
set_option maxHeartbeats 2000000 in
set_option maxRecDepth 100000 in
theorem cost_am (c : List Int) (slots plate : Int) (kn : List Nat) (s : Nat) (hc : chkC c slots plate = 0) (hs : s < 256) : AM Tryd.prog 86 [.ref 500 0, .i s] [PlB c slots plate 501, KnO c slots plate kn] (.i (costN c slots plate s)) [some (PlB c slots plate 501), some (KnO c slots plate (addK kn s))] [] := by
 obtain ⟨l8, hco, hsl, hpl⟩ := chkC_inv hc
 have hmg := kn_get c slots plate kn s
 refine am_intro hTT hMX (fn := Tryd.f86) (N := _) ⟨Tryd.func86, rfl, Tryd.ntmps86, kR⟩ (by simp) rfl (by simp) (by simp) fun C hF => ?_
 refine sK fun K hK => wR 2 ?_
 refine aops_n hTT (M := []) (n := 1) [pv 4 (V.i 0)] kR kR tI ?_
 refine nK hK ?_; clear hK K; refine sK fun K hK => wR 3 ?_
 refine aops_n hTT (M := []) (n := 11) [pv 11 (V.ref 500 0), pv 12 (V.ref 500 0), pv 13 (V.ref 500 3), pc 14 ((3 : Nat) ≤ (4 : Nat)) (V.own 501), pv 15 (V.i (↑s : Int)), pc 16 (mget (knF c slots plate kn) (MK.i (↑s : Int)) (V.c (Value.int IntKind.i64 0)) = V.c (Value.int IntKind.i64 (mgetI (knF c slots plate kn) (MK.i (↑s : Int))))) (V.tup [V.i (mgetI (knF c slots plate kn) (MK.i (↑s : Int))), V.b (mhas (knF c slots plate kn) (MK.i (↑s : Int)))]), pv 10 (V.tup [V.i (mgetI (knF c slots plate kn) (MK.i (↑s : Int))), V.b (mhas (knF c slots plate kn) (MK.i (↑s : Int)))]), pv 17 (V.i (mgetI (knF c slots plate kn) (MK.i (↑s : Int)))), pv 18 (V.b (mhas (knF c slots plate kn) (MK.i (↑s : Int)))), pv 5 (V.i (mgetI (knF c slots plate kn) (MK.i (↑s : Int)))), pv 6 (V.b (mhas (knF c slots plate kn) (MK.i (↑s : Int))))] kR kR ⟨oM, oM, tI⟩ ?_
 refine nK hK ?_; clear hK K; refine sK fun K hK => ?_; refine sK fun K hK => wR 4 ?_
 refine aops_n hTT (M := []) (n := 1) [pv 19 (V.b (mhas (knF c slots plate kn) (MK.i (↑s : Int))))] kR kR tI ?_
 refine nK hK ?_; clear hK K
 by_cases hk : s ∈ kn
 ·
  obtain ⟨e1, e2, e3⟩ := kn_in (c := c) (slots := slots) (plate := plate) hk
  rw [e1, e2]
  refine w_cond (t := true) kR (fun c1 => ?_) (fun c1 => ?_)
  ·
   refine sK fun K hK => ?_
   refine wR 5 ?_
   refine aops_n hTT (M := []) (n := 2) [pv 20 (V.i (costN c slots plate s)), pv 4 (V.i (costN c slots plate s))] kR kR tI ?_
   refine nK hK ?_; clear hK K
   refine aw_ret ?_
   refine xt_r ?_
   rw [e3]
   refine retM (v' := V.i (costN c slots plate s)) [] [(4, V.i (costN c slots plate s))] (.inr rfl) (.cons kR .nil) (.cons ⟨(yySG11 c slots plate), kR, .box kR⟩ (.cons ⟨Ob.mp (false, List.length kn) (MF.mk [] (knR c slots plate kn)), kR, .mp (fun _ => rfl)⟩ .nil)) kR kR kR kR kR kR kR
  ·
   cases c1
 obtain ⟨e1, e2, e3, e4, e5⟩ := kn_out (c := c) (slots := slots) (plate := plate) hk
 rw [e1]
 refine w_cond (t := false) kR (fun c1 => ?_) (fun c1 => ?_)
 ·
  cases c1
 refine aw_skip ?_
 refine xt_n (hK _ ?_); clear hK K; refine sK fun K hK => wR 5 ?_
 refine aops_n hTT (M := []) (n := 1) [pv 7 V.nil] kR kR tI ?_
 refine nK hK ?_; clear hK K; refine sK fun K hK => ?_; refine sK fun K hK => wR 6 ?_
 refine aops_n hTT (M := []) (n := 6) [pv 21 (V.ref 500 0), pv 22 (V.ref 500 0), pv 23 (V.ref 500 0), pc 24 ((0 : Nat) ≤ (4 : Nat)) (V.sl 1 (List.length c) fun (k : Nat) => [V.i (gi c k)]), pv 25 (V.i (↑(List.length c) : Int)), pv 26 (V.i 0)] kR kR ⟨oM, tI⟩ ?_
 refine nK hK ?_; clear hK K
 refine aw_block ?_
 refine w_le (le_open 7 2 1 (fun j => [.i (gi (onK c s 0) j)]) kR rfl) ?_
 refine w_loop (ι := Nat) (fun k => [(0, .ref 500 0), (1, .i s), (7, .own 7), (24, V.ints c), (25, .i c.length), (26, .i k)]) (fun k => [(500, PlB c slots plate 501), (501, KnO c slots plate kn), (7, .row 2 1 (onK c s k).length fun j => [.i (gi (onK c s k) j)])]) (fun k => k ≤ c.length) (fun k => c.length - k) 0 (Nat.zero_le _) ?_ ?_
 ·
  refine le_ren (sl := [(yySG10 c slots plate), (501, Ob.mp (false, List.length kn) (MF.mk [] (knR c slots plate kn))), (7, Ob.row 2 1 0 fun (j : Nat) => [V.i (gi (onK c s (0 : Nat)) j)])]) [(7, 600007)] (.cons kR (.cons kR (.cons kR (.cons kR (.cons kR (.cons kR .nil)))))) (.cons ⟨(yySG11 c slots plate), kR, .box kR⟩ (.cons ⟨Ob.mp (false, List.length kn) (MF.mk [] (knR c slots plate kn)), kR, .mp (fun _ => rfl)⟩ (.cons ⟨Ob.row 2 1 0 fun (j : Nat) => [V.i (gi (onK c s (0 : Nat)) j)], kR, .row kR (fun _ _ => rfl)⟩ .nil))) kR kR
 intro k hk
 refine sK fun K hK => wR 2 ?_
 refine aops_n hTT (M := []) (n := 1) [pv 27 (V.b (decide ((↑k : Int) < (↑(List.length c) : Int))))] kR kR tI ?_
 refine nK hK ?_; clear hK K; refine sK fun K hK => ?_
 refine w_cond (t := decide ((↑k : Int) < (↑(List.length c) : Int))) kR (fun c2 => ?_) (fun c2 => ?_)
 ·
  have hk1 : k < c.length := by simpa using c2
  have hb := bit_and s hs k oM
  refine aw_skip ?_
  refine xt_n (hK _ ?_); clear hK K; refine sK fun K hK => ?_
  refine aw_block ?_
  refine sK fun K hK => wR 3 ?_
  refine aops_n hTT (M := []) (n := 5) [pv 28 (V.i (↑k : Int)), pc 29 ((0 : Int) ≤ (↑k : Int) ∧ (↑k : Int) < (↑(List.length c) : Int)) (V.ptr [V.i (gi c k)]), pv 30 (V.i (gi c k)), pv 8 (V.i (↑k : Int)), pv 9 (V.i (gi c k))] kR kR ⟨oM, tI⟩ ?_
  refine nK hK ?_; clear hK K; refine sK fun K hK => wR 4 ?_
  refine aops_n hTT (M := []) (n := 5) [pv 31 (V.i (↑s : Int)), pv 32 (V.i (↑k : Int)), pc 33 ((0 : Int) ≤ (↑k : Int)) (V.i (Int.fdiv (↑s : Int) ((2 : Int) ^ min k (IntKind.bits IntKind.i64)))), pv 34 (V.i (bitop BinOp.and IntKind.i64 (Int.fdiv (↑s : Int) ((2 : Int) ^ min k (IntKind.bits IntKind.i64))) (1 : Int))), pv 35 (V.b (decide (bitop BinOp.and IntKind.i64 (Int.fdiv (↑s : Int) ((2 : Int) ^ min k (IntKind.bits IntKind.i64))) (1 : Int) = (1 : Int))))] kR kR ⟨oM, tI⟩ ?_
  refine nK hK ?_; clear hK K
  rw [hb]
  refine w_cond (t := decide ((if Nat.testBit s k = true then (1 : Int) else (0 : Int)) = 1)) kR (fun c3 => ?_) (fun c3 => ?_)
  ·
   have ht : s.testBit k = true := by
    cases hx : s.testBit k with
    | true => rfl
    | false => rw [hx] at c3; simp at c3
   have hlen := onK_len c s k
   have e0 : (onK c s (k + 1)).length = (onK c s k).length + 1 := by rw [onK_succ, if_pos ht]; simp
   refine wR 5 ?_
   refine aops_n hTT (M := []) (n := 5) [pv 36 (V.own 7), pv 37 (V.i (gi c k)), pv 38 (V.sl 1 1 fun (i : Nat) => List.take (1 : Nat) (List.drop (i * 1) [V.i (gi c k)])), PR.mk (some (39 : Nat)) (some (List.length (onK c s k) + 1 ≤ (1099511627776 : Nat))) (V.own 400039) [((7 : Nat), none), ((400039 : Nat), some (Ob.row 2 1 (List.length (onK c s k) + 1) (appRow (List.length (onK c s k)) (fun (j : Nat) => [V.i (gi (onK c s k) j)]) fun (i : Nat) => List.take (1 : Nat) (List.drop (i * 1) [V.i (gi c k)]))))] false, pv 7 (V.own 400039)] kR kR ⟨oM, tI⟩ ?_
   refine aops_nil ?_; refine xb_n ?_; refine xt_n (hK _ ?_); clear hK K; refine wR 6 ?_
   refine aops_n hTT (M := []) (n := 2) [pc 40 ((-9223372036854775808 : Int) ≤ (↑k : Int) + 1 ∧ (↑k : Int) + 1 ≤ (9223372036854775807 : Int)) (V.i ((↑k : Int) + 1)), pv 26 (V.i ((↑k : Int) + 1))] kR kR ⟨oM, tI⟩ ?_
   refine aops_nil ?_; refine xt_n ?_
   skip
   refine ⟨k + 1, by omega, ?_, by omega⟩
   rw [e0]
   refine le_ren (tl := [(0, V.ref 500 0), (1, V.i (↑s : Int)), (7, V.own 7), (24, V.sl 1 (List.length c) fun (k : Nat) => [V.i (gi c k)]), (25, V.i (↑(List.length c) : Int)), (26, V.i (↑(k + 1) : Int))]) (sl := [(yySG10 c slots plate), (501, Ob.mp (false, List.length kn) (MF.mk [] (knR c slots plate kn))), (7, Ob.row 2 1 (List.length (onK c s k) + 1) fun (j : Nat) => [V.i (gi (onK c s (k + 1)) j)])]) [(7, 400039)] (.cons kR (.cons kR (.cons kR (.cons kR (.cons kR (.cons kR .nil)))))) (.cons ⟨(yySG11 c slots plate), kR, .box kR⟩ (.cons ⟨Ob.mp (false, List.length kn) (MF.mk [] (knR c slots plate kn)), kR, .mp (fun _ => rfl)⟩ (.cons ⟨Ob.row 2 1 (List.length (onK c s k) + 1) (appRow (List.length (onK c s k)) (fun (j : Nat) => [V.i (gi (onK c s k) j)]) fun (i : Nat) => List.take (1 : Nat) (List.drop (i * 1) [V.i (gi c k)])), kR, .row kR ?_⟩ .nil))) kR kR
   intro i hi
   have q := onK_gi c s k ht i hi
   show appRow _ _ _ i = [V.i (gi (onK c s (k + 1)) i)]
   unfold appRow
   by_cases hl : i < (onK c s k).length
   ·
    rw [if_pos hl] at q ⊢; exact q
   ·
    rw [if_neg hl] at q ⊢
    rw [show i - (onK c s k).length = 0 by omega]
    exact q
  ·
   have ht : s.testBit k = false := by
    cases hx : s.testBit k with
    | false => rfl
    | true => rw [hx] at c3; simp at c3
   have e0 : onK c s (k + 1) = onK c s k := by rw [onK_succ, ht]; rfl
   refine aw_skip ?_
   refine xb_n ?_; refine xt_n (hK _ ?_); clear hK K; refine wR 5 ?_
   refine aops_n hTT (M := []) (n := 2) [pc 40 ((-9223372036854775808 : Int) ≤ (↑k : Int) + 1 ∧ (↑k : Int) + 1 ≤ (9223372036854775807 : Int)) (V.i ((↑k : Int) + 1)), pv 26 (V.i ((↑k : Int) + 1))] kR kR ⟨oM, tI⟩ ?_
   refine aops_nil ?_; refine xt_n ?_
   refine ⟨k + 1, by omega, ?_, by omega⟩
   rw [e0]
   refine le_ren (sl := [(yySG10 c slots plate), (501, Ob.mp (false, List.length kn) (MF.mk [] (knR c slots plate kn))), (7, Ob.row 2 1 (List.length (onK c s k)) fun (j : Nat) => [V.i (gi (onK c s k) j)])]) [(7, 7)] (.cons kR (.cons kR (.cons kR (.cons kR (.cons kR (.cons kR .nil)))))) (.cons ⟨(yySG11 c slots plate), kR, .box kR⟩ (.cons ⟨Ob.mp (false, List.length kn) (MF.mk [] (knR c slots plate kn)), kR, .mp (fun _ => rfl)⟩ (.cons ⟨Ob.row 2 1 (List.length (onK c s k)) fun (j : Nat) => [V.i (gi (onK c s k) j)], kR, .row kR (fun _ _ => rfl)⟩ .nil))) kR kR
 obtain rfl : k = c.length := by simp at c2; omega
 have hlen := onK_len c s c.length
 have A := run_ac (onL c s) slots (onK_co hco (Nat.le_refl _)) (by show (onK c s c.length).length ≤ 4096; omega)
 have hfew : ¬ slots < ((onL c s).length : Int) → 0 ≤ fewN (onL c s) slots ∧ fewN (onL c s) slots ≤ 1048576 := fun h => by
  by_cases h0 : (onL c s).length = 0
  ·
   rw [fewN_nil h0]; omega
  ·
   obtain ⟨q1, q2⟩ := fewN_spec (onK_co hco (Nat.le_refl _)) (by show ((onL c s).length : Int) ≤ slots; omega) h0
   have := q1.1
   exact ⟨by show 0 ≤ fewN (onK c s c.length) slots; omega, q2⟩
 refine w_le (le_shut 7 7 (e := (2 : Nat)) (sz := (1 : Nat)) (n := List.length (onK c s (List.length c))) (n' := (onL c s).length) (row := fun (j : Nat) => [V.i (gi (onK c s (List.length c)) j)]) (row' := (fun j => [V.i (gi (onL c s) j)])) kR kR (fun _ _ => rfl) ?_ ?_) ?_
 ·
  rfl
 ·
  intro i hi; rfl
 refine aw_exit ?_
 refine xt_x ?_; refine xt_x ?_
 refine xb_same ?_
 refine xt_n ?_; clear hK K; refine hK _ ?_; clear hK K; refine sK fun K hK => ?_; refine sK fun K hK => wR 3 ?_
 refine aops_n hTT (M := []) (n := 5) [pv 42 (V.sl 1 (List.length (onL c s)) fun (j : Nat) => [V.i (gi (onL c s) j)]), pv 43 (V.ref 500 0), pv 44 (V.ref 500 0), pv 45 (V.ref 500 1), pc 46 ((1 : Nat) ≤ (4 : Nat)) (V.i slots)] kR kR ⟨oM, tI⟩ ?_
 by_cases h2 : slots < ((onL c s).length : Int)
 ·
  rw [runV, if_pos h2, decide_eq_false oM] at A
  have e6 : costN c slots plate s = -1 := by rw [costN, if_pos h2]
  refine eC (A) ?_
  refine aops_n hTT (M := []) (n := 5) [pv 41 (V.tup [V.i 0, V.b false]), pv 48 (V.i 0), pv 49 (V.b false), pv 5 (V.i 0), pv 6 (V.b false)] kR kR tI ?_
  refine nK hK ?_; clear hK K; refine sK fun K hK => wR 4 ?_
  refine aops_n hTT (M := []) (n := 1) [pv 50 (V.b false)] kR kR tI ?_
  refine nK hK ?_; clear hK K; refine w_false (t := false) kR rfl ?_; refine wR 5 ?_
  refine aops_n hTT (M := []) (n := 1) [pv 5 (V.i (-1))] kR kR tI ?_
  refine nK hK ?_; clear hK K; refine sK fun K hK => wR 6 ?_
  refine aops_n hTT (M := []) (n := 7) [pv 57 (V.ref 500 0), pv 58 (V.ref 500 0), pv 59 (V.ref 500 3), pc 60 ((3 : Nat) ≤ (4 : Nat)) (V.own 501), pv 61 (V.i (↑s : Int)), pv 62 (V.i (-1)), PR.mk none none V.any [((501 : Nat), some (Ob.mp (false, mcnt (knF c slots plate kn) (MK.i (↑s : Int)) (List.length kn)) (MF.mk [(MK.i (↑s : Int), V.i (-1))] (MF.rest (knF c slots plate kn)))))] false] kR kR ⟨oM, tI⟩ ?_
  refine nK hK ?_; clear hK K; refine sK fun K hK => wR 7 ?_
  refine aops_n hTT (M := []) (n := 2) [pv 63 (V.i (-1)), pv 4 (V.i (-1))] kR kR tI ?_
  refine nK hK ?_; clear hK K
  refine aw_ret ?_
  rw [← e6, e4]
  refine retM (v' := V.i (costN c slots plate s)) [] [(4, V.i (costN c slots plate s))] (.inr rfl) (.cons kR .nil) (.cons ⟨(yySG11 c slots plate), kR, .box kR⟩ (.cons ⟨Ob.mp (false, List.length (addK kn s)) (MF.mk [(MK.i (↑s : Int), V.i (costN c slots plate s))] (MF.rest (knF c slots plate kn))), kR, .mp ?_⟩ .nil)) kR kR kR kR kR kR kR
  exact e5
 ·
  rw [runV, if_neg h2, decide_eq_true oM] at A
  have e6 : costN c slots plate s = fewN (onL c s) slots + plate := by rw [costN, if_neg h2]
  have hf := hfew h2
  refine eC (A) ?_
  refine aops_n hTT (M := []) (n := 5) [pv 41 (V.tup [V.i (fewN (onL c s) slots), V.b true]), pv 48 (V.i (fewN (onL c s) slots)), pv 49 (V.b true), pv 5 (V.i (fewN (onL c s) slots)), pv 6 (V.b true)] kR kR tI ?_
  refine nK hK ?_; clear hK K; refine sK fun K hK => wR 4 ?_
  refine aops_n hTT (M := []) (n := 1) [pv 50 (V.b true)] kR kR tI ?_
  refine nK hK ?_; clear hK K; refine w_true (t := true) kR rfl ?_; refine wR 5 ?_
  refine aops_n hTT (M := []) (n := 7) [pv 51 (V.i (fewN (onL c s) slots)), pv 52 (V.ref 500 0), pv 53 (V.ref 500 0), pv 54 (V.ref 500 2), pc 55 ((2 : Nat) ≤ (4 : Nat)) (V.i plate), pc 56 ((-9223372036854775808 : Int) ≤ fewN (onL c s) slots + plate ∧ fewN (onL c s) slots + plate ≤ 9223372036854775807) (V.i (fewN (onL c s) slots + plate)), pv 5 (V.i (fewN (onL c s) slots + plate))] kR kR ⟨oM, oM, tI⟩ ?_
  refine nK hK ?_; clear hK K; refine sK fun K hK => wR 6 ?_
  refine aops_n hTT (M := []) (n := 7) [pv 57 (V.ref 500 0), pv 58 (V.ref 500 0), pv 59 (V.ref 500 3), pc 60 ((3 : Nat) ≤ (4 : Nat)) (V.own 501), pv 61 (V.i (↑s : Int)), pv 62 (V.i (fewN (onL c s) slots + plate)), PR.mk none none V.any [((501 : Nat), some (Ob.mp (false, mcnt (knF c slots plate kn) (MK.i (↑s : Int)) (List.length kn)) (MF.mk [(MK.i (↑s : Int), V.i (fewN (onL c s) slots + plate))] (MF.rest (knF c slots plate kn)))))] false] kR kR ⟨oM, tI⟩ ?_
  refine nK hK ?_; clear hK K; refine sK fun K hK => wR 7 ?_
  refine aops_n hTT (M := []) (n := 2) [pv 63 (V.i (fewN (onL c s) slots + plate)), pv 4 (V.i (fewN (onL c s) slots + plate))] kR kR tI ?_
  refine nK hK ?_; clear hK K
  refine aw_ret ?_
  rw [← e6, e4]
  refine retM (v' := V.i (costN c slots plate s)) [] [(4, V.i (costN c slots plate s))] (.inr rfl) (.cons kR .nil) (.cons ⟨(yySG11 c slots plate), kR, .box kR⟩ (.cons ⟨Ob.mp (false, List.length (addK kn s)) (MF.mk [(MK.i (↑s : Int), V.i (costN c slots plate s))] (MF.rest (knF c slots plate kn))), kR, .mp ?_⟩ .nil)) kR kR kR kR kR kR kR
  exact e5
abbrev SetsO (l : List Nat) : Ob := .row 3 1 l.length fun j => [.i (gn l j : Nat)]
abbrev yySG12 (l : List Nat) : Ob := Ob.row 3 1 (List.length l) fun (j : Nat) => [V.i (↑(gn l j) : Int)]
set_option maxHeartbeats 2000000 in
set_option maxRecDepth 100000 in
theorem sum_am (c : List Int) (slots plate : Int) (kn l : List Nat) (hc : chkC c slots plate = 0) (hl : l.length ≤ 8) (hs : ∀ k, k < l.length → gn l k < 256) : AM Tryd.prog 68 [.ref 500 0, .own 502] [PlB c slots plate 501, KnO c slots plate kn, SetsO l] (.tup [.i (sumK c slots plate l kn 0).1, .b (sumK c slots plate l kn 0).2.1]) [some (PlB c slots plate 501), some (KnO c slots plate (sumK c slots plate l kn 0).2.2), some (SetsO l)] [] := by
 refine am_intro hTT hMX (fn := Tryd.f68) (N := _) ⟨Tryd.func68, rfl, Tryd.ntmps68, kR⟩ (by simp) rfl (by simp) (by simp) fun C hF => ?_
 refine sK fun K hK => wR 2 ?_; refine aX hTT 2 [] tI ?_; refine nK hK ?_; clear hK K; refine sK fun K hK => wR 3 ?_; refine aX hTT 1 [] tI ?_; refine nK hK ?_; clear hK K; refine sK fun K hK => ?_; refine sK fun K hK => wR 4 ?_; refine aX hTT 3 [] tI ?_; refine nK hK ?_; clear hK K
 refine aw_block ?_
 refine w_loop (ι := Nat × Int × List Nat) (fun x => [(0, .ref 500 0), (6, .i x.2.1), (10, .own 502), (11, .i l.length), (12, .i x.1)]) (fun x => [(500, PlB c slots plate 501), (501, KnO c slots plate x.2.2), (502, SetsO l)]) (fun x => x.1 ≤ l.length ∧ sumK c slots plate l kn 0 = sumK c slots plate (l.drop x.1) x.2.2 x.2.1 ∧ 0 ≤ x.2.1 ∧ x.2.1 ≤ 2097152 * x.1) (fun x => l.length - x.1) (0, 0, kn) ⟨Nat.zero_le _, rfl, Int.le_refl _, by simp⟩ ?_ ?_
 ·
  refine le_ren (sl := [(yySG10 c slots plate), (501, Ob.mp (false, List.length (Prod.snd ((0 : Int), kn))) (MF.mk [] (knR c slots plate (Prod.snd ((0 : Int), kn))))), (502, (yySG12 l))]) [] (.cons kR (.cons kR (.cons kR (.cons kR (.cons kR .nil))))) (.cons ⟨(yySG11 c slots plate), kR, .box kR⟩ (.cons ⟨Ob.mp (false, List.length kn) (MF.mk [] (knR c slots plate kn)), kR, .mp (fun _ => rfl)⟩ (.cons ⟨(yySG12 l), kR, .row kR (fun _ _ => rfl)⟩ .nil))) kR kR
 rintro ⟨k, a, kk⟩ ⟨hk, he, ha, hb⟩
 simp only at hk he ha hb
 refine sK fun K hK => wR 2 ?_; refine aX hTT 1 [] tI ?_; refine nK hK ?_; clear hK K; refine sK fun K hK => ?_
 refine w_cond (t := decide ((↑k : Int) < (↑(List.length l) : Int))) kR (fun c1 => ?_) (fun c1 => ?_)
 ·
  have hk1 : k < l.length := by simpa using c1
  have hbd := costN_bd hc (gn l k)
  rw [gn_drop hk1, sumK] at he
  refine aw_skip ?_
  refine xt_n (hK _ ?_); clear hK K; refine sK fun K hK => ?_
  refine aw_block ?_
  refine sK fun K hK => wR 3 ?_; refine aX hTT 3 [(0, .c ((0 : Int) ≤ (↑k : Int) ∧ (↑k : Int) < (↑(List.length l) : Int))), (1, .c (k < List.length l ∧ (0 : Nat) ≤ (1 : Nat)))] ⟨oM, oM, tI⟩ ?_; refine nK hK ?_; clear hK K; refine sK fun K hK => wR 4 ?_; refine aX hTT 2 [] tI ?_
  refine aops_callM [500, 501] (first := []) (caps := []) (ins' := [(yySG11 c slots plate), Ob.mp (false, List.length (Prod.snd (a, kk))) (MF.mk [] (knR c slots plate (Prod.snd (a, kk))))]) (v' := V.i (costN c slots plate (gn l k))) (δ := [(500, Option.some ((yySG11 c slots plate))), (501, Option.some (Ob.mp (false, List.length (addK kk (gn l k))) (MF.mk [] (MF.rest (knF c slots plate (addK kk (gn l k)))))))]) (kp := [500, 501]) (cost_am c slots plate kk (gn l k) hc (hs k hk1)) kR kR kR kR kR kR rfl rfl kR (.box kR kR (.mp (fun _ => rfl) ?_ .nil)) kR kR kR ?_
  ·
   exact kn_inN c slots plate kk _
  refine aX hTT 1 [] tI ?_; refine nK hK ?_; clear hK K; refine sK fun K hK => ?_; refine sK fun K hK => wR 5 ?_; refine aX hTT 2 [] tI ?_; refine nK hK ?_; clear hK K
  refine w_cond (t := decide (costN c slots plate (gn l k) < 0)) kR (fun c2 => ?_) (fun c2 => ?_)
  ·
   simp at c2
   rw [if_pos c2] at he
   refine sK fun K hK => wR 6 ?_; refine aX hTT 2 [] tI ?_; refine nK hK ?_; clear hK K
   refine aw_ret ?_
   refine xt_r ?_
   refine xb_r ?_
   refine xt_r ?_; refine xt_r ?_
   refine xb_r ?_
   refine xt_r ?_
   rw [he]
   refine retM (v' := V.tup [V.i 0, V.b false]) [] [(4, V.i 0), (5, V.b false)] (.inr rfl) (.cons kR (.cons kR .nil)) (.cons ⟨(yySG11 c slots plate), kR, .box kR⟩ (.cons ⟨Ob.mp (false, List.length (addK kk (gn l k))) (MF.mk [] (MF.rest (knF c slots plate (addK kk (gn l k))))), kR, .mp (fun _ => rfl)⟩ (.cons ⟨(yySG12 l), kR, .row kR (fun _ _ => rfl)⟩ .nil))) kR kR kR kR kR kR kR
  ·
   simp at c2
   rw [if_neg oM] at he
   refine aw_skip ?_
   refine xt_n (hK _ ?_); clear hK K; refine wR 6 ?_; refine aX hTT 4 [(2, .i (a + costN c slots plate (gn l k)))] ⟨oM, tI⟩ ?_; refine aops_nil ?_; refine xb_n ?_; refine xt_n (hK _ ?_); clear hK K; refine wR 7 ?_; refine aX hTT 2 [(0, .i ((↑k : Int) + 1))] ⟨oM, tI⟩ ?_; refine aops_nil ?_; refine xt_n ?_
   refine ⟨(k + 1, a + costN c slots plate (gn l k), addK kk (gn l k)), ⟨by simp only; omega, he, by simp only; omega, by simp only; omega⟩, by refine le_ren (sl := [(yySG10 c slots plate), (501, Ob.mp (false, List.length (Prod.snd (a + costN c slots plate (gn l k), addK kk (gn l k)))) (MF.mk [] (knR c slots plate (Prod.snd (a + costN c slots plate (gn l k), addK kk (gn l k)))))), (502, (yySG12 l))]) [] (.cons kR (.cons kR (.cons kR (.cons kR (.cons kR .nil))))) (.cons ⟨(yySG11 c slots plate), kR, .box kR⟩ (.cons ⟨Ob.mp (false, List.length (addK kk (gn l k))) (MF.mk [] (MF.rest (knF c slots plate (addK kk (gn l k))))), kR, .mp (fun _ => rfl)⟩ (.cons ⟨(yySG12 l), kR, .row kR (fun _ _ => rfl)⟩ .nil))) kR kR, by simp only; omega⟩
 ·
  simp at c1
  obtain rfl : k = l.length := by omega
  rw [List.drop_length, sumK] at he
  refine aw_exit ?_
  refine xt_x ?_; refine xt_x ?_
  refine xb_same ?_
  refine xt_n ?_; clear hK K; refine hK _ ?_; clear hK K; refine sK fun K hK => wR 3 ?_; refine aX hTT 3 [] tI ?_; refine nK hK ?_; clear hK K
  refine aw_ret ?_
  rw [he]
  refine retM (v' := V.tup [V.i a, V.b true]) [] [(4, V.i a), (5, V.b true)] (.inr rfl) (.cons kR (.cons kR .nil)) (.cons ⟨(yySG11 c slots plate), kR, .box kR⟩ (.cons ⟨Ob.mp (false, List.length (Prod.snd (a, kk))) (MF.mk [] (knR c slots plate (Prod.snd (a, kk)))), kR, .mp (fun _ => rfl)⟩ (.cons ⟨(yySG12 l), kR, .row kR (fun _ _ => rfl)⟩ .nil))) kR kR kR kR kR kR kR
end Go.Proofs.YtfckkkmacjjmhaaDoor

namespace Go.Proofs.YtfckkkmacjjmhaaDoor
open Go.Ab Go.RowKit Go.Dw Go.Shelf
abbrev SetF (l : List Nat) : Nat → List V := fun j => [.i (gn l j : Nat)]
abbrev yySG23 (c : List Int) : V := V.sl 1 (List.length c) fun (k : Nat) => [V.i (gi c k)]
abbrev yySG20 (c : List Int) (slots : Int) (plate : Int) : Ob := Ob.box 102 [(yySG23 c), V.i slots, V.i plate, V.own 200065]
abbrev yySG21 (g : List Int) := (29, V.sl 1 (List.length g) fun (k : Nat) => [V.i (gi g k)])
abbrev yySG22 (c : List Int) := (0, (yySG23 c))
set_option maxHeartbeats 2000000 in
set_option maxRecDepth 100000 in
theorem sCost_ac (c : List Int) (slots plate : Int) (g : List Int) (hl : c.length ≤ 4611686018427387904) (hg1 : g.length ≤ 4611686018427387904) : AC Tryd.prog 39 [V.ints c, .i slots, .i plate, V.ints g] (.tup [.i (costG c slots plate g).1, .i (costG c slots plate g).2]) [] := by
 refine acI hTT hMX Tryd.func39 Tryd.ntmps39 fun C hC hF => ?_
 refine sK fun K hK => wR 2 ?_
 refine aops_n hTT (M := []) (n := 2) [pv 8 (V.i 0), pv 9 (V.i 0)] kR kR tI ?_
 refine nK hK ?_; clear hK K; refine sK fun K hK => ?_; refine sK fun K hK => wR 3 ?_
 refine aops_n hTT (M := []) (n := 3) [pv 17 ((yySG23 c)), pv 18 (V.i slots), pv 19 (V.i plate)] kR kR tI ?_
 refine eC (CheckCopies_ac c slots plate hl) ?_
 refine aops_n hTT (M := []) (n := 1) [pv 10 (V.i (chkC c slots plate))] kR kR tI ?_
 refine nK hK ?_; clear hK K; refine sK fun K hK => wR 4 ?_
 refine aops_n hTT (M := []) (n := 2) [pv 21 (V.i (chkC c slots plate)), pv 22 (V.b !decide (chkC c slots plate = 0))] kR kR tI ?_
 refine nK hK ?_; clear hK K
 refine w_cond (t := !decide (chkC c slots plate = 0)) kR (fun c1 => ?_) (fun c1 => ?_)
 ·
  have e1 : costG c slots plate g = (0, chkC c slots plate) := by rw [costG, if_pos (by simpa using c1)]
  refine sK fun K hK => wR 5 ?_
  refine aops_n hTT (M := []) (n := 3) [pv 23 (V.i (chkC c slots plate)), pv 8 (V.i 0), pv 9 (V.i (chkC c slots plate))] kR kR tI ?_
  refine nK hK ?_; clear hK K
  refine aw_ret ?_
  refine xt_r ?_
  rw [e1]
  refine rP (V.tup [V.i 0, V.i (chkC c slots plate)])
 have c1 : chkC c slots plate = 0 := by simpa using c1
 obtain ⟨l8, hco, hsl, hpl⟩ := chkC_inv c1
 refine aw_skip ?_
 refine xt_n (hK _ ?_); clear hK K; refine sK fun K hK => ?_; refine sK fun K hK => wR 5 ?_
 refine aops_n hTT (M := []) (n := 5) [pv 24 (V.sl 1 (List.length g) fun (k : Nat) => [V.i (gi g k)]), pv 25 (V.i (↑(List.length g) : Int)), pv 26 ((yySG23 c)), pv 27 (V.i (↑(List.length c) : Int)), pv 28 (V.b !decide ((↑(List.length g) : Int) = (↑(List.length c) : Int)))] kR kR tI ?_
 refine nK hK ?_; clear hK K
 refine w_cond (t := !decide ((↑(List.length g) : Int) = (↑(List.length c) : Int))) kR (fun c2 => ?_) (fun c2 => ?_)
 ·
  have e1 : costG c slots plate g = (0, 17) := by rw [costG, if_neg (by simp [c1]), if_pos (by simp at c2; omega)]
  refine sK fun K hK => wR 6 ?_
  refine aops_n hTT (M := []) (n := 2) [pv 8 (V.i 0), pv 9 (V.i 17)] kR kR tI ?_
  refine nK hK ?_; clear hK K
  refine aw_ret ?_
  refine xt_r ?_
  rw [e1]
  refine rP (V.tup [V.i 0, V.i 17])
 have c2 : g.length = c.length := by simp at c2; omega
 have E : costG c slots plate g = match setsN g 0 [] with
  | none => (0, 2)
  | some S => if (sumK c slots plate S [] 0).2.1 = true then ((sumK c slots plate S [] 0).1, 0) else (0, 14) := by rw [costG, if_neg (by simp [c1]), if_neg (by simp [c2])]; rfl
 refine aw_skip ?_
 refine xt_n (hK _ ?_); clear hK K; refine sK fun K hK => wR 6 ?_
 refine aops_n hTT (M := []) (n := 1) [pv 11 V.nil] kR kR tI ?_
 refine nK hK ?_; clear hK K; refine sK fun K hK => ?_; refine sK fun K hK => wR 7 ?_
 refine aops_n hTT (M := []) (n := 3) [pv 29 (V.sl 1 (List.length g) fun (k : Nat) => [V.i (gi g k)]), pv 30 (V.i (↑(List.length g) : Int)), pv 31 (V.i 0)] kR kR tI ?_
 refine nK hK ?_; clear hK K
 refine aw_block ?_
 refine w_le (le_open 11 3 1 (SetF []) kR rfl) ?_
 refine w_loop (ι := Nat × List Nat) (fun x => [(0, V.ints c), (1, .i slots), (2, .i plate), (11, .own 7), (29, V.ints g), (30, .i g.length), (31, .i x.1)]) (fun x => [(7, SetsO x.2)]) (fun x => x.1 ≤ g.length ∧ setsN g 0 [] = setsN (g.drop x.1) x.1 x.2 ∧ x.2.length ≤ x.1 ∧ ∀ j, gn x.2 j < 2 ^ x.1) (fun x => g.length - x.1) (0, []) ⟨Nat.zero_le _, rfl, Nat.le_refl _, fun j => by simp [gn]⟩ ?_ ?_
 ·
  refine le_ren (sl := [(7, Ob.row 3 1 0 fun (j : Nat) => [V.i (↑(gn [] j) : Int)])]) [(7, 700011)] (.cons kR (.cons kR (.cons kR (.cons kR (.cons kR (.cons kR (.cons kR .nil))))))) (.cons ⟨Ob.row 3 1 0 (SetF []), kR, .row kR (fun _ _ => rfl)⟩ .nil) kR kR
 rintro ⟨k, S⟩ ⟨hk, he, hS, hb⟩
 simp only at hk he hS hb
 refine sK fun K hK => wR 2 ?_
 refine aops_n hTT (M := []) (n := 1) [pv 32 (V.b (decide ((↑k : Int) < (↑(List.length g) : Int))))] kR kR tI ?_
 refine nK hK ?_; clear hK K; refine sK fun K hK => ?_
 refine w_cond (t := decide ((↑k : Int) < (↑(List.length g) : Int))) kR (fun c3 => ?_) (fun c3 => ?_)
 ·
  have hk1 : k < g.length := by simpa using c3
  rw [setsN_drop hk1] at he
  refine aw_skip ?_
  refine xt_n (hK _ ?_); clear hK K; refine sK fun K hK => ?_
  refine aw_block ?_
  refine sK fun K hK => wR 3 ?_
  refine aops_n hTT (M := []) (n := 5) [pv 33 (V.i (↑k : Int)), pc 34 ((0 : Int) ≤ (↑k : Int) ∧ (↑k : Int) < (↑(List.length g) : Int)) (V.ptr [V.i (gi g k)]), pv 35 (V.i (gi g k)), pv 12 (V.i (↑k : Int)), pv 13 (V.i (gi g k))] kR kR ⟨oM, tI⟩ ?_
  refine nK hK ?_; clear hK K; refine sK fun K hK => ?_
  refine aw_block ?_
  refine sK fun K hK => wR 4 ?_
  refine aops_n hTT (M := []) (n := 9) [pv 37 (V.i (gi g k)), pv 38 (V.b (decide (gi g k < 0))), pv 39 (V.b (decide (gi g k < 0))), pc 40 ((True ∧ True) ∧ ((decide (gi g k < 0) == false) = true → True)) (V.gd (decide (gi g k < 0) == false) (V.i (gi g k))), pc 41 ((True ∧ True) ∧ ((decide (gi g k < 0) == false) = true → True)) (V.gd (decide (gi g k < 0) == false) (V.own 7)), pc 42 ((((decide (gi g k < 0) == false) = true → (decide (gi g k < 0) == false) = true) ∧ True) ∧ ((decide (gi g k < 0) == false) = true → True)) (V.gd (decide (gi g k < 0) == false) (V.i (↑(List.length S) : Int))), pc 43 ((((decide (gi g k < 0) == false) = true → (decide (gi g k < 0) == false) = true) ∧ ((decide (gi g k < 0) == false) = true → (decide (gi g k < 0) == false) = true) ∧ True) ∧ ((decide (gi g k < 0) == false) = true → True)) (V.gd (decide (gi g k < 0) == false) (V.b (decide ((↑(List.length S) : Int) < gi g k)))), pc 44 (True ∧ (decide (gi g k < 0) = false → (decide (gi g k < 0) == false) = true)) (V.b (decide (gi g k < 0) || decide ((↑(List.length S) : Int) < gi g k))), pv 36 (V.b (decide (gi g k < 0) || decide ((↑(List.length S) : Int) < gi g k)))] kR kR ⟨⟨⟨tI, tI⟩, (fun _ => tI)⟩, ⟨⟨tI, tI⟩, (fun _ => tI)⟩, ⟨⟨(by (exact fun h => h)), tI⟩, (fun _ => tI)⟩, ⟨⟨(by (exact fun h => h)), ⟨(by (exact fun h => h)), tI⟩⟩, (fun _ => tI)⟩, ⟨tI, (by (intro h; rw [h]; rfl))⟩, tI⟩ ?_
  refine nK hK ?_; clear hK K
  refine w_cond (t := decide (gi g k < 0) || decide ((↑(List.length S) : Int) < gi g k)) kR (fun c4 => ?_) (fun c4 => ?_)
  ·
   have : setsN g 0 [] = none := by rw [he, if_pos (by simp at c4; omega)]
   rw [this] at E
   refine sK fun K hK => wR 5 ?_
   refine aops_n hTT (M := []) (n := 2) [pv 8 (V.i 0), pv 9 (V.i 2)] kR kR tI ?_
   refine nK hK ?_; clear hK K
   refine aw_ret ?_
   refine xb_r ?_
   refine xt_r ?_
   refine xb_r ?_
   refine xt_r ?_; refine xt_r ?_
   refine xb_r ?_
   refine xt_r ?_
   rw [E]
   refine rP (V.tup [V.i 0, V.i 2])
  have c4 : ¬ (gi g k < 0 ∨ (S.length : Int) < gi g k) := by simp at c4; omega
  rw [if_neg c4] at he
  obtain ⟨x, hx⟩ : ∃ x : Nat, gi g k = x := ⟨(gi g k).toNat, by omega⟩
  have hkl := opnN_klt (S := S) (k := x) oM
  refine sK fun K hK => wR 5 ?_
  refine aops_n hTT (M := []) (n := 5) [pv 46 (V.i (gi g k)), pv 47 (V.own 7), pv 48 (V.i (↑(List.length S) : Int)), pv 49 (V.b (decide (gi g k = (↑(List.length S) : Int)))), pv 45 (V.b (decide (gi g k = (↑(List.length S) : Int))))] kR kR tI ?_
  refine nK hK ?_; clear hK K
  rw [hx] at he
  rw [Int.toNat_natCast] at he
  rw [hx]
  have hk8 : k < 8 := by omega
  have hp : (0 : Int) ≤ 1 * 2 ^ k ∧ (1 : Int) * 2 ^ k ≤ 128 := two_pow8 hk8
  have hk64 : (k : Int) ≤ (IntKind.bits IntKind.i64 : Int) := by show (k : Int) ≤ 64; omega
  have hput : ∀ j, gn (putN S x k) j < 2 ^ (k + 1) := putN_lt hb
  have hpl2 : (putN S x k).length = (opnN S x).length := putN_len S x k
  have hgx := Nat.lt_of_lt_of_le (opnN_lt (k := x) hb (Nat.pow_pos oM) x) (Nat.pow_le_pow_right oM (show k ≤ 8 by omega))
  have hor := bit_or (gn (opnN S x) x) hgx k hk8
  have hlen := opnN_len (S := S) (k := x) oM
  refine w_cond (t := decide ((↑x : Int) = (↑(List.length S) : Int))) kR (fun c5 => ?_) (fun c5 => ?_)
  ·
   have c5 : x = S.length := by simp at c5; omega
   rw [if_pos c5] at hlen
   refine wR 6 ?_
   refine aops_n hTT (M := []) (n := 4) [pv 50 (V.own 7), pv 51 (V.sl 1 1 fun (i : Nat) => List.take (1 : Nat) (List.drop (i * 1) [V.i 0])), PR.mk (some (52 : Nat)) (some (List.length S + 1 ≤ (1099511627776 : Nat))) (V.own 500052) [((7 : Nat), none), ((500052 : Nat), some (Ob.row 3 1 (List.length S + 1) (appRow (List.length S) (fun (j : Nat) => [V.i (↑(gn S j) : Int)]) fun (i : Nat) => List.take (1 : Nat) (List.drop (i * 1) [V.i 0]))))] false, pv 11 (V.own 500052)] kR kR ⟨oM, tI⟩ ?_
   refine aops_nil ?_; refine xb_n ?_; refine xt_n (hK _ ?_); clear hK K
   refine w_le (s' := ⟨mkT [(0, V.ints c), (1, .i slots), (2, .i plate), (11, .own 7), (12, .i k), (13, .i x), (29, V.ints g), (30, .i g.length), (31, .i k)], mkS [(7, .row 3 1 (S.length + 1) (SetF (opnN S x)))], 1⟩) ?_ ?_
   ·
    refine le_ren (tl := [(yySG22 c), (1, V.i slots), (2, V.i plate), (11, V.own 7), (12, V.i (↑k : Int)), (13, V.i (↑x : Int)), (yySG21 g), (30, V.i (↑(List.length g) : Int)), (31, V.i (↑k : Int))]) (sl := [(7, Ob.row 3 1 (List.length S + 1) (SetF (opnN S x)))]) [(7, 500052)] (.cons kR (.cons kR (.cons kR (.cons kR (.cons kR (.cons kR (.cons kR (.cons kR (.cons kR .nil))))))))) (.cons ⟨Ob.row 3 1 (List.length S + 1) (appRow (List.length S) (fun (j : Nat) => [V.i (↑(gn S j) : Int)]) fun (i : Nat) => List.take (1 : Nat) (List.drop (i * 1) [V.i 0])), kR, .row kR ?_⟩ .nil) kR kR
    intro i hi
    exact opnN_row c5 hi
   refine wD 2 ?_
   refine aops_n hTT (M := []) (n := 9) [pv 53 (V.own 7), pv 54 (V.i (↑x : Int)), pc 55 ((0 : Int) ≤ (↑x : Int) ∧ (↑x : Int) < (↑(List.length S + 1) : Int)) (V.oel 7 1 x (0 : Nat)), pc 56 (x < List.length S + 1 ∧ (0 : Nat) ≤ (1 : Nat)) (V.i (↑(gn (opnN S x) x) : Int)), pv 57 (V.i (↑k : Int)), pc 58 ((0 : Int) ≤ (↑k : Int) ∧ (↑k : Int) ≤ (↑(IntKind.bits IntKind.i64) : Int) ∧ (-9223372036854775808 : Int) ≤ (1 : Int) * (2 : Int) ^ k ∧ (1 : Int) * (2 : Int) ^ k ≤ 9223372036854775807) (V.i ((1 : Int) * (2 : Int) ^ k)), pv 59 (V.i (bitop BinOp.or IntKind.i64 (↑(gn (opnN S x) x) : Int) ((1 : Int) * (2 : Int) ^ k))), pc 60 ((0 : Int) ≤ (↑x : Int) ∧ (↑x : Int) < (↑(List.length S + 1) : Int)) (V.oel 7 1 x (0 : Nat)), pw (x < List.length S + 1 ∧ (0 : Nat) + (1 : Nat) ≤ (1 : Nat)) (7 : Nat) (Ob.row 3 1 (List.length S + 1) fun (j : Nat) => if j = x then [V.i (bitop BinOp.or IntKind.i64 (↑(gn (opnN S x) x) : Int) ((1 : Int) * (2 : Int) ^ k))] else SetF (opnN S x) j)] kR kR ⟨oM, oM, ⟨oM, ⟨oM, oM⟩⟩, oM, oM, tI⟩ ?_
   refine aops_nil ⟨kR, ?_⟩; refine xb_n ?_; refine xt_n (hK _ ?_); clear hK K; refine wR 3 ?_
   refine aops_n hTT (M := []) (n := 2) [pc 61 ((-9223372036854775808 : Int) ≤ (↑k : Int) + 1 ∧ (↑k : Int) + 1 ≤ (9223372036854775807 : Int)) (V.i ((↑k : Int) + 1)), pv 31 (V.i ((↑k : Int) + 1))] kR kR ⟨oM, tI⟩ ?_
   refine aops_nil ?_; refine xt_n ?_
   refine ⟨(k + 1, putN S x k), ⟨by simp only; omega, he, by simp only; omega, hput⟩, ?_, by simp only; omega⟩
   show Le _ ⟨_, mkS [(7, .row 3 1 (putN S x k).length (SetF (putN S x k)))], 1⟩
   rw [hpl2, hlen]
   refine le_ren (tl := [(yySG22 c), (1, V.i slots), (2, V.i plate), (11, V.own 7), (yySG21 g), (30, V.i (↑(List.length g) : Int)), (31, V.i (↑(k + 1) : Int))]) (sl := [(7, Ob.row 3 1 (List.length S + 1) (SetF (putN S x k)))]) [(7, 7)] (.cons kR (.cons kR (.cons kR (.cons kR (.cons kR (.cons kR (.cons kR .nil))))))) (.cons ⟨Ob.row 3 1 (List.length S + 1) fun (j : Nat) => if j = x then [V.i (bitop BinOp.or IntKind.i64 (↑(gn (opnN S x) x) : Int) ((1 : Int) * (2 : Int) ^ k))] else SetF (opnN S x) j, kR, .row kR ?_⟩ .nil) kR kR
   intro i hi
   exact putN_row hkl hor rfl rfl
  ·
   have c5 : x ≠ S.length := by simp at c5; omega
   rw [if_neg c5] at hlen
   rw [hlen] at hkl
   have e : opnN S x = S := by rw [opnN, if_neg c5]
   rw [e] at hor hpl2
   refine aw_skip ?_
   refine xb_n ?_; refine xt_n (hK _ ?_); clear hK K; refine wD 6 ?_
   refine aops_n hTT (M := []) (n := 9) [pv 53 (V.own 7), pv 54 (V.i (↑x : Int)), pc 55 ((0 : Int) ≤ (↑x : Int) ∧ (↑x : Int) < (↑(List.length S) : Int)) (V.oel 7 1 x (0 : Nat)), pc 56 (x < List.length S ∧ (0 : Nat) ≤ (1 : Nat)) (V.i (↑(gn S x) : Int)), pv 57 (V.i (↑k : Int)), pc 58 ((0 : Int) ≤ (↑k : Int) ∧ (↑k : Int) ≤ (↑(IntKind.bits IntKind.i64) : Int) ∧ (-9223372036854775808 : Int) ≤ (1 : Int) * (2 : Int) ^ k ∧ (1 : Int) * (2 : Int) ^ k ≤ 9223372036854775807) (V.i ((1 : Int) * (2 : Int) ^ k)), pv 59 (V.i (bitop BinOp.or IntKind.i64 (↑(gn S x) : Int) ((1 : Int) * (2 : Int) ^ k))), pc 60 ((0 : Int) ≤ (↑x : Int) ∧ (↑x : Int) < (↑(List.length S) : Int)) (V.oel 7 1 x (0 : Nat)), pw (x < List.length S ∧ (0 : Nat) + (1 : Nat) ≤ (1 : Nat)) (7 : Nat) (Ob.row 3 1 (List.length S) fun (j : Nat) => if j = x then [V.i (bitop BinOp.or IntKind.i64 (↑(gn S x) : Int) ((1 : Int) * (2 : Int) ^ k))] else [V.i (↑(gn S j) : Int)])] kR kR ⟨oM, oM, ⟨oM, ⟨oM, oM⟩⟩, oM, oM, tI⟩ ?_
   refine aops_nil ⟨kR, ?_⟩; refine xb_n ?_; refine xt_n (hK _ ?_); clear hK K; refine wR 7 ?_
   refine aops_n hTT (M := []) (n := 2) [pc 61 ((-9223372036854775808 : Int) ≤ (↑k : Int) + 1 ∧ (↑k : Int) + 1 ≤ (9223372036854775807 : Int)) (V.i ((↑k : Int) + 1)), pv 31 (V.i ((↑k : Int) + 1))] kR kR ⟨oM, tI⟩ ?_
   refine aops_nil ?_; refine xt_n ?_
   refine ⟨(k + 1, putN S x k), ⟨by simp only; omega, he, by simp only; omega, hput⟩, ?_, by simp only; omega⟩
   show Le _ ⟨_, mkS [(7, .row 3 1 (putN S x k).length (SetF (putN S x k)))], 1⟩
   rw [hpl2]
   refine le_ren (tl := [(yySG22 c), (1, V.i slots), (2, V.i plate), (11, V.own 7), (yySG21 g), (30, V.i (↑(List.length g) : Int)), (31, V.i (↑(k + 1) : Int))]) (sl := [(7, Ob.row 3 1 (List.length S) (SetF (putN S x k)))]) [(7, 7)] (.cons kR (.cons kR (.cons kR (.cons kR (.cons kR (.cons kR (.cons kR .nil))))))) (.cons ⟨Ob.row 3 1 (List.length S) fun (j : Nat) => if j = x then [V.i (bitop BinOp.or IntKind.i64 (↑(gn S x) : Int) ((1 : Int) * (2 : Int) ^ k))] else [V.i (↑(gn S j) : Int)], kR, .row kR ?_⟩ .nil) kR kR
   intro i hi
   exact putN_row (by rw [e]; exact hkl) (by rw [e]; exact hor) (by rw [e]) (by rw [e])
 ·
  simp at c3
  obtain rfl : k = g.length := by omega
  rw [List.drop_length, setsN] at he
  rw [he] at E
  simp only at E
  refine aw_exit ?_
  refine xt_x ?_; refine xt_x ?_
  refine xb_same ?_
  refine xt_n ?_; clear hK K; refine hK _ ?_; clear hK K; refine sK fun K hK => wR 3 ?_
  refine aops_n hTT (M := [67]) (n := 7) [pv 62 ((yySG23 c)), pv 63 (V.i slots), pv 64 (V.i plate), pn 65 (V.own 200065) (200065 : Nat) (Ob.mp (false, (0 : Nat)) (MF.mk [] fun (x : MK) => none)), pv 66 (V.agg [(yySG23 c), V.i slots, V.i plate, V.own 200065]), pn 67 (V.ref 200067 0) (200067 : Nat) ((yySG20 c slots plate)), pv 14 (V.ref 200067 0)] kR kR tI ?_
  refine nK hK ?_; clear hK K; refine sK fun K hK => ?_; refine sK fun K hK => wR 4 ?_
  refine aops_n hTT (M := [67]) (n := 2) [pv 69 (V.ref 200067 0), pv 70 (V.own 7)] kR kR tI ?_
  have A := sum_am c slots plate [] S c1 oM fun k _ => Nat.lt_of_lt_of_le (hb k) (Nat.pow_le_pow_right oM (show g.length ≤ 8 by omega))
  rw [show KnO c slots plate [] = .mp (false, 0) ⟨[], fun _ => none⟩ by rw [KnO, knF_nil]; rfl] at A
  refine aops_callM [200067, 200065, 7] (first := []) (caps := []) (ins' := [(yySG20 c slots plate), Ob.mp (false, (0 : Nat)) (MF.mk [] fun (x : MK) => none), Ob.row 3 1 (List.length S) fun (j : Nat) => [V.i (↑(gn S j) : Int)]]) (v' := V.tup [V.i (Prod.fst (sumK c slots plate S [] (0 : Int))), V.b (Prod.fst (Prod.snd (sumK c slots plate S [] (0 : Int))))]) (δ := [(200067, Option.some ((yySG20 c slots plate))), (200065, Option.some (Ob.mp (false, List.length (Prod.snd (Prod.snd (sumK c slots plate S [] (0 : Int))))) (MF.mk [] (MF.rest (knF c slots plate (Prod.snd (Prod.snd (sumK c slots plate S [] (0 : Int))))))))), (7, Option.some (Ob.row 3 1 (List.length S) fun (i : Nat) => V.renL (nameG (3 : Nat) (some 71) [(200067 : Nat), (200065 : Nat), (7 : Nat)]) [V.i (↑(gn S i) : Int)]))]) (kp := [200067, 200065, 7]) (A) kR kR kR kR kR kR rfl rfl kR (.box kR kR (.mp (fun _ => rfl) ?_ (.row kR (fun _ _ => rfl) (fun _ _ => rfl) .nil))) kR kR kR ?_
  ·
   intro k u h
   exact absurd h (by show ¬ (none = some u); simp)
  refine aops_n hTT (M := []) (n := 5) [pv 68 (V.tup [V.i (Prod.fst (sumK c slots plate S [] (0 : Int))), V.b (Prod.fst (Prod.snd (sumK c slots plate S [] (0 : Int))))]), pv 72 (V.i (Prod.fst (sumK c slots plate S [] (0 : Int)))), pv 73 (V.b (Prod.fst (Prod.snd (sumK c slots plate S [] (0 : Int))))), pv 15 (V.i (Prod.fst (sumK c slots plate S [] (0 : Int)))), pv 16 (V.b (Prod.fst (Prod.snd (sumK c slots plate S [] (0 : Int)))))] kR kR tI ?_
  refine nK hK ?_; clear hK K; refine sK fun K hK => wR 5 ?_
  refine aops_n hTT (M := []) (n := 1) [pv 74 (V.b (Prod.fst (Prod.snd (sumK c slots plate S [] (0 : Int)))))] kR kR tI ?_
  refine nK hK ?_; clear hK K
  refine w_cond (t := Prod.fst (Prod.snd (sumK c slots plate S [] (0 : Int)))) kR (fun c6 => ?_) (fun c6 => ?_)
  ·
   rw [if_pos c6] at E
   refine sK fun K hK => wR 6 ?_
   refine aops_n hTT (M := []) (n := 3) [pv 75 (V.i (Prod.fst (sumK c slots plate S [] (0 : Int)))), pv 8 (V.i (Prod.fst (sumK c slots plate S [] (0 : Int)))), pv 9 (V.i 0)] kR kR tI ?_
   refine nK hK ?_; clear hK K
   refine aw_ret ?_
   refine xt_r ?_
   rw [E]
   refine rP (V.tup [V.i (Prod.fst (sumK c slots plate S [] (0 : Int))), V.i 0])
  ·
   rw [if_neg (by simp [c6])] at E
   refine aw_skip ?_
   refine xt_n (hK _ ?_); clear hK K; refine sK fun K hK => wR 6 ?_
   refine aops_n hTT (M := []) (n := 2) [pv 8 (V.i 0), pv 9 (V.i 14)] kR kR tI ?_
   refine nK hK ?_; clear hK K
   refine aw_ret ?_
   rw [E]
   refine rP (V.tup [V.i 0, V.i 14])
end Go.Proofs.YtfckkkmacjjmhaaDoor

namespace Go.Proofs.YtfckkkmacjjmhaaDoor
open Go.Ab Go.RowKit Go.Dw Go.Shelf
abbrev yySG30 (l : List Nat) : Ob := Ob.row 3 1 ((0 : Nat) + List.length l) (appRow (0 : Nat) (fun (i : Nat) => List.take (1 : Nat) (List.drop (i * 1) (repV (0 : Nat) [V.c (Value.int IntKind.i64 0)]))) fun (j : Nat) => [V.i (↑(gn l j) : Int)])
set_option maxHeartbeats 2000000 in
set_option maxRecDepth 100000 in
theorem clone_am (l : List Nat) (h0 : 0 < l.length) (hl : l.length ≤ 8) : AM Tryd.prog 71 [.own 500] [SetsO l] (.own 0) [some (SetsO l)] [SetsO l] := by
 refine am_intro hTT hMX (fn := Tryd.f71) (N := _) ⟨Tryd.func71, rfl, Tryd.ntmps71, kR⟩ (by simp) rfl (by simp) (by simp) fun C hF => ?_
 refine sK fun K hK => wR 2 ?_; refine aX hTT 1 [] tI ?_; refine nK hK ?_; clear hK K; refine sK fun K hK => ?_; refine sK fun K hK => wR 3 ?_; refine aX hTT 1 [] tI ?_
 refine aops_one (v := .b false) (pre := [(500, SetsO l)]) (nw := []) (δ := []) rfl (fun x hx => by
  simp [Op.operands] at hx
  rcases hx with rfl | rfl <;> exact trivial) (as_eqO (id := 500) (n := l.length) (el := 3) _ _ _ _ (hTT.elem kR) kR kR h0).1 (fun p hp => by cases List.mem_singleton.1 hp; kernel_rfl) (fun k hk => by cases hk) ?_
 refine nK hK ?_; clear hK K; refine w_false (t := false) kR rfl ?_
 refine aw_skip ?_
 refine xt_n (hK _ ?_); clear hK K; refine sK fun K hK => wR 4 ?_
 refine aops_x (M := [5]) hTT 4 [(0, .r (pn 5 (V.own 300005) (300005 : Nat) (Ob.row 3 1 0 fun (i : Nat) => List.take (1 : Nat) (List.drop (i * 1) (repV (0 : Nat) [V.c (Value.int IntKind.i64 0)]))))), (2, .r (PR.mk (some (7 : Nat)) (some ((0 : Nat) + List.length l ≤ 1099511627776)) (V.own 300007) [((300005 : Nat), none), ((300007 : Nat), some ((yySG30 l)))] false))] ⟨oM, tI⟩ ?_
 refine nK hK ?_; clear hK K
 refine aw_ret ?_
 refine retM (v' := V.own 0) [(0, 300007)] [(2, V.own 0)] (.inr rfl) (.cons kR .nil) (.cons ⟨(yySG30 l), kR, .row ?_ (fun _ _ => rfl)⟩ (.cons ⟨Ob.row 3 1 (List.length l) fun (j : Nat) => [V.i (↑(gn l j) : Int)], kR, .row kR (fun _ _ => rfl)⟩ .nil)) kR kR kR kR kR kR kR
 ·
  omega
abbrev frees : List V := [.ref 500 0, .ref 501 0, .ref 502 0, .ref 503 0, .ref 504 0, .ref 505 0, .ref 506 0]
abbrev nextB (c : List Int) (slots plate : Int) (g S : List Nat) (st : List Nat × Int × List Nat) : List Ob := [.box 22 [.own 507], .box 34 [V.ints c], .box 99 [.ref 508 0], .box 22 [.own 510], .box 2 [.i st.2.1], .box 22 [.own 511], .box 1 [.fn (.func 70) [] frees],
 SetsO g, PlB c slots plate 509, KnO c slots plate st.2.2, SetsO S, SetsO st.1]
abbrev nextO (c : List Int) (slots plate : Int) (st : List Nat × Int × List Nat) : List (Option Ob) := [some (.box 22 [.own 0]), some (.box 34 [V.ints c]), some (.box 99 [.ref 508 0]), some (.box 22 [.own 1]), some (.box 2 [.i st.2.1]), some (.box 22 [.own 2]), some (.box 1 [.fn (.func 70) [] frees]),
 none, some (PlB c slots plate 509), some (KnO c slots plate st.2.2), none, none]
abbrev zzSG30 : V := V.fn (Fn.func (70 : Nat)) [] [V.ref 500 0, V.ref 501 0, V.ref 502 0, V.ref 503 0, V.ref 504 0, V.ref 505 0, V.ref 506 0]
abbrev qSG30 : Prop := (0 : Nat) ≤ (1 : Nat)
theorem qSG30_ : qSG30 := oM
abbrev yySG33 (c : List Int) (slots : Int) (plate : Int) : Ob := Ob.box 102 [V.sl 1 (List.length c) fun (k : Nat) => [V.i (gi c k)], V.i slots, V.i plate, V.own 509]
abbrev yySG31 (c : List Int) (slots : Int) (plate : Int) := (508, Option.some ((yySG33 c slots plate)))
abbrev yySG32 (c : List Int) (slots : Int) (plate : Int) := (508, (yySG33 c slots plate))
abbrev yySG35 (c : List Int) : Ob := Ob.box 34 [V.sl 1 (List.length c) fun (k : Nat) => [V.i (gi c k)]]
abbrev yySG34 (c : List Int) := (501, (yySG35 c))
set_option maxHeartbeats 2000000 in
set_option maxRecDepth 100000 in
theorem next_am (c : List Int) (slots plate : Int) (hc : chkC c slots plate = 0) (hc0 : 0 < c.length) : ∀ (d : Nat) (g S : List Nat) (st : List Nat × Int × List Nat), g.length + d = c.length → S.length ≤ g.length → (∀ j, gn S j < 2 ^ g.length) → AM Tryd.prog 70 frees (nextB c slots plate g S st) (.tup []) (nextO c slots plate (nextG c slots plate d g S st)) [SetsO g, SetsO S, SetsO (nextG c slots plate d g S st).1] := by
 obtain ⟨l8, hco, hsl, hpl⟩ := chkC_inv hc
 intro d
 induction d with
 | zero =>
  intro g S ⟨b, least, kn⟩ hd hS hb
  refine am_intro hTT hMX (fn := Tryd.f70) (N := _) ⟨Tryd.func70, rfl, Tryd.ntmps70, kR⟩ (by simp) rfl (by simp) (by simp) fun C hF => ?_
  refine sK fun K hK => wR 2 ?_; refine aX hTT 3 [(0, .c qSG30)] ⟨qSG30_, tI⟩ ?_; refine nK hK ?_; clear hK K; refine sK fun K hK => ?_; refine sK fun K hK => wR 3 ?_; refine aX hTT 4 [(1, .c qSG30)] ⟨qSG30_, tI⟩ ?_; refine nK hK ?_; clear hK K
  refine w_cond (t := decide ((↑(List.length g) : Int) = (↑(List.length c) : Int))) kR (fun c1 => ?_) (fun c1 => ?_)
  ·
   have A := sum_am c slots plate kn S hc oM fun k _ => Nat.lt_of_lt_of_le (hb k) (Nat.pow_le_pow_right oM (show g.length ≤ 8 by omega))
   refine sK fun K hK => ?_; refine sK fun K hK => wR 4 ?_; refine aX hTT 2 [(0, .c qSG30), (1, .c qSG30)] ⟨qSG30_, qSG30_, tI⟩ ?_
   refine aops_callM [508, 509, 510] (first := []) (caps := []) (ins' := [(yySG33 c slots plate), Ob.mp (false, List.length (Prod.snd (least, kn))) (MF.mk [] (knR c slots plate (Prod.snd (least, kn)))), Ob.row 3 1 (List.length S) fun (j : Nat) => [V.i (↑(gn S j) : Int)]]) (v' := V.tup [V.i (Prod.fst (sumK c slots plate S kn (0 : Int))), V.b (Prod.fst (Prod.snd (sumK c slots plate S kn (0 : Int))))]) (δ := [(yySG31 c slots plate), (509, Option.some (Ob.mp (false, List.length (Prod.snd (Prod.snd (sumK c slots plate S kn (0 : Int))))) (MF.mk [] (MF.rest (knF c slots plate (Prod.snd (Prod.snd (sumK c slots plate S kn (0 : Int))))))))), (510, Option.some (Ob.row 3 1 (List.length S) fun (i : Nat) => V.renL (nameG (3 : Nat) (some 21) [(508 : Nat), (509 : Nat), (510 : Nat)]) [V.i (↑(gn S i) : Int)]))]) (kp := [508, 509, 510]) (A) kR kR kR kR kR kR rfl rfl kR (.box kR kR (.mp (fun _ => rfl) ?_ (.row kR (fun _ _ => rfl) (fun _ _ => rfl) .nil))) kR kR kR ?_
   ·
    exact kn_inN c slots plate kn _
   refine aX hTT 5 [] tI ?_; refine nK hK ?_; clear hK K; refine sK fun K hK => wR 5 ?_; refine aX hTT 10 [(2, .c (gA (Prod.fst (Prod.snd (sumK c slots plate S kn (0 : Int))) == true) ((0 : Nat) ≤ (1 : Nat)))), (3, .c (gD (Prod.fst (Prod.snd (sumK c slots plate S kn (0 : Int))) == true) True)), (4, .c (gB (Prod.fst (Prod.snd (sumK c slots plate S kn (0 : Int))) == true) True)), (5, .c (gA (Prod.fst (Prod.snd (sumK c slots plate S kn (0 : Int))) == true && decide (least < 0) == false) True)), (6, .c (gA (Prod.fst (Prod.snd (sumK c slots plate S kn (0 : Int))) == true && decide (least < 0) == false) ((0 : Nat) ≤ (1 : Nat)))), (7, .c (gC (Prod.fst (Prod.snd (sumK c slots plate S kn (0 : Int))) == true && decide (least < 0) == false) True)), (8, .c (((Prod.fst (Prod.snd (sumK c slots plate S kn (0 : Int))) == true) = true → (Prod.fst (Prod.snd (sumK c slots plate S kn (0 : Int))) == true) = true) ∧ ((Prod.fst (Prod.snd (sumK c slots plate S kn (0 : Int))) == true) = true → True) ∧ ((Prod.fst (Prod.snd (sumK c slots plate S kn (0 : Int))) == true) = true → decide (least < 0) = false → (Prod.fst (Prod.snd (sumK c slots plate S kn (0 : Int))) == true && decide (least < 0) == false) = true))), (9, .c ((Prod.fst (Prod.snd (sumK c slots plate S kn (0 : Int))) = true → (Prod.fst (Prod.snd (sumK c slots plate S kn (0 : Int))) == true) = true) ∧ True))] ⟨⟨⟨tI, tI⟩, (by (intro _; simp; done))⟩, ⟨⟨(by (exact fun h => h)), ⟨tI, tI⟩⟩, (fun _ => tI)⟩, ⟨⟨(by (exact fun h => h)), tI⟩, (fun _ => tI)⟩, ⟨⟨tI, tI⟩, (fun _ => tI)⟩, ⟨⟨tI, tI⟩, (by (intro _; simp; done))⟩, ⟨⟨(by (exact fun h => h)), ⟨(by (exact fun h => h)), tI⟩⟩, (fun _ => tI)⟩, ⟨(by (exact fun h => h)), ⟨(fun _ => tI), (by (intro h; simp_all; done))⟩⟩, ⟨(by (intro h; rw [h]; rfl)), tI⟩, tI⟩ ?_; refine nK hK ?_; clear hK K
   refine w_cond (t := Prod.fst (Prod.snd (sumK c slots plate S kn (0 : Int))) && (decide (least < 0) || decide (Prod.fst (sumK c slots plate S kn (0 : Int)) < least))) kR (fun c2 => ?_) (fun c2 => ?_)
   ·
    refine wR 6 ?_
    refine aX hTT 1 [(0, .c qSG30)] ⟨qSG30_, tI⟩ ?_
    refine aops_callR [507] (first := []) (caps := []) (ins' := [Ob.row 3 1 (List.length g) fun (j : Nat) => [V.i (↑(gn g j) : Int)]]) (v' := V.own 500035) (δ := [(500035, Option.some (Ob.row 3 1 (List.length g) fun (i : Nat) => V.renL (nameG (5 : Nat) (some 35) [(507 : Nat)]) [V.i (↑(gn g i) : Int)]))]) (kp := [507]) (clone_am g oM oM) kR kR kR kR kR kR kR rfl kR kR ⟨(fun _ _ => rfl), tI⟩ kR kR kR ?_
    refine aX hTT 3 [(1, .r (pw ((0 : Nat) + (1 : Nat) ≤ (1 : Nat)) (505 : Nat) (Ob.box 22 [V.own 500035]))), (2, .r (pw ((0 : Nat) + (1 : Nat) ≤ (1 : Nat)) (504 : Nat) (Ob.box 2 [V.i (Prod.fst (sumK c slots plate S kn (0 : Int)))])))] ⟨oM, oM, tI⟩ ?_; refine nK hK ?_; clear hK K
    refine aw_ret ?_
    refine xt_r ?_
    simp at c2
    rw [show nextG c slots plate 0 g S (b, least, kn) = (g, (sumK c slots plate S kn 0).1, (sumK c slots plate S kn 0).2.2) by rw [nextG, if_pos (by simpa using c2)]]
    refine retM (v' := V.tup []) [(0, 507), (1, 510), (2, 500035)] [] (.inr rfl) .nil (.cons ⟨Ob.row 3 1 (List.length g) fun (j : Nat) => [V.i (↑(gn g j) : Int)], kR, .row kR (fun _ _ => rfl)⟩ (.cons ⟨Ob.row 3 1 (List.length S) fun (i : Nat) => V.renL (nameG (3 : Nat) (some (21 : Tmp)) [(508 : Nat), (509 : Nat), (510 : Nat)]) [V.i (↑(gn S i) : Int)], kR, .row kR (fun _ _ => rfl)⟩ (.cons ⟨Ob.row 3 1 (List.length g) fun (i : Nat) => V.renL (nameG (5 : Nat) (some (35 : Tmp)) [(507 : Nat)]) [V.i (↑(gn g i) : Int)], kR, .row kR (fun _ _ => rfl)⟩ (.cons ⟨Ob.box 22 [V.own 507], kR, .box kR⟩ (.cons ⟨(yySG35 c), kR, .box kR⟩ (.cons ⟨Ob.box 99 [V.ref 508 0], kR, .box kR⟩ (.cons ⟨Ob.box 22 [V.own 510], kR, .box kR⟩ (.cons ⟨Ob.box 2 [V.i (Prod.fst (sumK c slots plate S kn (0 : Int)))], kR, .box kR⟩ (.cons ⟨Ob.box 22 [V.own 500035], kR, .box kR⟩ (.cons ⟨Ob.box 1 [zzSG30], kR, .box kR⟩ (.cons ⟨(yySG33 c slots plate), kR, .box kR⟩ (.cons ⟨Ob.mp (false, List.length (Prod.snd (Prod.snd (sumK c slots plate S kn (0 : Int))))) (MF.mk [] (MF.rest (knF c slots plate (Prod.snd (Prod.snd (sumK c slots plate S kn (0 : Int))))))), kR, .mp (fun _ => rfl)⟩ .nil)))))))))))) kR kR kR kR kR kR kR
   ·
    refine aw_skip ?_
    refine xt_n (hK _ ?_); clear hK K
    refine aw_ret ?_
    refine xt_r ?_
    simp only [Bool.and_eq_false_iff, Bool.or_eq_false_iff, decide_eq_false_iff_not] at c2
    rw [show nextG c slots plate 0 g S (b, least, kn) = (b, least, (sumK c slots plate S kn 0).2.2) by
     rw [nextG, if_neg]
     rintro ⟨q1, q2⟩
     rcases c2 with c2 | ⟨c3, c4⟩
     ·
      rw [c2] at q1; cases q1
     ·
      rcases q2 with q2 | q2
      ·
       exact c3 q2
      ·
       exact c4 q2]
    refine retM (v' := V.tup []) [(0, 507), (1, 510), (2, 511)] [] (.inr rfl) .nil (.cons ⟨Ob.row 3 1 (List.length g) fun (j : Nat) => [V.i (↑(gn g j) : Int)], kR, .row kR (fun _ _ => rfl)⟩ (.cons ⟨Ob.row 3 1 (List.length S) fun (i : Nat) => V.renL (nameG (3 : Nat) (some (21 : Tmp)) [(508 : Nat), (509 : Nat), (510 : Nat)]) [V.i (↑(gn S i) : Int)], kR, .row kR (fun _ _ => rfl)⟩ (.cons ⟨Ob.row 3 1 (List.length b) fun (j : Nat) => [V.i (↑(gn b j) : Int)], kR, .row kR (fun _ _ => rfl)⟩ (.cons ⟨Ob.box 22 [V.own 507], kR, .box kR⟩ (.cons ⟨(yySG35 c), kR, .box kR⟩ (.cons ⟨Ob.box 99 [V.ref 508 0], kR, .box kR⟩ (.cons ⟨Ob.box 22 [V.own 510], kR, .box kR⟩ (.cons ⟨Ob.box 2 [V.i (Prod.fst (least, kn))], kR, .box kR⟩ (.cons ⟨Ob.box 22 [V.own 511], kR, .box kR⟩ (.cons ⟨Ob.box 1 [zzSG30], kR, .box kR⟩ (.cons ⟨(yySG33 c slots plate), kR, .box kR⟩ (.cons ⟨Ob.mp (false, List.length (Prod.snd (Prod.snd (sumK c slots plate S kn (0 : Int))))) (MF.mk [] (MF.rest (knF c slots plate (Prod.snd (Prod.snd (sumK c slots plate S kn (0 : Int))))))), kR, .mp (fun _ => rfl)⟩ .nil)))))))))))) kR kR kR kR kR kR kR
  ·
   simp at c1
   omega
 | succ d ih =>
  intro g S st hd hS hb
  have hfin : nextG c slots plate (d + 1) g S st = nextR c slots plate d g S st (S.length + 1) := rfl
  have hb8 : ∀ j, gn S j < 256 := fun j => Nat.lt_of_lt_of_le (hb j) (Nat.pow_le_pow_right oM (show g.length ≤ 8 by omega))
  have hk8 : g.length < 8 := by omega
  have hp : (0 : Int) ≤ 1 * 2 ^ g.length ∧ (1 : Int) * 2 ^ g.length ≤ 128 := two_pow8 hk8
  have hk64 : (g.length : Int) ≤ (IntKind.bits IntKind.i64 : Int) := by show (g.length : Int) ≤ 64; omega
  refine am_intro hTT hMX (fn := Tryd.f70) (N := _) ⟨Tryd.func70, rfl, Tryd.ntmps70, kR⟩ (by simp) rfl (by simp) (by simp) fun C hF => ?_
  refine sK fun K hK => wR 2 ?_; refine aX hTT 3 [(0, .c qSG30)] ⟨qSG30_, tI⟩ ?_; refine nK hK ?_; clear hK K; refine sK fun K hK => ?_; refine sK fun K hK => wR 3 ?_; refine aX hTT 4 [(1, .c qSG30)] ⟨qSG30_, tI⟩ ?_; refine nK hK ?_; clear hK K
  refine w_cond (t := decide ((↑(List.length g) : Int) = (↑(List.length c) : Int))) kR (fun c1 => ?_) (fun c1 => ?_)
  ·
   simp at c1
   omega
  refine aw_skip ?_
  refine xt_n (hK _ ?_); clear hK K; refine sK fun K hK => wR 4 ?_; refine aX hTT 4 [(0, .c qSG30), (2, .i ((↑(List.length S) : Int) + 1))] ⟨qSG30_, oM, tI⟩ ?_; refine nK hK ?_; clear hK K
  refine aw_block ?_
  refine w_loop (ι := Nat) (fun k => [(0, .ref 500 0), (1, .ref 501 0), (2, .ref 502 0), (3, .ref 503 0), (4, .ref 504 0), (5, .ref 505 0), (6, .ref 506 0), (7, .i g.length), (39, .i (S.length + 1)), (40, .i k)])
   (fun k => [(500, .box 22 [.own 5]), (501, .box 34 [V.ints c]), (502, .box 99 [.ref 508 0]), (503, .box 22 [.own 6]), (504, .box 2 [.i (nextR c slots plate d g S st k).2.1]), (505, .box 22 [.own 8]), (506, .box 1 [.fn (.func 70) [] frees]), (5, SetsO g), (508, PlB c slots plate 509), (509, KnO c slots plate (nextR c slots plate d g S st k).2.2), (6, SetsO S), (8, SetsO (nextR c slots plate d g S st k).1)])
   (fun k => k ≤ S.length + 1) (fun k => S.length + 1 - k) 0 (Nat.zero_le _) ?_ ?_
  ·
   refine le_ren (sl := [(500, Ob.box 22 [V.own 5]), (yySG34 c), (502, Ob.box 99 [V.ref 508 0]), (503, Ob.box 22 [V.own 6]), (504, Ob.box 2 [V.i (Prod.fst (Prod.snd (nextR c slots plate d g S st (0 : Nat))))]), (505, Ob.box 22 [V.own 8]), (506, Ob.box 1 [zzSG30]), (5, Ob.row 3 1 (List.length g) fun (j : Nat) => [V.i (↑(gn g j) : Int)]), (yySG32 c slots plate), (509, Ob.mp (false, List.length (Prod.snd (Prod.snd (nextR c slots plate d g S st (0 : Nat))))) (MF.mk [] (knR c slots plate (Prod.snd (Prod.snd (nextR c slots plate d g S st (0 : Nat))))))), (6, Ob.row 3 1 (List.length S) fun (j : Nat) => [V.i (↑(gn S j) : Int)]), (8, Ob.row 3 1 (List.length (Prod.fst (nextR c slots plate d g S st (0 : Nat)))) fun (j : Nat) => [V.i (↑(gn (Prod.fst (nextR c slots plate d g S st (0 : Nat))) j) : Int)])]) [(5, 507), (6, 510), (8, 511)] (.cons kR (.cons kR (.cons kR (.cons kR (.cons kR (.cons kR (.cons kR (.cons kR (.cons kR (.cons kR .nil)))))))))) (.cons ⟨Ob.box 22 [V.own 507], kR, .box kR⟩ (.cons ⟨(yySG35 c), kR, .box kR⟩ (.cons ⟨Ob.box 99 [V.ref 508 0], kR, .box kR⟩ (.cons ⟨Ob.box 22 [V.own 510], kR, .box kR⟩ (.cons ⟨Ob.box 2 [V.i (Prod.fst (Prod.snd st))], kR, .box kR⟩ (.cons ⟨Ob.box 22 [V.own 511], kR, .box kR⟩ (.cons ⟨Ob.box 1 [zzSG30], kR, .box kR⟩ (.cons ⟨Ob.row 3 1 (List.length g) fun (j : Nat) => [V.i (↑(gn g j) : Int)], kR, .row kR (fun _ _ => rfl)⟩ (.cons ⟨(yySG33 c slots plate), kR, .box kR⟩ (.cons ⟨Ob.mp (false, List.length (Prod.snd (Prod.snd st))) (MF.mk [] (knR c slots plate (Prod.snd (Prod.snd st)))), kR, .mp (fun _ => rfl)⟩ (.cons ⟨Ob.row 3 1 (List.length S) fun (j : Nat) => [V.i (↑(gn S j) : Int)], kR, .row kR (fun _ _ => rfl)⟩ (.cons ⟨Ob.row 3 1 (List.length (Prod.fst st)) fun (j : Nat) => [V.i (↑(gn (Prod.fst st) j) : Int)], kR, .row kR (fun _ _ => rfl)⟩ .nil)))))))))))) kR kR
  intro k hk
  refine sK fun K hK => wR 2 ?_; refine aX hTT 1 [] tI ?_; refine nK hK ?_; clear hK K; refine sK fun K hK => ?_
  refine w_cond (t := decide ((↑k : Int) < (↑(List.length S) : Int) + 1)) kR (fun c2 => ?_) (fun c2 => ?_)
  ·
   have hk1 : k ≤ S.length := by simp at c2; omega
   have hkl := opnN_klt hk1
   have hput : ∀ j, gn (putN S k g.length) j < 2 ^ (g.length + 1) := putN_lt hb
   have hpl2 : (putN S k g.length).length = (opnN S k).length := putN_len S k g.length
   have hgx := Nat.lt_of_lt_of_le (opnN_lt (k := k) hb (Nat.pow_pos oM) k) (Nat.pow_le_pow_right oM (show g.length ≤ 8 by omega))
   have hor := bit_or (gn (opnN S k) k) hgx g.length hk8
   have hlen := opnN_len hk1
   have hgl : (g ++ [k]).length = g.length + 1 := by simp
   have A := ih (g ++ [k]) (putN S k g.length) (nextR c slots plate d g S st k) (by simp; omega) (by rw [hpl2, hlen]; simp; split <;> omega) (by simpa using hput)
   rw [← nextR_succ] at A
   refine aw_skip ?_
   refine xt_n (hK _ ?_); clear hK K; refine sK fun K hK => ?_
   refine aw_block ?_
   refine sK fun K hK => wR 3 ?_; refine aX hTT 2 [] tI ?_; refine nK hK ?_; clear hK K; refine sK fun K hK => wR 4 ?_; refine aX hTT 5 [(0, .c ((0 : Nat) ≤ (1 : Nat))), (3, .r (PR.mk (some (46 : Nat)) (some (List.length g + 1 ≤ (1099511627776 : Nat))) (V.own 300046) [((5 : Nat), none), ((300046 : Nat), some (Ob.row 3 1 (List.length g + 1) (appRow (List.length g) (fun (j : Nat) => [V.i (↑(gn g j) : Int)]) fun (i : Nat) => List.take (1 : Nat) (List.drop (i * 1) [V.i (↑k : Int)]))))] false)), (4, .r (pw ((0 : Nat) + (1 : Nat) ≤ (1 : Nat)) (500 : Nat) (Ob.box 22 [V.own 300046])))] ⟨oM, oM, oM, tI⟩ ?_; refine nK hK ?_; clear hK K; refine sK fun K hK => wR 5 ?_; refine aX hTT 3 [(0, .c qSG30)] ⟨qSG30_, tI⟩ ?_; refine nK hK ?_; clear hK K; refine sK fun K hK => ?_; refine sK fun K hK => wR 6 ?_; refine aX hTT 3 [] tI ?_; refine nK hK ?_; clear hK K
   refine w_cond (t := decide ((↑k : Int) = (↑(List.length S) : Int))) kR (fun c3 => ?_) (fun c3 => ?_)
   ·
    have c3 : k = S.length := by simp at c3; omega
    rw [if_pos c3] at hlen
    refine wR 7 ?_; refine aX hTT 4 [(0, .c ((0 : Nat) ≤ (1 : Nat))), (2, .r (PR.mk (some (54 : Nat)) (some (List.length S + 1 ≤ (1099511627776 : Nat))) (V.own 600054) [((6 : Nat), none), ((600054 : Nat), some (Ob.row 3 1 (List.length S + 1) (appRow (List.length S) (fun (j : Nat) => [V.i (↑(gn S j) : Int)]) fun (i : Nat) => List.take (1 : Nat) (List.drop (i * 1) [V.i 0]))))] false)), (3, .r (pw ((0 : Nat) + (1 : Nat) ≤ (1 : Nat)) (503 : Nat) (Ob.box 22 [V.own 600054])))] ⟨oM, oM, oM, tI⟩ ?_; refine nK hK ?_; clear hK K; refine sK fun K hK => ?_
    refine w_le (s' := ⟨mkT [(0, .ref 500 0), (1, .ref 501 0), (2, .ref 502 0), (3, .ref 503 0), (4, .ref 504 0), (5, .ref 505 0), (6, .ref 506 0), (7, .i g.length), (10, .i k), (11, .i S.length), (39, .i (S.length + 1)), (40, .i k)], mkS [(500, .box 22 [.own 15]), (501, .box 34 [V.ints c]), (502, .box 99 [.ref 508 0]), (503, .box 22 [.own 16]), (504, .box 2 [.i (nextR c slots plate d g S st k).2.1]), (505, .box 22 [.own 18]), (506, .box 1 [.fn (.func 70) [] frees]), (15, SetsO (g ++ [k])), (508, PlB c slots plate 509), (509, KnO c slots plate (nextR c slots plate d g S st k).2.2), (16, .row 3 1 (S.length + 1) (SetF (opnN S k))), (18, SetsO (nextR c slots plate d g S st k).1)], 1⟩) ?_ ?_
    ·
     refine le_ren (tl := [(0, V.ref 500 0), (1, V.ref 501 0), (2, V.ref 502 0), (3, V.ref 503 0), (4, V.ref 504 0), (5, V.ref 505 0), (6, V.ref 506 0), (7, V.i (↑(List.length g) : Int)), (10, V.i (↑k : Int)), (11, V.i (↑(List.length S) : Int)), (39, V.i ((↑(List.length S) : Int) + 1)), (40, V.i (↑k : Int))]) (sl := [(500, Ob.box 22 [V.own 15]), (yySG34 c), (502, Ob.box 99 [V.ref 508 0]), (503, Ob.box 22 [V.own 16]), (504, Ob.box 2 [V.i (Prod.fst (Prod.snd (nextR c slots plate d g S st k)))]), (505, Ob.box 22 [V.own 18]), (506, Ob.box 1 [zzSG30]), (15, Ob.row 3 1 (List.length (g ++ [k])) fun (j : Nat) => [V.i (↑(gn (g ++ [k]) j) : Int)]), (yySG32 c slots plate), (509, Ob.mp (false, List.length (Prod.snd (Prod.snd (nextR c slots plate d g S st k)))) (MF.mk [] (knR c slots plate (Prod.snd (Prod.snd (nextR c slots plate d g S st k)))))), (16, Ob.row 3 1 (List.length S + 1) (SetF (opnN S k))), (18, Ob.row 3 1 (List.length (Prod.fst (nextR c slots plate d g S st k))) fun (j : Nat) => [V.i (↑(gn (Prod.fst (nextR c slots plate d g S st k)) j) : Int)])]) [(15, 300046), (16, 600054), (18, 8)] (.cons kR (.cons kR (.cons kR (.cons kR (.cons kR (.cons kR (.cons kR (.cons kR (.cons kR (.cons kR (.cons kR (.cons kR .nil)))))))))))) (.cons ⟨Ob.box 22 [V.own 300046], kR, .box kR⟩ (.cons ⟨(yySG35 c), kR, .box kR⟩ (.cons ⟨Ob.box 99 [V.ref 508 0], kR, .box kR⟩ (.cons ⟨Ob.box 22 [V.own 600054], kR, .box kR⟩ (.cons ⟨Ob.box 2 [V.i (Prod.fst (Prod.snd (nextR c slots plate d g S st k)))], kR, .box kR⟩ (.cons ⟨Ob.box 22 [V.own 8], kR, .box kR⟩ (.cons ⟨Ob.box 1 [zzSG30], kR, .box kR⟩ (.cons ⟨Ob.row 3 1 (List.length g + 1) (appRow (List.length g) (fun (j : Nat) => [V.i (↑(gn g j) : Int)]) fun (i : Nat) => List.take (1 : Nat) (List.drop (i * 1) [V.i (↑k : Int)])), kR, .row oM ?_⟩ (.cons ⟨(yySG33 c slots plate), kR, .box kR⟩ (.cons ⟨Ob.mp (false, List.length (Prod.snd (Prod.snd (nextR c slots plate d g S st k)))) (MF.mk [] (knR c slots plate (Prod.snd (Prod.snd (nextR c slots plate d g S st k))))), kR, .mp (fun _ => rfl)⟩ (.cons ⟨Ob.row 3 1 (List.length S + 1) (appRow (List.length S) (fun (j : Nat) => [V.i (↑(gn S j) : Int)]) fun (i : Nat) => List.take (1 : Nat) (List.drop (i * 1) [V.i 0])), kR, .row kR ?_⟩ (.cons ⟨Ob.row 3 1 (List.length (Prod.fst (nextR c slots plate d g S st k))) fun (j : Nat) => [V.i (↑(gn (Prod.fst (nextR c slots plate d g S st k)) j) : Int)], kR, .row kR (fun _ _ => rfl)⟩ .nil)))))))))))) kR kR
     ·
      intro i hi
      exact app_row (by simpa using hi)
     ·
      intro i hi
      exact opnN_row c3 hi
    refine wD 2 ?_; refine aX hTT 9 [(0, .c qSG30), (2, .c ((0 : Int) ≤ (↑k : Int) ∧ (↑k : Int) < (↑(List.length S + 1) : Int))), (3, .c (k < List.length S + 1 ∧ (0 : Nat) ≤ (1 : Nat))), (5, .c ((0 : Int) ≤ (↑(List.length g) : Int) ∧ (↑(List.length g) : Int) ≤ (↑(IntKind.bits IntKind.i64) : Int) ∧ (-9223372036854775808 : Int) ≤ (1 : Int) * (2 : Int) ^ List.length g ∧ (1 : Int) * (2 : Int) ^ List.length g ≤ 9223372036854775807)), (7, .c ((0 : Int) ≤ (↑k : Int) ∧ (↑k : Int) < (↑(List.length S + 1) : Int))), (8, .r (pw (k < List.length S + 1 ∧ (0 : Nat) + (1 : Nat) ≤ (1 : Nat)) (16 : Nat) (Ob.row 3 1 (List.length S + 1) fun (j : Nat) => if j = k then [V.i (bitop BinOp.or IntKind.i64 (↑(gn (opnN S k) k) : Int) ((1 : Int) * (2 : Int) ^ List.length g))] else SetF (opnN S k) j)))] ⟨qSG30_, oM, oM, ⟨oM, ⟨oM, oM⟩⟩, oM, oM, tI⟩ ?_; refine aops_nil ⟨kR, ?_⟩; refine xt_n (hK _ ?_); clear hK K; refine sK fun K hK => ?_
    refine w_le (s' := ⟨mkT [(0, .ref 500 0), (1, .ref 501 0), (2, .ref 502 0), (3, .ref 503 0), (4, .ref 504 0), (5, .ref 505 0), (6, .ref 506 0), (7, .i g.length), (10, .i k), (11, .i S.length), (39, .i (S.length + 1)), (40, .i k)], mkS [(500, .box 22 [.own 15]), (501, .box 34 [V.ints c]), (502, .box 99 [.ref 508 0]), (503, .box 22 [.own 16]), (504, .box 2 [.i (nextR c slots plate d g S st k).2.1]), (505, .box 22 [.own 18]), (506, .box 1 [.fn (.func 70) [] frees]), (15, SetsO (g ++ [k])), (508, PlB c slots plate 509), (509, KnO c slots plate (nextR c slots plate d g S st k).2.2), (16, SetsO (putN S k g.length)), (18, SetsO (nextR c slots plate d g S st k).1)], 1⟩) ?_ ?_
    ·
     refine le_ren (tl := [(0, V.ref 500 0), (1, V.ref 501 0), (2, V.ref 502 0), (3, V.ref 503 0), (4, V.ref 504 0), (5, V.ref 505 0), (6, V.ref 506 0), (7, V.i (↑(List.length g) : Int)), (10, V.i (↑k : Int)), (11, V.i (↑(List.length S) : Int)), (39, V.i ((↑(List.length S) : Int) + 1)), (40, V.i (↑k : Int))]) (sl := [(500, Ob.box 22 [V.own 15]), (yySG34 c), (502, Ob.box 99 [V.ref 508 0]), (503, Ob.box 22 [V.own 16]), (504, Ob.box 2 [V.i (Prod.fst (Prod.snd (nextR c slots plate d g S st k)))]), (505, Ob.box 22 [V.own 18]), (506, Ob.box 1 [zzSG30]), (15, Ob.row 3 1 (List.length (g ++ [k])) fun (j : Nat) => [V.i (↑(gn (g ++ [k]) j) : Int)]), (yySG32 c slots plate), (509, Ob.mp (false, List.length (Prod.snd (Prod.snd (nextR c slots plate d g S st k)))) (MF.mk [] (knR c slots plate (Prod.snd (Prod.snd (nextR c slots plate d g S st k)))))), (16, Ob.row 3 1 (List.length (putN S k (List.length g))) fun (j : Nat) => [V.i (↑(gn (putN S k (List.length g)) j) : Int)]), (18, Ob.row 3 1 (List.length (Prod.fst (nextR c slots plate d g S st k))) fun (j : Nat) => [V.i (↑(gn (Prod.fst (nextR c slots plate d g S st k)) j) : Int)])]) [(15, 15), (16, 16), (18, 18)] (.cons kR (.cons kR (.cons kR (.cons kR (.cons kR (.cons kR (.cons kR (.cons kR (.cons kR (.cons kR (.cons kR (.cons kR .nil)))))))))))) (.cons ⟨Ob.box 22 [V.own 15], kR, .box kR⟩ (.cons ⟨(yySG35 c), kR, .box kR⟩ (.cons ⟨Ob.box 99 [V.ref 508 0], kR, .box kR⟩ (.cons ⟨Ob.box 22 [V.own 16], kR, .box kR⟩ (.cons ⟨Ob.box 2 [V.i (Prod.fst (Prod.snd (nextR c slots plate d g S st k)))], kR, .box kR⟩ (.cons ⟨Ob.box 22 [V.own 18], kR, .box kR⟩ (.cons ⟨Ob.box 1 [zzSG30], kR, .box kR⟩ (.cons ⟨Ob.row 3 1 (List.length (g ++ [k])) fun (j : Nat) => [V.i (↑(gn (g ++ [k]) j) : Int)], kR, .row kR (fun _ _ => rfl)⟩ (.cons ⟨(yySG33 c slots plate), kR, .box kR⟩ (.cons ⟨Ob.mp (false, List.length (Prod.snd (Prod.snd (nextR c slots plate d g S st k)))) (MF.mk [] (knR c slots plate (Prod.snd (Prod.snd (nextR c slots plate d g S st k))))), kR, .mp (fun _ => rfl)⟩ (.cons ⟨Ob.row 3 1 (List.length S + 1) fun (j : Nat) => if j = k then [V.i (bitop BinOp.or IntKind.i64 (↑(gn (opnN S k) k) : Int) ((1 : Int) * (2 : Int) ^ List.length g))] else SetF (opnN S k) j, kR, .row oM ?_⟩ (.cons ⟨Ob.row 3 1 (List.length (Prod.fst (nextR c slots plate d g S st k))) fun (j : Nat) => [V.i (↑(gn (Prod.fst (nextR c slots plate d g S st k)) j) : Int)], kR, .row kR (fun _ _ => rfl)⟩ .nil)))))))))))) kR kR
     ·
      intro i hi
      exact putN_row hkl hor rfl rfl
    refine wR 2 ?_; refine aX hTT 1 [(0, .c qSG30)] ⟨qSG30_, tI⟩ ?_
    refine aops_callM [500, 501, 502, 503, 504, 505, 506, 15, 508, 509, 16, 18] (first := []) (caps := [V.ref 500 0, V.ref 501 0, V.ref 502 0, V.ref 503 0, V.ref 504 0, V.ref 505 0, V.ref 506 0]) (ins' := [Ob.box 22 [V.own 15], (yySG35 c), Ob.box 99 [V.ref 508 0], Ob.box 22 [V.own 16], Ob.box 2 [V.i (Prod.fst (Prod.snd (nextR c slots plate d g S st k)))], Ob.box 22 [V.own 18], Ob.box 1 [zzSG30], Ob.row 3 1 (List.length (g ++ [k])) fun (j : Nat) => [V.i (↑(gn (g ++ [k]) j) : Int)], (yySG33 c slots plate), Ob.mp (false, List.length (Prod.snd (Prod.snd (nextR c slots plate d g S st k)))) (MF.mk [] (knR c slots plate (Prod.snd (Prod.snd (nextR c slots plate d g S st k))))), Ob.row 3 1 (List.length (putN S k (List.length g))) fun (j : Nat) => [V.i (↑(gn (putN S k (List.length g)) j) : Int)], Ob.row 3 1 (List.length (Prod.fst (nextR c slots plate d g S st k))) fun (j : Nat) => [V.i (↑(gn (Prod.fst (nextR c slots plate d g S st k)) j) : Int)]]) (v' := V.tup []) (δ := [(500, Option.some (Ob.box 22 [V.own 100064])), (501, Option.some ((yySG35 c))), (502, Option.some (Ob.box 99 [V.ref 508 0])), (503, Option.some (Ob.box 22 [V.own 101064])), (504, Option.some (Ob.box 2 [V.i (Prod.fst (Prod.snd (nextR c slots plate d g S st (k + 1))))])), (505, Option.some (Ob.box 22 [V.own 102064])), (506, Option.some (Ob.box 1 [zzSG30])), (15, Option.none), (yySG31 c slots plate), (509, Option.some (Ob.mp (false, List.length (Prod.snd (Prod.snd (nextR c slots plate d g S st (k + 1))))) (MF.mk [] (MF.rest (knF c slots plate (Prod.snd (Prod.snd (nextR c slots plate d g S st (k + 1))))))))), (16, Option.none), (18, Option.none), (100064, Option.some (Ob.row 3 1 (List.length (g ++ [k])) fun (i : Nat) => V.renL (nameG (1 : Nat) (some 64) [(500 : Nat), (501 : Nat), (502 : Nat), (503 : Nat), (504 : Nat), (505 : Nat), (506 : Nat), (15 : Nat), (508 : Nat), (509 : Nat), (16 : Nat), (18 : Nat)]) [V.i (↑(gn (g ++ [k]) i) : Int)])), (101064, Option.some (Ob.row 3 1 (List.length (putN S k (List.length g))) fun (i : Nat) => V.renL (nameG (1 : Nat) (some 64) [(500 : Nat), (501 : Nat), (502 : Nat), (503 : Nat), (504 : Nat), (505 : Nat), (506 : Nat), (15 : Nat), (508 : Nat), (509 : Nat), (16 : Nat), (18 : Nat)]) [V.i (↑(gn (putN S k (List.length g)) i) : Int)])), (102064, Option.some (Ob.row 3 1 (List.length (Prod.fst (nextR c slots plate d g S st (k + 1)))) fun (i : Nat) => V.renL (nameG (1 : Nat) (some 64) [(500 : Nat), (501 : Nat), (502 : Nat), (503 : Nat), (504 : Nat), (505 : Nat), (506 : Nat), (15 : Nat), (508 : Nat), (509 : Nat), (16 : Nat), (18 : Nat)]) [V.i (↑(gn (Prod.fst (nextR c slots plate d g S st (k + 1))) i) : Int)]))]) (kp := [500, 501, 502, 503, 504, 505, 506, 15, 508, 509, 16, 18]) (A) kR kR kR kR kR kR rfl rfl kR (.box kR kR (.box kR kR (.box kR kR (.box kR kR (.box kR kR (.box kR kR (.box kR kR (.row kR (fun _ _ => rfl) (fun _ _ => rfl) (.box kR kR (.mp (fun _ => rfl) ?_ (.row kR (fun _ _ => rfl) (fun _ _ => rfl) (.row kR (fun _ _ => rfl) (fun _ _ => rfl) .nil)))))))))))) kR kR kR ?_
    ·
     exact kn_inN c slots plate _ _
    refine nK hK ?_; clear hK K; refine sK fun K hK => wD 3 ?_
    refine aops_x (M := [75, 78]) hTT 9 [(0, .c qSG30), (2, .c ((0 : Int) ≤ (↑k : Int) ∧ (↑k : Int) < (↑(List.length (putN S k (List.length g))) : Int))), (3, .c (k < List.length (putN S k (List.length g)) ∧ (0 : Nat) ≤ (1 : Nat))), (5, .c ((0 : Int) ≤ (↑(List.length g) : Int) ∧ (↑(List.length g) : Int) ≤ (↑(IntKind.bits IntKind.i64) : Int) ∧ (-9223372036854775808 : Int) ≤ (1 : Int) * (2 : Int) ^ List.length g ∧ (1 : Int) * (2 : Int) ^ List.length g ≤ 9223372036854775807)), (7, .c ((0 : Int) ≤ (↑k : Int) ∧ (↑k : Int) < (↑(List.length (putN S k (List.length g))) : Int))), (8, .r (pw (k < List.length (putN S k (List.length g)) ∧ (0 : Nat) + (1 : Nat) ≤ (1 : Nat)) (101064 : Nat) (Ob.row 3 1 (List.length (putN S k (List.length g))) fun (j : Nat) => if j = k then [V.i (bitop BinOp.andNot IntKind.i64 (↑(gn (putN S k (List.length g)) k) : Int) ((1 : Int) * (2 : Int) ^ List.length g))] else V.renL (nameG (1 : Nat) (some (64 : Tmp)) [(500 : Nat), (501 : Nat), (502 : Nat), (503 : Nat), (504 : Nat), (505 : Nat), (506 : Nat), (15 : Nat), (508 : Nat), (509 : Nat), (16 : Nat), (18 : Nat)]) [V.i (↑(gn (putN S k (List.length g)) j) : Int)])))] ⟨qSG30_, oM, oM, ⟨oM, ⟨oM, oM⟩⟩, oM, oM, tI⟩ ?_
    refine aops_nil ⟨kR, ?_⟩; refine xt_n (hK _ ?_); clear hK K; refine wD 4 ?_
    refine aops_x (M := [75, 78]) hTT 8 [(0, .c ((0 : Nat) ≤ (1 : Nat))), (2, .r (PR.mk (some (75 : Nat)) (some ((0 : Int) ≤ (0 : Int) ∧ (0 : Int) ≤ (↑(List.length S) : Int) ∧ (↑(List.length S) : Int) ≤ (↑(List.length (putN S k (List.length g))) : Int) ∧ (0 : Nat) < List.length (putN S k (List.length g)))) (V.own 300075) [((101064 : Nat), none), ((300075 : Nat), some (Ob.row 3 1 (List.length S) fun (j : Nat) => if j = k then [V.i (bitop BinOp.andNot IntKind.i64 (↑(gn (putN S k (List.length g)) k) : Int) ((1 : Int) * (2 : Int) ^ List.length g))] else V.renL (nameG (1 : Nat) (some (64 : Tmp)) [(500 : Nat), (501 : Nat), (502 : Nat), (503 : Nat), (504 : Nat), (505 : Nat), (506 : Nat), (15 : Nat), (508 : Nat), (509 : Nat), (16 : Nat), (18 : Nat)]) [V.i (↑(gn (putN S k (List.length g)) j) : Int)]))] false)), (3, .c ((0 : Nat) ≤ (1 : Nat))), (5, .r (PR.mk (some (78 : Nat)) (some ((0 : Int) ≤ (0 : Int) ∧ (0 : Int) ≤ (↑(List.length g) : Int) ∧ (↑(List.length g) : Int) ≤ (↑(List.length (g ++ [k])) : Int) ∧ (0 : Nat) < List.length (g ++ [k]))) (V.own 300078) [((100064 : Nat), none), ((300078 : Nat), some (Ob.row 3 1 (List.length g) fun (i : Nat) => V.renL (nameG (1 : Nat) (some (64 : Tmp)) [(500 : Nat), (501 : Nat), (502 : Nat), (503 : Nat), (504 : Nat), (505 : Nat), (506 : Nat), (15 : Nat), (508 : Nat), (509 : Nat), (16 : Nat), (18 : Nat)]) [V.i (↑(gn (g ++ [k]) i) : Int)]))] false)), (6, .r (pw ((0 : Nat) + (1 : Nat) ≤ (1 : Nat)) (503 : Nat) (Ob.box 22 [V.own 300075]))), (7, .r (pw ((0 : Nat) + (1 : Nat) ≤ (1 : Nat)) (500 : Nat) (Ob.box 22 [V.own 300078])))] ⟨oM, ⟨oM, ⟨oM, oM⟩⟩, oM, ⟨oM, ⟨oM, oM⟩⟩, oM, oM, tI⟩ ?_
    refine aops_nil ⟨kR, ?_⟩; refine xb_n ?_; refine xt_n (hK _ ?_); clear hK K; refine wR 5 ?_
    refine aops_x (M := [75, 78]) hTT 2 [(0, .i ((↑k : Int) + 1))] ⟨oM, tI⟩ ?_
    refine aops_nil ?_; refine xt_n ?_
    refine ⟨k + 1, by simp; omega, ?_, by simp; omega⟩
    refine le_ren (tl := [(0, V.ref 500 0), (1, V.ref 501 0), (2, V.ref 502 0), (3, V.ref 503 0), (4, V.ref 504 0), (5, V.ref 505 0), (6, V.ref 506 0), (7, V.i (↑(List.length g) : Int)), (39, V.i ((↑(List.length S) : Int) + 1)), (40, V.i (↑(k + 1) : Int))]) (sl := [(500, Ob.box 22 [V.own 5]), (yySG34 c), (502, Ob.box 99 [V.ref 508 0]), (503, Ob.box 22 [V.own 6]), (504, Ob.box 2 [V.i (Prod.fst (Prod.snd (nextR c slots plate d g S st (k + 1))))]), (505, Ob.box 22 [V.own 8]), (506, Ob.box 1 [zzSG30]), (5, Ob.row 3 1 (List.length g) fun (j : Nat) => [V.i (↑(gn g j) : Int)]), (yySG32 c slots plate), (509, Ob.mp (false, List.length (Prod.snd (Prod.snd (nextR c slots plate d g S st (k + 1))))) (MF.mk [] (knR c slots plate (Prod.snd (Prod.snd (nextR c slots plate d g S st (k + 1))))))), (6, Ob.row 3 1 (List.length S) fun (j : Nat) => [V.i (↑(gn S j) : Int)]), (8, Ob.row 3 1 (List.length (Prod.fst (nextR c slots plate d g S st (k + 1)))) fun (j : Nat) => [V.i (↑(gn (Prod.fst (nextR c slots plate d g S st (k + 1))) j) : Int)])]) [(5, 300078), (6, 300075), (8, 102064)] (.cons kR (.cons kR (.cons kR (.cons kR (.cons kR (.cons kR (.cons kR (.cons kR (.cons kR (.cons kR .nil)))))))))) (.cons ⟨Ob.box 22 [V.own 300078], kR, .box kR⟩ (.cons ⟨(yySG35 c), kR, .box kR⟩ (.cons ⟨Ob.box 99 [V.ref 508 0], kR, .box kR⟩ (.cons ⟨Ob.box 22 [V.own 300075], kR, .box kR⟩ (.cons ⟨Ob.box 2 [V.i (Prod.fst (Prod.snd (nextR c slots plate d g S st (k + 1))))], kR, .box kR⟩ (.cons ⟨Ob.box 22 [V.own 102064], kR, .box kR⟩ (.cons ⟨Ob.box 1 [zzSG30], kR, .box kR⟩ (.cons ⟨Ob.row 3 1 (List.length g) fun (i : Nat) => V.renL (nameG (1 : Nat) (some (64 : Tmp)) [(500 : Nat), (501 : Nat), (502 : Nat), (503 : Nat), (504 : Nat), (505 : Nat), (506 : Nat), (15 : Nat), (508 : Nat), (509 : Nat), (16 : Nat), (18 : Nat)]) [V.i (↑(gn (g ++ [k]) i) : Int)], kR, .row kR ?_⟩ (.cons ⟨(yySG33 c slots plate), kR, .box kR⟩ (.cons ⟨Ob.mp (false, List.length (Prod.snd (Prod.snd (nextR c slots plate d g S st (k + 1))))) (MF.mk [] (MF.rest (knF c slots plate (Prod.snd (Prod.snd (nextR c slots plate d g S st (k + 1))))))), kR, .mp (fun _ => rfl)⟩ (.cons ⟨Ob.row 3 1 (List.length S) fun (j : Nat) => if j = k then [V.i (bitop BinOp.andNot IntKind.i64 (↑(gn (putN S k (List.length g)) k) : Int) ((1 : Int) * (2 : Int) ^ List.length g))] else V.renL (nameG (1 : Nat) (some (64 : Tmp)) [(500 : Nat), (501 : Nat), (502 : Nat), (503 : Nat), (504 : Nat), (505 : Nat), (506 : Nat), (15 : Nat), (508 : Nat), (509 : Nat), (16 : Nat), (18 : Nat)]) [V.i (↑(gn (putN S k (List.length g)) j) : Int)], kR, .row kR ?_⟩ (.cons ⟨Ob.row 3 1 (List.length (Prod.fst (nextR c slots plate d g S st (k + 1)))) fun (i : Nat) => V.renL (nameG (1 : Nat) (some (64 : Tmp)) [(500 : Nat), (501 : Nat), (502 : Nat), (503 : Nat), (504 : Nat), (505 : Nat), (506 : Nat), (15 : Nat), (508 : Nat), (509 : Nat), (16 : Nat), (18 : Nat)]) [V.i (↑(gn (Prod.fst (nextR c slots plate d g S st (k + 1))) i) : Int)], kR, .row kR (fun _ _ => rfl)⟩ .nil)))))))))))) kR kR
    ·
     intro i hi
     exact congrArg (fun x : Nat => [V.i (x : Int)]) (gn_app hi)
    ·
     intro i hi
     exact clr_row hk1 hk8 hb hi
   ·
    have c3 : k ≠ S.length := by simp at c3; omega
    rw [if_neg c3] at hlen
    have e : opnN S k = S := by rw [opnN, if_neg c3]
    rw [hlen] at hkl
    rw [e] at hor
    refine aw_skip ?_
    refine xt_n (hK _ ?_); clear hK K; refine sK fun K hK => wD 7 ?_; refine aX hTT 9 [(0, .c qSG30), (2, .c ((0 : Int) ≤ (↑k : Int) ∧ (↑k : Int) < (↑(List.length S) : Int))), (3, .c (k < List.length S ∧ (0 : Nat) ≤ (1 : Nat))), (5, .c ((0 : Int) ≤ (↑(List.length g) : Int) ∧ (↑(List.length g) : Int) ≤ (↑(IntKind.bits IntKind.i64) : Int) ∧ (-9223372036854775808 : Int) ≤ (1 : Int) * (2 : Int) ^ List.length g ∧ (1 : Int) * (2 : Int) ^ List.length g ≤ 9223372036854775807)), (7, .c ((0 : Int) ≤ (↑k : Int) ∧ (↑k : Int) < (↑(List.length S) : Int))), (8, .r (pw (k < List.length S ∧ (0 : Nat) + (1 : Nat) ≤ (1 : Nat)) (6 : Nat) (Ob.row 3 1 (List.length S) fun (j : Nat) => if j = k then [V.i (bitop BinOp.or IntKind.i64 (↑(gn S k) : Int) ((1 : Int) * (2 : Int) ^ List.length g))] else [V.i (↑(gn S j) : Int)])))] ⟨qSG30_, oM, oM, ⟨oM, ⟨oM, oM⟩⟩, oM, oM, tI⟩ ?_; refine aops_nil ⟨kR, ?_⟩; refine xt_n (hK _ ?_); clear hK K; refine sK fun K hK => ?_
    refine w_le (s' := ⟨mkT [(0, .ref 500 0), (1, .ref 501 0), (2, .ref 502 0), (3, .ref 503 0), (4, .ref 504 0), (5, .ref 505 0), (6, .ref 506 0), (7, .i g.length), (10, .i k), (11, .i S.length), (39, .i (S.length + 1)), (40, .i k)], mkS [(500, .box 22 [.own 15]), (501, .box 34 [V.ints c]), (502, .box 99 [.ref 508 0]), (503, .box 22 [.own 16]), (504, .box 2 [.i (nextR c slots plate d g S st k).2.1]), (505, .box 22 [.own 18]), (506, .box 1 [.fn (.func 70) [] frees]), (15, SetsO (g ++ [k])), (508, PlB c slots plate 509), (509, KnO c slots plate (nextR c slots plate d g S st k).2.2), (16, SetsO (putN S k g.length)), (18, SetsO (nextR c slots plate d g S st k).1)], 1⟩) ?_ ?_
    ·
     refine le_ren (tl := [(0, V.ref 500 0), (1, V.ref 501 0), (2, V.ref 502 0), (3, V.ref 503 0), (4, V.ref 504 0), (5, V.ref 505 0), (6, V.ref 506 0), (7, V.i (↑(List.length g) : Int)), (10, V.i (↑k : Int)), (11, V.i (↑(List.length S) : Int)), (39, V.i ((↑(List.length S) : Int) + 1)), (40, V.i (↑k : Int))]) (sl := [(500, Ob.box 22 [V.own 15]), (yySG34 c), (502, Ob.box 99 [V.ref 508 0]), (503, Ob.box 22 [V.own 16]), (504, Ob.box 2 [V.i (Prod.fst (Prod.snd (nextR c slots plate d g S st k)))]), (505, Ob.box 22 [V.own 18]), (506, Ob.box 1 [zzSG30]), (15, Ob.row 3 1 (List.length (g ++ [k])) fun (j : Nat) => [V.i (↑(gn (g ++ [k]) j) : Int)]), (yySG32 c slots plate), (509, Ob.mp (false, List.length (Prod.snd (Prod.snd (nextR c slots plate d g S st k)))) (MF.mk [] (knR c slots plate (Prod.snd (Prod.snd (nextR c slots plate d g S st k)))))), (16, Ob.row 3 1 (List.length (putN S k (List.length g))) fun (j : Nat) => [V.i (↑(gn (putN S k (List.length g)) j) : Int)]), (18, Ob.row 3 1 (List.length (Prod.fst (nextR c slots plate d g S st k))) fun (j : Nat) => [V.i (↑(gn (Prod.fst (nextR c slots plate d g S st k)) j) : Int)])]) [(15, 300046), (16, 6), (18, 8)] (.cons kR (.cons kR (.cons kR (.cons kR (.cons kR (.cons kR (.cons kR (.cons kR (.cons kR (.cons kR (.cons kR (.cons kR .nil)))))))))))) (.cons ⟨Ob.box 22 [V.own 300046], kR, .box kR⟩ (.cons ⟨(yySG35 c), kR, .box kR⟩ (.cons ⟨Ob.box 99 [V.ref 508 0], kR, .box kR⟩ (.cons ⟨Ob.box 22 [V.own 6], kR, .box kR⟩ (.cons ⟨Ob.box 2 [V.i (Prod.fst (Prod.snd (nextR c slots plate d g S st k)))], kR, .box kR⟩ (.cons ⟨Ob.box 22 [V.own 8], kR, .box kR⟩ (.cons ⟨Ob.box 1 [zzSG30], kR, .box kR⟩ (.cons ⟨Ob.row 3 1 (List.length g + 1) (appRow (List.length g) (fun (j : Nat) => [V.i (↑(gn g j) : Int)]) fun (i : Nat) => List.take (1 : Nat) (List.drop (i * 1) [V.i (↑k : Int)])), kR, .row oM ?_⟩ (.cons ⟨(yySG33 c slots plate), kR, .box kR⟩ (.cons ⟨Ob.mp (false, List.length (Prod.snd (Prod.snd (nextR c slots plate d g S st k)))) (MF.mk [] (knR c slots plate (Prod.snd (Prod.snd (nextR c slots plate d g S st k))))), kR, .mp (fun _ => rfl)⟩ (.cons ⟨Ob.row 3 1 (List.length S) fun (j : Nat) => if j = k then [V.i (bitop BinOp.or IntKind.i64 (↑(gn S k) : Int) ((1 : Int) * (2 : Int) ^ List.length g))] else [V.i (↑(gn S j) : Int)], kR, .row oM ?_⟩ (.cons ⟨Ob.row 3 1 (List.length (Prod.fst (nextR c slots plate d g S st k))) fun (j : Nat) => [V.i (↑(gn (Prod.fst (nextR c slots plate d g S st k)) j) : Int)], kR, .row kR (fun _ _ => rfl)⟩ .nil)))))))))))) kR kR
     ·
      intro i hi
      exact app_row (by simpa using hi)
     ·
      intro i hi
      exact putN_row (by rw [e]; exact hkl) (by rw [e]; exact hor) (by rw [e]) (by rw [e])
    refine wR 2 ?_; refine aX hTT 1 [(0, .c qSG30)] ⟨qSG30_, tI⟩ ?_
    refine aops_callM [500, 501, 502, 503, 504, 505, 506, 15, 508, 509, 16, 18] (first := []) (caps := [V.ref 500 0, V.ref 501 0, V.ref 502 0, V.ref 503 0, V.ref 504 0, V.ref 505 0, V.ref 506 0]) (ins' := [Ob.box 22 [V.own 15], (yySG35 c), Ob.box 99 [V.ref 508 0], Ob.box 22 [V.own 16], Ob.box 2 [V.i (Prod.fst (Prod.snd (nextR c slots plate d g S st k)))], Ob.box 22 [V.own 18], Ob.box 1 [zzSG30], Ob.row 3 1 (List.length (g ++ [k])) fun (j : Nat) => [V.i (↑(gn (g ++ [k]) j) : Int)], (yySG33 c slots plate), Ob.mp (false, List.length (Prod.snd (Prod.snd (nextR c slots plate d g S st k)))) (MF.mk [] (knR c slots plate (Prod.snd (Prod.snd (nextR c slots plate d g S st k))))), Ob.row 3 1 (List.length (putN S k (List.length g))) fun (j : Nat) => [V.i (↑(gn (putN S k (List.length g)) j) : Int)], Ob.row 3 1 (List.length (Prod.fst (nextR c slots plate d g S st k))) fun (j : Nat) => [V.i (↑(gn (Prod.fst (nextR c slots plate d g S st k)) j) : Int)]]) (v' := V.tup []) (δ := [(500, Option.some (Ob.box 22 [V.own 100064])), (501, Option.some ((yySG35 c))), (502, Option.some (Ob.box 99 [V.ref 508 0])), (503, Option.some (Ob.box 22 [V.own 101064])), (504, Option.some (Ob.box 2 [V.i (Prod.fst (Prod.snd (nextR c slots plate d g S st (k + 1))))])), (505, Option.some (Ob.box 22 [V.own 102064])), (506, Option.some (Ob.box 1 [zzSG30])), (15, Option.none), (yySG31 c slots plate), (509, Option.some (Ob.mp (false, List.length (Prod.snd (Prod.snd (nextR c slots plate d g S st (k + 1))))) (MF.mk [] (MF.rest (knF c slots plate (Prod.snd (Prod.snd (nextR c slots plate d g S st (k + 1))))))))), (16, Option.none), (18, Option.none), (100064, Option.some (Ob.row 3 1 (List.length (g ++ [k])) fun (i : Nat) => V.renL (nameG (1 : Nat) (some 64) [(500 : Nat), (501 : Nat), (502 : Nat), (503 : Nat), (504 : Nat), (505 : Nat), (506 : Nat), (15 : Nat), (508 : Nat), (509 : Nat), (16 : Nat), (18 : Nat)]) [V.i (↑(gn (g ++ [k]) i) : Int)])), (101064, Option.some (Ob.row 3 1 (List.length (putN S k (List.length g))) fun (i : Nat) => V.renL (nameG (1 : Nat) (some 64) [(500 : Nat), (501 : Nat), (502 : Nat), (503 : Nat), (504 : Nat), (505 : Nat), (506 : Nat), (15 : Nat), (508 : Nat), (509 : Nat), (16 : Nat), (18 : Nat)]) [V.i (↑(gn (putN S k (List.length g)) i) : Int)])), (102064, Option.some (Ob.row 3 1 (List.length (Prod.fst (nextR c slots plate d g S st (k + 1)))) fun (i : Nat) => V.renL (nameG (1 : Nat) (some 64) [(500 : Nat), (501 : Nat), (502 : Nat), (503 : Nat), (504 : Nat), (505 : Nat), (506 : Nat), (15 : Nat), (508 : Nat), (509 : Nat), (16 : Nat), (18 : Nat)]) [V.i (↑(gn (Prod.fst (nextR c slots plate d g S st (k + 1))) i) : Int)]))]) (kp := [500, 501, 502, 503, 504, 505, 506, 15, 508, 509, 16, 18]) (A) kR kR kR kR kR kR rfl rfl kR (.box kR kR (.box kR kR (.box kR kR (.box kR kR (.box kR kR (.box kR kR (.box kR kR (.row kR (fun _ _ => rfl) (fun _ _ => rfl) (.box kR kR (.mp (fun _ => rfl) ?_ (.row kR (fun _ _ => rfl) (fun _ _ => rfl) (.row kR (fun _ _ => rfl) (fun _ _ => rfl) .nil)))))))))))) kR kR kR ?_
    ·
     exact kn_inN c slots plate _ _
    refine nK hK ?_; clear hK K; refine sK fun K hK => wD 3 ?_
    refine aops_x (M := [75, 78]) hTT 9 [(0, .c qSG30), (2, .c ((0 : Int) ≤ (↑k : Int) ∧ (↑k : Int) < (↑(List.length (putN S k (List.length g))) : Int))), (3, .c (k < List.length (putN S k (List.length g)) ∧ (0 : Nat) ≤ (1 : Nat))), (5, .c ((0 : Int) ≤ (↑(List.length g) : Int) ∧ (↑(List.length g) : Int) ≤ (↑(IntKind.bits IntKind.i64) : Int) ∧ (-9223372036854775808 : Int) ≤ (1 : Int) * (2 : Int) ^ List.length g ∧ (1 : Int) * (2 : Int) ^ List.length g ≤ 9223372036854775807)), (7, .c ((0 : Int) ≤ (↑k : Int) ∧ (↑k : Int) < (↑(List.length (putN S k (List.length g))) : Int))), (8, .r (pw (k < List.length (putN S k (List.length g)) ∧ (0 : Nat) + (1 : Nat) ≤ (1 : Nat)) (101064 : Nat) (Ob.row 3 1 (List.length (putN S k (List.length g))) fun (j : Nat) => if j = k then [V.i (bitop BinOp.andNot IntKind.i64 (↑(gn (putN S k (List.length g)) k) : Int) ((1 : Int) * (2 : Int) ^ List.length g))] else V.renL (nameG (1 : Nat) (some (64 : Tmp)) [(500 : Nat), (501 : Nat), (502 : Nat), (503 : Nat), (504 : Nat), (505 : Nat), (506 : Nat), (15 : Nat), (508 : Nat), (509 : Nat), (16 : Nat), (18 : Nat)]) [V.i (↑(gn (putN S k (List.length g)) j) : Int)])))] ⟨qSG30_, oM, oM, ⟨oM, ⟨oM, oM⟩⟩, oM, oM, tI⟩ ?_
    refine aops_nil ⟨kR, ?_⟩; refine xt_n (hK _ ?_); clear hK K; refine wD 4 ?_
    refine aops_x (M := [75, 78]) hTT 8 [(0, .c ((0 : Nat) ≤ (1 : Nat))), (2, .r (PR.mk (some (75 : Nat)) (some ((0 : Int) ≤ (0 : Int) ∧ (0 : Int) ≤ (↑(List.length S) : Int) ∧ (↑(List.length S) : Int) ≤ (↑(List.length (putN S k (List.length g))) : Int) ∧ (0 : Nat) < List.length (putN S k (List.length g)))) (V.own 300075) [((101064 : Nat), none), ((300075 : Nat), some (Ob.row 3 1 (List.length S) fun (j : Nat) => if j = k then [V.i (bitop BinOp.andNot IntKind.i64 (↑(gn (putN S k (List.length g)) k) : Int) ((1 : Int) * (2 : Int) ^ List.length g))] else V.renL (nameG (1 : Nat) (some (64 : Tmp)) [(500 : Nat), (501 : Nat), (502 : Nat), (503 : Nat), (504 : Nat), (505 : Nat), (506 : Nat), (15 : Nat), (508 : Nat), (509 : Nat), (16 : Nat), (18 : Nat)]) [V.i (↑(gn (putN S k (List.length g)) j) : Int)]))] false)), (3, .c ((0 : Nat) ≤ (1 : Nat))), (5, .r (PR.mk (some (78 : Nat)) (some ((0 : Int) ≤ (0 : Int) ∧ (0 : Int) ≤ (↑(List.length g) : Int) ∧ (↑(List.length g) : Int) ≤ (↑(List.length (g ++ [k])) : Int) ∧ (0 : Nat) < List.length (g ++ [k]))) (V.own 300078) [((100064 : Nat), none), ((300078 : Nat), some (Ob.row 3 1 (List.length g) fun (i : Nat) => V.renL (nameG (1 : Nat) (some (64 : Tmp)) [(500 : Nat), (501 : Nat), (502 : Nat), (503 : Nat), (504 : Nat), (505 : Nat), (506 : Nat), (15 : Nat), (508 : Nat), (509 : Nat), (16 : Nat), (18 : Nat)]) [V.i (↑(gn (g ++ [k]) i) : Int)]))] false)), (6, .r (pw ((0 : Nat) + (1 : Nat) ≤ (1 : Nat)) (503 : Nat) (Ob.box 22 [V.own 300075]))), (7, .r (pw ((0 : Nat) + (1 : Nat) ≤ (1 : Nat)) (500 : Nat) (Ob.box 22 [V.own 300078])))] ⟨oM, ⟨oM, ⟨oM, oM⟩⟩, oM, ⟨oM, ⟨oM, oM⟩⟩, oM, oM, tI⟩ ?_
    refine aops_nil ⟨kR, ?_⟩; refine xb_n ?_; refine xt_n (hK _ ?_); clear hK K; refine wR 5 ?_
    refine aops_x (M := [75, 78]) hTT 2 [(0, .i ((↑k : Int) + 1))] ⟨oM, tI⟩ ?_
    refine aops_nil ?_; refine xt_n ?_
    refine ⟨k + 1, by simp; omega, ?_, by simp; omega⟩
    refine le_ren (tl := [(0, V.ref 500 0), (1, V.ref 501 0), (2, V.ref 502 0), (3, V.ref 503 0), (4, V.ref 504 0), (5, V.ref 505 0), (6, V.ref 506 0), (7, V.i (↑(List.length g) : Int)), (39, V.i ((↑(List.length S) : Int) + 1)), (40, V.i (↑(k + 1) : Int))]) (sl := [(500, Ob.box 22 [V.own 5]), (yySG34 c), (502, Ob.box 99 [V.ref 508 0]), (503, Ob.box 22 [V.own 6]), (504, Ob.box 2 [V.i (Prod.fst (Prod.snd (nextR c slots plate d g S st (k + 1))))]), (505, Ob.box 22 [V.own 8]), (506, Ob.box 1 [zzSG30]), (5, Ob.row 3 1 (List.length g) fun (j : Nat) => [V.i (↑(gn g j) : Int)]), (yySG32 c slots plate), (509, Ob.mp (false, List.length (Prod.snd (Prod.snd (nextR c slots plate d g S st (k + 1))))) (MF.mk [] (knR c slots plate (Prod.snd (Prod.snd (nextR c slots plate d g S st (k + 1))))))), (6, Ob.row 3 1 (List.length S) fun (j : Nat) => [V.i (↑(gn S j) : Int)]), (8, Ob.row 3 1 (List.length (Prod.fst (nextR c slots plate d g S st (k + 1)))) fun (j : Nat) => [V.i (↑(gn (Prod.fst (nextR c slots plate d g S st (k + 1))) j) : Int)])]) [(5, 300078), (6, 300075), (8, 102064)] (.cons kR (.cons kR (.cons kR (.cons kR (.cons kR (.cons kR (.cons kR (.cons kR (.cons kR (.cons kR .nil)))))))))) (.cons ⟨Ob.box 22 [V.own 300078], kR, .box kR⟩ (.cons ⟨(yySG35 c), kR, .box kR⟩ (.cons ⟨Ob.box 99 [V.ref 508 0], kR, .box kR⟩ (.cons ⟨Ob.box 22 [V.own 300075], kR, .box kR⟩ (.cons ⟨Ob.box 2 [V.i (Prod.fst (Prod.snd (nextR c slots plate d g S st (k + 1))))], kR, .box kR⟩ (.cons ⟨Ob.box 22 [V.own 102064], kR, .box kR⟩ (.cons ⟨Ob.box 1 [zzSG30], kR, .box kR⟩ (.cons ⟨Ob.row 3 1 (List.length g) fun (i : Nat) => V.renL (nameG (1 : Nat) (some (64 : Tmp)) [(500 : Nat), (501 : Nat), (502 : Nat), (503 : Nat), (504 : Nat), (505 : Nat), (506 : Nat), (15 : Nat), (508 : Nat), (509 : Nat), (16 : Nat), (18 : Nat)]) [V.i (↑(gn (g ++ [k]) i) : Int)], kR, .row kR ?_⟩ (.cons ⟨(yySG33 c slots plate), kR, .box kR⟩ (.cons ⟨Ob.mp (false, List.length (Prod.snd (Prod.snd (nextR c slots plate d g S st (k + 1))))) (MF.mk [] (MF.rest (knF c slots plate (Prod.snd (Prod.snd (nextR c slots plate d g S st (k + 1))))))), kR, .mp (fun _ => rfl)⟩ (.cons ⟨Ob.row 3 1 (List.length S) fun (j : Nat) => if j = k then [V.i (bitop BinOp.andNot IntKind.i64 (↑(gn (putN S k (List.length g)) k) : Int) ((1 : Int) * (2 : Int) ^ List.length g))] else V.renL (nameG (1 : Nat) (some (64 : Tmp)) [(500 : Nat), (501 : Nat), (502 : Nat), (503 : Nat), (504 : Nat), (505 : Nat), (506 : Nat), (15 : Nat), (508 : Nat), (509 : Nat), (16 : Nat), (18 : Nat)]) [V.i (↑(gn (putN S k (List.length g)) j) : Int)], kR, .row kR ?_⟩ (.cons ⟨Ob.row 3 1 (List.length (Prod.fst (nextR c slots plate d g S st (k + 1)))) fun (i : Nat) => V.renL (nameG (1 : Nat) (some (64 : Tmp)) [(500 : Nat), (501 : Nat), (502 : Nat), (503 : Nat), (504 : Nat), (505 : Nat), (506 : Nat), (15 : Nat), (508 : Nat), (509 : Nat), (16 : Nat), (18 : Nat)]) [V.i (↑(gn (Prod.fst (nextR c slots plate d g S st (k + 1))) i) : Int)], kR, .row kR (fun _ _ => rfl)⟩ .nil)))))))))))) kR kR
    ·
     intro i hi
     exact congrArg (fun x : Nat => [V.i (x : Int)]) (gn_app hi)
    ·
     intro i hi
     exact clr_row hk1 hk8 hb hi
  ·
   obtain rfl : k = S.length + 1 := by simp at c2; omega
   refine aw_exit ?_
   refine xt_x ?_; refine xt_x ?_
   refine xb_same ?_
   rw [hfin]
   refine retM (v' := V.tup []) [(0, 5), (1, 6), (2, 8)] [] (.inl rfl) .nil (.cons ⟨Ob.row 3 1 (List.length g) fun (j : Nat) => [V.i (↑(gn g j) : Int)], kR, .row kR (fun _ _ => rfl)⟩ (.cons ⟨Ob.row 3 1 (List.length S) fun (j : Nat) => [V.i (↑(gn S j) : Int)], kR, .row kR (fun _ _ => rfl)⟩ (.cons ⟨Ob.row 3 1 (List.length (Prod.fst (nextR c slots plate d g S st (List.length S + 1)))) fun (j : Nat) => [V.i (↑(gn (Prod.fst (nextR c slots plate d g S st (List.length S + 1))) j) : Int)], kR, .row kR (fun _ _ => rfl)⟩ (.cons ⟨Ob.box 22 [V.own 5], kR, .box kR⟩ (.cons ⟨(yySG35 c), kR, .box kR⟩ (.cons ⟨Ob.box 99 [V.ref 508 0], kR, .box kR⟩ (.cons ⟨Ob.box 22 [V.own 6], kR, .box kR⟩ (.cons ⟨Ob.box 2 [V.i (Prod.fst (Prod.snd (nextR c slots plate d g S st (List.length S + 1))))], kR, .box kR⟩ (.cons ⟨Ob.box 22 [V.own 8], kR, .box kR⟩ (.cons ⟨Ob.box 1 [zzSG30], kR, .box kR⟩ (.cons ⟨(yySG33 c slots plate), kR, .box kR⟩ (.cons ⟨Ob.mp (false, List.length (Prod.snd (Prod.snd (nextR c slots plate d g S st (List.length S + 1))))) (MF.mk [] (knR c slots plate (Prod.snd (Prod.snd (nextR c slots plate d g S st (List.length S + 1)))))), kR, .mp (fun _ => rfl)⟩ .nil)))))))))))) kR kR kR kR kR kR kR
end Go.Proofs.YtfckkkmacjjmhaaDoor

namespace Go.Proofs.YtfckkkmacjjmhaaDoor
open Go.Ab Go.RowKit Go.Dw Go.Shelf
set_option maxHeartbeats 2000000 in
set_option maxRecDepth 100000 in
theorem Gang_1 (c : List Int) (slots plate : Int) (hl : c.length ≤ 4611686018427387904) (hc : chkC c slots plate ≠ 0) : AC Tryd.prog 41 [V.ints c, .i slots, .i plate] (.tup [V.ints [], .i 0, .i (chkC c slots plate)]) [] := by
 refine acI hTT hMX Tryd.func41 Tryd.ntmps41 fun C hC hF => ?_
 refine sK fun K hK => wR 2 ?_; refine aX hTT 4 [] tI ?_; refine nK hK ?_; clear hK K; refine sK fun K hK => ?_; refine sK fun K hK => wR 3 ?_; refine aX hTT 3 [] tI ?_
 refine eC (CheckCopies_ac c slots plate hl) ?_
 refine aX hTT 1 [] tI ?_; refine nK hK ?_; clear hK K; refine sK fun K hK => wR 4 ?_; refine aX hTT 2 [] tI ?_; refine nK hK ?_; clear hK K
 refine w_cond (t := !decide (chkC c slots plate = 0)) kR (fun c1 => ?_) (fun c1 => ?_)
 ·
  refine sK fun K hK => ?_
  refine wR 5 ?_; refine aX hTT 4 [] tI ?_; refine nK hK ?_; clear hK K
  refine aw_ret ?_
  refine xt_r ?_
  refine ret_of_le (le_nil 6 (sz := 1) 0 (fun k => [.i (gi [] k)]) kR ?_) ?_
  ·
   rfl
  refine rP (V.tup [V.sl 1 0 fun (k : Nat) => [V.i (gi [] k)], V.i 0, V.i (chkC c slots plate)])
 ·
  exact absurd (by simpa using c1) hc
abbrev zzSG40 : V := V.fn (Fn.func (70 : Nat)) [] [V.ref 500012 0, V.ref 100003 0, V.ref 400010 0, V.ref 500013 0, V.ref 600014 0, V.ref 500011 0, V.ref 700015 0]
abbrev qSG40 : Prop := (0 : Nat) ≤ (1 : Nat)
theorem qSG40_ : qSG40 := oM
abbrev yySG40 (c : List Int) (slots : Int) (plate : Int) : Ob := Ob.box 102 [V.sl 1 (List.length c) fun (k : Nat) => [V.i (gi c k)], V.i slots, V.i plate, V.own 400026]
abbrev yySG41 (c : List Int) (slots : Int) (plate : Int) := (Prod.snd (nextG c slots plate (List.length c) [] [] ([], (-1 : Int), [])))
abbrev yySG42 (c : List Int) (slots : Int) (plate : Int) := (Prod.fst (nextG c slots plate (List.length c) [] [] ([], (-1 : Int), [])))
abbrev yySG43 (c : List Int) : Ob := Ob.box 34 [V.sl 1 (List.length c) fun (k : Nat) => [V.i (gi c k)]]
abbrev yySG44 := ((9 : Nat) + (1 : Nat) + (1 : Nat) + (1 : Nat))
set_option maxHeartbeats 2000000 in
set_option maxRecDepth 100000 in
theorem Gang_2 (c : List Int) (slots plate : Int) (hl : c.length ≤ 4611686018427387904) (hc : chkC c slots plate = 0) (hc0 : 0 < c.length) : AC Tryd.prog 41 [V.ints c, .i slots, .i plate] (.tup [.own 0, .i (nextG c slots plate c.length [] [] ([], -1, [])).2.1, .i 0]) [SetsO (nextG c slots plate c.length [] [] ([], -1, [])).1] := by
 have A := next_am c slots plate hc hc0 c.length [] [] ([], -1, []) (by simp) (by simp) (fun j => by simp [gn])
 simp only [nextB] at A
 rw [show KnO c slots plate [] = .mp (false, 0) ⟨[], fun _ => none⟩ by rw [KnO, knF_nil]; rfl] at A
 refine acI hTT hMX Tryd.func41 Tryd.ntmps41 fun C hC hF => ?_
 refine sK fun K hK => wR 2 ?_
 refine aops_x (M := [3]) hTT 4 [(0, .r (pn 3 (V.ref 100003 0) (100003 : Nat) ((yySG43 c))))] tI ?_
 refine nK hK ?_; clear hK K; refine sK fun K hK => ?_; refine sK fun K hK => wR 3 ?_
 refine aops_x (M := [3]) hTT 3 [(0, .c qSG40)] ⟨qSG40_, tI⟩ ?_
 refine eC (CheckCopies_ac c slots plate hl) ?_
 refine aX hTT 1 [] tI ?_; refine nK hK ?_; clear hK K; refine sK fun K hK => wR 4 ?_; refine aX hTT 2 [] tI ?_; refine nK hK ?_; clear hK K
 refine w_cond (t := !decide (chkC c slots plate = 0)) kR (fun c1 => ?_) (fun c1 => ?_)
 ·
  simp [hc] at c1
 refine aw_skip ?_
 refine xt_n (hK _ ?_); clear hK K; refine sK fun K hK => wR 5 ?_
 refine aops_x (M := [3, 28]) hTT 8 [(0, .c qSG40), (3, .r (pn 26 (V.own 400026) (400026 : Nat) (Ob.mp (false, (0 : Nat)) (MF.mk [] fun (x : MK) => none)))), (5, .r (pn 28 (V.ref 400028 0) (400028 : Nat) ((yySG40 c slots plate)))), (6, .r (pn 10 (V.ref 400010 0) (400010 : Nat) (Ob.box 99 [V.c (Value.pointer none)]))), (7, .r (pw ((0 : Nat) + (1 : Nat) ≤ (1 : Nat)) (400010 : Nat) (Ob.box 99 [V.ref 400028 0])))] ⟨qSG40_, oM, tI⟩ ?_
 refine nK hK ?_; clear hK K; refine sK fun K hK => wR 6 ?_
 refine aops_x (M := [3, 28]) hTT 3 [(0, .r (pn 11 (V.ref 500011 0) (500011 : Nat) (Ob.box 22 [V.nil]))), (1, .r (pn 12 (V.ref 500012 0) (500012 : Nat) (Ob.box 22 [V.nil]))), (2, .r (pn 13 (V.ref 500013 0) (500013 : Nat) (Ob.box 22 [V.nil])))] tI ?_
 refine nK hK ?_; clear hK K; refine sK fun K hK => wR 7 ?_
 refine aops_x (M := [3, 28]) hTT 2 [(0, .r (pn 14 (V.ref 600014 0) (600014 : Nat) (Ob.box 2 [V.i 0]))), (1, .r (pw ((0 : Nat) + (1 : Nat) ≤ (1 : Nat)) (600014 : Nat) (Ob.box 2 [V.i (-1)])))] ⟨oM, tI⟩ ?_
 refine nK hK ?_; clear hK K; refine sK fun K hK => wR 8 ?_
 refine aops_x (M := [3, 28]) hTT 1 [(0, .r (pn 15 (V.ref 700015 0) (700015 : Nat) (Ob.box 1 [V.c Value.nilFunc])))] tI ?_
 refine nK hK ?_; clear hK K; refine sK fun K hK => wR 9 ?_
 refine aops_x (M := [3, 28]) hTT 2 [(1, .r (pw ((0 : Nat) + (1 : Nat) ≤ (1 : Nat)) (700015 : Nat) (Ob.box 1 [zzSG40])))] ⟨oM, tI⟩ ?_
 refine nK hK ?_; clear hK K; refine sK fun K hK => ?_
 refine w_le (le_openIn 500012 0 3 1 (SetF []) (t := 22) (cs := [.nil]) kR rfl kR kR) ?_
 refine w_le (le_openIn 500013 0 3 1 (SetF []) (t := 22) (cs := [.nil]) kR rfl kR kR) ?_
 refine w_le (le_openIn 500011 0 3 1 (SetF []) (t := 22) (cs := [.nil]) kR rfl kR kR) ?_
 refine wR 13 ?_; refine aX hTT 1 [(0, .c qSG40)] ⟨qSG40_, tI⟩ ?_
 refine aops_callM [500012, 100003, 400010, 500013, 600014, 500011, 700015, 900000, 400028, 400026, 1000000, 1100000] (first := []) (caps := [V.ref 500012 0, V.ref 100003 0, V.ref 400010 0, V.ref 500013 0, V.ref 600014 0, V.ref 500011 0, V.ref 700015 0]) (ins' := [Ob.box 22 [V.own 900000], (yySG43 c), Ob.box 99 [V.ref 400028 0], Ob.box 22 [V.own 1000000], Ob.box 2 [V.i (-1)], Ob.box 22 [V.own 1100000], Ob.box 1 [zzSG40], Ob.row 3 1 0 (SetF []), (yySG40 c slots plate), Ob.mp (false, (0 : Nat)) (MF.mk [] fun (x : MK) => none), Ob.row 3 1 0 (SetF []), Ob.row 3 1 0 (SetF [])]) (v' := V.tup []) (δ := [(500012, Option.some (Ob.box 22 [V.own 1200031])), (100003, Option.some ((yySG43 c))), (400010, Option.some (Ob.box 99 [V.ref 400028 0])), (500013, Option.some (Ob.box 22 [V.own 1201031])), (600014, Option.some (Ob.box 2 [V.i (Prod.fst (yySG41 c slots plate))])), (500011, Option.some (Ob.box 22 [V.own 1202031])), (700015, Option.some (Ob.box 1 [zzSG40])), (900000, Option.none), (400028, Option.some ((yySG40 c slots plate))), (400026, Option.some (Ob.mp (false, List.length (Prod.snd (yySG41 c slots plate))) (MF.mk [] (MF.rest (knF c slots plate (Prod.snd (yySG41 c slots plate))))))), (1000000, Option.none), (1100000, Option.none), (1200031, Option.some (Ob.row 3 1 0 fun (i : Nat) => V.renL (nameG yySG44 (some 31) [(500012 : Nat), (100003 : Nat), (400010 : Nat), (500013 : Nat), (600014 : Nat), (500011 : Nat), (700015 : Nat), (900000 : Nat), (400028 : Nat), (400026 : Nat), (1000000 : Nat), (1100000 : Nat)]) [V.i (↑(gn [] i) : Int)])), (1201031, Option.some (Ob.row 3 1 0 fun (i : Nat) => V.renL (nameG yySG44 (some 31) [(500012 : Nat), (100003 : Nat), (400010 : Nat), (500013 : Nat), (600014 : Nat), (500011 : Nat), (700015 : Nat), (900000 : Nat), (400028 : Nat), (400026 : Nat), (1000000 : Nat), (1100000 : Nat)]) [V.i (↑(gn [] i) : Int)])), (1202031, Option.some (Ob.row 3 1 (List.length (yySG42 c slots plate)) fun (i : Nat) => V.renL (nameG yySG44 (some 31) [(500012 : Nat), (100003 : Nat), (400010 : Nat), (500013 : Nat), (600014 : Nat), (500011 : Nat), (700015 : Nat), (900000 : Nat), (400028 : Nat), (400026 : Nat), (1000000 : Nat), (1100000 : Nat)]) [V.i (↑(gn (yySG42 c slots plate) i) : Int)]))]) (kp := [500012, 100003, 400010, 500013, 600014, 500011, 700015, 900000, 400028, 400026, 1000000, 1100000]) (A) kR kR kR kR kR kR rfl rfl kR (.box kR kR (.box kR kR (.box kR kR (.box kR kR (.box kR kR (.box kR kR (.box kR kR (.row kR (fun _ _ => rfl) (fun _ _ => rfl) (.box kR kR (.mp (fun _ => rfl) ?_ (.row kR (fun _ _ => rfl) (fun _ _ => rfl) (.row kR (fun _ _ => rfl) (fun _ _ => rfl) .nil)))))))))))) kR kR kR ?_
 ·
  intro k u h
  exact absurd h (by show ¬ (none = some u); simp)
 refine nK hK ?_; clear hK K; refine sK fun K hK => wD 14 ?_; refine aX hTT 5 [(0, .c qSG40), (1, .c qSG40)] ⟨qSG40_, qSG40_, tI⟩ ?_; refine aops_nil ⟨kR, ?_⟩; refine xt_n (hK _ ?_); clear hK K
 refine aw_ret ?_
 refine ret_own [(0, 1202031)] [(6, V.own 0), (7, V.i (Prod.fst (yySG41 c slots plate))), (8, V.i 0)] (.inr rfl) (.cons kR (.cons kR (.cons kR .nil))) (.cons ⟨Ob.row 3 1 (List.length (yySG42 c slots plate)) fun (i : Nat) => V.renL (nameG yySG44 (some (31 : Tmp)) [(500012 : Nat), (100003 : Nat), (400010 : Nat), (500013 : Nat), (600014 : Nat), (500011 : Nat), (700015 : Nat), (900000 : Nat), (400028 : Nat), (400026 : Nat), (1000000 : Nat), (1100000 : Nat)]) [V.i (↑(gn (yySG42 c slots plate) i) : Int)], kR, .row kR (fun _ _ => rfl)⟩ .nil) kR kR kR kR
set_option maxHeartbeats 2000000 in
set_option maxRecDepth 100000 in
theorem clone_nil : AC Tryd.prog 71 [.nil] .nil [] := by
 refine acI hTT hMX Tryd.func71 Tryd.ntmps71 fun C hC hF => ?_
 refine sK fun K hK => wR 2 ?_; refine aX hTT 1 [] tI ?_; refine nK hK ?_; clear hK K; refine sK fun K hK => ?_; refine sK fun K hK => wR 3 ?_; refine aX hTT 2 [] tI ?_; refine nK hK ?_; clear hK K; refine w_true (t := true) kR rfl ?_; refine sK fun K hK => wR 4 ?_; refine aX hTT 1 [] tI ?_; refine nK hK ?_; clear hK K
 refine aw_ret ?_
 refine xt_r ?_
 refine rP (V.nil)
abbrev yySG47 (slots : Int) (plate : Int) := (Prod.snd (sumK [] slots plate [] [] (0 : Int)))
abbrev yySG45 (slots : Int) (plate : Int) := (Prod.fst (yySG47 slots plate) == true && true == false)
abbrev yySG46 (slots : Int) (plate : Int) := (Prod.fst (yySG47 slots plate) == true)
set_option maxHeartbeats 2000000 in
set_option maxRecDepth 100000 in
theorem next_nil (slots plate : Int) (hc : chkC [] slots plate = 0) : AM Tryd.prog 70 frees [.box 22 [.nil], .box 34 [V.ints []], .box 99 [.ref 507 0], .box 22 [.nil], .box 2 [.i (-1)], .box 22 [.nil], .box 1 [.fn (.func 70) [] frees],
 PlB [] slots plate 508, KnO [] slots plate []] (.tup []) [none, none, none, none, some (.box 2 [.i 0]), some (.box 22 [.nil]), none, none, none] [] := by
 have A := sum_am [] slots plate [] [] hc (by simp) (fun k h => by simp at h)
 refine am_intro hTT hMX (fn := Tryd.f70) (N := _) ⟨Tryd.func70, rfl, Tryd.ntmps70, kR⟩ (by simp) rfl (by simp) (by simp) fun C hF => ?_
 refine sK fun K hK => wR 2 ?_; refine aX hTT 3 [(0, .c qSG40)] ⟨qSG40_, tI⟩ ?_; refine nK hK ?_; clear hK K; refine sK fun K hK => ?_; refine sK fun K hK => wR 3 ?_; refine aX hTT 4 [(1, .c qSG40)] ⟨qSG40_, tI⟩ ?_; refine nK hK ?_; clear hK K; refine w_true (t := true) kR rfl ?_; refine sK fun K hK => ?_; refine sK fun K hK => ?_
 refine w_le (le_openIn 503 0 3 1 (SetF []) (t := 22) (cs := [.nil]) kR rfl kR kR) ?_
 refine wR 5 ?_; refine aX hTT 2 [(0, .c qSG40), (1, .c qSG40)] ⟨qSG40_, qSG40_, tI⟩ ?_
 refine aops_callR [507, 508, 300000] (first := []) (caps := []) (ins' := [Ob.box 102 [V.sl 1 0 fun (k : Nat) => [V.i (gi [] k)], V.i slots, V.i plate, V.own 508], Ob.mp (false, (0 : Nat)) (MF.mk [] (knR [] slots plate [])), Ob.row 3 1 0 (SetF [])]) (v' := V.tup [V.i (Prod.fst (sumK [] slots plate [] [] (0 : Int))), V.b (Prod.fst (yySG47 slots plate))]) (δ := []) (kp := [507, 508, 300000]) (A) kR kR kR kR kR kR kR rfl kR kR ⟨kR, ⟨?_, ⟨(fun _ _ => rfl), tI⟩⟩⟩ kR kR kR ?_
 ·
  exact kn_inN [] slots plate [] _
 refine aX hTT 5 [] tI ?_; refine nK hK ?_; clear hK K; refine sK fun K hK => wR 6 ?_; refine aX hTT 10 [(2, .c (gA (yySG46 slots plate) ((0 : Nat) ≤ (1 : Nat)))), (3, .c (gD (yySG46 slots plate) True)), (4, .c (gB (yySG46 slots plate) True)), (5, .c (gA (yySG45 slots plate) True)), (6, .c (gA (yySG45 slots plate) ((0 : Nat) ≤ (1 : Nat)))), (7, .c (gC (yySG45 slots plate) True)), (8, .c (((yySG46 slots plate) = true → (yySG46 slots plate) = true) ∧ ((yySG46 slots plate) = true → True) ∧ ((yySG46 slots plate) = true → true = false → (yySG45 slots plate) = true))), (9, .c ((Prod.fst (yySG47 slots plate) = true → (yySG46 slots plate) = true) ∧ True))] ⟨⟨⟨tI, tI⟩, (by (intro _; simp; done))⟩, ⟨⟨(by (exact fun h => h)), ⟨tI, tI⟩⟩, (fun _ => tI)⟩, ⟨⟨(by (exact fun h => h)), tI⟩, (fun _ => tI)⟩, ⟨⟨tI, tI⟩, (fun _ => tI)⟩, ⟨⟨tI, tI⟩, (by (intro _; simp; done))⟩, ⟨⟨(by (exact fun h => h)), ⟨(by (exact fun h => h)), tI⟩⟩, (fun _ => tI)⟩, ⟨(by (exact fun h => h)), ⟨(fun _ => tI), (by (intro _; simp; done))⟩⟩, ⟨(by (exact fun h => h)), tI⟩, tI⟩ ?_; refine nK hK ?_; clear hK K
 refine w_cond (t := Prod.fst (Prod.snd (sumK [] slots plate [] [] (0 : Int))) && true) kR (fun c2 => ?_) (fun c2 => ?_)
 ·
  refine wR 7 ?_
  refine aX hTT 1 [(0, .c qSG40)] ⟨qSG40_, tI⟩ ?_
  refine eC (clone_nil) ?_
  refine aX hTT 3 [(1, .r (pw ((0 : Nat) + (1 : Nat) ≤ (1 : Nat)) (505 : Nat) (Ob.box 22 [V.nil]))), (2, .r (pw ((0 : Nat) + (1 : Nat) ≤ (1 : Nat)) (504 : Nat) (Ob.box 2 [V.i (Prod.fst (sumK [] slots plate [] [] (0 : Int)))])))] ⟨oM, oM, tI⟩ ?_; refine nK hK ?_; clear hK K
  refine aw_ret ?_
  refine xt_r ?_
  refine retM (v' := V.tup []) [] [] (.inr rfl) .nil (.cons ⟨Ob.box 2 [V.i (Prod.fst (sumK [] slots plate [] [] (0 : Int)))], kR, .box kR⟩ (.cons ⟨Ob.box 22 [V.nil], kR, .box kR⟩ .nil)) kR kR kR kR kR kR kR
 ·
  simp [sumK] at c2
set_option maxHeartbeats 2000000 in
set_option maxRecDepth 100000 in
theorem Gang_3 (slots plate : Int) (hc : chkC [] slots plate = 0) : AC Tryd.prog 41 [V.ints [], .i slots, .i plate] (.tup [V.ints [], .i 0, .i 0]) [] := by
 have A := next_nil slots plate hc
 rw [show KnO [] slots plate [] = .mp (false, 0) ⟨[], fun _ => none⟩ by rw [KnO, knF_nil]; rfl] at A
 have B := CheckCopies_ac [] slots plate (by simp)
 rw [hc] at B
 refine acI hTT hMX Tryd.func41 Tryd.ntmps41 fun C hC hF => ?_
 refine sK fun K hK => wR 2 ?_
 refine aops_x (M := [3]) hTT 4 [(0, .r (pn 3 (V.ref 100003 0) (100003 : Nat) (Ob.box 34 [V.sl 1 0 fun (k : Nat) => [V.i (gi [] k)]])))] tI ?_
 refine nK hK ?_; clear hK K; refine sK fun K hK => ?_; refine sK fun K hK => wR 3 ?_
 refine aops_x (M := [3]) hTT 3 [(0, .c qSG40)] ⟨qSG40_, tI⟩ ?_
 refine eC (B) ?_
 refine aops_x (M := [3, 28]) hTT 1 [] tI ?_
 refine nK hK ?_; clear hK K; refine sK fun K hK => wR 4 ?_
 refine aops_x (M := [3, 28]) hTT 2 [] tI ?_
 refine nK hK ?_; clear hK K; refine w_false (t := false) kR rfl ?_
 refine aw_skip ?_
 refine xt_n (hK _ ?_); clear hK K; refine sK fun K hK => wR 5 ?_
 refine aops_x (M := [3, 28]) hTT 8 [(0, .c qSG40), (3, .r (pn 26 (V.own 400026) (400026 : Nat) (Ob.mp (false, (0 : Nat)) (MF.mk [] fun (x : MK) => none)))), (5, .r (pn 28 (V.ref 400028 0) (400028 : Nat) (Ob.box 102 [V.sl 1 0 fun (k : Nat) => [V.i (gi [] k)], V.i slots, V.i plate, V.own 400026]))), (6, .r (pn 10 (V.ref 400010 0) (400010 : Nat) (Ob.box 99 [V.c (Value.pointer none)]))), (7, .r (pw ((0 : Nat) + (1 : Nat) ≤ (1 : Nat)) (400010 : Nat) (Ob.box 99 [V.ref 400028 0])))] ⟨qSG40_, oM, tI⟩ ?_
 refine nK hK ?_; clear hK K; refine sK fun K hK => wR 6 ?_
 refine aops_x (M := [3, 28]) hTT 3 [(0, .r (pn 11 (V.ref 500011 0) (500011 : Nat) (Ob.box 22 [V.nil]))), (1, .r (pn 12 (V.ref 500012 0) (500012 : Nat) (Ob.box 22 [V.nil]))), (2, .r (pn 13 (V.ref 500013 0) (500013 : Nat) (Ob.box 22 [V.nil])))] tI ?_
 refine nK hK ?_; clear hK K; refine sK fun K hK => wR 7 ?_
 refine aops_x (M := [3, 28]) hTT 2 [(0, .r (pn 14 (V.ref 600014 0) (600014 : Nat) (Ob.box 2 [V.i 0]))), (1, .r (pw ((0 : Nat) + (1 : Nat) ≤ (1 : Nat)) (600014 : Nat) (Ob.box 2 [V.i (-1)])))] ⟨oM, tI⟩ ?_
 refine nK hK ?_; clear hK K; refine sK fun K hK => wR 8 ?_
 refine aops_x (M := [3, 28]) hTT 1 [(0, .r (pn 15 (V.ref 700015 0) (700015 : Nat) (Ob.box 1 [V.c Value.nilFunc])))] tI ?_
 refine nK hK ?_; clear hK K; refine sK fun K hK => wR 9 ?_
 refine aops_x (M := [3, 28]) hTT 2 [(1, .r (pw ((0 : Nat) + (1 : Nat) ≤ (1 : Nat)) (700015 : Nat) (Ob.box 1 [zzSG40])))] ⟨oM, tI⟩ ?_
 refine nK hK ?_; clear hK K; refine sK fun K hK => wR 10 ?_
 refine aops_x (M := [3, 28]) hTT 1 [(0, .c qSG40)] ⟨qSG40_, tI⟩ ?_
 refine aops_callM [500012, 100003, 400010, 500013, 600014, 500011, 700015, 400028, 400026] (first := []) (caps := [V.ref 500012 0, V.ref 100003 0, V.ref 400010 0, V.ref 500013 0, V.ref 600014 0, V.ref 500011 0, V.ref 700015 0]) (ins' := [Ob.box 22 [V.nil], Ob.box 34 [V.sl 1 0 fun (k : Nat) => [V.i (gi [] k)]], Ob.box 99 [V.ref 400028 0], Ob.box 22 [V.nil], Ob.box 2 [V.i (-1)], Ob.box 22 [V.nil], Ob.box 1 [zzSG40], Ob.box 102 [V.sl 1 0 fun (k : Nat) => [V.i (gi [] k)], V.i slots, V.i plate, V.own 400026], Ob.mp (false, (0 : Nat)) (MF.mk [] fun (x : MK) => none)]) (v' := V.tup []) (δ := [(500012, Option.none), (100003, Option.none), (400010, Option.none), (500013, Option.none), (600014, Option.some (Ob.box 2 [V.i 0])), (500011, Option.some (Ob.box 22 [V.nil])), (700015, Option.none), (400028, Option.none), (400026, Option.none)]) (kp := [500012, 100003, 400010, 500013, 600014, 500011, 700015, 400028, 400026]) (A) kR kR kR kR kR kR rfl rfl kR (.box kR kR (.box kR kR (.box kR kR (.box kR kR (.box kR kR (.box kR kR (.box kR kR (.box kR kR (.mp (fun _ => rfl) ?_ .nil))))))))) kR kR kR ?_
 ·
  intro k u h
  exact absurd h (by show ¬ (none = some u); simp)
 refine nK hK ?_; clear hK K; refine sK fun K hK => wD 11 ?_; refine aX hTT 5 [(0, .c qSG40), (1, .c qSG40)] ⟨qSG40_, qSG40_, tI⟩ ?_; refine aops_nil ⟨kR, ?_⟩; refine xt_n (hK _ ?_); clear hK K
 refine aw_ret ?_
 refine ret_of_le (le_nil 6 (sz := 1) 0 (fun k => [.i (gi [] k)]) kR ?_) ?_
 ·
  rfl
 refine rP (V.tup [V.sl 1 0 fun (k : Nat) => [V.i (gi [] k)], V.i 0, V.i 0])
end Go.Proofs.YtfckkkmacjjmhaaDoor

namespace Go.Proofs.YtfckkkmacjjmhaaDoor
open Go.Ab Go.RowKit Go.Dw Go.Shelf
set_option maxRecDepth 100000 in
theorem rCheckCopies_ac (c : List Int) (slots plate : Int) (hl : c.length ≤ 4611686018427387904) : AC Tryd.prog 25 [V.ints c, .i slots, .i plate] (.i (chkC c slots plate)) [] := by
 refine acI hTT hMX Tryd.func25 Tryd.ntmps25 fun C hC hF => ?_
 refine sK fun K hK => wR 2 ?_; refine aX hTT 1 [] tI ?_; refine nK hK ?_; clear hK K; refine sK fun K hK => ?_; refine sK fun K hK => wR 3 ?_; refine aX hTT 3 [] tI ?_; refine nK hK ?_; clear hK K
 refine w_cond (t := decide ((8 : Int) < (↑(List.length c) : Int))) kR (fun c1 => ?_) (fun c1 => ?_)
 ·
  have h1 : 8 < c.length := by simp at c1; omega
  refine sK fun K hK => wR 4 ?_; refine aX hTT 1 [] tI ?_; refine nK hK ?_; clear hK K
  refine aw_ret ?_
  refine xt_r ?_
  rw [chkC_1 h1]
  refine rP (V.i 6)
 have h1 : ¬ 8 < c.length := by simp at c1; omega
 refine aw_skip ?_
 refine xt_n (hK _ ?_); clear hK K; refine sK fun K hK => ?_; refine sK fun K hK => wR 4 ?_; refine aX hTT 1 [] tI ?_; refine nK hK ?_; clear hK K
 refine aw_block ?_
 refine w_loop (ι := Nat) (fun k => [(0, V.ints c), (1, .i slots), (2, .i plate), (7, .i k)]) (fun _ => []) (fun k => k ≤ c.length ∧ ∀ i, i < k → copB (gi c i) = false) (fun k => c.length - k) 0 ⟨Nat.zero_le _, fun i hi => by omega⟩ ?_ ?_
 ·
  refine le_ren [] (.cons kR (.cons kR (.cons kR (.cons kR .nil)))) .nil kR kR
 rintro k ⟨hk, hb⟩
 refine sK fun K hK => ?_; refine sK fun K hK => wR 2 ?_; refine aX hTT 4 [] tI ?_; refine nK hK ?_; clear hK K
 refine w_cond (t := decide ((↑k : Int) < (↑(List.length c) : Int))) kR (fun c2 => ?_) (fun c2 => ?_)
 ·
  simp at c2
  refine aw_skip ?_
  refine xt_n (hK _ ?_); clear hK K; refine sK fun K hK => ?_
  refine aw_block ?_
  refine sK fun K hK => wR 3 ?_; refine aX hTT 4 [(2, .c ((0 : Int) ≤ (↑k : Int) ∧ (↑k : Int) < (↑(List.length c) : Int)))] ⟨oM, tI⟩ ?_
  refine eC (rwithin_ac (gi c k) 1 1048576) ?_
  refine aX hTT 1 [] tI ?_; refine nK hK ?_; clear hK K
  refine w_cond (t := !(decide ((1 : Int) ≤ gi c k) && decide (gi c k ≤ 1048576))) kR (fun c3 => ?_) (fun c3 => ?_)
  ·
   refine sK fun K hK => ?_
   refine wR 4 ?_; refine aX hTT 1 [] tI ?_; refine nK hK ?_; clear hK K
   refine aw_ret ?_
   refine xb_r ?_
   refine xt_r ?_; refine xt_r ?_
   refine xb_r ?_
   refine xt_r ?_
   rw [chkC_2 h1 c2 (by simp [copB, outB]; simp at c3; omega)]
   refine rP (V.i 2)
  refine aw_skip ?_
  refine xb_n ?_; refine xt_n (hK _ ?_); clear hK K; refine wR 4 ?_; refine aX hTT 3 [(1, .i ((↑k : Int) + 1))] ⟨oM, tI⟩ ?_; refine aops_nil ?_; refine xt_n ?_
  refine ⟨k + 1, ⟨by omega, fun i hi => ?_⟩, by refine le_ren [] (.cons kR (.cons kR (.cons kR (.cons kR .nil)))) .nil kR kR, by omega⟩
  by_cases he : i = k
  ·
   subst he; simp [copB, outB]; simp at c3; omega
  ·
   exact hb i oM
 simp at c2
 obtain rfl : k = c.length := by omega
 refine aw_exit ?_
 refine xt_x ?_; refine xt_x ?_
 refine xb_same ?_
 refine xt_n ?_; clear hK K; refine hK _ ?_; clear hK K; refine sK fun K hK => ?_; refine sK fun K hK => wR 3 ?_; refine aX hTT 1 [] tI ?_
 refine eC (rwithin_ac slots 1 64) ?_
 refine aX hTT 3 [(2, .c (gA ((!(decide ((1 : Int) ≤ slots) && decide (slots ≤ 64))) == false) True))] ⟨⟨⟨tI, tI⟩, (fun _ => tI)⟩, tI⟩ ?_
 refine eG 1 (g := (!(decide ((1 : Int) ≤ slots) && decide (slots ≤ 64))) == false) (fun h => rwithin_ac plate 0 1048576) ?_
 refine aX hTT 2 [(0, .c (gB ((!(decide ((1 : Int) ≤ slots) && decide (slots ≤ 64))) == false) True)), (1, .c (True ∧ ((!(decide ((1 : Int) ≤ slots) && decide (slots ≤ 64))) = false → ((!(decide ((1 : Int) ≤ slots) && decide (slots ≤ 64))) == false) = true)))] ⟨⟨⟨(by (exact fun h => h)), tI⟩, (fun _ => tI)⟩, ⟨tI, (by (intro h; rw [h]; rfl))⟩, tI⟩ ?_; refine nK hK ?_; clear hK K
 refine w_cond (t := !(decide ((1 : Int) ≤ slots) && decide (slots ≤ 64)) || !(decide ((0 : Int) ≤ plate) && decide (plate ≤ 1048576))) kR (fun c3 => ?_) (fun c3 => ?_)
 ·
  refine sK fun K hK => ?_
  refine wR 4 ?_; refine aX hTT 1 [] tI ?_; refine nK hK ?_; clear hK K
  refine aw_ret ?_
  refine xt_r ?_
  rw [chkC_3 h1 hb (by simp [outB]; simp at c3; omega)]
  refine rP (V.i 3)
 ·
  refine aw_skip ?_
  refine xt_n (hK _ ?_); clear hK K; refine sK fun K hK => wR 4 ?_; refine aX hTT 1 [] tI ?_; refine nK hK ?_; clear hK K
  refine aw_ret ?_
  rw [chkC_4 h1 hb (by simp [outB]; simp at c3; omega)]
  refine rP (V.i 0)
set_option maxRecDepth 100000 in
theorem rPlaces_ac (c : List Int) (s : Int) (h : CO c) (hl : c.length ≤ 4096) (hs : 1 ≤ s ∧ s ≤ 1048576) : AC Tryd.prog 56 [V.ints c, .i s] (V.ints (c.map fun n => plc n s)) [] := by
 obtain ⟨s1, s2⟩ := hs
 refine acI hTT hMX Tryd.func56 Tryd.ntmps56 fun C hC hF => ?_
 refine sK fun K hK => wR 2 ?_; refine aX hTT 1 [] tI ?_; refine nK hK ?_; clear hK K; refine sK fun K hK => wR 3 ?_; refine aX hTT 1 [] tI ?_; refine nK hK ?_; clear hK K; refine sK fun K hK => ?_; refine sK fun K hK => wR 4 ?_; refine aX hTT 1 [] tI ?_; refine nK hK ?_; clear hK K
 refine aw_block ?_
 refine w_le (le_open 5 2 1 (fun k => [.i (plc (gi c k) s)]) kR rfl) ?_
 refine w_loop (ι := Nat) (fun k => [(0, V.ints c), (1, .i s), (5, .own 5), (6, .i k)]) (fun k => [(5, .row 2 1 k fun k => [.i (plc (gi c k) s)])]) (fun k => k ≤ c.length) (fun k => c.length - k) 0 (Nat.zero_le _) ?_ ?_
 ·
  refine le_ren (sl := [(5, Ob.row 2 1 0 fun (k : Nat) => [V.i (plc (gi c k) s)])]) [(5, 400005)] (.cons kR (.cons kR (.cons kR (.cons kR .nil)))) (.cons ⟨Ob.row 2 1 0 fun (k : Nat) => [V.i (plc (gi c k) s)], kR, .row kR (fun _ _ => rfl)⟩ .nil) kR kR
 intro k hk
 refine sK fun K hK => ?_; refine sK fun K hK => wR 2 ?_; refine aX hTT 4 [] tI ?_; refine nK hK ?_; clear hK K
 refine w_cond (t := decide ((↑k : Int) < (↑(List.length c) : Int))) kR (fun c1 => ?_) (fun c1 => ?_)
 ·
  simp at c1
  obtain ⟨q1, q2⟩ := h.gi c1
  have e1 := tdiv_plc q1 s1
  have p1 := plc_pos q1 s1
  have p2 := plc_le q1 s1
  refine aw_skip ?_
  refine xt_n (hK _ ?_); clear hK K; refine sK fun K hK => ?_
  refine aw_block ?_
  refine wR 3 ?_; refine aX hTT 13 [(3, .c ((0 : Int) ≤ (↑k : Int) ∧ (↑k : Int) < (↑(List.length c) : Int))), (6, .i (gi c k + s)), (7, .i (gi c k + s - 1)), (9, .c ((0 : Int) < s ∧ (-9223372036854775808 : Int) ≤ gi c k + s - 1 ∧ gi c k + s - 1 ≤ (9223372036854775807 : Int))), (11, .r (PR.mk (some (24 : Nat)) (some (k + 1 ≤ (1099511627776 : Nat))) (V.own 200024) [((5 : Nat), none), ((200024 : Nat), some (Ob.row 2 1 (k + 1) (appRow k (fun (k : Nat) => [V.i (plc (gi c k) s)]) fun (i : Nat) => List.take (1 : Nat) (List.drop (i * 1) [V.i (Int.tdiv (gi c k + s - 1) s)]))))] false))] ⟨oM, oM, oM, ⟨oM, oM⟩, oM, tI⟩ ?_; refine aops_nil ?_; refine xb_n ?_; refine xt_n (hK _ ?_); clear hK K; refine wR 4 ?_; refine aX hTT 3 [(1, .i ((↑k : Int) + 1))] ⟨oM, tI⟩ ?_; refine aops_nil ?_; refine xt_n ?_
  refine ⟨k + 1, by omega, ?_, by omega⟩
  refine le_ren (tl := [(0, V.sl 1 (List.length c) fun (k : Nat) => [V.i (gi c k)]), (1, V.i s), (5, V.own 5), (6, V.i (↑(k + 1) : Int))]) (sl := [(5, Ob.row 2 1 (k + 1) fun (k : Nat) => [V.i (plc (gi c k) s)])]) [(5, 200024)] (.cons kR (.cons kR (.cons kR (.cons kR .nil)))) (.cons ⟨Ob.row 2 1 (k + 1) (appRow k (fun (k : Nat) => [V.i (plc (gi c k) s)]) fun (i : Nat) => List.take (1 : Nat) (List.drop (i * 1) [V.i (Int.tdiv (gi c k + s - 1) s)])), kR, .row kR ?_⟩ .nil) kR kR
  exact appRow_i rfl e1
 simp at c1
 obtain rfl : k = c.length := by omega
 refine aw_exit ?_
 refine xt_x ?_; refine xt_x ?_
 refine xb_same ?_
 refine xt_n ?_; clear hK K; refine hK _ ?_; clear hK K; refine sK fun K hK => wR 3 ?_; refine aX hTT 2 [] tI ?_; refine nK hK ?_; clear hK K
 refine aw_ret ?_
 refine ret_of_le (le_shut 4 5 (e := (2 : Nat)) (sz := (1 : Nat)) (n := List.length c) (n' := (c.map fun n => plc n s).length) (row := fun (k : Nat) => [V.i (plc (gi c k) s)]) (row' := (fun k => [.i (gi (c.map fun n => plc n s) k)])) kR kR (fun _ _ => rfl) ?_ ?_) ?_
 ·
  simp
 ·
  intro i hi; rw [gi_map hi]
 refine rP (V.sl 1 (List.length (List.map (fun (n : Int) => plc n s) c)) fun (k : Nat) => [V.i (gi (List.map (fun (n : Int) => plc n s) c) k)])
def enB (c : List Int) (slots s : Int) : Bool := if s < 1 then decide (c.length = 0) else decide (plcS c s c.length ≤ slots)
theorem sum_map {c : List Int} {s : Int} : ∀ k, k ≤ c.length → plcS c s (k + 0) = plcS c s k := fun _ _ => rfl
abbrev yySR10 (c : List Int) (s : Int) : V := V.sl 1 (List.length (List.map (fun (n : Int) => plc n s) c)) fun (k : Nat) => [V.i (gi (List.map (fun (n : Int) => plc n s) c) k)]
abbrev yySR11 (c : List Int) (s : Int) := (↑(List.length (List.map (fun (n : Int) => plc n s) c)) : Int)
set_option maxRecDepth 100000 in
theorem Enough_ac (c : List Int) (slots s : Int) (h : CO c) (hl : c.length ≤ 4096) (hs : s ≤ 1048576) : AC Tryd.prog 27 [V.ints c, .i slots, .i s] (.b (enB c slots s)) [] := by
 refine acI hTT hMX Tryd.func27 Tryd.ntmps27 fun C hC hF => ?_
 refine sK fun K hK => wR 2 ?_
 refine aops_n hTT (M := []) (n := 1) [pv 6 (V.b false)] kR kR tI ?_
 refine nK hK ?_; clear hK K; refine sK fun K hK => ?_; refine sK fun K hK => wR 3 ?_
 refine aops_n hTT (M := []) (n := 2) [pv 10 (V.i s), pv 11 (V.b (decide (s < 1)))] kR kR tI ?_
 refine nK hK ?_; clear hK K
 refine w_cond (t := decide (s < 1)) kR (fun c1 => ?_) (fun c1 => ?_)
 ·
  simp at c1
  refine sK fun K hK => wR 4 ?_
  refine aops_n hTT (M := []) (n := 4) [pv 12 (V.sl 1 (List.length c) fun (k : Nat) => [V.i (gi c k)]), pv 13 (V.i (↑(List.length c) : Int)), pv 14 (V.b (decide ((↑(List.length c) : Int) = 0))), pv 6 (V.b (decide ((↑(List.length c) : Int) = 0)))] kR kR tI ?_
  refine nK hK ?_; clear hK K
  refine aw_ret ?_
  refine xt_r ?_
  rw [enB, if_pos c1]
  refine ret_pure (v' := V.b (decide ((↑(List.length c) : Int) = 0))) (.inr rfl) kR ?_ kR
  simp
 simp at c1
 refine aw_skip ?_
 refine xt_n (hK _ ?_); clear hK K; refine sK fun K hK => wR 4 ?_
 refine aops_n hTT (M := []) (n := 2) [pv 15 (V.sl 1 (List.length c) fun (k : Nat) => [V.i (gi c k)]), pv 16 (V.i s)] kR kR tI ?_
 refine eC (rPlaces_ac c s h hl oM) ?_
 refine aops_n hTT (M := []) (n := 1) [pv 7 ((yySR10 c s))] kR kR tI ?_
 refine nK hK ?_; clear hK K; refine sK fun K hK => wR 5 ?_
 refine aops_n hTT (M := []) (n := 1) [pv 8 (V.i 0)] kR kR tI ?_
 refine nK hK ?_; clear hK K; refine sK fun K hK => ?_; refine sK fun K hK => wR 6 ?_
 refine aops_n hTT (M := []) (n := 1) [pv 9 (V.i 0)] kR kR tI ?_
 refine nK hK ?_; clear hK K
 refine aw_block ?_
 refine w_loop (ι := Nat) (fun k => [(1, .i slots), (7, V.ints (c.map fun n => plc n s)), (8, .i (plcS c s k)), (9, .i k)]) (fun _ => []) (fun k => k ≤ c.length) (fun k => c.length - k) 0 (Nat.zero_le _) ?_ ?_
 ·
  refine le_ren [] (.cons kR (.cons kR (.cons kR (.cons kR .nil)))) .nil kR kR
 intro k hk
 have hb := plcS_bd h c1 k hk
 refine sK fun K hK => ?_; refine sK fun K hK => wR 2 ?_
 refine aops_n hTT (M := []) (n := 4) [pv 18 (V.i (↑k : Int)), pv 19 ((yySR10 c s)), pv 20 (V.i (yySR11 c s)), pv 21 (V.b (decide ((↑k : Int) < (yySR11 c s))))] kR kR tI ?_
 refine nK hK ?_; clear hK K
 refine w_cond (t := decide ((↑k : Int) < (↑(List.length (List.map (fun (n : Int) => plc n s) c)) : Int))) kR (fun c2 => ?_) (fun c2 => ?_)
 ·
  simp at c2
  obtain ⟨q1, q2⟩ := h.gi c2
  have p1 := plc_pos q1 c1
  have p2 := plc_le q1 c1
  have e := gi_map (g := fun n => plc n s) c2
  refine aw_skip ?_
  refine xt_n (hK _ ?_); clear hK K; refine sK fun K hK => ?_
  refine aw_block ?_
  refine wR 3 ?_
  refine aops_n hTT (M := []) (n := 7) [pv 24 (V.i (plcS c s k)), pv 25 ((yySR10 c s)), pv 26 (V.i (↑k : Int)), pc 27 ((0 : Int) ≤ (↑k : Int) ∧ (↑k : Int) < (yySR11 c s)) (V.ptr [V.i (gi (List.map (fun (n : Int) => plc n s) c) k)]), pv 28 (V.i (gi (List.map (fun (n : Int) => plc n s) c) k)), pc 29 ((-9223372036854775808 : Int) ≤ plcS c s k + gi (List.map (fun (n : Int) => plc n s) c) k ∧ plcS c s k + gi (List.map (fun (n : Int) => plc n s) c) k ≤ 9223372036854775807) (V.i (plcS c s k + gi (List.map (fun (n : Int) => plc n s) c) k)), pv 8 (V.i (plcS c s k + gi (List.map (fun (n : Int) => plc n s) c) k))] kR kR ⟨⟨oM, (by (simp; omega))⟩, oM, tI⟩ ?_
  refine aops_nil ?_; refine xb_n ?_; refine xt_n (hK _ ?_); clear hK K; refine wR 4 ?_
  refine aops_n hTT (M := []) (n := 3) [pv 22 (V.i (↑k : Int)), pc 23 ((-9223372036854775808 : Int) ≤ (↑k : Int) + 1 ∧ (↑k : Int) + 1 ≤ (9223372036854775807 : Int)) (V.i ((↑k : Int) + 1)), pv 9 (V.i ((↑k : Int) + 1))] kR kR ⟨oM, tI⟩ ?_
  refine aops_nil ?_; refine xt_n ?_
  rw [e]
  skip
  refine ⟨k + 1, by omega, by refine le_ren [] (.cons kR (.cons kR (.cons kR (.cons kR .nil)))) .nil kR kR, by omega⟩
 simp at c2
 obtain rfl : k = c.length := by omega
 refine aw_exit ?_
 refine xt_x ?_; refine xt_x ?_
 refine xb_same ?_
 refine xt_n ?_; clear hK K; refine hK _ ?_; clear hK K; refine sK fun K hK => wR 3 ?_
 refine aops_n hTT (M := []) (n := 4) [pv 30 (V.i (plcS c s (List.length c))), pv 31 (V.i slots), pv 32 (V.b (decide (plcS c s (List.length c) ≤ slots))), pv 6 (V.b (decide (plcS c s (List.length c) ≤ slots)))] kR kR tI ?_
 refine nK hK ?_; clear hK K
 refine aw_ret ?_
 rw [enB, if_neg oM]
 refine rP (V.b (decide (plcS c s (List.length c) ≤ slots)))
set_option maxRecDepth 100000 in
theorem rrun_ac (c : List Int) (slots : Int) (h : CO c) (hl : c.length ≤ 4096) (hs : (c.length : Int) ≤ slots) : AC Tryd.prog 55 [V.ints c, .i slots] (.i (fewN c slots)) [] := by
 refine acI hTT hMX Tryd.func55 Tryd.ntmps55 fun C hC hF => ?_
 refine sK fun K hK => wR 2 ?_; refine aX hTT 1 [] tI ?_; refine nK hK ?_; clear hK K; refine sK fun K hK => wR 3 ?_; refine aX hTT 2 [] tI ?_; refine nK hK ?_; clear hK K; refine sK fun K hK => ?_
 refine aw_block ?_
 refine w_loop (ι := Int × Int) (fun x => [(0, V.ints c), (1, .i slots), (5, .i x.1), (6, .i x.2)]) (fun _ => []) (fun x => (0 ≤ x.1 ∧ x.1 ≤ x.2 ∧ x.2 ≤ 1048576) ∧ enB c slots x.2 = true ∧ ∀ s, 0 ≤ s → s < x.1 → enB c slots s = false) (fun x => (x.2 - x.1).toNat) (0, 1048576) ⟨⟨by omega, by omega, by omega⟩, ?_, fun s h1 h2 => by simp only at h2; omega⟩ ?_ ?_
 ·
  have := plcS_top (c := c) (s := 1048576) oM (fun i hi => (h.gi hi).2) c.length (Nat.le_refl _)
  simp [enB]; omega
 ·
  refine le_ren [] (.cons kR (.cons kR (.cons kR (.cons kR .nil)))) .nil kR kR
 rintro ⟨lo, hi⟩ ⟨⟨l1, l2, l3⟩, h1, h2⟩
 simp only at l1 l2 l3 h1 h2
 refine sK fun K hK => ?_; refine sK fun K hK => wR 2 ?_; refine aX hTT 3 [] tI ?_; refine nK hK ?_; clear hK K
 refine w_cond (t := decide (lo < hi)) kR (fun c3 => ?_) (fun c3 => ?_)
 ·
  simp at c3
  have hh : lo ≤ (lo + hi).tdiv 2 ∧ (lo + hi).tdiv 2 < hi := by
   rw [Int.tdiv_eq_ediv_of_nonneg oM]; omega
  refine aw_skip ?_
  refine xt_n (hK _ ?_); clear hK K
  refine aw_block ?_
  refine sK fun K hK => wR 3 ?_; refine aX hTT 5 [(2, .i (lo + hi)), (3, .c ((0 : Int) < (2 : Int) ∧ (-9223372036854775808 : Int) ≤ lo + hi ∧ lo + hi ≤ 9223372036854775807))] ⟨oM, ⟨oM, oM⟩, tI⟩ ?_; refine nK hK ?_; clear hK K; refine sK fun K hK => wR 4 ?_; refine aX hTT 3 [] tI ?_
  refine eC (Enough_ac c slots ((lo + hi).tdiv 2) h hl oM) ?_
  refine nK hK ?_; clear hK K
  refine w_cond (t := enB c slots (Int.tdiv (lo + hi) (2 : Int))) kR (fun c4 => ?_) (fun c4 => ?_)
  ·
   refine wR 5 ?_
   refine aX hTT 2 [] tI ?_; refine aops_nil ?_; refine xb_n ?_; refine xt_n ?_
   refine ⟨(lo, (lo + hi).tdiv 2), ⟨⟨l1, hh.1, by simp only; omega⟩, c4, h2⟩, by refine le_ren [] (.cons kR (.cons kR (.cons kR (.cons kR .nil)))) .nil kR kR, by simp only; omega⟩
  ·
   refine wR 5 ?_
   refine aX hTT 3 [(1, .i (Int.tdiv (lo + hi) (2 : Int) + (1 : Int)))] ⟨oM, tI⟩ ?_; refine aops_nil ?_; refine xb_n ?_; refine xt_n ?_
   refine ⟨((lo + hi).tdiv 2 + 1, hi), ⟨⟨by simp only; omega, by simp only; omega, l3⟩, h1, fun s hs1 hs2 => ?_⟩, by refine le_ren [] (.cons kR (.cons kR (.cons kR (.cons kR .nil)))) .nil kR kR, by simp only; omega⟩
   simp only at hs2
   have c4' : enB c slots ((lo + hi).tdiv 2) = false := by simpa using c4
   unfold enB at c4' ⊢
   by_cases hz : s < 1
   ·
    rw [if_pos hz]
    by_cases h0 : c.length = 0
    ·
     exfalso
     have : plcS c ((lo + hi).tdiv 2) c.length = 0 := by rw [h0]; rfl
     split at c4'
     ·
      simp [h0] at c4'
     ·
      rw [this] at c4'; simp at c4'; omega
    ·
     exact decide_eq_false h0
   ·
    rw [if_neg hz]
    rw [if_neg oM] at c4'
    have := plcS_mono h (show 1 ≤ s by omega) (show s ≤ (lo + hi).tdiv 2 by omega) c.length (Nat.le_refl _)
    simp at c4' ⊢; omega
 ·
  simp at c3
  obtain rfl : lo = hi := by omega
  refine aw_exit ?_
  refine xt_x ?_; refine xt_x ?_
  refine xb_same ?_
  refine xt_n ?_; clear hK K; refine hK _ ?_; clear hK K; refine sK fun K hK => wR 3 ?_; refine aX hTT 2 [] tI ?_; refine nK hK ?_; clear hK K
  refine aw_ret ?_
  have e : fewN c slots = lo := by
   by_cases h0 : c.length = 0
   ·
    rw [fewN_nil h0]
    by_cases hz : lo = 0
    ·
     omega
    ·
     have := h2 0 oM oM
     simp [enB, h0] at this
   ·
    have hp : 1 ≤ lo := by
     by_cases hz : lo < 1
     ·
      rw [enB, if_pos hz] at h1; exact absurd (of_decide_eq_true h1) h0
     ·
      omega
    refine fewN_eq h hs h0 ⟨hp, ?_, fun s s1 s2 => ?_⟩
    ·
     rw [enB, if_neg oM] at h1; exact of_decide_eq_true h1
    ·
     have := h2 s oM s2
     rw [enB, if_neg oM] at this
     have := of_decide_eq_false this
     omega
  rw [e]
  refine rP (V.i lo)
abbrev yySR12 (c : List Int) (slots : Int) : V := V.sl 1 (List.length (List.map (fun (n : Int) => plc n (fewN c slots)) c)) fun (k : Nat) => [V.i (gi (List.map (fun (n : Int) => plc n (fewN c slots)) c) k)]
abbrev yySR13 (c : List Int) : V := V.sl 1 (List.length c) fun (k : Nat) => [V.i (gi c k)]
set_option maxRecDepth 100000 in
theorem rRun_ac (c : List Int) (slots : Int) (hl : c.length ≤ 4611686018427387904) : AC Tryd.prog 22 [V.ints c, .i slots] (.tup [.i (runS c slots), V.ints (runL c slots), .i (runE c slots)]) [] := by
 refine acI hTT hMX Tryd.func22 Tryd.ntmps22 fun C hC hF => ?_
 refine sK fun K hK => wR 2 ?_
 refine aops_n hTT (M := []) (n := 3) [pv 4 (V.i 0), pv 5 V.nil, pv 6 (V.i 0)] kR kR tI ?_
 refine nK hK ?_; clear hK K; refine sK fun K hK => wR 3 ?_
 refine aops_n hTT (M := []) (n := 2) [pv 9 ((yySR13 c)), pv 10 (V.i slots)] kR kR tI ?_
 refine eC (rCheckCopies_ac c slots 0 hl) ?_
 refine aops_n hTT (M := []) (n := 1) [pv 7 (V.i (chkC c slots (0 : Int)))] kR kR tI ?_
 refine nK hK ?_; clear hK K; refine sK fun K hK => ?_; refine sK fun K hK => wR 4 ?_
 refine aops_n hTT (M := []) (n := 2) [pv 12 (V.i (chkC c slots (0 : Int))), pv 13 (V.b !decide (chkC c slots (0 : Int) = (0 : Int)))] kR kR tI ?_
 refine nK hK ?_; clear hK K
 refine w_cond (t := !decide (chkC c slots (0 : Int) = (0 : Int))) kR (fun c1 => ?_) (fun c1 => ?_)
 ·
  obtain ⟨e1, e2, e3⟩ := runS_1 (c := c) (slots := slots) (by simpa using c1)
  refine sK fun K hK => wR 5 ?_
  refine aops_n hTT (M := []) (n := 4) [pv 14 (V.i (chkC c slots (0 : Int))), pv 4 (V.i 0), pv 5 V.nil, pv 6 (V.i (chkC c slots (0 : Int)))] kR kR tI ?_
  refine nK hK ?_; clear hK K
  refine aw_ret ?_
  refine xt_r ?_
  rw [e1, e2, e3]
  refine ret_of_le (le_nil 5 (sz := 1) 0 (fun k => [.i (gi [] k)]) kR ?_) ?_
  ·
   rfl
  refine rP (V.tup [V.i 0, V.sl 1 0 fun (k : Nat) => [V.i (gi [] k)], V.i (chkC c slots (0 : Int))])
 have h1 : chkC c slots 0 = 0 := by simpa using c1
 obtain ⟨l8, hco, hs, _⟩ := chkC_inv h1
 refine aw_skip ?_
 refine xt_n (hK _ ?_); clear hK K; refine sK fun K hK => ?_; refine sK fun K hK => wR 5 ?_
 refine aops_n hTT (M := []) (n := 4) [pv 15 ((yySR13 c)), pv 16 (V.i (↑(List.length c) : Int)), pv 17 (V.i slots), pv 18 (V.b (decide (slots < (↑(List.length c) : Int))))] kR kR tI ?_
 refine nK hK ?_; clear hK K
 refine w_cond (t := decide (slots < (↑(List.length c) : Int))) kR (fun c2 => ?_) (fun c2 => ?_)
 ·
  obtain ⟨e1, e2, e3⟩ := runS_2 h1 (by simpa using c2)
  refine sK fun K hK => wR 6 ?_
  refine aops_n hTT (M := []) (n := 3) [pv 4 (V.i 0), pv 5 V.nil, pv 6 (V.i 14)] kR kR tI ?_
  refine nK hK ?_; clear hK K
  refine aw_ret ?_
  refine xt_r ?_
  rw [e1, e2, e3]
  refine ret_of_le (le_nil 5 (sz := 1) 0 (fun k => [.i (gi [] k)]) kR ?_) ?_
  ·
   rfl
  refine rP (V.tup [V.i 0, V.sl 1 0 fun (k : Nat) => [V.i (gi [] k)], V.i 14])
 have h2 : ¬ slots < c.length := by simpa using c2
 obtain ⟨e1, e2, e3⟩ := runS_3 h1 h2
 refine aw_skip ?_
 refine xt_n (hK _ ?_); clear hK K; refine sK fun K hK => wR 6 ?_
 refine aops_n hTT (M := []) (n := 2) [pv 19 ((yySR13 c)), pv 20 (V.i slots)] kR kR tI ?_
 refine eC (rrun_ac c slots hco oM oM) ?_
 refine aops_n hTT (M := []) (n := 1) [pv 8 (V.i (fewN c slots))] kR kR tI ?_
 refine nK hK ?_; clear hK K; refine sK fun K hK => ?_; refine sK fun K hK => wR 7 ?_
 refine aops_n hTT (M := []) (n := 2) [pv 22 (V.i (fewN c slots)), pv 23 (V.b (decide (fewN c slots = 0)))] kR kR tI ?_
 refine nK hK ?_; clear hK K
 refine w_cond (t := decide (fewN c slots = 0)) kR (fun c3 => ?_) (fun c3 => ?_)
 ·
  have h0 : c.length = 0 := by
   simp at c3
   by_cases h0 : c.length = 0
   ·
    exact h0
   ·
    have := (fewN_spec (slots := slots) hco oM h0).1.pos; omega
  have hn : c = [] := List.length_eq_zero_iff.1 h0
  refine sK fun K hK => wR 8 ?_
  refine aops_n hTT (M := []) (n := 3) [pv 4 (V.i 0), pv 5 V.nil, pv 6 (V.i 0)] kR kR tI ?_
  refine nK hK ?_; clear hK K
  refine aw_ret ?_
  refine xt_r ?_
  rw [e1, e2, e3, fewN_nil h0, hn]
  refine ret_of_le (le_nil 5 (sz := 1) 0 (fun k => [.i (gi [] k)]) kR ?_) ?_
  ·
   rfl
  refine rP (V.tup [V.i 0, V.sl 1 0 fun (k : Nat) => [V.i (gi [] k)], V.i 0])
 have h0 : c.length ≠ 0 := fun h => by simp at c3; exact absurd (fewN_nil h) c3
 have hr := fewN_spec (slots := slots) hco oM h0
 refine aw_skip ?_
 refine xt_n (hK _ ?_); clear hK K; refine sK fun K hK => wR 8 ?_
 refine aops_n hTT (M := []) (n := 3) [pv 24 (V.i (fewN c slots)), pv 25 ((yySR13 c)), pv 26 (V.i (fewN c slots))] kR kR tI ?_
 refine eC (rPlaces_ac c (fewN c slots) hco oM ⟨hr.1.pos, hr.2⟩) ?_
 refine aops_n hTT (M := []) (n := 3) [pv 4 (V.i (fewN c slots)), pv 5 ((yySR12 c slots)), pv 6 (V.i 0)] kR kR tI ?_
 refine nK hK ?_; clear hK K
 refine aw_ret ?_
 rw [e1, e2, e3]
 refine rP (V.tup [V.i (fewN c slots), (yySR12 c slots), V.i 0])
end Go.Proofs.YtfckkkmacjjmhaaDoor

namespace Go.Proofs.YtfckkkmacjjmhaaDoor
open Go.Ab Go.RowKit Go.Dw Go.Shelf
set_option maxHeartbeats 2000000 in
set_option maxRecDepth 100000 in
theorem rcost_ac (c : List Int) (slots plate : Int) (G : List Int) (hc : chkC c slots plate = 0) (hg : G.length = c.length) : AC Tryd.prog 69 [V.ints c, .i slots, .i plate, V.ints G] (.tup [.i (rcostV c slots plate G).1, .b (rcostV c slots plate G).2]) [] := by
 obtain ⟨l8, hco, hsl, hpl⟩ := chkC_inv hc
 refine acI hTT hMX Tryd.func69 Tryd.ntmps69 fun C hC hF => ?_
 refine sK fun K hK => wR 2 ?_; refine aX hTT 2 [] tI ?_; refine nK hK ?_; clear hK K; refine sK fun K hK => wR 3 ?_; refine aX hTT 1 [] tI ?_; refine nK hK ?_; clear hK K; refine sK fun K hK => ?_; refine sK fun K hK => wR 4 ?_; refine aX hTT 1 [] tI ?_; refine nK hK ?_; clear hK K
 refine aw_block ?_
 refine w_loop (ι := Nat × Int) (fun x => [(0, V.ints c), (1, .i slots), (2, .i plate), (3, V.ints G), (10, .i x.2), (11, .i x.1)]) (fun _ => []) (fun x => x.1 ≤ G.length ∧ rcostV c slots plate G = rsumL c slots plate G ((List.range G.length).drop x.1) x.2 ∧ 0 ≤ x.2 ∧ x.2 ≤ 2097152 * x.1) (fun x => G.length - x.1) (0, 0) ⟨Nat.zero_le _, rfl, Int.le_refl _, by simp⟩ ?_ ?_
 ·
  refine le_ren [] (.cons kR (.cons kR (.cons kR (.cons kR (.cons kR (.cons kR .nil)))))) .nil kR kR
 rintro ⟨k, a⟩ ⟨hk, he, ha, hb⟩
 simp only at hk he ha hb
 refine sK fun K hK => ?_; refine sK fun K hK => wR 2 ?_; refine aX hTT 4 [] tI ?_; refine nK hK ?_; clear hK K
 refine w_cond (t := decide ((↑k : Int) < (↑(List.length G) : Int))) kR (fun c1 => ?_) (fun c1 => ?_)
 ·
  have hk1 : k < G.length := by simpa using c1
  rw [range_drop hk1, rsumL] at he
  refine aw_skip ?_
  refine xt_n (hK _ ?_); clear hK K; refine sK fun K hK => ?_
  refine aw_block ?_
  refine sK fun K hK => wR 3 ?_; refine aX hTT 1 [] tI ?_; refine nK hK ?_; clear hK K; refine sK fun K hK => ?_; refine sK fun K hK => wR 4 ?_; refine aX hTT 1 [] tI ?_; refine nK hK ?_; clear hK K
  refine aw_block ?_
  refine w_le (le_open 12 2 1 (fun j => [.i (gi (selK c G k 0) j)]) kR rfl) ?_
  refine w_loop (ι := Nat) (fun i => [(0, V.ints c), (1, .i slots), (2, .i plate), (3, V.ints G), (10, .i a), (11, .i k), (12, .own 7), (13, .i i)]) (fun i => [(7, .row 2 1 (selK c G k i).length fun j => [.i (gi (selK c G k i) j)])]) (fun i => i ≤ G.length) (fun i => G.length - i) 0 (Nat.zero_le _) ?_ ?_
  ·
   refine le_ren (sl := [(7, Ob.row 2 1 0 fun (j : Nat) => [V.i (gi (selK c G k (0 : Nat)) j)])]) [(7, 400012)] (.cons kR (.cons kR (.cons kR (.cons kR (.cons kR (.cons kR (.cons kR (.cons kR .nil)))))))) (.cons ⟨Ob.row 2 1 0 fun (j : Nat) => [V.i (gi (selK c G k (0 : Nat)) j)], kR, .row kR (fun _ _ => rfl)⟩ .nil) kR kR
  intro i hi
  have hsl0 := selK_len c G k i
  refine sK fun K hK => ?_; refine sK fun K hK => wR 2 ?_; refine aX hTT 4 [] tI ?_; refine nK hK ?_; clear hK K
  refine w_cond (t := decide ((↑i : Int) < (↑(List.length G) : Int))) kR (fun c2 => ?_) (fun c2 => ?_)
  ·
   have hi1 : i < G.length := by simpa using c2
   refine aw_skip ?_
   refine xt_n (hK _ ?_); clear hK K; refine sK fun K hK => ?_
   refine aw_block ?_
   refine sK fun K hK => wR 3 ?_; refine aX hTT 6 [(2, .c ((0 : Int) ≤ (↑i : Int) ∧ (↑i : Int) < (↑(List.length G) : Int)))] ⟨oM, tI⟩ ?_; refine nK hK ?_; clear hK K
   refine w_cond (t := decide (gi G i = (↑k : Int))) kR (fun c3 => ?_) (fun c3 => ?_)
   ·
    have h3 : gi G i = (k : Int) := by simpa using c3
    have e0 : (selK c G k (i + 1)).length = (selK c G k i).length + 1 := by rw [selK_succ, if_pos h3]; simp
    refine wR 4 ?_; refine aX hTT 8 [(3, .c ((0 : Int) ≤ (↑i : Int) ∧ (↑i : Int) < (↑(List.length c) : Int))), (6, .r (PR.mk (some (38 : Nat)) (some (List.length (selK c G k i) + 1 ≤ (1099511627776 : Nat))) (V.own 300038) [((7 : Nat), none), ((300038 : Nat), some (Ob.row 2 1 (List.length (selK c G k i) + 1) (appRow (List.length (selK c G k i)) (fun (j : Nat) => [V.i (gi (selK c G k i) j)]) fun (i_1 : Nat) => List.take (1 : Nat) (List.drop (i_1 * 1) [V.i (gi c i)]))))] false))] ⟨oM, oM, tI⟩ ?_; refine aops_nil ?_; refine xb_n ?_; refine xt_n (hK _ ?_); clear hK K; refine wR 5 ?_; refine aX hTT 3 [(1, .i ((↑i : Int) + 1))] ⟨oM, tI⟩ ?_; refine aops_nil ?_; refine xt_n ?_
    refine ⟨i + 1, by omega, ?_, by omega⟩
    rw [e0]
    refine le_ren (tl := [(0, V.sl 1 (List.length c) fun (k : Nat) => [V.i (gi c k)]), (1, V.i slots), (2, V.i plate), (3, V.sl 1 (List.length G) fun (k : Nat) => [V.i (gi G k)]), (10, V.i a), (11, V.i (↑k : Int)), (12, V.own 7), (13, V.i (↑(i + 1) : Int))]) (sl := [(7, Ob.row 2 1 (List.length (selK c G k i) + 1) fun (j : Nat) => [V.i (gi (selK c G k (i + 1)) j)])]) [(7, 300038)] (.cons kR (.cons kR (.cons kR (.cons kR (.cons kR (.cons kR (.cons kR (.cons kR .nil)))))))) (.cons ⟨Ob.row 2 1 (List.length (selK c G k i) + 1) (appRow (List.length (selK c G k i)) (fun (j : Nat) => [V.i (gi (selK c G k i) j)]) fun (i_1 : Nat) => List.take (1 : Nat) (List.drop (i_1 * 1) [V.i (gi c i)])), kR, .row kR ?_⟩ .nil) kR kR
    intro j hj
    exact selK_gi h3 hj
   ·
    have h3 : ¬ gi G i = (k : Int) := by simpa using c3
    have e0 : selK c G k (i + 1) = selK c G k i := by rw [selK_succ, if_neg h3]
    refine aw_skip ?_
    refine xb_n ?_; refine xt_n (hK _ ?_); clear hK K; refine wR 4 ?_; refine aX hTT 3 [(1, .i ((↑i : Int) + 1))] ⟨oM, tI⟩ ?_; refine aops_nil ?_; refine xt_n ?_
    refine ⟨i + 1, by omega, ?_, by omega⟩
    rw [e0]
    refine le_ren (sl := [(7, Ob.row 2 1 (List.length (selK c G k i)) fun (j : Nat) => [V.i (gi (selK c G k i) j)])]) [(7, 7)] (.cons kR (.cons kR (.cons kR (.cons kR (.cons kR (.cons kR (.cons kR (.cons kR .nil)))))))) (.cons ⟨Ob.row 2 1 (List.length (selK c G k i)) fun (j : Nat) => [V.i (gi (selK c G k i) j)], kR, .row kR (fun _ _ => rfl)⟩ .nil) kR kR
  obtain rfl : i = G.length := by simp at c2; omega
  refine w_le (le_shut 12 7 (e := (2 : Nat)) (sz := (1 : Nat)) (n := List.length (selK c G k (List.length G))) (n' := (selK c G k G.length).length) (row := fun (j : Nat) => [V.i (gi (selK c G k (List.length G)) j)]) (row' := (fun j => [V.i (gi (selK c G k G.length) j)])) kR kR (fun _ _ => rfl) ?_ ?_) ?_
  ·
   rfl
  ·
   intro i hi; rfl
  refine aw_exit ?_
  refine xt_x ?_; refine xt_x ?_
  refine xb_same ?_
  refine xt_n ?_; clear hK K; refine hK _ ?_; clear hK K; refine sK fun K hK => ?_; refine sK fun K hK => wR 3 ?_; refine aX hTT 3 [] tI ?_; refine nK hK ?_; clear hK K
  refine w_cond (t := decide ((↑(List.length (selK c G k (List.length G))) : Int) = 0)) kR (fun c4 => ?_) (fun c4 => ?_)
  ·
   have h4 : (selK c G k G.length).length = 0 := by simp at c4; simp [c4]
   rw [if_pos h4] at he
   refine aw_exit ?_
   refine xt_x ?_
   refine xb_same ?_
   refine xt_n ?_; clear hK K; refine hK _ ?_; clear hK K; refine wR 4 ?_; refine aX hTT 3 [(1, .i ((↑k : Int) + 1))] ⟨oM, tI⟩ ?_; refine aops_nil ?_; refine xt_n ?_
   refine ⟨(k + 1, a), ⟨by simp only; omega, he, ha, by simp only; omega⟩, by refine le_ren [] (.cons kR (.cons kR (.cons kR (.cons kR (.cons kR (.cons kR .nil)))))) .nil kR kR, by simp only; omega⟩
  ·
   have h4 : ¬ (selK c G k G.length).length = 0 := by simp at c4; simpa using c4
   rw [if_neg h4] at he
   refine aw_skip ?_
   refine xt_n (hK _ ?_); clear hK K; refine sK fun K hK => ?_; refine sK fun K hK => wR 4 ?_; refine aX hTT 4 [] tI ?_; refine nK hK ?_; clear hK K
   refine w_cond (t := decide (slots < (↑(List.length (selK c G k (List.length G))) : Int))) kR (fun c5 => ?_) (fun c5 => ?_)
   ·
    rw [if_pos (by simpa using c5)] at he
    refine sK fun K hK => wR 5 ?_; refine aX hTT 2 [] tI ?_; refine nK hK ?_; clear hK K
    refine aw_ret ?_
    refine xt_r ?_
    refine xb_r ?_
    refine xt_r ?_; refine xt_r ?_
    refine xb_r ?_
    refine xt_r ?_
    rw [he]
    refine rP (V.tup [V.i 0, V.b false])
   ·
    have h5 : ¬ slots < ((selK c G k G.length).length : Int) := by simpa using c5
    rw [if_neg h5] at he
    obtain ⟨q1, q2⟩ := fewN_spec (slots := slots) (selK_co (G := G) (k := k) hco (n := G.length) oM) oM h4
    have q1 := q1.1
    refine aw_skip ?_
    refine xt_n (hK _ ?_); clear hK K; refine wR 5 ?_; refine aX hTT 5 [(2, .i (a + plate))] ⟨oM, tI⟩ ?_
    refine eC (rrun_ac (selK c G k G.length) slots (selK_co hco oM) (by have := selK_len c G k G.length; omega) oM) ?_
    refine aX hTT 2 [(0, .i (a + plate + fewN (selK c G k (List.length G)) slots))] ⟨oM, tI⟩ ?_; refine aops_nil ?_; refine xb_n ?_; refine xt_n (hK _ ?_); clear hK K; refine wR 6 ?_; refine aX hTT 3 [(1, .i ((↑k : Int) + 1))] ⟨oM, tI⟩ ?_; refine aops_nil ?_; refine xt_n ?_
    refine ⟨(k + 1, a + plate + fewN (selK c G k G.length) slots), ⟨by simp only; omega, he, by simp only; omega, by simp only; omega⟩, by refine le_ren [] (.cons kR (.cons kR (.cons kR (.cons kR (.cons kR (.cons kR .nil)))))) .nil kR kR, by simp only; omega⟩
 ·
  simp at c1
  obtain rfl : k = G.length := by omega
  rw [List.drop_eq_nil_of_le (by simp), rsumL] at he
  refine aw_exit ?_
  refine xt_x ?_; refine xt_x ?_
  refine xb_same ?_
  refine xt_n ?_; clear hK K; refine hK _ ?_; clear hK K; refine sK fun K hK => wR 3 ?_; refine aX hTT 3 [] tI ?_; refine nK hK ?_; clear hK K
  refine aw_ret ?_
  rw [he]
  refine rP (V.tup [V.i a, V.b true])
set_option maxHeartbeats 2000000 in
set_option maxRecDepth 100000 in
theorem isGang_ac (G : List Int) (hl : G.length ≤ 4611686018427387904) : AC Tryd.prog 44 [V.ints G] (.b (isGN G 0)) [] := by
 refine acI hTT hMX Tryd.func44 Tryd.ntmps44 fun C hC hF => ?_
 refine sK fun K hK => wR 2 ?_; refine aX hTT 1 [] tI ?_; refine nK hK ?_; clear hK K; refine sK fun K hK => wR 3 ?_; refine aX hTT 1 [] tI ?_; refine nK hK ?_; clear hK K; refine sK fun K hK => ?_; refine sK fun K hK => wR 4 ?_; refine aX hTT 1 [] tI ?_; refine nK hK ?_; clear hK K
 refine aw_block ?_
 refine w_loop (ι := Nat × Nat) (fun x => [(0, V.ints G), (3, .i x.2), (4, .i x.1)]) (fun _ => []) (fun x => x.1 ≤ G.length ∧ isGN G 0 = isGN (G.drop x.1) x.2 ∧ x.2 ≤ x.1) (fun x => G.length - x.1) (0, 0) ⟨Nat.zero_le _, rfl, Nat.le_refl _⟩ ?_ ?_
 ·
  refine le_ren [] (.cons kR (.cons kR (.cons kR .nil))) .nil kR kR
 rintro ⟨k, n⟩ ⟨hk, he, hn⟩
 simp only at hk he hn
 refine sK fun K hK => ?_; refine sK fun K hK => wR 2 ?_; refine aX hTT 4 [] tI ?_; refine nK hK ?_; clear hK K
 refine w_cond (t := decide ((↑k : Int) < (↑(List.length G) : Int))) kR (fun c1 => ?_) (fun c1 => ?_)
 ·
  have hk1 : k < G.length := by simpa using c1
  rw [isGN_drop hk1] at he
  refine aw_skip ?_
  refine xt_n (hK _ ?_); clear hK K; refine sK fun K hK => ?_
  refine aw_block ?_
  refine sK fun K hK => ?_; refine sK fun K hK => wR 3 ?_; refine aX hTT 13 [(2, .c ((0 : Int) ≤ (↑k : Int) ∧ (↑k : Int) < (↑(List.length G) : Int))), (6, .c (gA (decide (gi G k < 0) == false) True)), (7, .c (gA (decide (gi G k < 0) == false) True)), (8, .c (gC (decide (gi G k < 0) == false) ((0 : Int) ≤ (↑k : Int) ∧ (↑k : Int) < (↑(List.length G) : Int)))), (9, .c (gB (decide (gi G k < 0) == false) True)), (10, .c (gA (decide (gi G k < 0) == false) True)), (11, .c (gC (decide (gi G k < 0) == false) True)), (12, .c (True ∧ (decide (gi G k < 0) = false → (decide (gi G k < 0) == false) = true)))] ⟨oM, ⟨⟨tI, tI⟩, (fun _ => tI)⟩, ⟨⟨tI, tI⟩, (fun _ => tI)⟩, ⟨⟨(by (exact fun h => h)), ⟨(by (exact fun h => h)), tI⟩⟩, (by (intro hg; simp at hg; omega))⟩, ⟨⟨(by (exact fun h => h)), tI⟩, (fun _ => tI)⟩, ⟨⟨tI, tI⟩, (fun _ => tI)⟩, ⟨⟨(by (exact fun h => h)), ⟨(by (exact fun h => h)), tI⟩⟩, (fun _ => tI)⟩, ⟨tI, (by (intro h; rw [h]; rfl))⟩, tI⟩ ?_; refine nK hK ?_; clear hK K
  refine w_cond (t := decide (gi G k < 0) || decide ((↑n : Int) < gi G k)) kR (fun c2 => ?_) (fun c2 => ?_)
  ·
   rw [if_pos (by simpa using c2)] at he
   refine sK fun K hK => wR 4 ?_; refine aX hTT 1 [] tI ?_; refine nK hK ?_; clear hK K
   refine aw_ret ?_
   refine xt_r ?_
   refine xb_r ?_
   refine xt_r ?_; refine xt_r ?_
   refine xb_r ?_
   refine xt_r ?_
   rw [he]
   refine rP (V.b false)
  ·
   rw [if_neg (by simpa using c2)] at he
   refine aw_skip ?_
   refine xt_n (hK _ ?_); clear hK K; refine sK fun K hK => wR 4 ?_; refine aX hTT 6 [(2, .c ((0 : Int) ≤ (↑k : Int) ∧ (↑k : Int) < (↑(List.length G) : Int)))] ⟨oM, tI⟩ ?_; refine nK hK ?_; clear hK K
   refine w_cond (t := decide (gi G k = (↑n : Int))) kR (fun c3 => ?_) (fun c3 => ?_)
   ·
    rw [if_pos (by simpa using c3)] at he
    refine wR 5 ?_; refine aX hTT 3 [(1, .i ((↑n : Int) + 1))] ⟨oM, tI⟩ ?_; refine aops_nil ?_; refine xb_n ?_; refine xt_n (hK _ ?_); clear hK K; refine wR 6 ?_; refine aX hTT 3 [(1, .i ((↑k : Int) + 1))] ⟨oM, tI⟩ ?_; refine aops_nil ?_; refine xt_n ?_
    refine ⟨(k + 1, n + 1), ⟨by simp only; omega, he, by simp only; omega⟩, by refine le_ren [] (.cons kR (.cons kR (.cons kR .nil))) .nil kR kR, by simp only; omega⟩
   ·
    rw [if_neg (by simpa using c3)] at he
    refine aw_skip ?_
    refine xb_n ?_; refine xt_n (hK _ ?_); clear hK K; refine wR 5 ?_; refine aX hTT 3 [(1, .i ((↑k : Int) + 1))] ⟨oM, tI⟩ ?_; refine aops_nil ?_; refine xt_n ?_
    refine ⟨(k + 1, n), ⟨by simp only; omega, he, by simp only; omega⟩, by refine le_ren [] (.cons kR (.cons kR (.cons kR .nil))) .nil kR kR, by simp only; omega⟩
 ·
  simp at c1
  obtain rfl : k = G.length := by omega
  rw [List.drop_length, isGN] at he
  refine aw_exit ?_
  refine xt_x ?_; refine xt_x ?_
  refine xb_same ?_
  refine xt_n ?_; clear hK K; refine hK _ ?_; clear hK K; refine sK fun K hK => wR 3 ?_; refine aX hTT 1 [] tI ?_; refine nK hK ?_; clear hK K
  refine aw_ret ?_
  rw [he]
  refine rP (V.b true)
set_option maxHeartbeats 2000000 in
set_option maxRecDepth 100000 in
theorem rCost_ac (c : List Int) (slots plate : Int) (g : List Int) (hl : c.length ≤ 4611686018427387904) (hg1 : g.length ≤ 4611686018427387904) : AC Tryd.prog 40 [V.ints c, .i slots, .i plate, V.ints g] (.tup [.i (rcostG c slots plate g).1, .i (rcostG c slots plate g).2]) [] := by
 refine acI hTT hMX Tryd.func40 Tryd.ntmps40 fun C hC hF => ?_
 refine sK fun K hK => wR 2 ?_; refine aX hTT 2 [] tI ?_; refine nK hK ?_; clear hK K; refine sK fun K hK => wR 3 ?_; refine aX hTT 3 [] tI ?_
 refine eC (rCheckCopies_ac c slots plate hl) ?_
 refine aX hTT 1 [] tI ?_; refine nK hK ?_; clear hK K; refine sK fun K hK => ?_; refine sK fun K hK => wR 4 ?_; refine aX hTT 2 [] tI ?_; refine nK hK ?_; clear hK K
 refine w_cond (t := !decide (chkC c slots plate = 0)) kR (fun c1 => ?_) (fun c1 => ?_)
 ·
  have E : rcostG c slots plate g = (0, chkC c slots plate) := by rw [rcostG, if_pos (by simpa using c1)]
  refine sK fun K hK => wR 5 ?_; refine aX hTT 3 [] tI ?_; refine nK hK ?_; clear hK K
  refine aw_ret ?_
  refine xt_r ?_
  rw [E]
  refine rP (V.tup [V.i 0, V.i (chkC c slots plate)])
 have c1 : chkC c slots plate = 0 := by simpa using c1
 refine aw_skip ?_
 refine xt_n (hK _ ?_); clear hK K; refine sK fun K hK => ?_; refine sK fun K hK => wR 5 ?_; refine aX hTT 5 [] tI ?_; refine nK hK ?_; clear hK K
 refine w_cond (t := !decide ((↑(List.length g) : Int) = (↑(List.length c) : Int))) kR (fun c2 => ?_) (fun c2 => ?_)
 ·
  have E : rcostG c slots plate g = (0, 17) := by rw [rcostG, if_neg (by simp [c1]), if_pos (by simp at c2; omega)]
  refine sK fun K hK => wR 6 ?_; refine aX hTT 2 [] tI ?_; refine nK hK ?_; clear hK K
  refine aw_ret ?_
  refine xt_r ?_
  rw [E]
  refine rP (V.tup [V.i 0, V.i 17])
 have c2 : g.length = c.length := by simp at c2; omega
 refine aw_skip ?_
 refine xt_n (hK _ ?_); clear hK K; refine sK fun K hK => ?_; refine sK fun K hK => wR 6 ?_; refine aX hTT 1 [] tI ?_
 refine eC (isGang_ac g hg1) ?_
 refine aX hTT 1 [] tI ?_; refine nK hK ?_; clear hK K
 refine w_cond (t := !isGN g (0 : Int)) kR (fun c3 => ?_) (fun c3 => ?_)
 ·
  have E : rcostG c slots plate g = (0, 2) := by rw [rcostG, if_neg (by simp [c1]), if_neg (by simp [c2]), if_pos (by simpa using c3)]
  refine sK fun K hK => wR 7 ?_; refine aX hTT 2 [] tI ?_; refine nK hK ?_; clear hK K
  refine aw_ret ?_
  refine xt_r ?_
  rw [E]
  refine rP (V.tup [V.i 0, V.i 2])
 have c3 : isGN g 0 = true := by simpa using c3
 refine aw_skip ?_
 refine xt_n (hK _ ?_); clear hK K; refine sK fun K hK => wR 7 ?_; refine aX hTT 4 [] tI ?_
 refine eC (rcost_ac c slots plate g c1 c2) ?_
 refine aX hTT 5 [] tI ?_; refine nK hK ?_; clear hK K; refine sK fun K hK => ?_; refine sK fun K hK => wR 8 ?_; refine aX hTT 2 [] tI ?_; refine nK hK ?_; clear hK K
 have E : rcostG c slots plate g = if (rcostV c slots plate g).2 = true then ((rcostV c slots plate g).1, 0) else (0, 14) := by rw [rcostG, if_neg (by simp [c1]), if_neg (by simp [c2]), if_neg (by simp [c3])]
 refine w_cond (t := !Prod.snd (rcostV c slots plate g)) kR (fun c4 => ?_) (fun c4 => ?_)
 ·
  rw [if_neg (by simpa using c4)] at E
  refine sK fun K hK => wR 9 ?_; refine aX hTT 2 [] tI ?_; refine nK hK ?_; clear hK K
  refine aw_ret ?_
  refine xt_r ?_
  rw [E]
  refine rP (V.tup [V.i 0, V.i 14])
 ·
  rw [if_pos (by simpa using c4)] at E
  refine aw_skip ?_
  refine xt_n (hK _ ?_); clear hK K; refine sK fun K hK => wR 9 ?_; refine aX hTT 3 [] tI ?_; refine nK hK ?_; clear hK K
  refine aw_ret ?_
  rw [E]
  refine rP (V.tup [V.i (Prod.fst (rcostV c slots plate g)), V.i 0])
end Go.Proofs.YtfckkkmacjjmhaaDoor

namespace Go.Proofs.YtfckkkmacjjmhaaDoor
open Go.Ab Go.RowKit Go.Dw Go.Shelf
abbrev yySG60 := (repV (0 : Nat) [V.c (Value.int IntKind.i64 0)])
set_option maxHeartbeats 2000000 in
set_option maxRecDepth 100000 in
theorem best_ac (c : List Int) (slots plate : Int) (hc : chkC c slots plate = 0) : ∀ (d : Nat) (g : List Int) (u : Nat), g.length + d = c.length → u ≤ g.length → AC Tryd.prog 72 [V.ints c, .i slots, .i plate, V.ints g, .i u] (.tup [V.ints (bestR c slots plate d g u).1, .i (bestR c slots plate d g u).2.1, .b (bestR c slots plate d g u).2.2]) [] := by
 obtain ⟨l8, hco, hsl, hpl⟩ := chkC_inv hc
 intro d
 induction d with
 | zero =>
  intro g u hd hu
  refine acI hTT hMX Tryd.func72 Tryd.ntmps72 fun C hC hF => ?_
  refine sK fun K hK => wR 2 ?_; refine aX hTT 3 [] tI ?_; refine nK hK ?_; clear hK K; refine sK fun K hK => ?_; refine sK fun K hK => wR 3 ?_; refine aX hTT 5 [] tI ?_; refine nK hK ?_; clear hK K
  refine w_cond (t := decide ((↑(List.length g) : Int) = (↑(List.length c) : Int))) kR (fun c1 => ?_) (fun c1 => ?_)
  ·
   refine sK fun K hK => ?_
   refine wR 4 ?_; refine aX hTT 4 [] tI ?_
   refine eC (rcost_ac c slots plate g hc oM) ?_
   refine aX hTT 5 [] tI ?_; refine nK hK ?_; clear hK K; refine sK fun K hK => wR 5 ?_; refine aX hTT 6 [] tI ?_; refine nK hK ?_; clear hK K
   refine aw_ret ?_
   refine xt_r ?_
   refine rP (V.tup [V.sl 1 (List.length g) fun (k : Nat) => [V.i (gi g k)], V.i (Prod.fst (rcostV c slots plate g)), V.b (Prod.snd (rcostV c slots plate g))])
  ·
   simp at c1
   omega
 | succ d ih =>
  intro g u hd hu
  have hfin : bestR c slots plate (d + 1) g u = bestF c slots plate d g u (u + 1) := rfl
  refine acI hTT hMX Tryd.func72 Tryd.ntmps72 fun C hC hF => ?_
  refine sK fun K hK => wR 2 ?_; refine aX hTT 3 [] tI ?_; refine nK hK ?_; clear hK K; refine sK fun K hK => ?_; refine sK fun K hK => wR 3 ?_; refine aX hTT 5 [] tI ?_; refine nK hK ?_; clear hK K
  refine w_cond (t := decide ((↑(List.length g) : Int) = (↑(List.length c) : Int))) kR (fun c1 => ?_) (fun c1 => ?_)
  ·
   simp at c1
   omega
  refine aw_skip ?_
  refine xt_n (hK _ ?_); clear hK K; refine sK fun K hK => wR 4 ?_; refine aX hTT 1 [] tI ?_; refine nK hK ?_; clear hK K; refine sK fun K hK => wR 5 ?_; refine aX hTT 2 [] tI ?_; refine nK hK ?_; clear hK K; refine sK fun K hK => ?_; refine sK fun K hK => wR 6 ?_; refine aX hTT 1 [] tI ?_; refine nK hK ?_; clear hK K
  refine aw_block ?_
  refine w_le (le_nil 15 (sz := 1) 0 (fun k => [.i (gi [] k)]) kR ?_) ?_
  ·
   rfl
  refine w_loop (ι := Nat) (fun k => [(0, V.ints c), (1, .i slots), (2, .i plate), (3, V.ints g), (4, .i u), (15, V.ints (bestF c slots plate d g u k).1), (16, .i (bestF c slots plate d g u k).2.1), (17, .b (bestF c slots plate d g u k).2.2), (18, .i k)]) (fun _ => []) (fun k => k ≤ u + 1) (fun k => u + 1 - k) 0 (Nat.zero_le _) ?_ ?_
  ·
   refine le_ren [] (.cons kR (.cons kR (.cons kR (.cons kR (.cons kR (.cons kR (.cons kR (.cons kR (.cons kR .nil))))))))) .nil kR kR
  intro k hk
  refine sK fun K hK => ?_; refine sK fun K hK => wR 2 ?_; refine aX hTT 3 [] tI ?_; refine nK hK ?_; clear hK K
  refine w_cond (t := decide ((↑k : Int) ≤ (↑u : Int))) kR (fun c2 => ?_) (fun c2 => ?_)
  ·
   have hk1 : k ≤ u := by simp at c2; omega
   have A := ih (g ++ [(k : Int)]) (max u (k + 1)) (by simp; omega) (by simp; omega)
   have A2 := A.row 3 (sz := 1) (n := (g ++ [(k : Int)]).length) (n' := 0 + g.length + 1) (row := fun j => [.i (gi (g ++ [(k : Int)]) j)]) (row' := fun j => [.i (gi (g ++ [(k : Int)]) j)]) (args := [V.ints c, .i slots, .i plate, .own 500, .i (max u (k + 1) : Nat)]) rfl rfl (by simp) (by simp) (fun _ _ => rfl) (fun _ => rfl)
   rw [show ((max u (k + 1) : Nat) : Int) = max (u : Int) (k + 1) by omega] at A2
   have hbl := bestR_len c slots plate d (g ++ [(k : Int)]) (max u (k + 1))
   have es := bestF_succ c slots plate d g u k
   refine aw_skip ?_
   refine xt_n (hK _ ?_); clear hK K; refine sK fun K hK => ?_
   refine aw_block ?_
   refine sK fun K hK => wR 3 ?_
   refine aops_x (M := [47]) hTT 13 [(3, .r (pn 47 (V.own 200047) (200047 : Nat) (Ob.row 3 1 0 fun (i : Nat) => List.take (1 : Nat) (List.drop (i * 1) yySG60)))), (5, .r (PR.mk (some (49 : Nat)) (some ((0 : Nat) + List.length g ≤ 1099511627776)) (V.own 200049) [((200047 : Nat), none), ((200049 : Nat), some (Ob.row 3 1 ((0 : Nat) + List.length g) (appRow (0 : Nat) (fun (i : Nat) => List.take (1 : Nat) (List.drop (i * 1) yySG60)) fun (k : Nat) => [V.i (gi g k)])))] false)), (8, .r (PR.mk (some (52 : Nat)) (some ((0 : Nat) + List.length g + 1 ≤ (1099511627776 : Nat))) (V.own 200052) [((200049 : Nat), none), ((200052 : Nat), some (Ob.row 3 1 ((0 : Nat) + List.length g + 1) (appRow ((0 : Nat) + List.length g) (appRow (0 : Nat) (fun (i : Nat) => List.take (1 : Nat) (List.drop (i * 1) yySG60)) fun (k : Nat) => [V.i (gi g k)]) fun (i : Nat) => List.take (1 : Nat) (List.drop (i * 1) [V.i (↑k : Int)]))))] false)), (11, .i ((↑k : Int) + 1))] ⟨oM, oM, oM, tI⟩ ?_
   refine aops_callM [200052] (first := []) (caps := []) (ins' := [Ob.row 3 1 ((0 : Nat) + List.length g + 1) (appRow ((0 : Nat) + List.length g) (appRow (0 : Nat) (fun (i : Nat) => List.take (1 : Nat) (List.drop (i * 1) yySG60)) fun (k : Nat) => [V.i (gi g k)]) fun (i : Nat) => List.take (1 : Nat) (List.drop (i * 1) [V.i (↑k : Int)]))]) (v' := V.tup [V.sl 1 (List.length (Prod.fst (bestR c slots plate d (g ++ [(↑k : Int)]) (max u (k + 1))))) fun (k_1 : Nat) => [V.i (gi (Prod.fst (bestR c slots plate d (g ++ [(↑k : Int)]) (max u (k + 1)))) k_1)], V.i (Prod.fst (Prod.snd (bestR c slots plate d (g ++ [(↑k : Int)]) (max u (k + 1))))), V.b (Prod.snd (Prod.snd (bestR c slots plate d (g ++ [(↑k : Int)]) (max u (k + 1)))))]) (δ := [(200052, Option.none)]) (kp := [200052]) (A2) kR kR kR kR kR kR rfl rfl kR (.row kR ?_ (fun _ _ => rfl) .nil) kR kR kR ?_
   ·
    intro i hi
    exact appI_row g k hi
   refine aX hTT 7 [] tI ?_; refine nK hK ?_; clear hK K; refine sK fun K hK => wR 4 ?_; refine aX hTT 10 [(2, .c (gA (Prod.snd (Prod.snd (bestR c slots plate d (g ++ [(↑k : Int)]) (max u (k + 1)))) == true) True)), (3, .c (gB (Prod.snd (Prod.snd (bestR c slots plate d (g ++ [(↑k : Int)]) (max u (k + 1)))) == true) True)), (4, .c (gB (Prod.snd (Prod.snd (bestR c slots plate d (g ++ [(↑k : Int)]) (max u (k + 1)))) == true) True)), (5, .c (gA (Prod.snd (Prod.snd (bestR c slots plate d (g ++ [(↑k : Int)]) (max u (k + 1)))) == true && (!Prod.snd (Prod.snd (bestF c slots plate d g u k))) == false) True)), (6, .c (gA (Prod.snd (Prod.snd (bestR c slots plate d (g ++ [(↑k : Int)]) (max u (k + 1)))) == true && (!Prod.snd (Prod.snd (bestF c slots plate d g u k))) == false) True)), (7, .c (gC (Prod.snd (Prod.snd (bestR c slots plate d (g ++ [(↑k : Int)]) (max u (k + 1)))) == true && (!Prod.snd (Prod.snd (bestF c slots plate d g u k))) == false) True)), (8, .c (((Prod.snd (Prod.snd (bestR c slots plate d (g ++ [(↑k : Int)]) (max u (k + 1)))) == true) = true → (Prod.snd (Prod.snd (bestR c slots plate d (g ++ [(↑k : Int)]) (max u (k + 1)))) == true) = true) ∧ ((Prod.snd (Prod.snd (bestR c slots plate d (g ++ [(↑k : Int)]) (max u (k + 1)))) == true) = true → True) ∧ ((Prod.snd (Prod.snd (bestR c slots plate d (g ++ [(↑k : Int)]) (max u (k + 1)))) == true) = true → (!Prod.snd (Prod.snd (bestF c slots plate d g u k))) = false → (Prod.snd (Prod.snd (bestR c slots plate d (g ++ [(↑k : Int)]) (max u (k + 1)))) == true && (!Prod.snd (Prod.snd (bestF c slots plate d g u k))) == false) = true))), (9, .c ((Prod.snd (Prod.snd (bestR c slots plate d (g ++ [(↑k : Int)]) (max u (k + 1)))) = true → (Prod.snd (Prod.snd (bestR c slots plate d (g ++ [(↑k : Int)]) (max u (k + 1)))) == true) = true) ∧ True))] ⟨⟨⟨tI, tI⟩, (fun _ => tI)⟩, ⟨⟨(by (exact fun h => h)), tI⟩, (fun _ => tI)⟩, ⟨⟨(by (exact fun h => h)), tI⟩, (fun _ => tI)⟩, ⟨⟨tI, tI⟩, (fun _ => tI)⟩, ⟨⟨tI, tI⟩, (fun _ => tI)⟩, ⟨⟨(by (exact fun h => h)), ⟨(by (exact fun h => h)), tI⟩⟩, (fun _ => tI)⟩, ⟨(by (exact fun h => h)), ⟨(fun _ => tI), (by (intro h; simp_all; done))⟩⟩, ⟨(by (intro h; rw [h]; rfl)), tI⟩, tI⟩ ?_; refine nK hK ?_; clear hK K
   refine w_cond (t := Prod.snd (Prod.snd (bestR c slots plate d (g ++ [(↑k : Int)]) (max u (k + 1)))) && (!Prod.snd (Prod.snd (bestF c slots plate d g u k)) || decide (Prod.fst (Prod.snd (bestR c slots plate d (g ++ [(↑k : Int)]) (max u (k + 1)))) < Prod.fst (Prod.snd (bestF c slots plate d g u k))))) kR (fun c3 => ?_) (fun c3 => ?_)
   ·
    simp at c3
    have e2 : bestF c slots plate d g u (k + 1) = ((bestR c slots plate d (g ++ [(k : Int)]) (max u (k + 1))).1, (bestR c slots plate d (g ++ [(k : Int)]) (max u (k + 1))).2.1, true) := by rw [es, cmbR, if_pos (by simpa using c3), ← c3.1]
    refine wR 5 ?_; refine aX hTT 5 [] tI ?_; refine aops_nil ?_; refine xb_n ?_; refine xt_n (hK _ ?_); clear hK K; refine wR 6 ?_; refine aX hTT 3 [(1, .i ((↑k : Int) + 1))] ⟨oM, tI⟩ ?_; refine aops_nil ?_; refine xt_n ?_
    refine ⟨k + 1, by omega, ?_, by omega⟩
    rw [e2]
    refine le_ren [] (.cons kR (.cons kR (.cons kR (.cons kR (.cons kR (.cons kR (.cons kR (.cons kR (.cons kR .nil))))))))) .nil kR kR
   ·
    have e2 : bestF c slots plate d g u (k + 1) = bestF c slots plate d g u k := by
     rw [es, cmbR, if_neg]
     rintro ⟨q1, q2⟩
     revert c3
     rw [q1]
     rcases q2 with q2 | q2
     ·
      rw [q2]; simp
     ·
      simp [q2]
    refine aw_skip ?_
    refine xb_n ?_; refine xt_n (hK _ ?_); clear hK K; refine wR 5 ?_; refine aX hTT 3 [(1, .i ((↑k : Int) + 1))] ⟨oM, tI⟩ ?_; refine aops_nil ?_; refine xt_n ?_
    refine ⟨k + 1, by omega, ?_, by omega⟩
    rw [e2]
    refine le_ren [] (.cons kR (.cons kR (.cons kR (.cons kR (.cons kR (.cons kR (.cons kR (.cons kR (.cons kR .nil))))))))) .nil kR kR
  ·
   obtain rfl : k = u + 1 := by simp at c2; omega
   refine aw_exit ?_
   refine xt_x ?_; refine xt_x ?_
   refine xb_same ?_
   refine xt_n ?_; clear hK K; refine hK _ ?_; clear hK K; refine sK fun K hK => wR 3 ?_; refine aX hTT 6 [] tI ?_; refine nK hK ?_; clear hK K
   refine aw_ret ?_
   rw [hfin]
   refine rP (V.tup [V.sl 1 (List.length (Prod.fst (bestF c slots plate d g u (u + 1)))) fun (k : Nat) => [V.i (gi (Prod.fst (bestF c slots plate d g u (u + 1))) k)], V.i (Prod.fst (Prod.snd (bestF c slots plate d g u (u + 1)))), V.b (Prod.snd (Prod.snd (bestF c slots plate d g u (u + 1))))])
end Go.Proofs.YtfckkkmacjjmhaaDoor

namespace Go.Proofs.YtfckkkmacjjmhaaDoor
open Go.Ab Go.RowKit Go.Dw Go.Shelf
set_option maxHeartbeats 2000000 in
set_option maxRecDepth 100000 in
theorem rGang_ac (c : List Int) (slots plate : Int) (hl : c.length ≤ 4611686018427387904) : AC Tryd.prog 42 [V.ints c, .i slots, .i plate] (.tup [V.ints (rgangV c slots plate).1, .i (rgangV c slots plate).2, .i (chkC c slots plate)]) [] := by
 refine acI hTT hMX Tryd.func42 Tryd.ntmps42 fun C hC hF => ?_
 refine sK fun K hK => wR 2 ?_; refine aX hTT 3 [] tI ?_; refine nK hK ?_; clear hK K; refine sK fun K hK => wR 3 ?_; refine aX hTT 3 [] tI ?_
 refine eC (rCheckCopies_ac c slots plate hl) ?_
 refine aX hTT 1 [] tI ?_; refine nK hK ?_; clear hK K; refine sK fun K hK => ?_; refine sK fun K hK => wR 4 ?_; refine aX hTT 2 [] tI ?_; refine nK hK ?_; clear hK K
 refine w_cond (t := !decide (chkC c slots plate = 0)) kR (fun c1 => ?_) (fun c1 => ?_)
 ·
  have E : rgangV c slots plate = ([], 0) := by rw [rgangV, if_pos (by simpa using c1)]
  refine sK fun K hK => wR 5 ?_; refine aX hTT 4 [] tI ?_; refine nK hK ?_; clear hK K
  refine aw_ret ?_
  refine xt_r ?_
  refine ret_of_le (le_nil 6 (sz := 1) 0 (fun k => [.i (gi [] k)]) kR ?_) ?_
  ·
   rfl
  rw [E]
  refine rP (V.tup [V.sl 1 0 fun (k : Nat) => [V.i (gi [] k)], V.i 0, V.i (chkC c slots plate)])
 ·
  have h0 : chkC c slots plate = 0 := by simpa using c1
  have E : rgangV c slots plate = ((bestR c slots plate c.length [] 0).1, (bestR c slots plate c.length [] 0).2.1) := by rw [rgangV, if_neg (by simp [h0])]
  refine aw_skip ?_
  refine xt_n (hK _ ?_); clear hK K; refine sK fun K hK => wR 5 ?_; refine aX hTT 3 [] tI ?_
  refine eC (AC.conv (best_ac c slots plate h0 c.length [] 0 (by simp) (by simp)) (args' := [V.sl 1 (List.length c) fun (k : Nat) => [V.i (gi c k)], V.i slots, V.i plate, V.nil, V.i 0]) ⟨RImp.refl _, RImp.refl _, RImp.refl _, ?_, RImp.refl _, trivial⟩) ?_
  ·
   exact RImp.nils 1 _
  refine aX hTT 7 [] tI ?_; refine nK hK ?_; clear hK K; refine sK fun K hK => wR 6 ?_; refine aX hTT 5 [] tI ?_; refine nK hK ?_; clear hK K
  refine aw_ret ?_
  rw [E, h0]
  refine rP (V.tup [V.sl 1 (List.length (Prod.fst (bestR c slots plate (List.length c) [] (0 : Nat)))) fun (k : Nat) => [V.i (gi (Prod.fst (bestR c slots plate (List.length c) [] (0 : Nat))) k)], V.i (Prod.fst (Prod.snd (bestR c slots plate (List.length c) [] (0 : Nat)))), V.i 0])
theorem Gang_ac (c : List Int) (slots plate : Int) (hl : c.length ≤ 4611686018427387904) : AC Tryd.prog 41 [V.ints c, .i slots, .i plate] (.tup [V.ints (gangV c slots plate).1, .i (gangV c slots plate).2, .i (chkC c slots plate)]) [] := by
 by_cases h : chkC c slots plate = 0
 ·
  rw [gangV, if_neg (by simp [h]), h]
  rcases Nat.eq_zero_or_pos c.length with h0 | h0
  ·
   obtain rfl : c = [] := List.eq_nil_of_length_eq_zero h0
   rw [if_pos (show ([] : List Int).length = 0 from rfl)]
   exact Gang_3 slots plate h
  ·
   rw [if_neg oM]
   exact (Gang_2 c slots plate hl h h0).shut1 (by simp [natI]) (fun i hi => natI_row hi) (fun _ => rfl) rfl rfl
 ·
  rw [gangV, if_pos h]
  exact Gang_1 c slots plate hl h
end Go.Proofs.YtfckkkmacjjmhaaDoor
