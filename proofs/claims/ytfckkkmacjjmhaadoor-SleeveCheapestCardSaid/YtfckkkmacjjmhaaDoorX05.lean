/-
  Several texts in one: The cost of a gang: walk. Conditions: told in the theorem. .. The chapter's examples that all laws use. No condition.
-/
import Derived.Test.YtfckkkmacjjmhaaDoorAbs42
import Derived.Test.YtfckkkmacjjmhaaDoorX04
import Derived.Test.YtfckkkmacjjmhaaDoorX02
import Derived.Test.YtfckkkmacjjmhaaDoorX01
import Derived.Test.YtfckkkmacjjmhaaDoorX03
namespace Go.Proofs.YtfckkkmacjjmhaaDoor
open Go.Ab Go.RowKit Go.Dw Go.Shelf
abbrev SetF (l : List Nat) : Nat → List V := fun j => [.i (gn l j : Nat)]
abbrev yySG23 (c : List Int) : V := V.sl 1 (List.length c) fun (k : Nat) => [V.i (gi c k)]
abbrev yySG20 (c : List Int) (slots : Int) (plate : Int) : Ob := Ob.box 102 [(yySG23 c), V.i slots, V.i plate, V.own 200065]
abbrev yySG21 (g : List Int) := (29, V.sl 1 (List.length g) fun (k : Nat) => [V.i (gi g k)])
abbrev yySG22 (c : List Int) := (0, (yySG23 c))
set_option maxHeartbeats 2000000 in
set_option maxRecDepth 100000 in
theorem sCost_ac (c : List Int) (slots plate : Int) (g : List Int) (hl : c.length ≤ 4611686018427387904) (hg1 : g.length ≤ 4611686018427387904) : AC Tryd.prog 39 [V.ints c, .i slots, .i plate, V.ints g] (.tup [.i (costG c slots plate g).1, .i (costG c slots plate g).2]) [] := by
 refine acI hTT hMX Tryd.func39 Tryd.ntmps39 fun C hC hF => ?_
 refine sK fun K hK => wR 2 ?_
 refine aops_n hTT (M := []) (n := 2) [pv 8 (V.i 0), pv 9 (V.i 0)] kR kR tI ?_
 refine nK hK ?_; clear hK K; refine sK fun K hK => ?_; refine sK fun K hK => wR 3 ?_
 refine aops_n hTT (M := []) (n := 3) [pv 17 ((yySG23 c)), pv 18 (V.i slots), pv 19 (V.i plate)] kR kR tI ?_
 refine eC (CheckCopies_ac c slots plate hl) ?_
 refine aops_n hTT (M := []) (n := 1) [pv 10 (V.i (chkC c slots plate))] kR kR tI ?_
 refine nK hK ?_; clear hK K; refine sK fun K hK => wR 4 ?_
 refine aops_n hTT (M := []) (n := 2) [pv 21 (V.i (chkC c slots plate)), pv 22 (V.b !decide (chkC c slots plate = 0))] kR kR tI ?_
 refine nK hK ?_; clear hK K
 refine w_cond (t := !decide (chkC c slots plate = 0)) kR (fun c1 => ?_) (fun c1 => ?_)
 ·
  have e1 : costG c slots plate g = (0, chkC c slots plate) := by rw [costG, if_pos (by simpa using c1)]
  refine sK fun K hK => wR 5 ?_
  refine aops_n hTT (M := []) (n := 3) [pv 23 (V.i (chkC c slots plate)), pv 8 (V.i 0), pv 9 (V.i (chkC c slots plate))] kR kR tI ?_
  refine nK hK ?_; clear hK K
  refine aw_ret ?_
  refine xt_r ?_
  rw [e1]
  refine rP (V.tup [V.i 0, V.i (chkC c slots plate)])
 have c1 : chkC c slots plate = 0 := by simpa using c1
 obtain ⟨l8, hco, hsl, hpl⟩ := chkC_inv c1
 refine aw_skip ?_
 refine xt_n (hK _ ?_); clear hK K; refine sK fun K hK => ?_; refine sK fun K hK => wR 5 ?_
 refine aops_n hTT (M := []) (n := 5) [pv 24 (V.sl 1 (List.length g) fun (k : Nat) => [V.i (gi g k)]), pv 25 (V.i (↑(List.length g) : Int)), pv 26 ((yySG23 c)), pv 27 (V.i (↑(List.length c) : Int)), pv 28 (V.b !decide ((↑(List.length g) : Int) = (↑(List.length c) : Int)))] kR kR tI ?_
 refine nK hK ?_; clear hK K
 refine w_cond (t := !decide ((↑(List.length g) : Int) = (↑(List.length c) : Int))) kR (fun c2 => ?_) (fun c2 => ?_)
 ·
  have e1 : costG c slots plate g = (0, 17) := by rw [costG, if_neg (by simp [c1]), if_pos (by simp at c2; omega)]
  refine sK fun K hK => wR 6 ?_
  refine aops_n hTT (M := []) (n := 2) [pv 8 (V.i 0), pv 9 (V.i 17)] kR kR tI ?_
  refine nK hK ?_; clear hK K
  refine aw_ret ?_
  refine xt_r ?_
  rw [e1]
  refine rP (V.tup [V.i 0, V.i 17])
 have c2 : g.length = c.length := by simp at c2; omega
 have E : costG c slots plate g = match setsN g 0 [] with
  | none => (0, 2)
  | some S => if (sumK c slots plate S [] 0).2.1 = true then ((sumK c slots plate S [] 0).1, 0) else (0, 14) := by rw [costG, if_neg (by simp [c1]), if_neg (by simp [c2])]; rfl
 refine aw_skip ?_
 refine xt_n (hK _ ?_); clear hK K; refine sK fun K hK => wR 6 ?_
 refine aops_n hTT (M := []) (n := 1) [pv 11 V.nil] kR kR tI ?_
 refine nK hK ?_; clear hK K; refine sK fun K hK => ?_; refine sK fun K hK => wR 7 ?_
 refine aops_n hTT (M := []) (n := 3) [pv 29 (V.sl 1 (List.length g) fun (k : Nat) => [V.i (gi g k)]), pv 30 (V.i (↑(List.length g) : Int)), pv 31 (V.i 0)] kR kR tI ?_
 refine nK hK ?_; clear hK K
 refine aw_block ?_
 refine w_le (le_open 11 3 1 (SetF []) kR rfl) ?_
 refine w_loop (ι := Nat × List Nat) (fun x => [(0, V.ints c), (1, .i slots), (2, .i plate), (11, .own 7), (29, V.ints g), (30, .i g.length), (31, .i x.1)]) (fun x => [(7, SetsO x.2)]) (fun x => x.1 ≤ g.length ∧ setsN g 0 [] = setsN (g.drop x.1) x.1 x.2 ∧ x.2.length ≤ x.1 ∧ ∀ j, gn x.2 j < 2 ^ x.1) (fun x => g.length - x.1) (0, []) ⟨Nat.zero_le _, rfl, Nat.le_refl _, fun j => by simp [gn]⟩ ?_ ?_
 ·
  refine le_ren (sl := [(7, Ob.row 3 1 0 fun (j : Nat) => [V.i (↑(gn [] j) : Int)])]) [(7, 700011)] (.cons kR (.cons kR (.cons kR (.cons kR (.cons kR (.cons kR (.cons kR .nil))))))) (.cons ⟨Ob.row 3 1 0 (SetF []), kR, .row kR (fun _ _ => rfl)⟩ .nil) kR kR
 rintro ⟨k, S⟩ ⟨hk, he, hS, hb⟩
 simp only at hk he hS hb
 refine sK fun K hK => wR 2 ?_
 refine aops_n hTT (M := []) (n := 1) [pv 32 (V.b (decide ((↑k : Int) < (↑(List.length g) : Int))))] kR kR tI ?_
 refine nK hK ?_; clear hK K; refine sK fun K hK => ?_
 refine w_cond (t := decide ((↑k : Int) < (↑(List.length g) : Int))) kR (fun c3 => ?_) (fun c3 => ?_)
 ·
  have hk1 : k < g.length := by simpa using c3
  rw [setsN_drop hk1] at he
  refine aw_skip ?_
  refine xt_n (hK _ ?_); clear hK K; refine sK fun K hK => ?_
  refine aw_block ?_
  refine sK fun K hK => wR 3 ?_
  refine aops_n hTT (M := []) (n := 5) [pv 33 (V.i (↑k : Int)), pc 34 ((0 : Int) ≤ (↑k : Int) ∧ (↑k : Int) < (↑(List.length g) : Int)) (V.ptr [V.i (gi g k)]), pv 35 (V.i (gi g k)), pv 12 (V.i (↑k : Int)), pv 13 (V.i (gi g k))] kR kR ⟨oM, tI⟩ ?_
  refine nK hK ?_; clear hK K; refine sK fun K hK => ?_
  refine aw_block ?_
  refine sK fun K hK => wR 4 ?_
  refine aops_n hTT (M := []) (n := 9) [pv 37 (V.i (gi g k)), pv 38 (V.b (decide (gi g k < 0))), pv 39 (V.b (decide (gi g k < 0))), pc 40 ((True ∧ True) ∧ ((decide (gi g k < 0) == false) = true → True)) (V.gd (decide (gi g k < 0) == false) (V.i (gi g k))), pc 41 ((True ∧ True) ∧ ((decide (gi g k < 0) == false) = true → True)) (V.gd (decide (gi g k < 0) == false) (V.own 7)), pc 42 ((((decide (gi g k < 0) == false) = true → (decide (gi g k < 0) == false) = true) ∧ True) ∧ ((decide (gi g k < 0) == false) = true → True)) (V.gd (decide (gi g k < 0) == false) (V.i (↑(List.length S) : Int))), pc 43 ((((decide (gi g k < 0) == false) = true → (decide (gi g k < 0) == false) = true) ∧ ((decide (gi g k < 0) == false) = true → (decide (gi g k < 0) == false) = true) ∧ True) ∧ ((decide (gi g k < 0) == false) = true → True)) (V.gd (decide (gi g k < 0) == false) (V.b (decide ((↑(List.length S) : Int) < gi g k)))), pc 44 (True ∧ (decide (gi g k < 0) = false → (decide (gi g k < 0) == false) = true)) (V.b (decide (gi g k < 0) || decide ((↑(List.length S) : Int) < gi g k))), pv 36 (V.b (decide (gi g k < 0) || decide ((↑(List.length S) : Int) < gi g k)))] kR kR ⟨⟨⟨tI, tI⟩, (fun _ => tI)⟩, ⟨⟨tI, tI⟩, (fun _ => tI)⟩, ⟨⟨(by (exact fun h => h)), tI⟩, (fun _ => tI)⟩, ⟨⟨(by (exact fun h => h)), ⟨(by (exact fun h => h)), tI⟩⟩, (fun _ => tI)⟩, ⟨tI, (by (intro h; rw [h]; rfl))⟩, tI⟩ ?_
  refine nK hK ?_; clear hK K
  refine w_cond (t := decide (gi g k < 0) || decide ((↑(List.length S) : Int) < gi g k)) kR (fun c4 => ?_) (fun c4 => ?_)
  ·
   have : setsN g 0 [] = none := by rw [he, if_pos (by simp at c4; omega)]
   rw [this] at E
   refine sK fun K hK => wR 5 ?_
   refine aops_n hTT (M := []) (n := 2) [pv 8 (V.i 0), pv 9 (V.i 2)] kR kR tI ?_
   refine nK hK ?_; clear hK K
   refine aw_ret ?_
   refine xb_r ?_
   refine xt_r ?_
   refine xb_r ?_
   refine xt_r ?_; refine xt_r ?_
   refine xb_r ?_
   refine xt_r ?_
   rw [E]
   refine rP (V.tup [V.i 0, V.i 2])
  have c4 : ¬ (gi g k < 0 ∨ (S.length : Int) < gi g k) := by simp at c4; omega
  rw [if_neg c4] at he
  obtain ⟨x, hx⟩ : ∃ x : Nat, gi g k = x := ⟨(gi g k).toNat, by omega⟩
  have hkl := opnN_klt (S := S) (k := x) oM
  refine sK fun K hK => wR 5 ?_
  refine aops_n hTT (M := []) (n := 5) [pv 46 (V.i (gi g k)), pv 47 (V.own 7), pv 48 (V.i (↑(List.length S) : Int)), pv 49 (V.b (decide (gi g k = (↑(List.length S) : Int)))), pv 45 (V.b (decide (gi g k = (↑(List.length S) : Int))))] kR kR tI ?_
  refine nK hK ?_; clear hK K
  rw [hx] at he
  rw [Int.toNat_natCast] at he
  rw [hx]
  have hk8 : k < 8 := by omega
  have hp : (0 : Int) ≤ 1 * 2 ^ k ∧ (1 : Int) * 2 ^ k ≤ 128 := two_pow8 hk8
  have hk64 : (k : Int) ≤ (IntKind.bits IntKind.i64 : Int) := by show (k : Int) ≤ 64; omega
  have hput : ∀ j, gn (putN S x k) j < 2 ^ (k + 1) := putN_lt hb
  have hpl2 : (putN S x k).length = (opnN S x).length := putN_len S x k
  have hgx := Nat.lt_of_lt_of_le (opnN_lt (k := x) hb (Nat.pow_pos oM) x) (Nat.pow_le_pow_right oM (show k ≤ 8 by omega))
  have hor := bit_or (gn (opnN S x) x) hgx k hk8
  have hlen := opnN_len (S := S) (k := x) oM
  refine w_cond (t := decide ((↑x : Int) = (↑(List.length S) : Int))) kR (fun c5 => ?_) (fun c5 => ?_)
  ·
   have c5 : x = S.length := by simp at c5; omega
   rw [if_pos c5] at hlen
   refine wR 6 ?_
   refine aops_n hTT (M := []) (n := 4) [pv 50 (V.own 7), pv 51 (V.sl 1 1 fun (i : Nat) => List.take (1 : Nat) (List.drop (i * 1) [V.i 0])), PR.mk (some (52 : Nat)) (some (List.length S + 1 ≤ (1099511627776 : Nat))) (V.own 500052) [((7 : Nat), none), ((500052 : Nat), some (Ob.row 3 1 (List.length S + 1) (appRow (List.length S) (fun (j : Nat) => [V.i (↑(gn S j) : Int)]) fun (i : Nat) => List.take (1 : Nat) (List.drop (i * 1) [V.i 0]))))] false, pv 11 (V.own 500052)] kR kR ⟨oM, tI⟩ ?_
   refine aops_nil ?_; refine xb_n ?_; refine xt_n (hK _ ?_); clear hK K
   refine w_le (s' := ⟨mkT [(0, V.ints c), (1, .i slots), (2, .i plate), (11, .own 7), (12, .i k), (13, .i x), (29, V.ints g), (30, .i g.length), (31, .i k)], mkS [(7, .row 3 1 (S.length + 1) (SetF (opnN S x)))], 1⟩) ?_ ?_
   ·
    refine le_ren (tl := [(yySG22 c), (1, V.i slots), (2, V.i plate), (11, V.own 7), (12, V.i (↑k : Int)), (13, V.i (↑x : Int)), (yySG21 g), (30, V.i (↑(List.length g) : Int)), (31, V.i (↑k : Int))]) (sl := [(7, Ob.row 3 1 (List.length S + 1) (SetF (opnN S x)))]) [(7, 500052)] (.cons kR (.cons kR (.cons kR (.cons kR (.cons kR (.cons kR (.cons kR (.cons kR (.cons kR .nil))))))))) (.cons ⟨Ob.row 3 1 (List.length S + 1) (appRow (List.length S) (fun (j : Nat) => [V.i (↑(gn S j) : Int)]) fun (i : Nat) => List.take (1 : Nat) (List.drop (i * 1) [V.i 0])), kR, .row kR ?_⟩ .nil) kR kR
    intro i hi
    exact opnN_row c5 hi
   refine wD 2 ?_
   refine aops_n hTT (M := []) (n := 9) [pv 53 (V.own 7), pv 54 (V.i (↑x : Int)), pc 55 ((0 : Int) ≤ (↑x : Int) ∧ (↑x : Int) < (↑(List.length S + 1) : Int)) (V.oel 7 1 x (0 : Nat)), pc 56 (x < List.length S + 1 ∧ (0 : Nat) ≤ (1 : Nat)) (V.i (↑(gn (opnN S x) x) : Int)), pv 57 (V.i (↑k : Int)), pc 58 ((0 : Int) ≤ (↑k : Int) ∧ (↑k : Int) ≤ (↑(IntKind.bits IntKind.i64) : Int) ∧ (-9223372036854775808 : Int) ≤ (1 : Int) * (2 : Int) ^ k ∧ (1 : Int) * (2 : Int) ^ k ≤ 9223372036854775807) (V.i ((1 : Int) * (2 : Int) ^ k)), pv 59 (V.i (bitop BinOp.or IntKind.i64 (↑(gn (opnN S x) x) : Int) ((1 : Int) * (2 : Int) ^ k))), pc 60 ((0 : Int) ≤ (↑x : Int) ∧ (↑x : Int) < (↑(List.length S + 1) : Int)) (V.oel 7 1 x (0 : Nat)), pw (x < List.length S + 1 ∧ (0 : Nat) + (1 : Nat) ≤ (1 : Nat)) (7 : Nat) (Ob.row 3 1 (List.length S + 1) fun (j : Nat) => if j = x then [V.i (bitop BinOp.or IntKind.i64 (↑(gn (opnN S x) x) : Int) ((1 : Int) * (2 : Int) ^ k))] else SetF (opnN S x) j)] kR kR ⟨oM, oM, ⟨oM, ⟨oM, oM⟩⟩, oM, oM, tI⟩ ?_
   refine aops_nil ⟨kR, ?_⟩; refine xb_n ?_; refine xt_n (hK _ ?_); clear hK K; refine wR 3 ?_
   refine aops_n hTT (M := []) (n := 2) [pc 61 ((-9223372036854775808 : Int) ≤ (↑k : Int) + 1 ∧ (↑k : Int) + 1 ≤ (9223372036854775807 : Int)) (V.i ((↑k : Int) + 1)), pv 31 (V.i ((↑k : Int) + 1))] kR kR ⟨oM, tI⟩ ?_
   refine aops_nil ?_; refine xt_n ?_
   refine ⟨(k + 1, putN S x k), ⟨by simp only; omega, he, by simp only; omega, hput⟩, ?_, by simp only; omega⟩
   show Le _ ⟨_, mkS [(7, .row 3 1 (putN S x k).length (SetF (putN S x k)))], 1⟩
   rw [hpl2, hlen]
   refine le_ren (tl := [(yySG22 c), (1, V.i slots), (2, V.i plate), (11, V.own 7), (yySG21 g), (30, V.i (↑(List.length g) : Int)), (31, V.i (↑(k + 1) : Int))]) (sl := [(7, Ob.row 3 1 (List.length S + 1) (SetF (putN S x k)))]) [(7, 7)] (.cons kR (.cons kR (.cons kR (.cons kR (.cons kR (.cons kR (.cons kR .nil))))))) (.cons ⟨Ob.row 3 1 (List.length S + 1) fun (j : Nat) => if j = x then [V.i (bitop BinOp.or IntKind.i64 (↑(gn (opnN S x) x) : Int) ((1 : Int) * (2 : Int) ^ k))] else SetF (opnN S x) j, kR, .row kR ?_⟩ .nil) kR kR
   intro i hi
   exact putN_row hkl hor rfl rfl
  ·
   have c5 : x ≠ S.length := by simp at c5; omega
   rw [if_neg c5] at hlen
   rw [hlen] at hkl
   have e : opnN S x = S := by rw [opnN, if_neg c5]
   rw [e] at hor hpl2
   refine aw_skip ?_
   refine xb_n ?_; refine xt_n (hK _ ?_); clear hK K; refine wD 6 ?_
   refine aops_n hTT (M := []) (n := 9) [pv 53 (V.own 7), pv 54 (V.i (↑x : Int)), pc 55 ((0 : Int) ≤ (↑x : Int) ∧ (↑x : Int) < (↑(List.length S) : Int)) (V.oel 7 1 x (0 : Nat)), pc 56 (x < List.length S ∧ (0 : Nat) ≤ (1 : Nat)) (V.i (↑(gn S x) : Int)), pv 57 (V.i (↑k : Int)), pc 58 ((0 : Int) ≤ (↑k : Int) ∧ (↑k : Int) ≤ (↑(IntKind.bits IntKind.i64) : Int) ∧ (-9223372036854775808 : Int) ≤ (1 : Int) * (2 : Int) ^ k ∧ (1 : Int) * (2 : Int) ^ k ≤ 9223372036854775807) (V.i ((1 : Int) * (2 : Int) ^ k)), pv 59 (V.i (bitop BinOp.or IntKind.i64 (↑(gn S x) : Int) ((1 : Int) * (2 : Int) ^ k))), pc 60 ((0 : Int) ≤ (↑x : Int) ∧ (↑x : Int) < (↑(List.length S) : Int)) (V.oel 7 1 x (0 : Nat)), pw (x < List.length S ∧ (0 : Nat) + (1 : Nat) ≤ (1 : Nat)) (7 : Nat) (Ob.row 3 1 (List.length S) fun (j : Nat) => if j = x then [V.i (bitop BinOp.or IntKind.i64 (↑(gn S x) : Int) ((1 : Int) * (2 : Int) ^ k))] else [V.i (↑(gn S j) : Int)])] kR kR ⟨oM, oM, ⟨oM, ⟨oM, oM⟩⟩, oM, oM, tI⟩ ?_
   refine aops_nil ⟨kR, ?_⟩; refine xb_n ?_; refine xt_n (hK _ ?_); clear hK K; refine wR 7 ?_
   refine aops_n hTT (M := []) (n := 2) [pc 61 ((-9223372036854775808 : Int) ≤ (↑k : Int) + 1 ∧ (↑k : Int) + 1 ≤ (9223372036854775807 : Int)) (V.i ((↑k : Int) + 1)), pv 31 (V.i ((↑k : Int) + 1))] kR kR ⟨oM, tI⟩ ?_
   refine aops_nil ?_; refine xt_n ?_
   refine ⟨(k + 1, putN S x k), ⟨by simp only; omega, he, by simp only; omega, hput⟩, ?_, by simp only; omega⟩
   show Le _ ⟨_, mkS [(7, .row 3 1 (putN S x k).length (SetF (putN S x k)))], 1⟩
   rw [hpl2]
   refine le_ren (tl := [(yySG22 c), (1, V.i slots), (2, V.i plate), (11, V.own 7), (yySG21 g), (30, V.i (↑(List.length g) : Int)), (31, V.i (↑(k + 1) : Int))]) (sl := [(7, Ob.row 3 1 (List.length S) (SetF (putN S x k)))]) [(7, 7)] (.cons kR (.cons kR (.cons kR (.cons kR (.cons kR (.cons kR (.cons kR .nil))))))) (.cons ⟨Ob.row 3 1 (List.length S) fun (j : Nat) => if j = x then [V.i (bitop BinOp.or IntKind.i64 (↑(gn S x) : Int) ((1 : Int) * (2 : Int) ^ k))] else [V.i (↑(gn S j) : Int)], kR, .row kR ?_⟩ .nil) kR kR
   intro i hi
   exact putN_row (by rw [e]; exact hkl) (by rw [e]; exact hor) (by rw [e]) (by rw [e])
 ·
  simp at c3
  obtain rfl : k = g.length := by omega
  rw [List.drop_length, setsN] at he
  rw [he] at E
  simp only at E
  refine aw_exit ?_
  refine xt_x ?_; refine xt_x ?_
  refine xb_same ?_
  refine xt_n ?_; clear hK K; refine hK _ ?_; clear hK K; refine sK fun K hK => wR 3 ?_
  refine aops_n hTT (M := [67]) (n := 7) [pv 62 ((yySG23 c)), pv 63 (V.i slots), pv 64 (V.i plate), pn 65 (V.own 200065) (200065 : Nat) (Ob.mp (false, (0 : Nat)) (MF.mk [] fun (x : MK) => none)), pv 66 (V.agg [(yySG23 c), V.i slots, V.i plate, V.own 200065]), pn 67 (V.ref 200067 0) (200067 : Nat) ((yySG20 c slots plate)), pv 14 (V.ref 200067 0)] kR kR tI ?_
  refine nK hK ?_; clear hK K; refine sK fun K hK => ?_; refine sK fun K hK => wR 4 ?_
  refine aops_n hTT (M := [67]) (n := 2) [pv 69 (V.ref 200067 0), pv 70 (V.own 7)] kR kR tI ?_
  have A := sum_am c slots plate [] S c1 oM fun k _ => Nat.lt_of_lt_of_le (hb k) (Nat.pow_le_pow_right oM (show g.length ≤ 8 by omega))
  rw [show KnO c slots plate [] = .mp (false, 0) ⟨[], fun _ => none⟩ by rw [KnO, knF_nil]; rfl] at A
  refine aops_callM [200067, 200065, 7] (first := []) (caps := []) (ins' := [(yySG20 c slots plate), Ob.mp (false, (0 : Nat)) (MF.mk [] fun (x : MK) => none), Ob.row 3 1 (List.length S) fun (j : Nat) => [V.i (↑(gn S j) : Int)]]) (v' := V.tup [V.i (Prod.fst (sumK c slots plate S [] (0 : Int))), V.b (Prod.fst (Prod.snd (sumK c slots plate S [] (0 : Int))))]) (δ := [(200067, Option.some ((yySG20 c slots plate))), (200065, Option.some (Ob.mp (false, List.length (Prod.snd (Prod.snd (sumK c slots plate S [] (0 : Int))))) (MF.mk [] (MF.rest (knF c slots plate (Prod.snd (Prod.snd (sumK c slots plate S [] (0 : Int))))))))), (7, Option.some (Ob.row 3 1 (List.length S) fun (i : Nat) => V.renL (nameG (3 : Nat) (some 71) [(200067 : Nat), (200065 : Nat), (7 : Nat)]) [V.i (↑(gn S i) : Int)]))]) (kp := [200067, 200065, 7]) (A) kR kR kR kR kR kR rfl rfl kR (.box kR kR (.mp (fun _ => rfl) ?_ (.row kR (fun _ _ => rfl) (fun _ _ => rfl) .nil))) kR kR kR ?_
  ·
   intro k u h
   exact absurd h (by show ¬ (none = some u); simp)
  refine aops_n hTT (M := []) (n := 5) [pv 68 (V.tup [V.i (Prod.fst (sumK c slots plate S [] (0 : Int))), V.b (Prod.fst (Prod.snd (sumK c slots plate S [] (0 : Int))))]), pv 72 (V.i (Prod.fst (sumK c slots plate S [] (0 : Int)))), pv 73 (V.b (Prod.fst (Prod.snd (sumK c slots plate S [] (0 : Int))))), pv 15 (V.i (Prod.fst (sumK c slots plate S [] (0 : Int)))), pv 16 (V.b (Prod.fst (Prod.snd (sumK c slots plate S [] (0 : Int)))))] kR kR tI ?_
  refine nK hK ?_; clear hK K; refine sK fun K hK => wR 5 ?_
  refine aops_n hTT (M := []) (n := 1) [pv 74 (V.b (Prod.fst (Prod.snd (sumK c slots plate S [] (0 : Int)))))] kR kR tI ?_
  refine nK hK ?_; clear hK K
  refine w_cond (t := Prod.fst (Prod.snd (sumK c slots plate S [] (0 : Int)))) kR (fun c6 => ?_) (fun c6 => ?_)
  ·
   rw [if_pos c6] at E
   refine sK fun K hK => wR 6 ?_
   refine aops_n hTT (M := []) (n := 3) [pv 75 (V.i (Prod.fst (sumK c slots plate S [] (0 : Int)))), pv 8 (V.i (Prod.fst (sumK c slots plate S [] (0 : Int)))), pv 9 (V.i 0)] kR kR tI ?_
   refine nK hK ?_; clear hK K
   refine aw_ret ?_
   refine xt_r ?_
   rw [E]
   refine rP (V.tup [V.i (Prod.fst (sumK c slots plate S [] (0 : Int))), V.i 0])
  ·
   rw [if_neg (by simp [c6])] at E
   refine aw_skip ?_
   refine xt_n (hK _ ?_); clear hK K; refine sK fun K hK => wR 6 ?_
   refine aops_n hTT (M := []) (n := 2) [pv 8 (V.i 0), pv 9 (V.i 14)] kR kR tI ?_
   refine nK hK ?_; clear hK K
   refine aw_ret ?_
   rw [E]
   refine rP (V.tup [V.i 0, V.i 14])
end Go.Proofs.YtfckkkmacjjmhaaDoor

namespace Go.Proofs.YtfckkkmacjjmhaaDoor
open Go.Ab Go.RowKit Go.Dw Go.Shelf
abbrev yySG30 (l : List Nat) : Ob := Ob.row 3 1 ((0 : Nat) + List.length l) (appRow (0 : Nat) (fun (i : Nat) => List.take (1 : Nat) (List.drop (i * 1) (repV (0 : Nat) [V.c (Value.int IntKind.i64 0)]))) fun (j : Nat) => [V.i (↑(gn l j) : Int)])
set_option maxHeartbeats 2000000 in
set_option maxRecDepth 100000 in
theorem clone_am (l : List Nat) (h0 : 0 < l.length) (hl : l.length ≤ 8) : AM Tryd.prog 71 [.own 500] [SetsO l] (.own 0) [some (SetsO l)] [SetsO l] := by
 refine am_intro hTT hMX (fn := Tryd.f71) (N := _) ⟨Tryd.func71, rfl, Tryd.ntmps71, kR⟩ (by simp) rfl (by simp) (by simp) fun C hF => ?_
 refine sK fun K hK => wR 2 ?_; refine aX hTT 1 [] tI ?_; refine nK hK ?_; clear hK K; refine sK fun K hK => ?_; refine sK fun K hK => wR 3 ?_; refine aX hTT 1 [] tI ?_
 refine aops_one (v := .b false) (pre := [(500, SetsO l)]) (nw := []) (δ := []) rfl (fun x hx => by
  simp [Op.operands] at hx
  rcases hx with rfl | rfl <;> exact trivial) (as_eqO (id := 500) (n := l.length) (el := 3) _ _ _ _ (hTT.elem kR) kR kR h0).1 (fun p hp => by cases List.mem_singleton.1 hp; kernel_rfl) (fun k hk => by cases hk) ?_
 refine nK hK ?_; clear hK K; refine w_false (t := false) kR rfl ?_
 refine aw_skip ?_
 refine xt_n (hK _ ?_); clear hK K; refine sK fun K hK => wR 4 ?_
 refine aops_x (M := [5]) hTT 4 [(0, .r (pn 5 (V.own 300005) (300005 : Nat) (Ob.row 3 1 0 fun (i : Nat) => List.take (1 : Nat) (List.drop (i * 1) (repV (0 : Nat) [V.c (Value.int IntKind.i64 0)]))))), (2, .r (PR.mk (some (7 : Nat)) (some ((0 : Nat) + List.length l ≤ 1099511627776)) (V.own 300007) [((300005 : Nat), none), ((300007 : Nat), some ((yySG30 l)))] false))] ⟨oM, tI⟩ ?_
 refine nK hK ?_; clear hK K
 refine aw_ret ?_
 refine retM (v' := V.own 0) [(0, 300007)] [(2, V.own 0)] (.inr rfl) (.cons kR .nil) (.cons ⟨(yySG30 l), kR, .row ?_ (fun _ _ => rfl)⟩ (.cons ⟨Ob.row 3 1 (List.length l) fun (j : Nat) => [V.i (↑(gn l j) : Int)], kR, .row kR (fun _ _ => rfl)⟩ .nil)) kR kR kR kR kR kR kR
 ·
  omega
abbrev frees : List V := [.ref 500 0, .ref 501 0, .ref 502 0, .ref 503 0, .ref 504 0, .ref 505 0, .ref 506 0]
abbrev nextB (c : List Int) (slots plate : Int) (g S : List Nat) (st : List Nat × Int × List Nat) : List Ob := [.box 22 [.own 507], .box 34 [V.ints c], .box 99 [.ref 508 0], .box 22 [.own 510], .box 2 [.i st.2.1], .box 22 [.own 511], .box 1 [.fn (.func 70) [] frees],
 SetsO g, PlB c slots plate 509, KnO c slots plate st.2.2, SetsO S, SetsO st.1]
abbrev nextO (c : List Int) (slots plate : Int) (st : List Nat × Int × List Nat) : List (Option Ob) := [some (.box 22 [.own 0]), some (.box 34 [V.ints c]), some (.box 99 [.ref 508 0]), some (.box 22 [.own 1]), some (.box 2 [.i st.2.1]), some (.box 22 [.own 2]), some (.box 1 [.fn (.func 70) [] frees]),
 none, some (PlB c slots plate 509), some (KnO c slots plate st.2.2), none, none]
abbrev zzSG30 : V := V.fn (Fn.func (70 : Nat)) [] [V.ref 500 0, V.ref 501 0, V.ref 502 0, V.ref 503 0, V.ref 504 0, V.ref 505 0, V.ref 506 0]
abbrev qSG30 : Prop := (0 : Nat) ≤ (1 : Nat)
theorem qSG30_ : qSG30 := oM
abbrev yySG33 (c : List Int) (slots : Int) (plate : Int) : Ob := Ob.box 102 [V.sl 1 (List.length c) fun (k : Nat) => [V.i (gi c k)], V.i slots, V.i plate, V.own 509]
abbrev yySG31 (c : List Int) (slots : Int) (plate : Int) := (508, Option.some ((yySG33 c slots plate)))
abbrev yySG32 (c : List Int) (slots : Int) (plate : Int) := (508, (yySG33 c slots plate))
abbrev yySG35 (c : List Int) : Ob := Ob.box 34 [V.sl 1 (List.length c) fun (k : Nat) => [V.i (gi c k)]]
abbrev yySG34 (c : List Int) := (501, (yySG35 c))
set_option maxHeartbeats 2000000 in
set_option maxRecDepth 100000 in
theorem next_am (c : List Int) (slots plate : Int) (hc : chkC c slots plate = 0) (hc0 : 0 < c.length) : ∀ (d : Nat) (g S : List Nat) (st : List Nat × Int × List Nat), g.length + d = c.length → S.length ≤ g.length → (∀ j, gn S j < 2 ^ g.length) → AM Tryd.prog 70 frees (nextB c slots plate g S st) (.tup []) (nextO c slots plate (nextG c slots plate d g S st)) [SetsO g, SetsO S, SetsO (nextG c slots plate d g S st).1] := by
 obtain ⟨l8, hco, hsl, hpl⟩ := chkC_inv hc
 intro d
 induction d with
 | zero =>
  intro g S ⟨b, least, kn⟩ hd hS hb
  refine am_intro hTT hMX (fn := Tryd.f70) (N := _) ⟨Tryd.func70, rfl, Tryd.ntmps70, kR⟩ (by simp) rfl (by simp) (by simp) fun C hF => ?_
  refine sK fun K hK => wR 2 ?_; refine aX hTT 3 [(0, .c qSG30)] ⟨qSG30_, tI⟩ ?_; refine nK hK ?_; clear hK K; refine sK fun K hK => ?_; refine sK fun K hK => wR 3 ?_; refine aX hTT 4 [(1, .c qSG30)] ⟨qSG30_, tI⟩ ?_; refine nK hK ?_; clear hK K
  refine w_cond (t := decide ((↑(List.length g) : Int) = (↑(List.length c) : Int))) kR (fun c1 => ?_) (fun c1 => ?_)
  ·
   have A := sum_am c slots plate kn S hc oM fun k _ => Nat.lt_of_lt_of_le (hb k) (Nat.pow_le_pow_right oM (show g.length ≤ 8 by omega))
   refine sK fun K hK => ?_; refine sK fun K hK => wR 4 ?_; refine aX hTT 2 [(0, .c qSG30), (1, .c qSG30)] ⟨qSG30_, qSG30_, tI⟩ ?_
   refine aops_callM [508, 509, 510] (first := []) (caps := []) (ins' := [(yySG33 c slots plate), Ob.mp (false, List.length (Prod.snd (least, kn))) (MF.mk [] (knR c slots plate (Prod.snd (least, kn)))), Ob.row 3 1 (List.length S) fun (j : Nat) => [V.i (↑(gn S j) : Int)]]) (v' := V.tup [V.i (Prod.fst (sumK c slots plate S kn (0 : Int))), V.b (Prod.fst (Prod.snd (sumK c slots plate S kn (0 : Int))))]) (δ := [(yySG31 c slots plate), (509, Option.some (Ob.mp (false, List.length (Prod.snd (Prod.snd (sumK c slots plate S kn (0 : Int))))) (MF.mk [] (MF.rest (knF c slots plate (Prod.snd (Prod.snd (sumK c slots plate S kn (0 : Int))))))))), (510, Option.some (Ob.row 3 1 (List.length S) fun (i : Nat) => V.renL (nameG (3 : Nat) (some 21) [(508 : Nat), (509 : Nat), (510 : Nat)]) [V.i (↑(gn S i) : Int)]))]) (kp := [508, 509, 510]) (A) kR kR kR kR kR kR rfl rfl kR (.box kR kR (.mp (fun _ => rfl) ?_ (.row kR (fun _ _ => rfl) (fun _ _ => rfl) .nil))) kR kR kR ?_
   ·
    exact kn_inN c slots plate kn _
   refine aX hTT 5 [] tI ?_; refine nK hK ?_; clear hK K; refine sK fun K hK => wR 5 ?_; refine aX hTT 10 [(2, .c (gA (Prod.fst (Prod.snd (sumK c slots plate S kn (0 : Int))) == true) ((0 : Nat) ≤ (1 : Nat)))), (3, .c (gD (Prod.fst (Prod.snd (sumK c slots plate S kn (0 : Int))) == true) True)), (4, .c (gB (Prod.fst (Prod.snd (sumK c slots plate S kn (0 : Int))) == true) True)), (5, .c (gA (Prod.fst (Prod.snd (sumK c slots plate S kn (0 : Int))) == true && decide (least < 0) == false) True)), (6, .c (gA (Prod.fst (Prod.snd (sumK c slots plate S kn (0 : Int))) == true && decide (least < 0) == false) ((0 : Nat) ≤ (1 : Nat)))), (7, .c (gC (Prod.fst (Prod.snd (sumK c slots plate S kn (0 : Int))) == true && decide (least < 0) == false) True)), (8, .c (((Prod.fst (Prod.snd (sumK c slots plate S kn (0 : Int))) == true) = true → (Prod.fst (Prod.snd (sumK c slots plate S kn (0 : Int))) == true) = true) ∧ ((Prod.fst (Prod.snd (sumK c slots plate S kn (0 : Int))) == true) = true → True) ∧ ((Prod.fst (Prod.snd (sumK c slots plate S kn (0 : Int))) == true) = true → decide (least < 0) = false → (Prod.fst (Prod.snd (sumK c slots plate S kn (0 : Int))) == true && decide (least < 0) == false) = true))), (9, .c ((Prod.fst (Prod.snd (sumK c slots plate S kn (0 : Int))) = true → (Prod.fst (Prod.snd (sumK c slots plate S kn (0 : Int))) == true) = true) ∧ True))] ⟨⟨⟨tI, tI⟩, (by (intro _; simp; done))⟩, ⟨⟨(by (exact fun h => h)), ⟨tI, tI⟩⟩, (fun _ => tI)⟩, ⟨⟨(by (exact fun h => h)), tI⟩, (fun _ => tI)⟩, ⟨⟨tI, tI⟩, (fun _ => tI)⟩, ⟨⟨tI, tI⟩, (by (intro _; simp; done))⟩, ⟨⟨(by (exact fun h => h)), ⟨(by (exact fun h => h)), tI⟩⟩, (fun _ => tI)⟩, ⟨(by (exact fun h => h)), ⟨(fun _ => tI), (by (intro h; simp_all; done))⟩⟩, ⟨(by (intro h; rw [h]; rfl)), tI⟩, tI⟩ ?_; refine nK hK ?_; clear hK K
   refine w_cond (t := Prod.fst (Prod.snd (sumK c slots plate S kn (0 : Int))) && (decide (least < 0) || decide (Prod.fst (sumK c slots plate S kn (0 : Int)) < least))) kR (fun c2 => ?_) (fun c2 => ?_)
   ·
    refine wR 6 ?_
    refine aX hTT 1 [(0, .c qSG30)] ⟨qSG30_, tI⟩ ?_
    refine aops_callR [507] (first := []) (caps := []) (ins' := [Ob.row 3 1 (List.length g) fun (j : Nat) => [V.i (↑(gn g j) : Int)]]) (v' := V.own 500035) (δ := [(500035, Option.some (Ob.row 3 1 (List.length g) fun (i : Nat) => V.renL (nameG (5 : Nat) (some 35) [(507 : Nat)]) [V.i (↑(gn g i) : Int)]))]) (kp := [507]) (clone_am g oM oM) kR kR kR kR kR kR kR rfl kR kR ⟨(fun _ _ => rfl), tI⟩ kR kR kR ?_
    refine aX hTT 3 [(1, .r (pw ((0 : Nat) + (1 : Nat) ≤ (1 : Nat)) (505 : Nat) (Ob.box 22 [V.own 500035]))), (2, .r (pw ((0 : Nat) + (1 : Nat) ≤ (1 : Nat)) (504 : Nat) (Ob.box 2 [V.i (Prod.fst (sumK c slots plate S kn (0 : Int)))])))] ⟨oM, oM, tI⟩ ?_; refine nK hK ?_; clear hK K
    refine aw_ret ?_
    refine xt_r ?_
    simp at c2
    rw [show nextG c slots plate 0 g S (b, least, kn) = (g, (sumK c slots plate S kn 0).1, (sumK c slots plate S kn 0).2.2) by rw [nextG, if_pos (by simpa using c2)]]
    refine retM (v' := V.tup []) [(0, 507), (1, 510), (2, 500035)] [] (.inr rfl) .nil (.cons ⟨Ob.row 3 1 (List.length g) fun (j : Nat) => [V.i (↑(gn g j) : Int)], kR, .row kR (fun _ _ => rfl)⟩ (.cons ⟨Ob.row 3 1 (List.length S) fun (i : Nat) => V.renL (nameG (3 : Nat) (some (21 : Tmp)) [(508 : Nat), (509 : Nat), (510 : Nat)]) [V.i (↑(gn S i) : Int)], kR, .row kR (fun _ _ => rfl)⟩ (.cons ⟨Ob.row 3 1 (List.length g) fun (i : Nat) => V.renL (nameG (5 : Nat) (some (35 : Tmp)) [(507 : Nat)]) [V.i (↑(gn g i) : Int)], kR, .row kR (fun _ _ => rfl)⟩ (.cons ⟨Ob.box 22 [V.own 507], kR, .box kR⟩ (.cons ⟨(yySG35 c), kR, .box kR⟩ (.cons ⟨Ob.box 99 [V.ref 508 0], kR, .box kR⟩ (.cons ⟨Ob.box 22 [V.own 510], kR, .box kR⟩ (.cons ⟨Ob.box 2 [V.i (Prod.fst (sumK c slots plate S kn (0 : Int)))], kR, .box kR⟩ (.cons ⟨Ob.box 22 [V.own 500035], kR, .box kR⟩ (.cons ⟨Ob.box 1 [zzSG30], kR, .box kR⟩ (.cons ⟨(yySG33 c slots plate), kR, .box kR⟩ (.cons ⟨Ob.mp (false, List.length (Prod.snd (Prod.snd (sumK c slots plate S kn (0 : Int))))) (MF.mk [] (MF.rest (knF c slots plate (Prod.snd (Prod.snd (sumK c slots plate S kn (0 : Int))))))), kR, .mp (fun _ => rfl)⟩ .nil)))))))))))) kR kR kR kR kR kR kR
   ·
    refine aw_skip ?_
    refine xt_n (hK _ ?_); clear hK K
    refine aw_ret ?_
    refine xt_r ?_
    simp only [Bool.and_eq_false_iff, Bool.or_eq_false_iff, decide_eq_false_iff_not] at c2
    rw [show nextG c slots plate 0 g S (b, least, kn) = (b, least, (sumK c slots plate S kn 0).2.2) by
     rw [nextG, if_neg]
     rintro ⟨q1, q2⟩
     rcases c2 with c2 | ⟨c3, c4⟩
     ·
      rw [c2] at q1; cases q1
     ·
      rcases q2 with q2 | q2
      ·
       exact c3 q2
      ·
       exact c4 q2]
    refine retM (v' := V.tup []) [(0, 507), (1, 510), (2, 511)] [] (.inr rfl) .nil (.cons ⟨Ob.row 3 1 (List.length g) fun (j : Nat) => [V.i (↑(gn g j) : Int)], kR, .row kR (fun _ _ => rfl)⟩ (.cons ⟨Ob.row 3 1 (List.length S) fun (i : Nat) => V.renL (nameG (3 : Nat) (some (21 : Tmp)) [(508 : Nat), (509 : Nat), (510 : Nat)]) [V.i (↑(gn S i) : Int)], kR, .row kR (fun _ _ => rfl)⟩ (.cons ⟨Ob.row 3 1 (List.length b) fun (j : Nat) => [V.i (↑(gn b j) : Int)], kR, .row kR (fun _ _ => rfl)⟩ (.cons ⟨Ob.box 22 [V.own 507], kR, .box kR⟩ (.cons ⟨(yySG35 c), kR, .box kR⟩ (.cons ⟨Ob.box 99 [V.ref 508 0], kR, .box kR⟩ (.cons ⟨Ob.box 22 [V.own 510], kR, .box kR⟩ (.cons ⟨Ob.box 2 [V.i (Prod.fst (least, kn))], kR, .box kR⟩ (.cons ⟨Ob.box 22 [V.own 511], kR, .box kR⟩ (.cons ⟨Ob.box 1 [zzSG30], kR, .box kR⟩ (.cons ⟨(yySG33 c slots plate), kR, .box kR⟩ (.cons ⟨Ob.mp (false, List.length (Prod.snd (Prod.snd (sumK c slots plate S kn (0 : Int))))) (MF.mk [] (MF.rest (knF c slots plate (Prod.snd (Prod.snd (sumK c slots plate S kn (0 : Int))))))), kR, .mp (fun _ => rfl)⟩ .nil)))))))))))) kR kR kR kR kR kR kR
  ·
   simp at c1
   omega
 | succ d ih =>
  intro g S st hd hS hb
  have hfin : nextG c slots plate (d + 1) g S st = nextR c slots plate d g S st (S.length + 1) := rfl
  have hb8 : ∀ j, gn S j < 256 := fun j => Nat.lt_of_lt_of_le (hb j) (Nat.pow_le_pow_right oM (show g.length ≤ 8 by omega))
  have hk8 : g.length < 8 := by omega
  have hp : (0 : Int) ≤ 1 * 2 ^ g.length ∧ (1 : Int) * 2 ^ g.length ≤ 128 := two_pow8 hk8
  have hk64 : (g.length : Int) ≤ (IntKind.bits IntKind.i64 : Int) := by show (g.length : Int) ≤ 64; omega
  refine am_intro hTT hMX (fn := Tryd.f70) (N := _) ⟨Tryd.func70, rfl, Tryd.ntmps70, kR⟩ (by simp) rfl (by simp) (by simp) fun C hF => ?_
  refine sK fun K hK => wR 2 ?_; refine aX hTT 3 [(0, .c qSG30)] ⟨qSG30_, tI⟩ ?_; refine nK hK ?_; clear hK K; refine sK fun K hK => ?_; refine sK fun K hK => wR 3 ?_; refine aX hTT 4 [(1, .c qSG30)] ⟨qSG30_, tI⟩ ?_; refine nK hK ?_; clear hK K
  refine w_cond (t := decide ((↑(List.length g) : Int) = (↑(List.length c) : Int))) kR (fun c1 => ?_) (fun c1 => ?_)
  ·
   simp at c1
   omega
  refine aw_skip ?_
  refine xt_n (hK _ ?_); clear hK K; refine sK fun K hK => wR 4 ?_; refine aX hTT 4 [(0, .c qSG30), (2, .i ((↑(List.length S) : Int) + 1))] ⟨qSG30_, oM, tI⟩ ?_; refine nK hK ?_; clear hK K
  refine aw_block ?_
  refine w_loop (ι := Nat) (fun k => [(0, .ref 500 0), (1, .ref 501 0), (2, .ref 502 0), (3, .ref 503 0), (4, .ref 504 0), (5, .ref 505 0), (6, .ref 506 0), (7, .i g.length), (39, .i (S.length + 1)), (40, .i k)])
   (fun k => [(500, .box 22 [.own 5]), (501, .box 34 [V.ints c]), (502, .box 99 [.ref 508 0]), (503, .box 22 [.own 6]), (504, .box 2 [.i (nextR c slots plate d g S st k).2.1]), (505, .box 22 [.own 8]), (506, .box 1 [.fn (.func 70) [] frees]), (5, SetsO g), (508, PlB c slots plate 509), (509, KnO c slots plate (nextR c slots plate d g S st k).2.2), (6, SetsO S), (8, SetsO (nextR c slots plate d g S st k).1)])
   (fun k => k ≤ S.length + 1) (fun k => S.length + 1 - k) 0 (Nat.zero_le _) ?_ ?_
  ·
   refine le_ren (sl := [(500, Ob.box 22 [V.own 5]), (yySG34 c), (502, Ob.box 99 [V.ref 508 0]), (503, Ob.box 22 [V.own 6]), (504, Ob.box 2 [V.i (Prod.fst (Prod.snd (nextR c slots plate d g S st (0 : Nat))))]), (505, Ob.box 22 [V.own 8]), (506, Ob.box 1 [zzSG30]), (5, Ob.row 3 1 (List.length g) fun (j : Nat) => [V.i (↑(gn g j) : Int)]), (yySG32 c slots plate), (509, Ob.mp (false, List.length (Prod.snd (Prod.snd (nextR c slots plate d g S st (0 : Nat))))) (MF.mk [] (knR c slots plate (Prod.snd (Prod.snd (nextR c slots plate d g S st (0 : Nat))))))), (6, Ob.row 3 1 (List.length S) fun (j : Nat) => [V.i (↑(gn S j) : Int)]), (8, Ob.row 3 1 (List.length (Prod.fst (nextR c slots plate d g S st (0 : Nat)))) fun (j : Nat) => [V.i (↑(gn (Prod.fst (nextR c slots plate d g S st (0 : Nat))) j) : Int)])]) [(5, 507), (6, 510), (8, 511)] (.cons kR (.cons kR (.cons kR (.cons kR (.cons kR (.cons kR (.cons kR (.cons kR (.cons kR (.cons kR .nil)))))))))) (.cons ⟨Ob.box 22 [V.own 507], kR, .box kR⟩ (.cons ⟨(yySG35 c), kR, .box kR⟩ (.cons ⟨Ob.box 99 [V.ref 508 0], kR, .box kR⟩ (.cons ⟨Ob.box 22 [V.own 510], kR, .box kR⟩ (.cons ⟨Ob.box 2 [V.i (Prod.fst (Prod.snd st))], kR, .box kR⟩ (.cons ⟨Ob.box 22 [V.own 511], kR, .box kR⟩ (.cons ⟨Ob.box 1 [zzSG30], kR, .box kR⟩ (.cons ⟨Ob.row 3 1 (List.length g) fun (j : Nat) => [V.i (↑(gn g j) : Int)], kR, .row kR (fun _ _ => rfl)⟩ (.cons ⟨(yySG33 c slots plate), kR, .box kR⟩ (.cons ⟨Ob.mp (false, List.length (Prod.snd (Prod.snd st))) (MF.mk [] (knR c slots plate (Prod.snd (Prod.snd st)))), kR, .mp (fun _ => rfl)⟩ (.cons ⟨Ob.row 3 1 (List.length S) fun (j : Nat) => [V.i (↑(gn S j) : Int)], kR, .row kR (fun _ _ => rfl)⟩ (.cons ⟨Ob.row 3 1 (List.length (Prod.fst st)) fun (j : Nat) => [V.i (↑(gn (Prod.fst st) j) : Int)], kR, .row kR (fun _ _ => rfl)⟩ .nil)))))))))))) kR kR
  intro k hk
  refine sK fun K hK => wR 2 ?_; refine aX hTT 1 [] tI ?_; refine nK hK ?_; clear hK K; refine sK fun K hK => ?_
  refine w_cond (t := decide ((↑k : Int) < (↑(List.length S) : Int) + 1)) kR (fun c2 => ?_) (fun c2 => ?_)
  ·
   have hk1 : k ≤ S.length := by simp at c2; omega
   have hkl := opnN_klt hk1
   have hput : ∀ j, gn (putN S k g.length) j < 2 ^ (g.length + 1) := putN_lt hb
   have hpl2 : (putN S k g.length).length = (opnN S k).length := putN_len S k g.length
   have hgx := Nat.lt_of_lt_of_le (opnN_lt (k := k) hb (Nat.pow_pos oM) k) (Nat.pow_le_pow_right oM (show g.length ≤ 8 by omega))
   have hor := bit_or (gn (opnN S k) k) hgx g.length hk8
   have hlen := opnN_len hk1
   have hgl : (g ++ [k]).length = g.length + 1 := by simp
   have A := ih (g ++ [k]) (putN S k g.length) (nextR c slots plate d g S st k) (by simp; omega) (by rw [hpl2, hlen]; simp; split <;> omega) (by simpa using hput)
   rw [← nextR_succ] at A
   refine aw_skip ?_
   refine xt_n (hK _ ?_); clear hK K; refine sK fun K hK => ?_
   refine aw_block ?_
   refine sK fun K hK => wR 3 ?_; refine aX hTT 2 [] tI ?_; refine nK hK ?_; clear hK K; refine sK fun K hK => wR 4 ?_; refine aX hTT 5 [(0, .c ((0 : Nat) ≤ (1 : Nat))), (3, .r (PR.mk (some (46 : Nat)) (some (List.length g + 1 ≤ (1099511627776 : Nat))) (V.own 300046) [((5 : Nat), none), ((300046 : Nat), some (Ob.row 3 1 (List.length g + 1) (appRow (List.length g) (fun (j : Nat) => [V.i (↑(gn g j) : Int)]) fun (i : Nat) => List.take (1 : Nat) (List.drop (i * 1) [V.i (↑k : Int)]))))] false)), (4, .r (pw ((0 : Nat) + (1 : Nat) ≤ (1 : Nat)) (500 : Nat) (Ob.box 22 [V.own 300046])))] ⟨oM, oM, oM, tI⟩ ?_; refine nK hK ?_; clear hK K; refine sK fun K hK => wR 5 ?_; refine aX hTT 3 [(0, .c qSG30)] ⟨qSG30_, tI⟩ ?_; refine nK hK ?_; clear hK K; refine sK fun K hK => ?_; refine sK fun K hK => wR 6 ?_; refine aX hTT 3 [] tI ?_; refine nK hK ?_; clear hK K
   refine w_cond (t := decide ((↑k : Int) = (↑(List.length S) : Int))) kR (fun c3 => ?_) (fun c3 => ?_)
   ·
    have c3 : k = S.length := by simp at c3; omega
    rw [if_pos c3] at hlen
    refine wR 7 ?_; refine aX hTT 4 [(0, .c ((0 : Nat) ≤ (1 : Nat))), (2, .r (PR.mk (some (54 : Nat)) (some (List.length S + 1 ≤ (1099511627776 : Nat))) (V.own 600054) [((6 : Nat), none), ((600054 : Nat), some (Ob.row 3 1 (List.length S + 1) (appRow (List.length S) (fun (j : Nat) => [V.i (↑(gn S j) : Int)]) fun (i : Nat) => List.take (1 : Nat) (List.drop (i * 1) [V.i 0]))))] false)), (3, .r (pw ((0 : Nat) + (1 : Nat) ≤ (1 : Nat)) (503 : Nat) (Ob.box 22 [V.own 600054])))] ⟨oM, oM, oM, tI⟩ ?_; refine nK hK ?_; clear hK K; refine sK fun K hK => ?_
    refine w_le (s' := ⟨mkT [(0, .ref 500 0), (1, .ref 501 0), (2, .ref 502 0), (3, .ref 503 0), (4, .ref 504 0), (5, .ref 505 0), (6, .ref 506 0), (7, .i g.length), (10, .i k), (11, .i S.length), (39, .i (S.length + 1)), (40, .i k)], mkS [(500, .box 22 [.own 15]), (501, .box 34 [V.ints c]), (502, .box 99 [.ref 508 0]), (503, .box 22 [.own 16]), (504, .box 2 [.i (nextR c slots plate d g S st k).2.1]), (505, .box 22 [.own 18]), (506, .box 1 [.fn (.func 70) [] frees]), (15, SetsO (g ++ [k])), (508, PlB c slots plate 509), (509, KnO c slots plate (nextR c slots plate d g S st k).2.2), (16, .row 3 1 (S.length + 1) (SetF (opnN S k))), (18, SetsO (nextR c slots plate d g S st k).1)], 1⟩) ?_ ?_
    ·
     refine le_ren (tl := [(0, V.ref 500 0), (1, V.ref 501 0), (2, V.ref 502 0), (3, V.ref 503 0), (4, V.ref 504 0), (5, V.ref 505 0), (6, V.ref 506 0), (7, V.i (↑(List.length g) : Int)), (10, V.i (↑k : Int)), (11, V.i (↑(List.length S) : Int)), (39, V.i ((↑(List.length S) : Int) + 1)), (40, V.i (↑k : Int))]) (sl := [(500, Ob.box 22 [V.own 15]), (yySG34 c), (502, Ob.box 99 [V.ref 508 0]), (503, Ob.box 22 [V.own 16]), (504, Ob.box 2 [V.i (Prod.fst (Prod.snd (nextR c slots plate d g S st k)))]), (505, Ob.box 22 [V.own 18]), (506, Ob.box 1 [zzSG30]), (15, Ob.row 3 1 (List.length (g ++ [k])) fun (j : Nat) => [V.i (↑(gn (g ++ [k]) j) : Int)]), (yySG32 c slots plate), (509, Ob.mp (false, List.length (Prod.snd (Prod.snd (nextR c slots plate d g S st k)))) (MF.mk [] (knR c slots plate (Prod.snd (Prod.snd (nextR c slots plate d g S st k)))))), (16, Ob.row 3 1 (List.length S + 1) (SetF (opnN S k))), (18, Ob.row 3 1 (List.length (Prod.fst (nextR c slots plate d g S st k))) fun (j : Nat) => [V.i (↑(gn (Prod.fst (nextR c slots plate d g S st k)) j) : Int)])]) [(15, 300046), (16, 600054), (18, 8)] (.cons kR (.cons kR (.cons kR (.cons kR (.cons kR (.cons kR (.cons kR (.cons kR (.cons kR (.cons kR (.cons kR (.cons kR .nil)))))))))))) (.cons ⟨Ob.box 22 [V.own 300046], kR, .box kR⟩ (.cons ⟨(yySG35 c), kR, .box kR⟩ (.cons ⟨Ob.box 99 [V.ref 508 0], kR, .box kR⟩ (.cons ⟨Ob.box 22 [V.own 600054], kR, .box kR⟩ (.cons ⟨Ob.box 2 [V.i (Prod.fst (Prod.snd (nextR c slots plate d g S st k)))], kR, .box kR⟩ (.cons ⟨Ob.box 22 [V.own 8], kR, .box kR⟩ (.cons ⟨Ob.box 1 [zzSG30], kR, .box kR⟩ (.cons ⟨Ob.row 3 1 (List.length g + 1) (appRow (List.length g) (fun (j : Nat) => [V.i (↑(gn g j) : Int)]) fun (i : Nat) => List.take (1 : Nat) (List.drop (i * 1) [V.i (↑k : Int)])), kR, .row oM ?_⟩ (.cons ⟨(yySG33 c slots plate), kR, .box kR⟩ (.cons ⟨Ob.mp (false, List.length (Prod.snd (Prod.snd (nextR c slots plate d g S st k)))) (MF.mk [] (knR c slots plate (Prod.snd (Prod.snd (nextR c slots plate d g S st k))))), kR, .mp (fun _ => rfl)⟩ (.cons ⟨Ob.row 3 1 (List.length S + 1) (appRow (List.length S) (fun (j : Nat) => [V.i (↑(gn S j) : Int)]) fun (i : Nat) => List.take (1 : Nat) (List.drop (i * 1) [V.i 0])), kR, .row kR ?_⟩ (.cons ⟨Ob.row 3 1 (List.length (Prod.fst (nextR c slots plate d g S st k))) fun (j : Nat) => [V.i (↑(gn (Prod.fst (nextR c slots plate d g S st k)) j) : Int)], kR, .row kR (fun _ _ => rfl)⟩ .nil)))))))))))) kR kR
     ·
      intro i hi
      exact app_row (by simpa using hi)
     ·
      intro i hi
      exact opnN_row c3 hi
    refine wD 2 ?_; refine aX hTT 9 [(0, .c qSG30), (2, .c ((0 : Int) ≤ (↑k : Int) ∧ (↑k : Int) < (↑(List.length S + 1) : Int))), (3, .c (k < List.length S + 1 ∧ (0 : Nat) ≤ (1 : Nat))), (5, .c ((0 : Int) ≤ (↑(List.length g) : Int) ∧ (↑(List.length g) : Int) ≤ (↑(IntKind.bits IntKind.i64) : Int) ∧ (-9223372036854775808 : Int) ≤ (1 : Int) * (2 : Int) ^ List.length g ∧ (1 : Int) * (2 : Int) ^ List.length g ≤ 9223372036854775807)), (7, .c ((0 : Int) ≤ (↑k : Int) ∧ (↑k : Int) < (↑(List.length S + 1) : Int))), (8, .r (pw (k < List.length S + 1 ∧ (0 : Nat) + (1 : Nat) ≤ (1 : Nat)) (16 : Nat) (Ob.row 3 1 (List.length S + 1) fun (j : Nat) => if j = k then [V.i (bitop BinOp.or IntKind.i64 (↑(gn (opnN S k) k) : Int) ((1 : Int) * (2 : Int) ^ List.length g))] else SetF (opnN S k) j)))] ⟨qSG30_, oM, oM, ⟨oM, ⟨oM, oM⟩⟩, oM, oM, tI⟩ ?_; refine aops_nil ⟨kR, ?_⟩; refine xt_n (hK _ ?_); clear hK K; refine sK fun K hK => ?_
    refine w_le (s' := ⟨mkT [(0, .ref 500 0), (1, .ref 501 0), (2, .ref 502 0), (3, .ref 503 0), (4, .ref 504 0), (5, .ref 505 0), (6, .ref 506 0), (7, .i g.length), (10, .i k), (11, .i S.length), (39, .i (S.length + 1)), (40, .i k)], mkS [(500, .box 22 [.own 15]), (501, .box 34 [V.ints c]), (502, .box 99 [.ref 508 0]), (503, .box 22 [.own 16]), (504, .box 2 [.i (nextR c slots plate d g S st k).2.1]), (505, .box 22 [.own 18]), (506, .box 1 [.fn (.func 70) [] frees]), (15, SetsO (g ++ [k])), (508, PlB c slots plate 509), (509, KnO c slots plate (nextR c slots plate d g S st k).2.2), (16, SetsO (putN S k g.length)), (18, SetsO (nextR c slots plate d g S st k).1)], 1⟩) ?_ ?_
    ·
     refine le_ren (tl := [(0, V.ref 500 0), (1, V.ref 501 0), (2, V.ref 502 0), (3, V.ref 503 0), (4, V.ref 504 0), (5, V.ref 505 0), (6, V.ref 506 0), (7, V.i (↑(List.length g) : Int)), (10, V.i (↑k : Int)), (11, V.i (↑(List.length S) : Int)), (39, V.i ((↑(List.length S) : Int) + 1)), (40, V.i (↑k : Int))]) (sl := [(500, Ob.box 22 [V.own 15]), (yySG34 c), (502, Ob.box 99 [V.ref 508 0]), (503, Ob.box 22 [V.own 16]), (504, Ob.box 2 [V.i (Prod.fst (Prod.snd (nextR c slots plate d g S st k)))]), (505, Ob.box 22 [V.own 18]), (506, Ob.box 1 [zzSG30]), (15, Ob.row 3 1 (List.length (g ++ [k])) fun (j : Nat) => [V.i (↑(gn (g ++ [k]) j) : Int)]), (yySG32 c slots plate), (509, Ob.mp (false, List.length (Prod.snd (Prod.snd (nextR c slots plate d g S st k)))) (MF.mk [] (knR c slots plate (Prod.snd (Prod.snd (nextR c slots plate d g S st k)))))), (16, Ob.row 3 1 (List.length (putN S k (List.length g))) fun (j : Nat) => [V.i (↑(gn (putN S k (List.length g)) j) : Int)]), (18, Ob.row 3 1 (List.length (Prod.fst (nextR c slots plate d g S st k))) fun (j : Nat) => [V.i (↑(gn (Prod.fst (nextR c slots plate d g S st k)) j) : Int)])]) [(15, 15), (16, 16), (18, 18)] (.cons kR (.cons kR (.cons kR (.cons kR (.cons kR (.cons kR (.cons kR (.cons kR (.cons kR (.cons kR (.cons kR (.cons kR .nil)))))))))))) (.cons ⟨Ob.box 22 [V.own 15], kR, .box kR⟩ (.cons ⟨(yySG35 c), kR, .box kR⟩ (.cons ⟨Ob.box 99 [V.ref 508 0], kR, .box kR⟩ (.cons ⟨Ob.box 22 [V.own 16], kR, .box kR⟩ (.cons ⟨Ob.box 2 [V.i (Prod.fst (Prod.snd (nextR c slots plate d g S st k)))], kR, .box kR⟩ (.cons ⟨Ob.box 22 [V.own 18], kR, .box kR⟩ (.cons ⟨Ob.box 1 [zzSG30], kR, .box kR⟩ (.cons ⟨Ob.row 3 1 (List.length (g ++ [k])) fun (j : Nat) => [V.i (↑(gn (g ++ [k]) j) : Int)], kR, .row kR (fun _ _ => rfl)⟩ (.cons ⟨(yySG33 c slots plate), kR, .box kR⟩ (.cons ⟨Ob.mp (false, List.length (Prod.snd (Prod.snd (nextR c slots plate d g S st k)))) (MF.mk [] (knR c slots plate (Prod.snd (Prod.snd (nextR c slots plate d g S st k))))), kR, .mp (fun _ => rfl)⟩ (.cons ⟨Ob.row 3 1 (List.length S + 1) fun (j : Nat) => if j = k then [V.i (bitop BinOp.or IntKind.i64 (↑(gn (opnN S k) k) : Int) ((1 : Int) * (2 : Int) ^ List.length g))] else SetF (opnN S k) j, kR, .row oM ?_⟩ (.cons ⟨Ob.row 3 1 (List.length (Prod.fst (nextR c slots plate d g S st k))) fun (j : Nat) => [V.i (↑(gn (Prod.fst (nextR c slots plate d g S st k)) j) : Int)], kR, .row kR (fun _ _ => rfl)⟩ .nil)))))))))))) kR kR
     ·
      intro i hi
      exact putN_row hkl hor rfl rfl
    refine wR 2 ?_; refine aX hTT 1 [(0, .c qSG30)] ⟨qSG30_, tI⟩ ?_
    refine aops_callM [500, 501, 502, 503, 504, 505, 506, 15, 508, 509, 16, 18] (first := []) (caps := [V.ref 500 0, V.ref 501 0, V.ref 502 0, V.ref 503 0, V.ref 504 0, V.ref 505 0, V.ref 506 0]) (ins' := [Ob.box 22 [V.own 15], (yySG35 c), Ob.box 99 [V.ref 508 0], Ob.box 22 [V.own 16], Ob.box 2 [V.i (Prod.fst (Prod.snd (nextR c slots plate d g S st k)))], Ob.box 22 [V.own 18], Ob.box 1 [zzSG30], Ob.row 3 1 (List.length (g ++ [k])) fun (j : Nat) => [V.i (↑(gn (g ++ [k]) j) : Int)], (yySG33 c slots plate), Ob.mp (false, List.length (Prod.snd (Prod.snd (nextR c slots plate d g S st k)))) (MF.mk [] (knR c slots plate (Prod.snd (Prod.snd (nextR c slots plate d g S st k))))), Ob.row 3 1 (List.length (putN S k (List.length g))) fun (j : Nat) => [V.i (↑(gn (putN S k (List.length g)) j) : Int)], Ob.row 3 1 (List.length (Prod.fst (nextR c slots plate d g S st k))) fun (j : Nat) => [V.i (↑(gn (Prod.fst (nextR c slots plate d g S st k)) j) : Int)]]) (v' := V.tup []) (δ := [(500, Option.some (Ob.box 22 [V.own 100064])), (501, Option.some ((yySG35 c))), (502, Option.some (Ob.box 99 [V.ref 508 0])), (503, Option.some (Ob.box 22 [V.own 101064])), (504, Option.some (Ob.box 2 [V.i (Prod.fst (Prod.snd (nextR c slots plate d g S st (k + 1))))])), (505, Option.some (Ob.box 22 [V.own 102064])), (506, Option.some (Ob.box 1 [zzSG30])), (15, Option.none), (yySG31 c slots plate), (509, Option.some (Ob.mp (false, List.length (Prod.snd (Prod.snd (nextR c slots plate d g S st (k + 1))))) (MF.mk [] (MF.rest (knF c slots plate (Prod.snd (Prod.snd (nextR c slots plate d g S st (k + 1))))))))), (16, Option.none), (18, Option.none), (100064, Option.some (Ob.row 3 1 (List.length (g ++ [k])) fun (i : Nat) => V.renL (nameG (1 : Nat) (some 64) [(500 : Nat), (501 : Nat), (502 : Nat), (503 : Nat), (504 : Nat), (505 : Nat), (506 : Nat), (15 : Nat), (508 : Nat), (509 : Nat), (16 : Nat), (18 : Nat)]) [V.i (↑(gn (g ++ [k]) i) : Int)])), (101064, Option.some (Ob.row 3 1 (List.length (putN S k (List.length g))) fun (i : Nat) => V.renL (nameG (1 : Nat) (some 64) [(500 : Nat), (501 : Nat), (502 : Nat), (503 : Nat), (504 : Nat), (505 : Nat), (506 : Nat), (15 : Nat), (508 : Nat), (509 : Nat), (16 : Nat), (18 : Nat)]) [V.i (↑(gn (putN S k (List.length g)) i) : Int)])), (102064, Option.some (Ob.row 3 1 (List.length (Prod.fst (nextR c slots plate d g S st (k + 1)))) fun (i : Nat) => V.renL (nameG (1 : Nat) (some 64) [(500 : Nat), (501 : Nat), (502 : Nat), (503 : Nat), (504 : Nat), (505 : Nat), (506 : Nat), (15 : Nat), (508 : Nat), (509 : Nat), (16 : Nat), (18 : Nat)]) [V.i (↑(gn (Prod.fst (nextR c slots plate d g S st (k + 1))) i) : Int)]))]) (kp := [500, 501, 502, 503, 504, 505, 506, 15, 508, 509, 16, 18]) (A) kR kR kR kR kR kR rfl rfl kR (.box kR kR (.box kR kR (.box kR kR (.box kR kR (.box kR kR (.box kR kR (.box kR kR (.row kR (fun _ _ => rfl) (fun _ _ => rfl) (.box kR kR (.mp (fun _ => rfl) ?_ (.row kR (fun _ _ => rfl) (fun _ _ => rfl) (.row kR (fun _ _ => rfl) (fun _ _ => rfl) .nil)))))))))))) kR kR kR ?_
    ·
     exact kn_inN c slots plate _ _
    refine nK hK ?_; clear hK K; refine sK fun K hK => wD 3 ?_
    refine aops_x (M := [75, 78]) hTT 9 [(0, .c qSG30), (2, .c ((0 : Int) ≤ (↑k : Int) ∧ (↑k : Int) < (↑(List.length (putN S k (List.length g))) : Int))), (3, .c (k < List.length (putN S k (List.length g)) ∧ (0 : Nat) ≤ (1 : Nat))), (5, .c ((0 : Int) ≤ (↑(List.length g) : Int) ∧ (↑(List.length g) : Int) ≤ (↑(IntKind.bits IntKind.i64) : Int) ∧ (-9223372036854775808 : Int) ≤ (1 : Int) * (2 : Int) ^ List.length g ∧ (1 : Int) * (2 : Int) ^ List.length g ≤ 9223372036854775807)), (7, .c ((0 : Int) ≤ (↑k : Int) ∧ (↑k : Int) < (↑(List.length (putN S k (List.length g))) : Int))), (8, .r (pw (k < List.length (putN S k (List.length g)) ∧ (0 : Nat) + (1 : Nat) ≤ (1 : Nat)) (101064 : Nat) (Ob.row 3 1 (List.length (putN S k (List.length g))) fun (j : Nat) => if j = k then [V.i (bitop BinOp.andNot IntKind.i64 (↑(gn (putN S k (List.length g)) k) : Int) ((1 : Int) * (2 : Int) ^ List.length g))] else V.renL (nameG (1 : Nat) (some (64 : Tmp)) [(500 : Nat), (501 : Nat), (502 : Nat), (503 : Nat), (504 : Nat), (505 : Nat), (506 : Nat), (15 : Nat), (508 : Nat), (509 : Nat), (16 : Nat), (18 : Nat)]) [V.i (↑(gn (putN S k (List.length g)) j) : Int)])))] ⟨qSG30_, oM, oM, ⟨oM, ⟨oM, oM⟩⟩, oM, oM, tI⟩ ?_
    refine aops_nil ⟨kR, ?_⟩; refine xt_n (hK _ ?_); clear hK K; refine wD 4 ?_
    refine aops_x (M := [75, 78]) hTT 8 [(0, .c ((0 : Nat) ≤ (1 : Nat))), (2, .r (PR.mk (some (75 : Nat)) (some ((0 : Int) ≤ (0 : Int) ∧ (0 : Int) ≤ (↑(List.length S) : Int) ∧ (↑(List.length S) : Int) ≤ (↑(List.length (putN S k (List.length g))) : Int) ∧ (0 : Nat) < List.length (putN S k (List.length g)))) (V.own 300075) [((101064 : Nat), none), ((300075 : Nat), some (Ob.row 3 1 (List.length S) fun (j : Nat) => if j = k then [V.i (bitop BinOp.andNot IntKind.i64 (↑(gn (putN S k (List.length g)) k) : Int) ((1 : Int) * (2 : Int) ^ List.length g))] else V.renL (nameG (1 : Nat) (some (64 : Tmp)) [(500 : Nat), (501 : Nat), (502 : Nat), (503 : Nat), (504 : Nat), (505 : Nat), (506 : Nat), (15 : Nat), (508 : Nat), (509 : Nat), (16 : Nat), (18 : Nat)]) [V.i (↑(gn (putN S k (List.length g)) j) : Int)]))] false)), (3, .c ((0 : Nat) ≤ (1 : Nat))), (5, .r (PR.mk (some (78 : Nat)) (some ((0 : Int) ≤ (0 : Int) ∧ (0 : Int) ≤ (↑(List.length g) : Int) ∧ (↑(List.length g) : Int) ≤ (↑(List.length (g ++ [k])) : Int) ∧ (0 : Nat) < List.length (g ++ [k]))) (V.own 300078) [((100064 : Nat), none), ((300078 : Nat), some (Ob.row 3 1 (List.length g) fun (i : Nat) => V.renL (nameG (1 : Nat) (some (64 : Tmp)) [(500 : Nat), (501 : Nat), (502 : Nat), (503 : Nat), (504 : Nat), (505 : Nat), (506 : Nat), (15 : Nat), (508 : Nat), (509 : Nat), (16 : Nat), (18 : Nat)]) [V.i (↑(gn (g ++ [k]) i) : Int)]))] false)), (6, .r (pw ((0 : Nat) + (1 : Nat) ≤ (1 : Nat)) (503 : Nat) (Ob.box 22 [V.own 300075]))), (7, .r (pw ((0 : Nat) + (1 : Nat) ≤ (1 : Nat)) (500 : Nat) (Ob.box 22 [V.own 300078])))] ⟨oM, ⟨oM, ⟨oM, oM⟩⟩, oM, ⟨oM, ⟨oM, oM⟩⟩, oM, oM, tI⟩ ?_
    refine aops_nil ⟨kR, ?_⟩; refine xb_n ?_; refine xt_n (hK _ ?_); clear hK K; refine wR 5 ?_
    refine aops_x (M := [75, 78]) hTT 2 [(0, .i ((↑k : Int) + 1))] ⟨oM, tI⟩ ?_
    refine aops_nil ?_; refine xt_n ?_
    refine ⟨k + 1, by simp; omega, ?_, by simp; omega⟩
    refine le_ren (tl := [(0, V.ref 500 0), (1, V.ref 501 0), (2, V.ref 502 0), (3, V.ref 503 0), (4, V.ref 504 0), (5, V.ref 505 0), (6, V.ref 506 0), (7, V.i (↑(List.length g) : Int)), (39, V.i ((↑(List.length S) : Int) + 1)), (40, V.i (↑(k + 1) : Int))]) (sl := [(500, Ob.box 22 [V.own 5]), (yySG34 c), (502, Ob.box 99 [V.ref 508 0]), (503, Ob.box 22 [V.own 6]), (504, Ob.box 2 [V.i (Prod.fst (Prod.snd (nextR c slots plate d g S st (k + 1))))]), (505, Ob.box 22 [V.own 8]), (506, Ob.box 1 [zzSG30]), (5, Ob.row 3 1 (List.length g) fun (j : Nat) => [V.i (↑(gn g j) : Int)]), (yySG32 c slots plate), (509, Ob.mp (false, List.length (Prod.snd (Prod.snd (nextR c slots plate d g S st (k + 1))))) (MF.mk [] (knR c slots plate (Prod.snd (Prod.snd (nextR c slots plate d g S st (k + 1))))))), (6, Ob.row 3 1 (List.length S) fun (j : Nat) => [V.i (↑(gn S j) : Int)]), (8, Ob.row 3 1 (List.length (Prod.fst (nextR c slots plate d g S st (k + 1)))) fun (j : Nat) => [V.i (↑(gn (Prod.fst (nextR c slots plate d g S st (k + 1))) j) : Int)])]) [(5, 300078), (6, 300075), (8, 102064)] (.cons kR (.cons kR (.cons kR (.cons kR (.cons kR (.cons kR (.cons kR (.cons kR (.cons kR (.cons kR .nil)))))))))) (.cons ⟨Ob.box 22 [V.own 300078], kR, .box kR⟩ (.cons ⟨(yySG35 c), kR, .box kR⟩ (.cons ⟨Ob.box 99 [V.ref 508 0], kR, .box kR⟩ (.cons ⟨Ob.box 22 [V.own 300075], kR, .box kR⟩ (.cons ⟨Ob.box 2 [V.i (Prod.fst (Prod.snd (nextR c slots plate d g S st (k + 1))))], kR, .box kR⟩ (.cons ⟨Ob.box 22 [V.own 102064], kR, .box kR⟩ (.cons ⟨Ob.box 1 [zzSG30], kR, .box kR⟩ (.cons ⟨Ob.row 3 1 (List.length g) fun (i : Nat) => V.renL (nameG (1 : Nat) (some (64 : Tmp)) [(500 : Nat), (501 : Nat), (502 : Nat), (503 : Nat), (504 : Nat), (505 : Nat), (506 : Nat), (15 : Nat), (508 : Nat), (509 : Nat), (16 : Nat), (18 : Nat)]) [V.i (↑(gn (g ++ [k]) i) : Int)], kR, .row kR ?_⟩ (.cons ⟨(yySG33 c slots plate), kR, .box kR⟩ (.cons ⟨Ob.mp (false, List.length (Prod.snd (Prod.snd (nextR c slots plate d g S st (k + 1))))) (MF.mk [] (MF.rest (knF c slots plate (Prod.snd (Prod.snd (nextR c slots plate d g S st (k + 1))))))), kR, .mp (fun _ => rfl)⟩ (.cons ⟨Ob.row 3 1 (List.length S) fun (j : Nat) => if j = k then [V.i (bitop BinOp.andNot IntKind.i64 (↑(gn (putN S k (List.length g)) k) : Int) ((1 : Int) * (2 : Int) ^ List.length g))] else V.renL (nameG (1 : Nat) (some (64 : Tmp)) [(500 : Nat), (501 : Nat), (502 : Nat), (503 : Nat), (504 : Nat), (505 : Nat), (506 : Nat), (15 : Nat), (508 : Nat), (509 : Nat), (16 : Nat), (18 : Nat)]) [V.i (↑(gn (putN S k (List.length g)) j) : Int)], kR, .row kR ?_⟩ (.cons ⟨Ob.row 3 1 (List.length (Prod.fst (nextR c slots plate d g S st (k + 1)))) fun (i : Nat) => V.renL (nameG (1 : Nat) (some (64 : Tmp)) [(500 : Nat), (501 : Nat), (502 : Nat), (503 : Nat), (504 : Nat), (505 : Nat), (506 : Nat), (15 : Nat), (508 : Nat), (509 : Nat), (16 : Nat), (18 : Nat)]) [V.i (↑(gn (Prod.fst (nextR c slots plate d g S st (k + 1))) i) : Int)], kR, .row kR (fun _ _ => rfl)⟩ .nil)))))))))))) kR kR
    ·
     intro i hi
     exact congrArg (fun x : Nat => [V.i (x : Int)]) (gn_app hi)
    ·
     intro i hi
     exact clr_row hk1 hk8 hb hi
   ·
    have c3 : k ≠ S.length := by simp at c3; omega
    rw [if_neg c3] at hlen
    have e : opnN S k = S := by rw [opnN, if_neg c3]
    rw [hlen] at hkl
    rw [e] at hor
    refine aw_skip ?_
    refine xt_n (hK _ ?_); clear hK K; refine sK fun K hK => wD 7 ?_; refine aX hTT 9 [(0, .c qSG30), (2, .c ((0 : Int) ≤ (↑k : Int) ∧ (↑k : Int) < (↑(List.length S) : Int))), (3, .c (k < List.length S ∧ (0 : Nat) ≤ (1 : Nat))), (5, .c ((0 : Int) ≤ (↑(List.length g) : Int) ∧ (↑(List.length g) : Int) ≤ (↑(IntKind.bits IntKind.i64) : Int) ∧ (-9223372036854775808 : Int) ≤ (1 : Int) * (2 : Int) ^ List.length g ∧ (1 : Int) * (2 : Int) ^ List.length g ≤ 9223372036854775807)), (7, .c ((0 : Int) ≤ (↑k : Int) ∧ (↑k : Int) < (↑(List.length S) : Int))), (8, .r (pw (k < List.length S ∧ (0 : Nat) + (1 : Nat) ≤ (1 : Nat)) (6 : Nat) (Ob.row 3 1 (List.length S) fun (j : Nat) => if j = k then [V.i (bitop BinOp.or IntKind.i64 (↑(gn S k) : Int) ((1 : Int) * (2 : Int) ^ List.length g))] else [V.i (↑(gn S j) : Int)])))] ⟨qSG30_, oM, oM, ⟨oM, ⟨oM, oM⟩⟩, oM, oM, tI⟩ ?_; refine aops_nil ⟨kR, ?_⟩; refine xt_n (hK _ ?_); clear hK K; refine sK fun K hK => ?_
    refine w_le (s' := ⟨mkT [(0, .ref 500 0), (1, .ref 501 0), (2, .ref 502 0), (3, .ref 503 0), (4, .ref 504 0), (5, .ref 505 0), (6, .ref 506 0), (7, .i g.length), (10, .i k), (11, .i S.length), (39, .i (S.length + 1)), (40, .i k)], mkS [(500, .box 22 [.own 15]), (501, .box 34 [V.ints c]), (502, .box 99 [.ref 508 0]), (503, .box 22 [.own 16]), (504, .box 2 [.i (nextR c slots plate d g S st k).2.1]), (505, .box 22 [.own 18]), (506, .box 1 [.fn (.func 70) [] frees]), (15, SetsO (g ++ [k])), (508, PlB c slots plate 509), (509, KnO c slots plate (nextR c slots plate d g S st k).2.2), (16, SetsO (putN S k g.length)), (18, SetsO (nextR c slots plate d g S st k).1)], 1⟩) ?_ ?_
    ·
     refine le_ren (tl := [(0, V.ref 500 0), (1, V.ref 501 0), (2, V.ref 502 0), (3, V.ref 503 0), (4, V.ref 504 0), (5, V.ref 505 0), (6, V.ref 506 0), (7, V.i (↑(List.length g) : Int)), (10, V.i (↑k : Int)), (11, V.i (↑(List.length S) : Int)), (39, V.i ((↑(List.length S) : Int) + 1)), (40, V.i (↑k : Int))]) (sl := [(500, Ob.box 22 [V.own 15]), (yySG34 c), (502, Ob.box 99 [V.ref 508 0]), (503, Ob.box 22 [V.own 16]), (504, Ob.box 2 [V.i (Prod.fst (Prod.snd (nextR c slots plate d g S st k)))]), (505, Ob.box 22 [V.own 18]), (506, Ob.box 1 [zzSG30]), (15, Ob.row 3 1 (List.length (g ++ [k])) fun (j : Nat) => [V.i (↑(gn (g ++ [k]) j) : Int)]), (yySG32 c slots plate), (509, Ob.mp (false, List.length (Prod.snd (Prod.snd (nextR c slots plate d g S st k)))) (MF.mk [] (knR c slots plate (Prod.snd (Prod.snd (nextR c slots plate d g S st k)))))), (16, Ob.row 3 1 (List.length (putN S k (List.length g))) fun (j : Nat) => [V.i (↑(gn (putN S k (List.length g)) j) : Int)]), (18, Ob.row 3 1 (List.length (Prod.fst (nextR c slots plate d g S st k))) fun (j : Nat) => [V.i (↑(gn (Prod.fst (nextR c slots plate d g S st k)) j) : Int)])]) [(15, 300046), (16, 6), (18, 8)] (.cons kR (.cons kR (.cons kR (.cons kR (.cons kR (.cons kR (.cons kR (.cons kR (.cons kR (.cons kR (.cons kR (.cons kR .nil)))))))))))) (.cons ⟨Ob.box 22 [V.own 300046], kR, .box kR⟩ (.cons ⟨(yySG35 c), kR, .box kR⟩ (.cons ⟨Ob.box 99 [V.ref 508 0], kR, .box kR⟩ (.cons ⟨Ob.box 22 [V.own 6], kR, .box kR⟩ (.cons ⟨Ob.box 2 [V.i (Prod.fst (Prod.snd (nextR c slots plate d g S st k)))], kR, .box kR⟩ (.cons ⟨Ob.box 22 [V.own 8], kR, .box kR⟩ (.cons ⟨Ob.box 1 [zzSG30], kR, .box kR⟩ (.cons ⟨Ob.row 3 1 (List.length g + 1) (appRow (List.length g) (fun (j : Nat) => [V.i (↑(gn g j) : Int)]) fun (i : Nat) => List.take (1 : Nat) (List.drop (i * 1) [V.i (↑k : Int)])), kR, .row oM ?_⟩ (.cons ⟨(yySG33 c slots plate), kR, .box kR⟩ (.cons ⟨Ob.mp (false, List.length (Prod.snd (Prod.snd (nextR c slots plate d g S st k)))) (MF.mk [] (knR c slots plate (Prod.snd (Prod.snd (nextR c slots plate d g S st k))))), kR, .mp (fun _ => rfl)⟩ (.cons ⟨Ob.row 3 1 (List.length S) fun (j : Nat) => if j = k then [V.i (bitop BinOp.or IntKind.i64 (↑(gn S k) : Int) ((1 : Int) * (2 : Int) ^ List.length g))] else [V.i (↑(gn S j) : Int)], kR, .row oM ?_⟩ (.cons ⟨Ob.row 3 1 (List.length (Prod.fst (nextR c slots plate d g S st k))) fun (j : Nat) => [V.i (↑(gn (Prod.fst (nextR c slots plate d g S st k)) j) : Int)], kR, .row kR (fun _ _ => rfl)⟩ .nil)))))))))))) kR kR
     ·
      intro i hi
      exact app_row (by simpa using hi)
     ·
      intro i hi
      exact putN_row (by rw [e]; exact hkl) (by rw [e]; exact hor) (by rw [e]) (by rw [e])
    refine wR 2 ?_; refine aX hTT 1 [(0, .c qSG30)] ⟨qSG30_, tI⟩ ?_
    refine aops_callM [500, 501, 502, 503, 504, 505, 506, 15, 508, 509, 16, 18] (first := []) (caps := [V.ref 500 0, V.ref 501 0, V.ref 502 0, V.ref 503 0, V.ref 504 0, V.ref 505 0, V.ref 506 0]) (ins' := [Ob.box 22 [V.own 15], (yySG35 c), Ob.box 99 [V.ref 508 0], Ob.box 22 [V.own 16], Ob.box 2 [V.i (Prod.fst (Prod.snd (nextR c slots plate d g S st k)))], Ob.box 22 [V.own 18], Ob.box 1 [zzSG30], Ob.row 3 1 (List.length (g ++ [k])) fun (j : Nat) => [V.i (↑(gn (g ++ [k]) j) : Int)], (yySG33 c slots plate), Ob.mp (false, List.length (Prod.snd (Prod.snd (nextR c slots plate d g S st k)))) (MF.mk [] (knR c slots plate (Prod.snd (Prod.snd (nextR c slots plate d g S st k))))), Ob.row 3 1 (List.length (putN S k (List.length g))) fun (j : Nat) => [V.i (↑(gn (putN S k (List.length g)) j) : Int)], Ob.row 3 1 (List.length (Prod.fst (nextR c slots plate d g S st k))) fun (j : Nat) => [V.i (↑(gn (Prod.fst (nextR c slots plate d g S st k)) j) : Int)]]) (v' := V.tup []) (δ := [(500, Option.some (Ob.box 22 [V.own 100064])), (501, Option.some ((yySG35 c))), (502, Option.some (Ob.box 99 [V.ref 508 0])), (503, Option.some (Ob.box 22 [V.own 101064])), (504, Option.some (Ob.box 2 [V.i (Prod.fst (Prod.snd (nextR c slots plate d g S st (k + 1))))])), (505, Option.some (Ob.box 22 [V.own 102064])), (506, Option.some (Ob.box 1 [zzSG30])), (15, Option.none), (yySG31 c slots plate), (509, Option.some (Ob.mp (false, List.length (Prod.snd (Prod.snd (nextR c slots plate d g S st (k + 1))))) (MF.mk [] (MF.rest (knF c slots plate (Prod.snd (Prod.snd (nextR c slots plate d g S st (k + 1))))))))), (16, Option.none), (18, Option.none), (100064, Option.some (Ob.row 3 1 (List.length (g ++ [k])) fun (i : Nat) => V.renL (nameG (1 : Nat) (some 64) [(500 : Nat), (501 : Nat), (502 : Nat), (503 : Nat), (504 : Nat), (505 : Nat), (506 : Nat), (15 : Nat), (508 : Nat), (509 : Nat), (16 : Nat), (18 : Nat)]) [V.i (↑(gn (g ++ [k]) i) : Int)])), (101064, Option.some (Ob.row 3 1 (List.length (putN S k (List.length g))) fun (i : Nat) => V.renL (nameG (1 : Nat) (some 64) [(500 : Nat), (501 : Nat), (502 : Nat), (503 : Nat), (504 : Nat), (505 : Nat), (506 : Nat), (15 : Nat), (508 : Nat), (509 : Nat), (16 : Nat), (18 : Nat)]) [V.i (↑(gn (putN S k (List.length g)) i) : Int)])), (102064, Option.some (Ob.row 3 1 (List.length (Prod.fst (nextR c slots plate d g S st (k + 1)))) fun (i : Nat) => V.renL (nameG (1 : Nat) (some 64) [(500 : Nat), (501 : Nat), (502 : Nat), (503 : Nat), (504 : Nat), (505 : Nat), (506 : Nat), (15 : Nat), (508 : Nat), (509 : Nat), (16 : Nat), (18 : Nat)]) [V.i (↑(gn (Prod.fst (nextR c slots plate d g S st (k + 1))) i) : Int)]))]) (kp := [500, 501, 502, 503, 504, 505, 506, 15, 508, 509, 16, 18]) (A) kR kR kR kR kR kR rfl rfl kR (.box kR kR (.box kR kR (.box kR kR (.box kR kR (.box kR kR (.box kR kR (.box kR kR (.row kR (fun _ _ => rfl) (fun _ _ => rfl) (.box kR kR (.mp (fun _ => rfl) ?_ (.row kR (fun _ _ => rfl) (fun _ _ => rfl) (.row kR (fun _ _ => rfl) (fun _ _ => rfl) .nil)))))))))))) kR kR kR ?_
    ·
     exact kn_inN c slots plate _ _
    refine nK hK ?_; clear hK K; refine sK fun K hK => wD 3 ?_
    refine aops_x (M := [75, 78]) hTT 9 [(0, .c qSG30), (2, .c ((0 : Int) ≤ (↑k : Int) ∧ (↑k : Int) < (↑(List.length (putN S k (List.length g))) : Int))), (3, .c (k < List.length (putN S k (List.length g)) ∧ (0 : Nat) ≤ (1 : Nat))), (5, .c ((0 : Int) ≤ (↑(List.length g) : Int) ∧ (↑(List.length g) : Int) ≤ (↑(IntKind.bits IntKind.i64) : Int) ∧ (-9223372036854775808 : Int) ≤ (1 : Int) * (2 : Int) ^ List.length g ∧ (1 : Int) * (2 : Int) ^ List.length g ≤ 9223372036854775807)), (7, .c ((0 : Int) ≤ (↑k : Int) ∧ (↑k : Int) < (↑(List.length (putN S k (List.length g))) : Int))), (8, .r (pw (k < List.length (putN S k (List.length g)) ∧ (0 : Nat) + (1 : Nat) ≤ (1 : Nat)) (101064 : Nat) (Ob.row 3 1 (List.length (putN S k (List.length g))) fun (j : Nat) => if j = k then [V.i (bitop BinOp.andNot IntKind.i64 (↑(gn (putN S k (List.length g)) k) : Int) ((1 : Int) * (2 : Int) ^ List.length g))] else V.renL (nameG (1 : Nat) (some (64 : Tmp)) [(500 : Nat), (501 : Nat), (502 : Nat), (503 : Nat), (504 : Nat), (505 : Nat), (506 : Nat), (15 : Nat), (508 : Nat), (509 : Nat), (16 : Nat), (18 : Nat)]) [V.i (↑(gn (putN S k (List.length g)) j) : Int)])))] ⟨qSG30_, oM, oM, ⟨oM, ⟨oM, oM⟩⟩, oM, oM, tI⟩ ?_
    refine aops_nil ⟨kR, ?_⟩; refine xt_n (hK _ ?_); clear hK K; refine wD 4 ?_
    refine aops_x (M := [75, 78]) hTT 8 [(0, .c ((0 : Nat) ≤ (1 : Nat))), (2, .r (PR.mk (some (75 : Nat)) (some ((0 : Int) ≤ (0 : Int) ∧ (0 : Int) ≤ (↑(List.length S) : Int) ∧ (↑(List.length S) : Int) ≤ (↑(List.length (putN S k (List.length g))) : Int) ∧ (0 : Nat) < List.length (putN S k (List.length g)))) (V.own 300075) [((101064 : Nat), none), ((300075 : Nat), some (Ob.row 3 1 (List.length S) fun (j : Nat) => if j = k then [V.i (bitop BinOp.andNot IntKind.i64 (↑(gn (putN S k (List.length g)) k) : Int) ((1 : Int) * (2 : Int) ^ List.length g))] else V.renL (nameG (1 : Nat) (some (64 : Tmp)) [(500 : Nat), (501 : Nat), (502 : Nat), (503 : Nat), (504 : Nat), (505 : Nat), (506 : Nat), (15 : Nat), (508 : Nat), (509 : Nat), (16 : Nat), (18 : Nat)]) [V.i (↑(gn (putN S k (List.length g)) j) : Int)]))] false)), (3, .c ((0 : Nat) ≤ (1 : Nat))), (5, .r (PR.mk (some (78 : Nat)) (some ((0 : Int) ≤ (0 : Int) ∧ (0 : Int) ≤ (↑(List.length g) : Int) ∧ (↑(List.length g) : Int) ≤ (↑(List.length (g ++ [k])) : Int) ∧ (0 : Nat) < List.length (g ++ [k]))) (V.own 300078) [((100064 : Nat), none), ((300078 : Nat), some (Ob.row 3 1 (List.length g) fun (i : Nat) => V.renL (nameG (1 : Nat) (some (64 : Tmp)) [(500 : Nat), (501 : Nat), (502 : Nat), (503 : Nat), (504 : Nat), (505 : Nat), (506 : Nat), (15 : Nat), (508 : Nat), (509 : Nat), (16 : Nat), (18 : Nat)]) [V.i (↑(gn (g ++ [k]) i) : Int)]))] false)), (6, .r (pw ((0 : Nat) + (1 : Nat) ≤ (1 : Nat)) (503 : Nat) (Ob.box 22 [V.own 300075]))), (7, .r (pw ((0 : Nat) + (1 : Nat) ≤ (1 : Nat)) (500 : Nat) (Ob.box 22 [V.own 300078])))] ⟨oM, ⟨oM, ⟨oM, oM⟩⟩, oM, ⟨oM, ⟨oM, oM⟩⟩, oM, oM, tI⟩ ?_
    refine aops_nil ⟨kR, ?_⟩; refine xb_n ?_; refine xt_n (hK _ ?_); clear hK K; refine wR 5 ?_
    refine aops_x (M := [75, 78]) hTT 2 [(0, .i ((↑k : Int) + 1))] ⟨oM, tI⟩ ?_
    refine aops_nil ?_; refine xt_n ?_
    refine ⟨k + 1, by simp; omega, ?_, by simp; omega⟩
    refine le_ren (tl := [(0, V.ref 500 0), (1, V.ref 501 0), (2, V.ref 502 0), (3, V.ref 503 0), (4, V.ref 504 0), (5, V.ref 505 0), (6, V.ref 506 0), (7, V.i (↑(List.length g) : Int)), (39, V.i ((↑(List.length S) : Int) + 1)), (40, V.i (↑(k + 1) : Int))]) (sl := [(500, Ob.box 22 [V.own 5]), (yySG34 c), (502, Ob.box 99 [V.ref 508 0]), (503, Ob.box 22 [V.own 6]), (504, Ob.box 2 [V.i (Prod.fst (Prod.snd (nextR c slots plate d g S st (k + 1))))]), (505, Ob.box 22 [V.own 8]), (506, Ob.box 1 [zzSG30]), (5, Ob.row 3 1 (List.length g) fun (j : Nat) => [V.i (↑(gn g j) : Int)]), (yySG32 c slots plate), (509, Ob.mp (false, List.length (Prod.snd (Prod.snd (nextR c slots plate d g S st (k + 1))))) (MF.mk [] (knR c slots plate (Prod.snd (Prod.snd (nextR c slots plate d g S st (k + 1))))))), (6, Ob.row 3 1 (List.length S) fun (j : Nat) => [V.i (↑(gn S j) : Int)]), (8, Ob.row 3 1 (List.length (Prod.fst (nextR c slots plate d g S st (k + 1)))) fun (j : Nat) => [V.i (↑(gn (Prod.fst (nextR c slots plate d g S st (k + 1))) j) : Int)])]) [(5, 300078), (6, 300075), (8, 102064)] (.cons kR (.cons kR (.cons kR (.cons kR (.cons kR (.cons kR (.cons kR (.cons kR (.cons kR (.cons kR .nil)))))))))) (.cons ⟨Ob.box 22 [V.own 300078], kR, .box kR⟩ (.cons ⟨(yySG35 c), kR, .box kR⟩ (.cons ⟨Ob.box 99 [V.ref 508 0], kR, .box kR⟩ (.cons ⟨Ob.box 22 [V.own 300075], kR, .box kR⟩ (.cons ⟨Ob.box 2 [V.i (Prod.fst (Prod.snd (nextR c slots plate d g S st (k + 1))))], kR, .box kR⟩ (.cons ⟨Ob.box 22 [V.own 102064], kR, .box kR⟩ (.cons ⟨Ob.box 1 [zzSG30], kR, .box kR⟩ (.cons ⟨Ob.row 3 1 (List.length g) fun (i : Nat) => V.renL (nameG (1 : Nat) (some (64 : Tmp)) [(500 : Nat), (501 : Nat), (502 : Nat), (503 : Nat), (504 : Nat), (505 : Nat), (506 : Nat), (15 : Nat), (508 : Nat), (509 : Nat), (16 : Nat), (18 : Nat)]) [V.i (↑(gn (g ++ [k]) i) : Int)], kR, .row kR ?_⟩ (.cons ⟨(yySG33 c slots plate), kR, .box kR⟩ (.cons ⟨Ob.mp (false, List.length (Prod.snd (Prod.snd (nextR c slots plate d g S st (k + 1))))) (MF.mk [] (MF.rest (knF c slots plate (Prod.snd (Prod.snd (nextR c slots plate d g S st (k + 1))))))), kR, .mp (fun _ => rfl)⟩ (.cons ⟨Ob.row 3 1 (List.length S) fun (j : Nat) => if j = k then [V.i (bitop BinOp.andNot IntKind.i64 (↑(gn (putN S k (List.length g)) k) : Int) ((1 : Int) * (2 : Int) ^ List.length g))] else V.renL (nameG (1 : Nat) (some (64 : Tmp)) [(500 : Nat), (501 : Nat), (502 : Nat), (503 : Nat), (504 : Nat), (505 : Nat), (506 : Nat), (15 : Nat), (508 : Nat), (509 : Nat), (16 : Nat), (18 : Nat)]) [V.i (↑(gn (putN S k (List.length g)) j) : Int)], kR, .row kR ?_⟩ (.cons ⟨Ob.row 3 1 (List.length (Prod.fst (nextR c slots plate d g S st (k + 1)))) fun (i : Nat) => V.renL (nameG (1 : Nat) (some (64 : Tmp)) [(500 : Nat), (501 : Nat), (502 : Nat), (503 : Nat), (504 : Nat), (505 : Nat), (506 : Nat), (15 : Nat), (508 : Nat), (509 : Nat), (16 : Nat), (18 : Nat)]) [V.i (↑(gn (Prod.fst (nextR c slots plate d g S st (k + 1))) i) : Int)], kR, .row kR (fun _ _ => rfl)⟩ .nil)))))))))))) kR kR
    ·
     intro i hi
     exact congrArg (fun x : Nat => [V.i (x : Int)]) (gn_app hi)
    ·
     intro i hi
     exact clr_row hk1 hk8 hb hi
  ·
   obtain rfl : k = S.length + 1 := by simp at c2; omega
   refine aw_exit ?_
   refine xt_x ?_; refine xt_x ?_
   refine xb_same ?_
   rw [hfin]
   refine retM (v' := V.tup []) [(0, 5), (1, 6), (2, 8)] [] (.inl rfl) .nil (.cons ⟨Ob.row 3 1 (List.length g) fun (j : Nat) => [V.i (↑(gn g j) : Int)], kR, .row kR (fun _ _ => rfl)⟩ (.cons ⟨Ob.row 3 1 (List.length S) fun (j : Nat) => [V.i (↑(gn S j) : Int)], kR, .row kR (fun _ _ => rfl)⟩ (.cons ⟨Ob.row 3 1 (List.length (Prod.fst (nextR c slots plate d g S st (List.length S + 1)))) fun (j : Nat) => [V.i (↑(gn (Prod.fst (nextR c slots plate d g S st (List.length S + 1))) j) : Int)], kR, .row kR (fun _ _ => rfl)⟩ (.cons ⟨Ob.box 22 [V.own 5], kR, .box kR⟩ (.cons ⟨(yySG35 c), kR, .box kR⟩ (.cons ⟨Ob.box 99 [V.ref 508 0], kR, .box kR⟩ (.cons ⟨Ob.box 22 [V.own 6], kR, .box kR⟩ (.cons ⟨Ob.box 2 [V.i (Prod.fst (Prod.snd (nextR c slots plate d g S st (List.length S + 1))))], kR, .box kR⟩ (.cons ⟨Ob.box 22 [V.own 8], kR, .box kR⟩ (.cons ⟨Ob.box 1 [zzSG30], kR, .box kR⟩ (.cons ⟨(yySG33 c slots plate), kR, .box kR⟩ (.cons ⟨Ob.mp (false, List.length (Prod.snd (Prod.snd (nextR c slots plate d g S st (List.length S + 1))))) (MF.mk [] (knR c slots plate (Prod.snd (Prod.snd (nextR c slots plate d g S st (List.length S + 1)))))), kR, .mp (fun _ => rfl)⟩ .nil)))))))))))) kR kR kR kR kR kR kR
end Go.Proofs.YtfckkkmacjjmhaaDoor

namespace Go.Proofs.YtfckkkmacjjmhaaDoor
open Go.Ab Go.RowKit Go.Dw Go.Shelf
set_option maxHeartbeats 2000000 in
set_option maxRecDepth 100000 in
theorem Gang_1 (c : List Int) (slots plate : Int) (hl : c.length ≤ 4611686018427387904) (hc : chkC c slots plate ≠ 0) : AC Tryd.prog 41 [V.ints c, .i slots, .i plate] (.tup [V.ints [], .i 0, .i (chkC c slots plate)]) [] := by
 refine acI hTT hMX Tryd.func41 Tryd.ntmps41 fun C hC hF => ?_
 refine sK fun K hK => wR 2 ?_; refine aX hTT 4 [] tI ?_; refine nK hK ?_; clear hK K; refine sK fun K hK => ?_; refine sK fun K hK => wR 3 ?_; refine aX hTT 3 [] tI ?_
 refine eC (CheckCopies_ac c slots plate hl) ?_
 refine aX hTT 1 [] tI ?_; refine nK hK ?_; clear hK K; refine sK fun K hK => wR 4 ?_; refine aX hTT 2 [] tI ?_; refine nK hK ?_; clear hK K
 refine w_cond (t := !decide (chkC c slots plate = 0)) kR (fun c1 => ?_) (fun c1 => ?_)
 ·
  refine sK fun K hK => ?_
  refine wR 5 ?_; refine aX hTT 4 [] tI ?_; refine nK hK ?_; clear hK K
  refine aw_ret ?_
  refine xt_r ?_
  refine ret_of_le (le_nil 6 (sz := 1) 0 (fun k => [.i (gi [] k)]) kR ?_) ?_
  ·
   rfl
  refine rP (V.tup [V.sl 1 0 fun (k : Nat) => [V.i (gi [] k)], V.i 0, V.i (chkC c slots plate)])
 ·
  exact absurd (by simpa using c1) hc
abbrev zzSG40 : V := V.fn (Fn.func (70 : Nat)) [] [V.ref 500012 0, V.ref 100003 0, V.ref 400010 0, V.ref 500013 0, V.ref 600014 0, V.ref 500011 0, V.ref 700015 0]
abbrev qSG40 : Prop := (0 : Nat) ≤ (1 : Nat)
theorem qSG40_ : qSG40 := oM
abbrev yySG40 (c : List Int) (slots : Int) (plate : Int) : Ob := Ob.box 102 [V.sl 1 (List.length c) fun (k : Nat) => [V.i (gi c k)], V.i slots, V.i plate, V.own 400026]
abbrev yySG41 (c : List Int) (slots : Int) (plate : Int) := (Prod.snd (nextG c slots plate (List.length c) [] [] ([], (-1 : Int), [])))
abbrev yySG42 (c : List Int) (slots : Int) (plate : Int) := (Prod.fst (nextG c slots plate (List.length c) [] [] ([], (-1 : Int), [])))
abbrev yySG43 (c : List Int) : Ob := Ob.box 34 [V.sl 1 (List.length c) fun (k : Nat) => [V.i (gi c k)]]
abbrev yySG44 := ((9 : Nat) + (1 : Nat) + (1 : Nat) + (1 : Nat))
set_option maxHeartbeats 2000000 in
set_option maxRecDepth 100000 in
theorem Gang_2 (c : List Int) (slots plate : Int) (hl : c.length ≤ 4611686018427387904) (hc : chkC c slots plate = 0) (hc0 : 0 < c.length) : AC Tryd.prog 41 [V.ints c, .i slots, .i plate] (.tup [.own 0, .i (nextG c slots plate c.length [] [] ([], -1, [])).2.1, .i 0]) [SetsO (nextG c slots plate c.length [] [] ([], -1, [])).1] := by
 have A := next_am c slots plate hc hc0 c.length [] [] ([], -1, []) (by simp) (by simp) (fun j => by simp [gn])
 simp only [nextB] at A
 rw [show KnO c slots plate [] = .mp (false, 0) ⟨[], fun _ => none⟩ by rw [KnO, knF_nil]; rfl] at A
 refine acI hTT hMX Tryd.func41 Tryd.ntmps41 fun C hC hF => ?_
 refine sK fun K hK => wR 2 ?_
 refine aops_x (M := [3]) hTT 4 [(0, .r (pn 3 (V.ref 100003 0) (100003 : Nat) ((yySG43 c))))] tI ?_
 refine nK hK ?_; clear hK K; refine sK fun K hK => ?_; refine sK fun K hK => wR 3 ?_
 refine aops_x (M := [3]) hTT 3 [(0, .c qSG40)] ⟨qSG40_, tI⟩ ?_
 refine eC (CheckCopies_ac c slots plate hl) ?_
 refine aX hTT 1 [] tI ?_; refine nK hK ?_; clear hK K; refine sK fun K hK => wR 4 ?_; refine aX hTT 2 [] tI ?_; refine nK hK ?_; clear hK K
 refine w_cond (t := !decide (chkC c slots plate = 0)) kR (fun c1 => ?_) (fun c1 => ?_)
 ·
  simp [hc] at c1
 refine aw_skip ?_
 refine xt_n (hK _ ?_); clear hK K; refine sK fun K hK => wR 5 ?_
 refine aops_x (M := [3, 28]) hTT 8 [(0, .c qSG40), (3, .r (pn 26 (V.own 400026) (400026 : Nat) (Ob.mp (false, (0 : Nat)) (MF.mk [] fun (x : MK) => none)))), (5, .r (pn 28 (V.ref 400028 0) (400028 : Nat) ((yySG40 c slots plate)))), (6, .r (pn 10 (V.ref 400010 0) (400010 : Nat) (Ob.box 99 [V.c (Value.pointer none)]))), (7, .r (pw ((0 : Nat) + (1 : Nat) ≤ (1 : Nat)) (400010 : Nat) (Ob.box 99 [V.ref 400028 0])))] ⟨qSG40_, oM, tI⟩ ?_
 refine nK hK ?_; clear hK K; refine sK fun K hK => wR 6 ?_
 refine aops_x (M := [3, 28]) hTT 3 [(0, .r (pn 11 (V.ref 500011 0) (500011 : Nat) (Ob.box 22 [V.nil]))), (1, .r (pn 12 (V.ref 500012 0) (500012 : Nat) (Ob.box 22 [V.nil]))), (2, .r (pn 13 (V.ref 500013 0) (500013 : Nat) (Ob.box 22 [V.nil])))] tI ?_
 refine nK hK ?_; clear hK K; refine sK fun K hK => wR 7 ?_
 refine aops_x (M := [3, 28]) hTT 2 [(0, .r (pn 14 (V.ref 600014 0) (600014 : Nat) (Ob.box 2 [V.i 0]))), (1, .r (pw ((0 : Nat) + (1 : Nat) ≤ (1 : Nat)) (600014 : Nat) (Ob.box 2 [V.i (-1)])))] ⟨oM, tI⟩ ?_
 refine nK hK ?_; clear hK K; refine sK fun K hK => wR 8 ?_
 refine aops_x (M := [3, 28]) hTT 1 [(0, .r (pn 15 (V.ref 700015 0) (700015 : Nat) (Ob.box 1 [V.c Value.nilFunc])))] tI ?_
 refine nK hK ?_; clear hK K; refine sK fun K hK => wR 9 ?_
 refine aops_x (M := [3, 28]) hTT 2 [(1, .r (pw ((0 : Nat) + (1 : Nat) ≤ (1 : Nat)) (700015 : Nat) (Ob.box 1 [zzSG40])))] ⟨oM, tI⟩ ?_
 refine nK hK ?_; clear hK K; refine sK fun K hK => ?_
 refine w_le (le_openIn 500012 0 3 1 (SetF []) (t := 22) (cs := [.nil]) kR rfl kR kR) ?_
 refine w_le (le_openIn 500013 0 3 1 (SetF []) (t := 22) (cs := [.nil]) kR rfl kR kR) ?_
 refine w_le (le_openIn 500011 0 3 1 (SetF []) (t := 22) (cs := [.nil]) kR rfl kR kR) ?_
 refine wR 13 ?_; refine aX hTT 1 [(0, .c qSG40)] ⟨qSG40_, tI⟩ ?_
 refine aops_callM [500012, 100003, 400010, 500013, 600014, 500011, 700015, 900000, 400028, 400026, 1000000, 1100000] (first := []) (caps := [V.ref 500012 0, V.ref 100003 0, V.ref 400010 0, V.ref 500013 0, V.ref 600014 0, V.ref 500011 0, V.ref 700015 0]) (ins' := [Ob.box 22 [V.own 900000], (yySG43 c), Ob.box 99 [V.ref 400028 0], Ob.box 22 [V.own 1000000], Ob.box 2 [V.i (-1)], Ob.box 22 [V.own 1100000], Ob.box 1 [zzSG40], Ob.row 3 1 0 (SetF []), (yySG40 c slots plate), Ob.mp (false, (0 : Nat)) (MF.mk [] fun (x : MK) => none), Ob.row 3 1 0 (SetF []), Ob.row 3 1 0 (SetF [])]) (v' := V.tup []) (δ := [(500012, Option.some (Ob.box 22 [V.own 1200031])), (100003, Option.some ((yySG43 c))), (400010, Option.some (Ob.box 99 [V.ref 400028 0])), (500013, Option.some (Ob.box 22 [V.own 1201031])), (600014, Option.some (Ob.box 2 [V.i (Prod.fst (yySG41 c slots plate))])), (500011, Option.some (Ob.box 22 [V.own 1202031])), (700015, Option.some (Ob.box 1 [zzSG40])), (900000, Option.none), (400028, Option.some ((yySG40 c slots plate))), (400026, Option.some (Ob.mp (false, List.length (Prod.snd (yySG41 c slots plate))) (MF.mk [] (MF.rest (knF c slots plate (Prod.snd (yySG41 c slots plate))))))), (1000000, Option.none), (1100000, Option.none), (1200031, Option.some (Ob.row 3 1 0 fun (i : Nat) => V.renL (nameG yySG44 (some 31) [(500012 : Nat), (100003 : Nat), (400010 : Nat), (500013 : Nat), (600014 : Nat), (500011 : Nat), (700015 : Nat), (900000 : Nat), (400028 : Nat), (400026 : Nat), (1000000 : Nat), (1100000 : Nat)]) [V.i (↑(gn [] i) : Int)])), (1201031, Option.some (Ob.row 3 1 0 fun (i : Nat) => V.renL (nameG yySG44 (some 31) [(500012 : Nat), (100003 : Nat), (400010 : Nat), (500013 : Nat), (600014 : Nat), (500011 : Nat), (700015 : Nat), (900000 : Nat), (400028 : Nat), (400026 : Nat), (1000000 : Nat), (1100000 : Nat)]) [V.i (↑(gn [] i) : Int)])), (1202031, Option.some (Ob.row 3 1 (List.length (yySG42 c slots plate)) fun (i : Nat) => V.renL (nameG yySG44 (some 31) [(500012 : Nat), (100003 : Nat), (400010 : Nat), (500013 : Nat), (600014 : Nat), (500011 : Nat), (700015 : Nat), (900000 : Nat), (400028 : Nat), (400026 : Nat), (1000000 : Nat), (1100000 : Nat)]) [V.i (↑(gn (yySG42 c slots plate) i) : Int)]))]) (kp := [500012, 100003, 400010, 500013, 600014, 500011, 700015, 900000, 400028, 400026, 1000000, 1100000]) (A) kR kR kR kR kR kR rfl rfl kR (.box kR kR (.box kR kR (.box kR kR (.box kR kR (.box kR kR (.box kR kR (.box kR kR (.row kR (fun _ _ => rfl) (fun _ _ => rfl) (.box kR kR (.mp (fun _ => rfl) ?_ (.row kR (fun _ _ => rfl) (fun _ _ => rfl) (.row kR (fun _ _ => rfl) (fun _ _ => rfl) .nil)))))))))))) kR kR kR ?_
 ·
  intro k u h
  exact absurd h (by show ¬ (none = some u); simp)
 refine nK hK ?_; clear hK K; refine sK fun K hK => wD 14 ?_; refine aX hTT 5 [(0, .c qSG40), (1, .c qSG40)] ⟨qSG40_, qSG40_, tI⟩ ?_; refine aops_nil ⟨kR, ?_⟩; refine xt_n (hK _ ?_); clear hK K
 refine aw_ret ?_
 refine ret_own [(0, 1202031)] [(6, V.own 0), (7, V.i (Prod.fst (yySG41 c slots plate))), (8, V.i 0)] (.inr rfl) (.cons kR (.cons kR (.cons kR .nil))) (.cons ⟨Ob.row 3 1 (List.length (yySG42 c slots plate)) fun (i : Nat) => V.renL (nameG yySG44 (some (31 : Tmp)) [(500012 : Nat), (100003 : Nat), (400010 : Nat), (500013 : Nat), (600014 : Nat), (500011 : Nat), (700015 : Nat), (900000 : Nat), (400028 : Nat), (400026 : Nat), (1000000 : Nat), (1100000 : Nat)]) [V.i (↑(gn (yySG42 c slots plate) i) : Int)], kR, .row kR (fun _ _ => rfl)⟩ .nil) kR kR kR kR
set_option maxHeartbeats 2000000 in
set_option maxRecDepth 100000 in
theorem clone_nil : AC Tryd.prog 71 [.nil] .nil [] := by
 refine acI hTT hMX Tryd.func71 Tryd.ntmps71 fun C hC hF => ?_
 refine sK fun K hK => wR 2 ?_; refine aX hTT 1 [] tI ?_; refine nK hK ?_; clear hK K; refine sK fun K hK => ?_; refine sK fun K hK => wR 3 ?_; refine aX hTT 2 [] tI ?_; refine nK hK ?_; clear hK K; refine w_true (t := true) kR rfl ?_; refine sK fun K hK => wR 4 ?_; refine aX hTT 1 [] tI ?_; refine nK hK ?_; clear hK K
 refine aw_ret ?_
 refine xt_r ?_
 refine rP (V.nil)
abbrev yySG47 (slots : Int) (plate : Int) := (Prod.snd (sumK [] slots plate [] [] (0 : Int)))
abbrev yySG45 (slots : Int) (plate : Int) := (Prod.fst (yySG47 slots plate) == true && true == false)
abbrev yySG46 (slots : Int) (plate : Int) := (Prod.fst (yySG47 slots plate) == true)
set_option maxHeartbeats 2000000 in
set_option maxRecDepth 100000 in
theorem next_nil (slots plate : Int) (hc : chkC [] slots plate = 0) : AM Tryd.prog 70 frees [.box 22 [.nil], .box 34 [V.ints []], .box 99 [.ref 507 0], .box 22 [.nil], .box 2 [.i (-1)], .box 22 [.nil], .box 1 [.fn (.func 70) [] frees],
 PlB [] slots plate 508, KnO [] slots plate []] (.tup []) [none, none, none, none, some (.box 2 [.i 0]), some (.box 22 [.nil]), none, none, none] [] := by
 have A := sum_am [] slots plate [] [] hc (by simp) (fun k h => by simp at h)
 refine am_intro hTT hMX (fn := Tryd.f70) (N := _) ⟨Tryd.func70, rfl, Tryd.ntmps70, kR⟩ (by simp) rfl (by simp) (by simp) fun C hF => ?_
 refine sK fun K hK => wR 2 ?_; refine aX hTT 3 [(0, .c qSG40)] ⟨qSG40_, tI⟩ ?_; refine nK hK ?_; clear hK K; refine sK fun K hK => ?_; refine sK fun K hK => wR 3 ?_; refine aX hTT 4 [(1, .c qSG40)] ⟨qSG40_, tI⟩ ?_; refine nK hK ?_; clear hK K; refine w_true (t := true) kR rfl ?_; refine sK fun K hK => ?_; refine sK fun K hK => ?_
 refine w_le (le_openIn 503 0 3 1 (SetF []) (t := 22) (cs := [.nil]) kR rfl kR kR) ?_
 refine wR 5 ?_; refine aX hTT 2 [(0, .c qSG40), (1, .c qSG40)] ⟨qSG40_, qSG40_, tI⟩ ?_
 refine aops_callR [507, 508, 300000] (first := []) (caps := []) (ins' := [Ob.box 102 [V.sl 1 0 fun (k : Nat) => [V.i (gi [] k)], V.i slots, V.i plate, V.own 508], Ob.mp (false, (0 : Nat)) (MF.mk [] (knR [] slots plate [])), Ob.row 3 1 0 (SetF [])]) (v' := V.tup [V.i (Prod.fst (sumK [] slots plate [] [] (0 : Int))), V.b (Prod.fst (yySG47 slots plate))]) (δ := []) (kp := [507, 508, 300000]) (A) kR kR kR kR kR kR kR rfl kR kR ⟨kR, ⟨?_, ⟨(fun _ _ => rfl), tI⟩⟩⟩ kR kR kR ?_
 ·
  exact kn_inN [] slots plate [] _
 refine aX hTT 5 [] tI ?_; refine nK hK ?_; clear hK K; refine sK fun K hK => wR 6 ?_; refine aX hTT 10 [(2, .c (gA (yySG46 slots plate) ((0 : Nat) ≤ (1 : Nat)))), (3, .c (gD (yySG46 slots plate) True)), (4, .c (gB (yySG46 slots plate) True)), (5, .c (gA (yySG45 slots plate) True)), (6, .c (gA (yySG45 slots plate) ((0 : Nat) ≤ (1 : Nat)))), (7, .c (gC (yySG45 slots plate) True)), (8, .c (((yySG46 slots plate) = true → (yySG46 slots plate) = true) ∧ ((yySG46 slots plate) = true → True) ∧ ((yySG46 slots plate) = true → true = false → (yySG45 slots plate) = true))), (9, .c ((Prod.fst (yySG47 slots plate) = true → (yySG46 slots plate) = true) ∧ True))] ⟨⟨⟨tI, tI⟩, (by (intro _; simp; done))⟩, ⟨⟨(by (exact fun h => h)), ⟨tI, tI⟩⟩, (fun _ => tI)⟩, ⟨⟨(by (exact fun h => h)), tI⟩, (fun _ => tI)⟩, ⟨⟨tI, tI⟩, (fun _ => tI)⟩, ⟨⟨tI, tI⟩, (by (intro _; simp; done))⟩, ⟨⟨(by (exact fun h => h)), ⟨(by (exact fun h => h)), tI⟩⟩, (fun _ => tI)⟩, ⟨(by (exact fun h => h)), ⟨(fun _ => tI), (by (intro _; simp; done))⟩⟩, ⟨(by (exact fun h => h)), tI⟩, tI⟩ ?_; refine nK hK ?_; clear hK K
 refine w_cond (t := Prod.fst (Prod.snd (sumK [] slots plate [] [] (0 : Int))) && true) kR (fun c2 => ?_) (fun c2 => ?_)
 ·
  refine wR 7 ?_
  refine aX hTT 1 [(0, .c qSG40)] ⟨qSG40_, tI⟩ ?_
  refine eC (clone_nil) ?_
  refine aX hTT 3 [(1, .r (pw ((0 : Nat) + (1 : Nat) ≤ (1 : Nat)) (505 : Nat) (Ob.box 22 [V.nil]))), (2, .r (pw ((0 : Nat) + (1 : Nat) ≤ (1 : Nat)) (504 : Nat) (Ob.box 2 [V.i (Prod.fst (sumK [] slots plate [] [] (0 : Int)))])))] ⟨oM, oM, tI⟩ ?_; refine nK hK ?_; clear hK K
  refine aw_ret ?_
  refine xt_r ?_
  refine retM (v' := V.tup []) [] [] (.inr rfl) .nil (.cons ⟨Ob.box 2 [V.i (Prod.fst (sumK [] slots plate [] [] (0 : Int)))], kR, .box kR⟩ (.cons ⟨Ob.box 22 [V.nil], kR, .box kR⟩ .nil)) kR kR kR kR kR kR kR
 ·
  simp [sumK] at c2
set_option maxHeartbeats 2000000 in
set_option maxRecDepth 100000 in
theorem Gang_3 (slots plate : Int) (hc : chkC [] slots plate = 0) : AC Tryd.prog 41 [V.ints [], .i slots, .i plate] (.tup [V.ints [], .i 0, .i 0]) [] := by
 have A := next_nil slots plate hc
 rw [show KnO [] slots plate [] = .mp (false, 0) ⟨[], fun _ => none⟩ by rw [KnO, knF_nil]; rfl] at A
 have B := CheckCopies_ac [] slots plate (by simp)
 rw [hc] at B
 refine acI hTT hMX Tryd.func41 Tryd.ntmps41 fun C hC hF => ?_
 refine sK fun K hK => wR 2 ?_
 refine aops_x (M := [3]) hTT 4 [(0, .r (pn 3 (V.ref 100003 0) (100003 : Nat) (Ob.box 34 [V.sl 1 0 fun (k : Nat) => [V.i (gi [] k)]])))] tI ?_
 refine nK hK ?_; clear hK K; refine sK fun K hK => ?_; refine sK fun K hK => wR 3 ?_
 refine aops_x (M := [3]) hTT 3 [(0, .c qSG40)] ⟨qSG40_, tI⟩ ?_
 refine eC (B) ?_
 refine aops_x (M := [3, 28]) hTT 1 [] tI ?_
 refine nK hK ?_; clear hK K; refine sK fun K hK => wR 4 ?_
 refine aops_x (M := [3, 28]) hTT 2 [] tI ?_
 refine nK hK ?_; clear hK K; refine w_false (t := false) kR rfl ?_
 refine aw_skip ?_
 refine xt_n (hK _ ?_); clear hK K; refine sK fun K hK => wR 5 ?_
 refine aops_x (M := [3, 28]) hTT 8 [(0, .c qSG40), (3, .r (pn 26 (V.own 400026) (400026 : Nat) (Ob.mp (false, (0 : Nat)) (MF.mk [] fun (x : MK) => none)))), (5, .r (pn 28 (V.ref 400028 0) (400028 : Nat) (Ob.box 102 [V.sl 1 0 fun (k : Nat) => [V.i (gi [] k)], V.i slots, V.i plate, V.own 400026]))), (6, .r (pn 10 (V.ref 400010 0) (400010 : Nat) (Ob.box 99 [V.c (Value.pointer none)]))), (7, .r (pw ((0 : Nat) + (1 : Nat) ≤ (1 : Nat)) (400010 : Nat) (Ob.box 99 [V.ref 400028 0])))] ⟨qSG40_, oM, tI⟩ ?_
 refine nK hK ?_; clear hK K; refine sK fun K hK => wR 6 ?_
 refine aops_x (M := [3, 28]) hTT 3 [(0, .r (pn 11 (V.ref 500011 0) (500011 : Nat) (Ob.box 22 [V.nil]))), (1, .r (pn 12 (V.ref 500012 0) (500012 : Nat) (Ob.box 22 [V.nil]))), (2, .r (pn 13 (V.ref 500013 0) (500013 : Nat) (Ob.box 22 [V.nil])))] tI ?_
 refine nK hK ?_; clear hK K; refine sK fun K hK => wR 7 ?_
 refine aops_x (M := [3, 28]) hTT 2 [(0, .r (pn 14 (V.ref 600014 0) (600014 : Nat) (Ob.box 2 [V.i 0]))), (1, .r (pw ((0 : Nat) + (1 : Nat) ≤ (1 : Nat)) (600014 : Nat) (Ob.box 2 [V.i (-1)])))] ⟨oM, tI⟩ ?_
 refine nK hK ?_; clear hK K; refine sK fun K hK => wR 8 ?_
 refine aops_x (M := [3, 28]) hTT 1 [(0, .r (pn 15 (V.ref 700015 0) (700015 : Nat) (Ob.box 1 [V.c Value.nilFunc])))] tI ?_
 refine nK hK ?_; clear hK K; refine sK fun K hK => wR 9 ?_
 refine aops_x (M := [3, 28]) hTT 2 [(1, .r (pw ((0 : Nat) + (1 : Nat) ≤ (1 : Nat)) (700015 : Nat) (Ob.box 1 [zzSG40])))] ⟨oM, tI⟩ ?_
 refine nK hK ?_; clear hK K; refine sK fun K hK => wR 10 ?_
 refine aops_x (M := [3, 28]) hTT 1 [(0, .c qSG40)] ⟨qSG40_, tI⟩ ?_
 refine aops_callM [500012, 100003, 400010, 500013, 600014, 500011, 700015, 400028, 400026] (first := []) (caps := [V.ref 500012 0, V.ref 100003 0, V.ref 400010 0, V.ref 500013 0, V.ref 600014 0, V.ref 500011 0, V.ref 700015 0]) (ins' := [Ob.box 22 [V.nil], Ob.box 34 [V.sl 1 0 fun (k : Nat) => [V.i (gi [] k)]], Ob.box 99 [V.ref 400028 0], Ob.box 22 [V.nil], Ob.box 2 [V.i (-1)], Ob.box 22 [V.nil], Ob.box 1 [zzSG40], Ob.box 102 [V.sl 1 0 fun (k : Nat) => [V.i (gi [] k)], V.i slots, V.i plate, V.own 400026], Ob.mp (false, (0 : Nat)) (MF.mk [] fun (x : MK) => none)]) (v' := V.tup []) (δ := [(500012, Option.none), (100003, Option.none), (400010, Option.none), (500013, Option.none), (600014, Option.some (Ob.box 2 [V.i 0])), (500011, Option.some (Ob.box 22 [V.nil])), (700015, Option.none), (400028, Option.none), (400026, Option.none)]) (kp := [500012, 100003, 400010, 500013, 600014, 500011, 700015, 400028, 400026]) (A) kR kR kR kR kR kR rfl rfl kR (.box kR kR (.box kR kR (.box kR kR (.box kR kR (.box kR kR (.box kR kR (.box kR kR (.box kR kR (.mp (fun _ => rfl) ?_ .nil))))))))) kR kR kR ?_
 ·
  intro k u h
  exact absurd h (by show ¬ (none = some u); simp)
 refine nK hK ?_; clear hK K; refine sK fun K hK => wD 11 ?_; refine aX hTT 5 [(0, .c qSG40), (1, .c qSG40)] ⟨qSG40_, qSG40_, tI⟩ ?_; refine aops_nil ⟨kR, ?_⟩; refine xt_n (hK _ ?_); clear hK K
 refine aw_ret ?_
 refine ret_of_le (le_nil 6 (sz := 1) 0 (fun k => [.i (gi [] k)]) kR ?_) ?_
 ·
  rfl
 refine rP (V.tup [V.sl 1 0 fun (k : Nat) => [V.i (gi [] k)], V.i 0, V.i 0])
end Go.Proofs.YtfckkkmacjjmhaaDoor

namespace Go.Proofs.YtfckkkmacjjmhaaDoor
open Go.Ab Go.RowKit Go.Dw Go.Shelf
end Go.Proofs.YtfckkkmacjjmhaaDoor

namespace Go.Proofs.YtfckkkmacjjmhaaDoor
open Go.Ab Go.RowKit Go.Dw Go.Shelf
set_option maxHeartbeats 2000000 in
set_option maxRecDepth 100000 in
theorem isGang_ac (G : List Int) (hl : G.length ≤ 4611686018427387904) : AC Tryd.prog 44 [V.ints G] (.b (isGN G 0)) [] := by
 refine acI hTT hMX Tryd.func44 Tryd.ntmps44 fun C hC hF => ?_
 refine sK fun K hK => wR 2 ?_; refine aX hTT 1 [] tI ?_; refine nK hK ?_; clear hK K; refine sK fun K hK => wR 3 ?_; refine aX hTT 1 [] tI ?_; refine nK hK ?_; clear hK K; refine sK fun K hK => ?_; refine sK fun K hK => wR 4 ?_; refine aX hTT 1 [] tI ?_; refine nK hK ?_; clear hK K
 refine aw_block ?_
 refine w_loop (ι := Nat × Nat) (fun x => [(0, V.ints G), (3, .i x.2), (4, .i x.1)]) (fun _ => []) (fun x => x.1 ≤ G.length ∧ isGN G 0 = isGN (G.drop x.1) x.2 ∧ x.2 ≤ x.1) (fun x => G.length - x.1) (0, 0) ⟨Nat.zero_le _, rfl, Nat.le_refl _⟩ ?_ ?_
 ·
  refine le_ren [] (.cons kR (.cons kR (.cons kR .nil))) .nil kR kR
 rintro ⟨k, n⟩ ⟨hk, he, hn⟩
 simp only at hk he hn
 refine sK fun K hK => ?_; refine sK fun K hK => wR 2 ?_; refine aX hTT 4 [] tI ?_; refine nK hK ?_; clear hK K
 refine w_cond (t := decide ((↑k : Int) < (↑(List.length G) : Int))) kR (fun c1 => ?_) (fun c1 => ?_)
 ·
  have hk1 : k < G.length := by simpa using c1
  rw [isGN_drop hk1] at he
  refine aw_skip ?_
  refine xt_n (hK _ ?_); clear hK K; refine sK fun K hK => ?_
  refine aw_block ?_
  refine sK fun K hK => ?_; refine sK fun K hK => wR 3 ?_; refine aX hTT 13 [(2, .c ((0 : Int) ≤ (↑k : Int) ∧ (↑k : Int) < (↑(List.length G) : Int))), (6, .c (gA (decide (gi G k < 0) == false) True)), (7, .c (gA (decide (gi G k < 0) == false) True)), (8, .c (gC (decide (gi G k < 0) == false) ((0 : Int) ≤ (↑k : Int) ∧ (↑k : Int) < (↑(List.length G) : Int)))), (9, .c (gB (decide (gi G k < 0) == false) True)), (10, .c (gA (decide (gi G k < 0) == false) True)), (11, .c (gC (decide (gi G k < 0) == false) True)), (12, .c (True ∧ (decide (gi G k < 0) = false → (decide (gi G k < 0) == false) = true)))] ⟨oM, ⟨⟨tI, tI⟩, (fun _ => tI)⟩, ⟨⟨tI, tI⟩, (fun _ => tI)⟩, ⟨⟨(by (exact fun h => h)), ⟨(by (exact fun h => h)), tI⟩⟩, (by (intro hg; simp at hg; omega))⟩, ⟨⟨(by (exact fun h => h)), tI⟩, (fun _ => tI)⟩, ⟨⟨tI, tI⟩, (fun _ => tI)⟩, ⟨⟨(by (exact fun h => h)), ⟨(by (exact fun h => h)), tI⟩⟩, (fun _ => tI)⟩, ⟨tI, (by (intro h; rw [h]; rfl))⟩, tI⟩ ?_; refine nK hK ?_; clear hK K
  refine w_cond (t := decide (gi G k < 0) || decide ((↑n : Int) < gi G k)) kR (fun c2 => ?_) (fun c2 => ?_)
  ·
   rw [if_pos (by simpa using c2)] at he
   refine sK fun K hK => wR 4 ?_; refine aX hTT 1 [] tI ?_; refine nK hK ?_; clear hK K
   refine aw_ret ?_
   refine xt_r ?_
   refine xb_r ?_
   refine xt_r ?_; refine xt_r ?_
   refine xb_r ?_
   refine xt_r ?_
   rw [he]
   refine rP (V.b false)
  ·
   rw [if_neg (by simpa using c2)] at he
   refine aw_skip ?_
   refine xt_n (hK _ ?_); clear hK K; refine sK fun K hK => wR 4 ?_; refine aX hTT 6 [(2, .c ((0 : Int) ≤ (↑k : Int) ∧ (↑k : Int) < (↑(List.length G) : Int)))] ⟨oM, tI⟩ ?_; refine nK hK ?_; clear hK K
   refine w_cond (t := decide (gi G k = (↑n : Int))) kR (fun c3 => ?_) (fun c3 => ?_)
   ·
    rw [if_pos (by simpa using c3)] at he
    refine wR 5 ?_; refine aX hTT 3 [(1, .i ((↑n : Int) + 1))] ⟨oM, tI⟩ ?_; refine aops_nil ?_; refine xb_n ?_; refine xt_n (hK _ ?_); clear hK K; refine wR 6 ?_; refine aX hTT 3 [(1, .i ((↑k : Int) + 1))] ⟨oM, tI⟩ ?_; refine aops_nil ?_; refine xt_n ?_
    refine ⟨(k + 1, n + 1), ⟨by simp only; omega, he, by simp only; omega⟩, by refine le_ren [] (.cons kR (.cons kR (.cons kR .nil))) .nil kR kR, by simp only; omega⟩
   ·
    rw [if_neg (by simpa using c3)] at he
    refine aw_skip ?_
    refine xb_n ?_; refine xt_n (hK _ ?_); clear hK K; refine wR 5 ?_; refine aX hTT 3 [(1, .i ((↑k : Int) + 1))] ⟨oM, tI⟩ ?_; refine aops_nil ?_; refine xt_n ?_
    refine ⟨(k + 1, n), ⟨by simp only; omega, he, by simp only; omega⟩, by refine le_ren [] (.cons kR (.cons kR (.cons kR .nil))) .nil kR kR, by simp only; omega⟩
 ·
  simp at c1
  obtain rfl : k = G.length := by omega
  rw [List.drop_length, isGN] at he
  refine aw_exit ?_
  refine xt_x ?_; refine xt_x ?_
  refine xb_same ?_
  refine xt_n ?_; clear hK K; refine hK _ ?_; clear hK K; refine sK fun K hK => wR 3 ?_; refine aX hTT 1 [] tI ?_; refine nK hK ?_; clear hK K
  refine aw_ret ?_
  rw [he]
  refine rP (V.b true)
end Go.Proofs.YtfckkkmacjjmhaaDoor

namespace Go.Proofs.YtfckkkmacjjmhaaDoor
open Go.Ab Go.RowKit Go.Dw Go.Shelf
end Go.Proofs.YtfckkkmacjjmhaaDoor

namespace Go.Proofs.YtfckkkmacjjmhaaDoor
open Go.Ab Go.RowKit Go.Dw Go.Shelf
theorem Gang_ac (c : List Int) (slots plate : Int) (hl : c.length ≤ 4611686018427387904) : AC Tryd.prog 41 [V.ints c, .i slots, .i plate] (.tup [V.ints (gangV c slots plate).1, .i (gangV c slots plate).2, .i (chkC c slots plate)]) [] := by
 by_cases h : chkC c slots plate = 0
 ·
  rw [gangV, if_neg (by simp [h]), h]
  rcases Nat.eq_zero_or_pos c.length with h0 | h0
  ·
   obtain rfl : c = [] := List.eq_nil_of_length_eq_zero h0
   rw [if_pos (show ([] : List Int).length = 0 from rfl)]
   exact Gang_3 slots plate h
  ·
   rw [if_neg oM]
   exact (Gang_2 c slots plate hl h h0).shut1 (by simp [natI]) (fun i hi => natI_row hi) (fun _ => rfl) rfl rfl
 ·
  rw [gangV, if_pos h]
  exact Gang_1 c slots plate hl h
end Go.Proofs.YtfckkkmacjjmhaaDoor

namespace Go.Proofs.YtfckkkmacjjmhaaDoor
open Go.Ab Go.RowKit Go.Dw Go.Shelf
def exN : List Pan := [⟨-1, 0, 0, 310, 310⟩, ⟨0, 0, 0, 310, 310⟩, ⟨1, 1, 0, 310, 20⟩]
def exV : V := .sl 5 3 fun i => ([V.i (-1), V.i 0, V.i 0, V.i 310, V.i 310, V.i 0, V.i 0, V.i 0, V.i 310, V.i 310, V.i 1, V.i 1, V.i 0, V.i 310, V.i 20].drop (i * 5)).take 5
abbrev zzSN90 : V := V.sl 5 3 fun (i : Nat) => List.take (5 : Nat) (List.drop (i * 5) [V.i (-1), V.i 0, V.i 0, V.i 310, V.i 310, V.i 0, V.i 0, V.i 0, V.i 310, V.i 310, V.i 1, V.i 1, V.i 0, V.i 310, V.i 20])
set_option maxRecDepth 100000 in
theorem Example_ac : AC Tryd.prog 46 [] exV [] := by
 refine acI hTT hMX Tryd.func46 Tryd.ntmps46 fun C hC hF => ?_
 refine sK fun K hK => wR 2 ?_; refine aX hTT 1 [] tI ?_; refine nK hK ?_; clear hK K; refine sK fun K hK => wR 3 ?_; refine aX hTT 5 [] tI ?_; refine nK hK ?_; clear hK K
 refine aw_ret ?_
 refine rP (zzSN90)
theorem exV_imp : RImp exV (V.pans exN) := RImp.rows rfl fun i hi => by
 match i, hi with
 | 0, _ => rfl
 | 1, _ => rfl
 | 2, _ => rfl
theorem RImp_lit1 (l : List Int) : RImp (.sl 1 l.length fun i => ((l.map V.i).drop (i * 1)).take 1) (V.ints l) := RImp.rows rfl fun i hi => by
 rw [Nat.mul_one, List.drop_eq_getElem_cons (by simpa using hi)]
 simp [gi, List.getD_eq_getElem?_getD, List.getElem?_eq_getElem hi]
theorem ex_net : netE exN = 0 := by decide +kernel
theorem ex_page : pageN [1, 2] 0 1 true = 5 ∧ pageE [1, 2] 0 1 true = 0 := by decide +kernel
theorem ex_co : CO [1000, 300] := fun x hx => by simp at hx; omega
theorem ex_run : fewN [1000, 300] 8 = 167 := by
 refine fewN_eq ex_co (by decide) (by decide) ⟨by decide, by decide +kernel, fun s h1 h2 => ?_⟩
 have := plcS_mono ex_co h1 (show s ≤ 166 by omega) 2 (by decide)
 have e : plcS [1000, 300] 166 2 = 9 := by decide +kernel
 show (8 : Int) < plcS [1000, 300] s 2
 omega
theorem ex_runS : runS [1000, 300] 8 = 167 ∧ runE [1000, 300] 8 = 0 := by
 have h : chkC [1000, 300] 8 0 = 0 := by decide +kernel
 obtain ⟨e1, e2, _⟩ := runS_3 h (slots := 8) (by decide)
 exact ⟨by rw [e2, ex_run], e1⟩
set_option maxHeartbeats 2000000 in
set_option maxRecDepth 100000 in
theorem sWorks_ac : AC Tryd.prog 14 [] (.b true) [] := by
 refine acI hTT hMX Tryd.func14 Tryd.ntmps14 fun C hC hF => ?_
 have A1 := Page_ac [1, 2] 0 1 true (by simp)
 rw [ex_page.1, ex_page.2] at A1
 have A2 := Run_ac [1000, 300] 8 (by simp)
 rw [ex_runS.1, ex_runS.2] at A2
 have A3 := Folded_ac exN (by decide)
 rw [ex_net, netN_1 ex_net] at A3
 refine sK fun K hK => wR 2 ?_; refine aX hTT 1 [] tI ?_; refine nK hK ?_; clear hK K; refine sK fun K hK => wR 3 ?_; refine aX hTT 1 [] tI ?_
 refine eC (AC.conv (A1) (args' := [V.sl 1 2 fun (i : Nat) => List.take (1 : Nat) (List.drop (i * 1) [V.i 1, V.i 2]), V.i 0, V.i 1, V.b true]) ⟨?_, RImp.refl _, RImp.refl _, RImp.refl _, trivial⟩) ?_
 ·
  exact RImp_lit1 [1, 2]
 refine aX hTT 5 [] tI ?_; refine nK hK ?_; clear hK K; refine sK fun K hK => wR 4 ?_; refine aX hTT 1 [] tI ?_
 refine eC (AC.conv (A2) (args' := [V.sl 1 2 fun (i : Nat) => List.take (1 : Nat) (List.drop (i * 1) [V.i 1000, V.i 300]), V.i 8]) ⟨?_, RImp.refl _, trivial⟩) ?_
 ·
  exact RImp_lit1 [1000, 300]
 refine aX hTT 7 [] tI ?_; refine nK hK ?_; clear hK K; refine sK fun K hK => wR 5 ?_
 refine eC (Example_ac) ?_
 skip
 refine eC (AC.conv (A3) (args' := [zzSN90]) ⟨?_, trivial⟩) ?_
 ·
  exact exV_imp
 refine aX hTT 5 [] tI ?_; refine nK hK ?_; clear hK K; refine sK fun K hK => wR 6 ?_; refine aX hTT 27 [(2, .i ((0 : Int) + (0 : Int))), (4, .i ((0 : Int) + (0 : Int))), (7, .c (gA (true == true) True)), (8, .c (gD (true == true) True)), (9, .c ((true = true → (true == true) = true) ∧ True)), (11, .c (gA (true == true) True)), (12, .c (gD (true == true) True)), (13, .c ((true = true → (true == true) = true) ∧ True)), (15, .c (gA (true == true) True)), (16, .c (gB (true == true) True)), (17, .c (gD (true == true) True)), (18, .c ((true = true → (true == true) = true) ∧ True)), (20, .c (gA (true == true) True)), (21, .c (gD (true == true) ((0 : Int) ≤ (2 : Int) ∧ (2 : Int) < (↑(3 : Nat) : Int)))), (22, .c (gB (true == true) True)), (23, .c ((True ∧ True ∧ True ∧ True) ∧ ((true == true) = true → True))), (24, .c (gC (true == true) True)), (25, .c ((true = true → (true == true) = true) ∧ True))] ⟨oM, oM, ⟨⟨tI, tI⟩, (fun _ => tI)⟩, ⟨⟨(by (exact fun h => h)), ⟨tI, tI⟩⟩, (fun _ => tI)⟩, ⟨(by (exact fun h => h)), tI⟩, ⟨⟨tI, tI⟩, (fun _ => tI)⟩, ⟨⟨(by (exact fun h => h)), ⟨tI, tI⟩⟩, (fun _ => tI)⟩, ⟨(by (exact fun h => h)), tI⟩, ⟨⟨tI, tI⟩, (fun _ => tI)⟩, ⟨⟨(by (exact fun h => h)), tI⟩, (fun _ => tI)⟩, ⟨⟨(by (exact fun h => h)), ⟨tI, tI⟩⟩, (fun _ => tI)⟩, ⟨(by (exact fun h => h)), tI⟩, ⟨⟨tI, tI⟩, (fun _ => tI)⟩, ⟨⟨(by (exact fun h => h)), ⟨tI, tI⟩⟩, (by (intro _; simp; done))⟩, ⟨⟨(by (exact fun h => h)), tI⟩, (fun _ => tI)⟩, ⟨⟨tI, ⟨tI, ⟨tI, tI⟩⟩⟩, (fun _ => tI)⟩, ⟨⟨(by (exact fun h => h)), ⟨(by (exact fun h => h)), tI⟩⟩, (fun _ => tI)⟩, ⟨(by (exact fun h => h)), tI⟩, tI⟩ ?_; refine nK hK ?_; clear hK K
 refine aw_ret ?_
 refine rP (V.b (Rc.down (foldR exN (2 : Nat)) == false && true))
end Go.Proofs.YtfckkkmacjjmhaaDoor
