/-
  Several texts in one: Proofs of a lathe: reversed steps, the way back from a sample, a circle: the walks of the program. Conditions: told in each theorem. .. TopBands: the walk of the law. No condition.
-/
import Derived.Test.YtffggfnomhhckaaGreatDoorAbs42
import Derived.Test.YtffggfnomhhckaaGreatDoorX06
import Derived.Test.YtffggfnomhhckaaGreatDoorX00
import Derived.Test.YtffggfnomhhckaaGreatDoorX02
import Derived.Test.YtffggfnomhhckaaGreatDoorX05
import Derived.Test.YtffggfnomhhckaaGreatDoorX03
import Derived.Test.YtffggfnomhhckaaGreatDoorMC
namespace Go.Proofs.YtffggfnomhhckaaGreatDoor
open Go.Ab Go.RowKit Go.Dw Go.Shelf
def rvK (n i : Nat) (A : Nat → Int) (m : Nat) : Int := if m < i ∨ n < m + 1 + i then A (n - 1 - m) else A m
theorem rvK_0 {n : Nat} {A : Nat → Int} {m : Nat} (h : m < n) : rvK n 0 A m = A m := by
 unfold rvK
 rw [if_neg oM]
set_option maxRecDepth 100000 in
theorem Reverse_am (n : Nat) (A B : Nat → Int) (hn : n ≤ 1099511627776) : AM Tryz.prog 61 [.own 500] [.row 118 2 n (fun j => [.i (A j), .i (B j)])] (.tup []) [some (.row 118 2 n (fun j => [.i (A (n - 1 - j)), .i (B (n - 1 - j))]))] [] := by
 refine am_intro hTT hMX (fn := Tryz.f61) (N := _) ⟨Tryz.func61, rfl, Tryz.ntmps61, kR⟩ (by simp) rfl (by simp) (by simp) fun C hF => ?_
 refine sX hTT 2 5 [(2, .i ((↑n : Int) - 1))] ⟨oM, tI⟩ ?_
 refine aw_block ?_
 refine w_loop (ι := Nat) (fun i => [(0, .own 500), (2, .i i), (3, .i ((n : Int) - 1 - i))]) (fun i => [(500, .row 118 2 n (fun j => [.i (rvK n i A j), .i (rvK n i B j)]))]) (fun i => 2 * i ≤ n + 1) (fun i => n - i) 0 oM ?_ ?_
 ·
  refine le_ren (tl := [(0, V.own 500), (2, V.i 0), (3, V.i ((↑n : Int) - 1 - (↑(0 : Nat) : Int)))]) (sl := [(500, Ob.row 118 2 n fun (j : Nat) => [V.i (rvK n (0 : Nat) A j), V.i (rvK n (0 : Nat) B j)])]) [] (.cons kR (.cons kR (.cons ?_ .nil))) (.cons ⟨Ob.row 118 2 n fun (j : Nat) => [V.i (A j), V.i (B j)], kR, .row kR ?_⟩ .nil) kR kR
  ·
   show V.i ((n : Int) - 1) = V.i ((n : Int) - 1 - ((0 : Nat) : Int))
   simp
  intro m hm
  show _ = [V.i (rvK n 0 A m), V.i (rvK n 0 B m)]
  rw [rvK_0 hm, rvK_0 hm]
 intro i hi
 refine sK fun K hK => sX hTT 2 3 [] tI ?_
 refine w_cond (t := decide ((↑i : Int) < (↑n : Int) - 1 - (↑i : Int))) kR (fun c1 => ?_) (fun c1 => ?_)
 ·
  simp at c1
  have e : ((n : Int) - 1 - i).toNat = n - 1 - i := by omega
  refine aw_skip ?_
  refine xt_n (hK _ ?_); clear hK K; refine sK fun K hK => ?_
  refine aw_block ?_
  refine wD 3 (aX hTT 16 [(6, .c ((0 : Int) ≤ (↑n : Int) - 1 - (↑i : Int) ∧ (↑n : Int) - 1 - (↑i : Int) < (↑n : Int))), (7, .c (Int.toNat ((↑n : Int) - 1 - (↑i : Int)) < n ∧ (0 : Nat) ≤ (2 : Nat))), (10, .c ((0 : Int) ≤ (↑i : Int) ∧ (↑i : Int) < (↑n : Int))), (11, .c (i < n ∧ (0 : Nat) ≤ (2 : Nat))), (12, .c ((0 : Int) ≤ (↑i : Int) ∧ (↑i : Int) < (↑n : Int))), (13, .r (pw (i < n ∧ (0 : Nat) + (2 : Nat) ≤ (2 : Nat)) (500 : Nat) (Ob.row 118 2 n fun (j : Nat) => if j = i then [V.i (rvK n i A (Int.toNat ((↑n : Int) - 1 - (↑i : Int)))), V.i (rvK n i B (Int.toNat ((↑n : Int) - 1 - (↑i : Int))))] else [V.i (rvK n i A j), V.i (rvK n i B j)]))), (14, .c ((0 : Int) ≤ (↑n : Int) - 1 - (↑i : Int) ∧ (↑n : Int) - 1 - (↑i : Int) < (↑n : Int))), (15, .r (pw (Int.toNat ((↑n : Int) - 1 - (↑i : Int)) < n ∧ (0 : Nat) + (2 : Nat) ≤ List.length (if Int.toNat ((↑n : Int) - 1 - (↑i : Int)) = i then [V.i (rvK n i A (Int.toNat ((↑n : Int) - 1 - (↑i : Int)))), V.i (rvK n i B (Int.toNat ((↑n : Int) - 1 - (↑i : Int))))] else [V.i (rvK n i A (Int.toNat ((↑n : Int) - 1 - (↑i : Int)))), V.i (rvK n i B (Int.toNat ((↑n : Int) - 1 - (↑i : Int))))])) (500 : Nat) (Ob.row 118 2 n fun (j : Nat) => if j = Int.toNat ((↑n : Int) - 1 - (↑i : Int)) then V.i (rvK n i A i) :: V.i (rvK n i B i) :: List.append._f [] PUnit.unit (List.drop ((0 : Nat) + (2 : Nat)) (if Int.toNat ((↑n : Int) - 1 - (↑i : Int)) = i then [V.i (rvK n i A (Int.toNat ((↑n : Int) - 1 - (↑i : Int)))), V.i (rvK n i B (Int.toNat ((↑n : Int) - 1 - (↑i : Int))))] else [V.i (rvK n i A (Int.toNat ((↑n : Int) - 1 - (↑i : Int)))), V.i (rvK n i B (Int.toNat ((↑n : Int) - 1 - (↑i : Int))))])) else if j = i then [V.i (rvK n i A (Int.toNat ((↑n : Int) - 1 - (↑i : Int)))), V.i (rvK n i B (Int.toNat ((↑n : Int) - 1 - (↑i : Int))))] else [V.i (rvK n i A j), V.i (rvK n i B j)])))] ⟨oM, oM, oM, oM, oM, oM, oM, ⟨oM, ?_⟩, tI⟩ ?_)
  ·
   split <;> simp
  refine aops_nil ⟨kR, (xb_n (xt_n (hK _ ?_)))⟩; clear hK K; refine wR 4 (aX hTT 6 [(1, .i ((↑i : Int) + 1)), (3, .i ((↑n : Int) - 1 - (↑i : Int) - 1))] ⟨oM, oM, tI⟩ (aops_nil (xt_n ?_)))
  refine ⟨i + 1, by omega, ?_, by omega⟩
  refine le_ren (tl := [(0, V.own 500), (2, V.i (↑(i + 1) : Int)), (3, V.i ((↑n : Int) - 1 - (↑(i + 1) : Int)))]) (sl := [(500, Ob.row 118 2 n fun (j : Nat) => [V.i (rvK n (i + 1) A j), V.i (rvK n (i + 1) B j)])]) [] (.cons kR (.cons kR (.cons ?_ .nil))) (.cons ⟨Ob.row 118 2 n fun (j : Nat) => if j = Int.toNat ((↑n : Int) - 1 - (↑i : Int)) then V.i (rvK n i A i) :: V.i (rvK n i B i) :: List.append._f [] PUnit.unit (List.drop ((0 : Nat) + (2 : Nat)) (if Int.toNat ((↑n : Int) - 1 - (↑i : Int)) = i then [V.i (rvK n i A (Int.toNat ((↑n : Int) - 1 - (↑i : Int)))), V.i (rvK n i B (Int.toNat ((↑n : Int) - 1 - (↑i : Int))))] else [V.i (rvK n i A (Int.toNat ((↑n : Int) - 1 - (↑i : Int)))), V.i (rvK n i B (Int.toNat ((↑n : Int) - 1 - (↑i : Int))))])) else if j = i then [V.i (rvK n i A (Int.toNat ((↑n : Int) - 1 - (↑i : Int)))), V.i (rvK n i B (Int.toNat ((↑n : Int) - 1 - (↑i : Int))))] else [V.i (rvK n i A j), V.i (rvK n i B j)], kR, .row kR ?_⟩ .nil) kR kR
  ·
   show V.i ((n : Int) - 1 - i - 1) = V.i ((n : Int) - 1 - ((i + 1 : Nat) : Int))
   rw [show (n : Int) - 1 - i - 1 = (n : Int) - 1 - ((i + 1 : Nat) : Int) by omega]
  have hne : ¬ n - 1 - i = i := by omega
  have f1 : ∀ A : Nat → Int, rvK n i A i = A i := fun A => by unfold rvK; rw [if_neg oM]
  have f2 : ∀ A : Nat → Int, rvK n i A (n - 1 - i) = A (n - 1 - i) := fun A => by unfold rvK; rw [if_neg oM]
  intro m hm
  rw [e, if_neg hne]
  show _ = [V.i (rvK n (i + 1) A m), V.i (rvK n (i + 1) B m)]
  by_cases m1 : m = n - 1 - i
  ·
   have f3 : ∀ A : Nat → Int, rvK n (i + 1) A m = A i := fun A => by unfold rvK; rw [if_pos oM, show n - 1 - m = i by omega]
   rw [if_pos m1, f3, f3, f1, f1]
   rfl
  ·
   rw [if_neg m1]
   by_cases m2 : m = i
   ·
    have f4 : ∀ A : Nat → Int, rvK n (i + 1) A m = A (n - 1 - i) := fun A => by unfold rvK; rw [if_pos oM, m2]
    rw [if_pos m2, f4, f4, f2, f2]
   ·
    have f5 : ∀ A : Nat → Int, rvK n (i + 1) A m = rvK n i A m := fun A => by
     unfold rvK
     by_cases h : m < i ∨ n < m + 1 + i
     ·
      rw [if_pos h, if_pos oM]
     ·
      rw [if_neg h, if_neg oM]
    rw [if_neg m2, f5, f5]
 ·
  simp at c1
  refine aw_exit ?_
  refine xt_x ?_; refine xt_x ?_
  refine xb_same ?_
  refine retM (v' := V.tup []) [] [] (.inl rfl) .nil (.cons ⟨Ob.row 118 2 n fun (j : Nat) => [V.i (rvK n i A j), V.i (rvK n i B j)], kR, .row kR ?_⟩ .nil) kR kR kR kR kR kR kR
  intro m hm
  have e1 : ∀ A : Nat → Int, rvK n i A m = A (n - 1 - m) := fun A => by
   unfold rvK
   by_cases h : m < i ∨ n < m + 1 + i
   ·
    rw [if_pos h]
   ·
    rw [if_neg h, show n - 1 - m = m by omega]
  rw [e1, e1]
  rfl
abbrev lasO (n : Nat) (L : Nat → E5) : Ob := .row 120 5 n fun v => [.i (L v).r, .i (L v).a, .i (L v).f, .i (L v).t, .i (L v).w]
abbrev qTL40 : Prop := (2 : Nat) ≤ (5 : Nat)
theorem qTL40_ : qTL40 := oM
set_option maxRecDepth 100000 in
theorem way_am (n : Nat) (L : Nat → E5) (x : E5) (T : Nat) (h1 : (wayX L x T).f = -1) (h2 : ∀ t, t < T → ∃ u : Nat, (wayX L x t).f = u ∧ u < n) (hn : n ≤ 4096) (hT : T ≤ 1099511627775) :
  AM Tryz.prog 40 [.own 500, .agg [.i x.r, .i x.a, .i x.f, .i x.t, .i x.w]] [lasO n L] (.own 0) [none] [.row 118 2 (T + 1) (fun j => [.i (wayX L x (T - j)).r, .i (wayX L x (T - j)).a])] := by
 refine am_intro hTT hMX (fn := Tryz.f40) (N := _) ⟨Tryz.func40, rfl, Tryz.ntmps40, kR⟩ (by simp) rfl (by simp) (by simp) fun C hF => ?_
 refine sK fun K hK => wR 2 ?_
 refine aops_x (M := [3, 8]) hTT 2 [(0, .r (pn 3 (V.ref 100003 0) (100003 : Nat) (Ob.box 120 [V.i (E5.r x), V.i (E5.a x), V.i (E5.f x), V.i (E5.t x), V.i (E5.w x)])))] tI ?_
 refine nK hK ?_; clear hK K; refine sK fun K hK => wR 3 ?_
 refine aops_x (M := [3, 8]) hTT 4 [(1, .c ((0 : Nat) ≤ (5 : Nat))), (2, .r (pn 8 (V.own 200008) (200008 : Nat) (Ob.row 118 2 1 fun (i : Nat) => List.take (2 : Nat) (List.drop (i * 2) [V.i (E5.r x), V.i (E5.a x)]))))] ⟨oM, tI⟩ ?_
 refine nK hK ?_; clear hK K; refine sK fun K hK => ?_
 refine aw_block ?_
 refine w_loop (ι := Nat) (fun t => [(0, .own 500), (3, .ref 3 0), (5, .own 5)]) (fun t => [(500, lasO n L), (3, .box 120 [.i (wayX L x t).r, .i (wayX L x t).a, .i (wayX L x t).f, .i (wayX L x t).t, .i (wayX L x t).w]), (5, .row 118 2 (t + 1) (fun j => [.i (wayX L x j).r, .i (wayX L x j).a]))]) (fun t => t ≤ T) (fun t => T - t) 0 (Nat.zero_le _) ?_ ?_
 ·
  refine le_ren (tl := [(0, V.own 500), (3, V.ref 3 0), (5, V.own 5)]) (sl := [(500, Ob.row 120 5 n fun (v : Nat) => [V.i (E5.r (L v)), V.i (E5.a (L v)), V.i (E5.f (L v)), V.i (E5.t (L v)), V.i (E5.w (L v))]), (3, Ob.box 120 [V.i (E5.r (wayX L x (0 : Nat))), V.i (E5.a (wayX L x (0 : Nat))), V.i (E5.f (wayX L x (0 : Nat))), V.i (E5.t (wayX L x (0 : Nat))), V.i (E5.w (wayX L x (0 : Nat)))]), (5, Ob.row 118 2 1 fun (j : Nat) => [V.i (E5.r (wayX L x j)), V.i (E5.a (wayX L x j))])]) [(3, 100003), (5, 200008)] (.cons kR (.cons kR (.cons kR .nil))) (.cons ⟨Ob.row 120 5 n fun (v : Nat) => [V.i (E5.r (L v)), V.i (E5.a (L v)), V.i (E5.f (L v)), V.i (E5.t (L v)), V.i (E5.w (L v))], kR, .row kR (fun _ _ => rfl)⟩ (.cons ⟨Ob.box 120 [V.i (E5.r x), V.i (E5.a x), V.i (E5.f x), V.i (E5.t x), V.i (E5.w x)], kR, .box kR⟩ (.cons ⟨Ob.row 118 2 1 fun (i : Nat) => List.take (2 : Nat) (List.drop (i * 2) [V.i (E5.r x), V.i (E5.a x)]), kR, .row kR ?_⟩ .nil))) kR kR
  intro i hi
  obtain rfl : i = 0 := by omega
  rfl
 intro t ht
 refine sK fun K hK => sX hTT 2 3 [(1, .c qTL40)] ⟨qTL40_, tI⟩ ?_
 refine w_cond (t := !decide (E5.f (wayX L x t) = (-1 : Int))) kR (fun c1 => ?_) (fun c1 => ?_)
 ·
  simp at c1
  have hlt : t < T := by
   refine Classical.byContradiction fun hc => c1 ?_
   rw [show t = T by omega]; exact h1
  obtain ⟨u, hu, hun⟩ := h2 t hlt
  have e : wayX L x (t + 1) = L u := by rw [wayX, hu]; rfl
  rw [hu]
  refine aw_skip ?_
  refine xt_n (hK _ ?_); clear hK K
  refine aw_block ?_
  refine sX hTT 3 6 [(2, .c qTL40), (3, .c ((0 : Int) ≤ (↑u : Int) ∧ (↑u : Int) < (↑n : Int))), (4, .c (u < n ∧ (0 : Nat) ≤ (5 : Nat))), (5, .r (pw ((0 : Nat) + (5 : Nat) ≤ (5 : Nat)) (3 : Nat) (Ob.box 120 [V.i (E5.r (L u)), V.i (E5.a (L u)), V.i (E5.f (L u)), V.i (E5.t (L u)), V.i (E5.w (L u))])))] ⟨qTL40_, oM, oM, oM, tI⟩ (wR 4 (aX hTT 6 [(2, .c ((0 : Nat) ≤ (5 : Nat))), (4, .r (PR.mk (some (21 : Nat)) (some (t + 1 + (1 : Nat) ≤ (1099511627776 : Nat))) (V.own 300021) [((5 : Nat), none), ((300021 : Nat), some (Ob.row 118 2 (t + 1 + (1 : Nat)) (appRow (t + 1) (fun (j : Nat) => [V.i (E5.r (wayX L x j)), V.i (E5.a (wayX L x j))]) fun (i : Nat) => List.take (2 : Nat) (List.drop (i * 2) [V.i (E5.r (L u)), V.i (E5.a (L u))]))))] false))] ⟨oM, oM, tI⟩ (aops_nil (xb_n (xt_n ?_)))))
  refine ⟨t + 1, by omega, ?_, by omega⟩
  rw [e]
  refine le_ren (tl := [(0, V.own 500), (3, V.ref 3 0), (5, V.own 5)]) (sl := [(500, Ob.row 120 5 n fun (v : Nat) => [V.i (E5.r (L v)), V.i (E5.a (L v)), V.i (E5.f (L v)), V.i (E5.t (L v)), V.i (E5.w (L v))]), (3, Ob.box 120 [V.i (E5.r (L u)), V.i (E5.a (L u)), V.i (E5.f (L u)), V.i (E5.t (L u)), V.i (E5.w (L u))]), (5, Ob.row 118 2 (t + 1 + (1 : Nat)) fun (j : Nat) => [V.i (E5.r (wayX L x j)), V.i (E5.a (wayX L x j))])]) [(3, 3), (5, 300021)] (.cons kR (.cons kR (.cons kR .nil))) (.cons ⟨Ob.row 120 5 n fun (v : Nat) => [V.i (E5.r (L v)), V.i (E5.a (L v)), V.i (E5.f (L v)), V.i (E5.t (L v)), V.i (E5.w (L v))], kR, .row kR (fun _ _ => rfl)⟩ (.cons ⟨Ob.box 120 [V.i (E5.r (L u)), V.i (E5.a (L u)), V.i (E5.f (L u)), V.i (E5.t (L u)), V.i (E5.w (L u))], kR, .box kR⟩ (.cons ⟨Ob.row 118 2 (t + 1 + (1 : Nat)) (appRow (t + 1) (fun (j : Nat) => [V.i (E5.r (wayX L x j)), V.i (E5.a (wayX L x j))]) fun (i : Nat) => List.take (2 : Nat) (List.drop (i * 2) [V.i (E5.r (L u)), V.i (E5.a (L u))])), kR, .row kR ?_⟩ .nil))) kR kR
  intro i hi
  show _ = [V.i (wayX L x i).r, V.i (wayX L x i).a]
  by_cases h : i < t + 1
  ·
   rw [appRow, if_pos h]
  ·
   obtain rfl : i = t + 1 := by omega
   rw [appRow, if_neg h, Nat.sub_self, e]
   rfl
 ·
  simp at c1
  obtain rfl : t = T := by
   refine Classical.byContradiction fun hc => ?_
   obtain ⟨u, hu, _⟩ := h2 t oM
   omega
  refine aw_exit ?_
  refine xt_x ?_; refine xt_x ?_
  refine xb_same ?_
  refine xt_n ?_; clear hK K; refine hK _ ?_; clear hK K; refine sK fun K hK => wR 3 (aX hTT 1 [] tI ?_)
  refine aops_callM [5] (first := []) (caps := []) (ins' := [Ob.row 118 2 (t + 1) fun (j : Nat) => [V.i (E5.r (wayX L x j)), V.i (E5.a (wayX L x j))]]) (v' := V.tup []) (δ := [(5, Option.some (Ob.row 118 2 (t + 1) fun (i : Nat) => V.renL (nameG (2 : Nat) (some 23) [(5 : Nat)]) [V.i (E5.r (wayX L x (t + 1 - (1 : Nat) - i))), V.i (E5.a (wayX L x (t + 1 - (1 : Nat) - i)))]))]) (kp := [5]) (Reverse_am (t + 1) (fun j => (wayX L x j).r) (fun j => (wayX L x j).a) oM) kR kR kR kR kR kR rfl rfl kR (.row kR (fun _ _ => rfl) (fun _ _ => rfl) .nil) kR kR kR ?_
  refine nK hK ?_; clear hK K; refine sX hTT 4 2 [] tI ?_
  refine aw_ret ?_
  refine retM (v' := V.own 0) [(0, 5)] [(4, V.own 0)] (.inr rfl) (.cons kR .nil) (.cons ⟨Ob.row 118 2 (t + 1) fun (i : Nat) => V.renL (nameG (2 : Nat) (some (23 : Tmp)) [(5 : Nat)]) [V.i (E5.r (wayX L x (t + 1 - (1 : Nat) - i))), V.i (E5.a (wayX L x (t + 1 - (1 : Nat) - i)))], kR, .row kR (fun _ _ => rfl)⟩ .nil) kR kR kR kR kR kR kR
theorem appS {A B : Nat → Int} {t i : Nat} (h : i < t + 1) : appRow t (fun j => [V.i (A j), V.i (B j)]) (fun i => List.take 2 (List.drop (i * 2) [V.i (A t), V.i (B t)])) i = [V.i (A i), V.i (B i)] := by
 unfold appRow
 by_cases h1 : i < t
 ·
  rw [if_pos h1]
 ·
  obtain rfl : i = t := by omega
  rw [if_neg h1, Nat.sub_self]
  rfl
set_option maxRecDepth 100000 in
theorem circle_am (n : Nat) (L : Nat → E5) (U : Nat → Nat) (p : Nat) (h1 : ∀ m, U m < n ∧ (L (U m)).f = (U (m + 1) : Nat)) (h2 : 0 < p ∧ p ≤ n ∧ U (n + p) = U n ∧ ∀ q, 0 < q → q < p → U (n + q) ≠ U n) (hn : n ≤ 4096) :
  AM Tryz.prog 39 [.own 500, .i (U 0)] [lasO n L] (.own 0) [none] [.row 118 2 p (fun j => [.i (L (U (n + (p - 1 - j)))).r, .i (L (U (n + (p - 1 - j)))).a])] := by
 refine am_intro hTT hMX (fn := Tryz.f39) (N := _) ⟨Tryz.func39, rfl, Tryz.ntmps39, kR⟩ (by simp) rfl (by simp) (by simp) fun C hF => ?_
 refine sX hTT 2 1 [] tI (sK fun K hK => sX hTT 3 3 [] tI ?_)
 refine aw_block ?_
 refine w_loop (ι := Nat) (fun t => [(0, .own 500), (1, .i (U t)), (8, .i n), (9, .i t)]) (fun t => [(500, lasO n L)]) (fun t => t ≤ n) (fun t => n - t) 0 (Nat.zero_le _) ?_ ?_
 ·
  refine le_ren (sl := [(500, Ob.row 120 5 n fun (v : Nat) => [V.i (E5.r (L v)), V.i (E5.a (L v)), V.i (E5.f (L v)), V.i (E5.t (L v)), V.i (E5.w (L v))])]) [] (.cons kR (.cons kR (.cons kR (.cons kR .nil)))) (.cons ⟨Ob.row 120 5 n fun (v : Nat) => [V.i (E5.r (L v)), V.i (E5.a (L v)), V.i (E5.f (L v)), V.i (E5.t (L v)), V.i (E5.w (L v))], kR, .row kR (fun _ _ => rfl)⟩ .nil) kR kR
 intro t ht
 have ht1 := h1 t
 refine sX hTT 2 1 [] tI (sK fun K hK => ?_)
 refine w_cond (t := decide ((↑t : Int) < (↑n : Int))) kR (fun c1 => ?_) (fun c1 => ?_)
 ·
  simp at c1
  refine aw_skip ?_
  refine xt_n (hK _ ?_); clear hK K; refine sK fun K hK => ?_
  refine aw_block ?_
  refine wR 3 ?_
  refine aops_n hTT (M := []) (n := 6) [pv 11 (V.own 500), pv 12 (V.i (↑(U t) : Int)), pc 13 ((0 : Int) ≤ (↑(U t) : Int) ∧ (↑(U t) : Int) < (↑n : Int)) (V.oel 500 5 (U t) (0 : Nat)), pv 14 (V.oel 500 5 (U t) (2 : Nat)), pc 15 (U t < n ∧ (2 : Nat) ≤ (5 : Nat)) (V.i (E5.f (L (U t)))), pv 1 (V.i (E5.f (L (U t))))] kR kR ⟨oM, oM, tI⟩ ?_
  refine aops_nil (xb_n (xt_n (hK _ ?_))); clear hK K; refine wR 4 ?_
  refine aops_n hTT (M := []) (n := 2) [pc 16 ((-9223372036854775808 : Int) ≤ (↑t : Int) + 1 ∧ (↑t : Int) + 1 ≤ (9223372036854775807 : Int)) (V.i ((↑t : Int) + 1)), pv 9 (V.i ((↑t : Int) + 1))] kR kR ⟨oM, tI⟩ ?_
  refine aops_nil (xt_n ?_)
  rw [ht1.2]
  refine ⟨t + 1, by omega, ?_, by omega⟩
  refine le_ren (sl := [(500, Ob.row 120 5 n fun (v : Nat) => [V.i (E5.r (L v)), V.i (E5.a (L v)), V.i (E5.f (L v)), V.i (E5.t (L v)), V.i (E5.w (L v))])]) [] (.cons kR (.cons kR (.cons kR (.cons kR .nil)))) (.cons ⟨Ob.row 120 5 n fun (v : Nat) => [V.i (E5.r (L v)), V.i (E5.a (L v)), V.i (E5.f (L v)), V.i (E5.t (L v)), V.i (E5.w (L v))], kR, .row kR (fun _ _ => rfl)⟩ .nil) kR kR
 ·
  simp at c1
  have etn : t = n := by omega
  rw [etn]
  have hn0 := (h1 n).1
  refine aw_exit ?_
  refine xt_x ?_; refine xt_x ?_
  refine xb_same ?_
  refine xt_n ?_; clear hK K; refine hK _ ?_; clear hK K; refine sX hTT 3 1 [] tI (sX hTT 4 6 [(2, .c ((0 : Int) ≤ (↑(U n) : Int) ∧ (↑(U n) : Int) < (↑n : Int))), (3, .c (U n < n ∧ (0 : Nat) ≤ (5 : Nat))), (4, .r (pn 6 (V.ref 300006 0) (300006 : Nat) (Ob.box 120 [V.i 0, V.i 0, V.i 0, V.i 0, V.i 0]))), (5, .r (pw ((0 : Nat) + (5 : Nat) ≤ (5 : Nat)) (300006 : Nat) (Ob.box 120 [V.i (E5.r (L (U n))), V.i (E5.a (L (U n))), V.i (E5.f (L (U n))), V.i (E5.t (L (U n))), V.i (E5.w (L (U n)))])))] ⟨oM, oM, oM, tI⟩ ?_)
  refine aw_block ?_
  refine w_le (le_open 5 118 2 (fun j => [.i (L (U (n + j))).r, .i (L (U (n + j))).a]) kR kR) ?_
  refine w_loop (ι := Nat) (fun t => [(0, .own 500), (1, .i (U n)), (5, .own 5), (6, .ref 6 0)]) (fun t => [(500, lasO n L), (6, .box 120 [.i (L (U (n + t))).r, .i (L (U (n + t))).a, .i (L (U (n + t))).f, .i (L (U (n + t))).t, .i (L (U (n + t))).w]), (5, .row 118 2 t (fun j => [.i (L (U (n + j))).r, .i (L (U (n + j))).a]))]) (fun t => t < p) (fun t => p - t) 0 h2.1 ?_ ?_
  ·
   refine le_ren (sl := [(500, Ob.row 120 5 n fun (v : Nat) => [V.i (E5.r (L v)), V.i (E5.a (L v)), V.i (E5.f (L v)), V.i (E5.t (L v)), V.i (E5.w (L v))]), (6, Ob.box 120 [V.i (E5.r (L (U (n + 0)))), V.i (E5.a (L (U (n + 0)))), V.i (E5.f (L (U (n + 0)))), V.i (E5.t (L (U (n + 0)))), V.i (E5.w (L (U (n + 0))))]), (5, Ob.row 118 2 0 fun (j : Nat) => [V.i (E5.r (L (U (n + j)))), V.i (E5.a (L (U (n + j))))])]) [(5, 400005), (6, 300006)] (.cons kR (.cons kR (.cons kR (.cons kR .nil)))) (.cons ⟨Ob.row 120 5 n fun (v : Nat) => [V.i (E5.r (L v)), V.i (E5.a (L v)), V.i (E5.f (L v)), V.i (E5.t (L v)), V.i (E5.w (L v))], kR, .row kR (fun _ _ => rfl)⟩ (.cons ⟨Ob.box 120 [V.i (E5.r (L (U n))), V.i (E5.a (L (U n))), V.i (E5.f (L (U n))), V.i (E5.t (L (U n))), V.i (E5.w (L (U n)))], kR, .box kR⟩ (.cons ⟨Ob.row 118 2 0 fun (j : Nat) => [V.i (E5.r (L (U (n + j)))), V.i (E5.a (L (U (n + j))))], kR, .row kR (fun _ _ => rfl)⟩ .nil))) kR kR
  intro t ht
  have ht1 := h1 (n + t)
  have ht2 := h1 (n + t + 1)
  rw [ht1.2]
  refine sK fun K hK => ?_
  refine aw_block ?_
  refine sX hTT 2 6 [(2, .c ((0 : Nat) ≤ (5 : Nat))), (4, .r (PR.mk (some (30 : Nat)) (some (t + 1 ≤ (1099511627776 : Nat))) (V.own 100030) [((5 : Nat), none), ((100030 : Nat), some (Ob.row 118 2 (t + 1) (appRow t (fun (j : Nat) => [V.i (E5.r (L (U (n + j)))), V.i (E5.a (L (U (n + j))))]) fun (i : Nat) => List.take (2 : Nat) (List.drop (i * 2) [V.i (E5.r (L (U (n + t)))), V.i (E5.a (L (U (n + t))))]))))] false))] ⟨oM, oM, tI⟩ (sX hTT 3 4 [(1, .c qTL40)] ⟨qTL40_, tI⟩ ?_)
  refine w_cond (t := decide ((↑(U (n + t + 1)) : Int) = (↑(U n) : Int))) kR (fun c2 => ?_) (fun c2 => ?_)
  ·
   have e : t + 1 = p := by
    simp at c2
    refine Classical.byContradiction fun hne => h2.2.2.2 (t + 1) oM oM ?_
    rw [show n + (t + 1) = n + t + 1 by omega]
    omega
   refine sK fun K hK => wR 4 (aX hTT 1 [] tI ?_)
   refine aops_callM [100030] (first := []) (caps := []) (ins' := [Ob.row 118 2 (t + 1) (appRow t (fun (j : Nat) => [V.i (E5.r (L (U (n + j)))), V.i (E5.a (L (U (n + j))))]) fun (i : Nat) => List.take (2 : Nat) (List.drop (i * 2) [V.i (E5.r (L (U (n + t)))), V.i (E5.a (L (U (n + t))))]))]) (v' := V.tup []) (δ := [(100030, Option.some (Ob.row 118 2 (t + 1) fun (i : Nat) => V.renL (nameG (3 : Nat) (some 36) [(100030 : Nat)]) [V.i (E5.r (L (U (n + (t + 1 - (1 : Nat) - i))))), V.i (E5.a (L (U (n + (t + 1 - (1 : Nat) - i)))))]))]) (kp := [100030]) (Reverse_am (t + 1) (fun j => (L (U (n + j))).r) (fun j => (L (U (n + j))).a) oM) kR kR kR kR kR kR rfl rfl kR (.row kR ?_ (fun _ _ => rfl) .nil) kR kR kR ?_
   ·
    intro i hi
    exact appS (A := fun j => (L (U (n + j))).r) (B := fun j => (L (U (n + j))).a) hi
   refine nK hK ?_; clear hK K; refine sX hTT 5 2 [] tI ?_
   refine aw_ret ?_
   refine xb_r ?_
   refine xt_r (xt_r ?_)
   refine xb_r ?_
   subst e
   refine retM (v' := V.own 0) [(0, 100030)] [(4, V.own 0)] (.inr rfl) (.cons kR .nil) (.cons ⟨Ob.row 118 2 (t + 1) fun (i : Nat) => V.renL (nameG (3 : Nat) (some (36 : Tmp)) [(100030 : Nat)]) [V.i (E5.r (L (U (n + (t + 1 - (1 : Nat) - i))))), V.i (E5.a (L (U (n + (t + 1 - (1 : Nat) - i)))))], kR, .row kR (fun _ _ => rfl)⟩ .nil) kR kR kR kR kR kR kR
  ·
   have e : t + 1 < p := by
    simp at c2
    refine Classical.byContradiction fun hne => c2 ?_
    have e1 : t + 1 = p := by omega
    have e2 := h2.2.2.1
    rw [← e1, ← Nat.add_assoc] at e2
    rw [e2]
   refine aw_skip ?_
   refine xb_n (xt_n (hK _ ?_)); clear hK K; refine sK fun K hK => sX hTT 4 1 [(0, .c ((0 : Nat) ≤ (5 : Nat)))] ⟨oM, tI⟩ (wR 5 (aX hTT 2 [(0, .r (pn 6 (V.ref 400006 0) (400006 : Nat) (Ob.box 120 [V.i 0, V.i 0, V.i 0, V.i 0, V.i 0]))), (1, .r (pw ((0 : Nat) + (5 : Nat) ≤ (5 : Nat)) (400006 : Nat) (Ob.box 120 [V.i (E5.r (L (U (n + t)))), V.i (E5.a (L (U (n + t)))), V.i (↑(U (n + t + 1)) : Int), V.i (E5.t (L (U (n + t)))), V.i (E5.w (L (U (n + t))))])))] ⟨oM, tI⟩ (nK hK ?_))); clear hK K; refine wR 6 (aX hTT 6 [(2, .c qTL40), (3, .c ((0 : Int) ≤ (↑(U (n + t + 1)) : Int) ∧ (↑(U (n + t + 1)) : Int) < (↑n : Int))), (4, .c (U (n + t + 1) < n ∧ (0 : Nat) ≤ (5 : Nat))), (5, .r (pw ((0 : Nat) + (5 : Nat) ≤ (5 : Nat)) (400006 : Nat) (Ob.box 120 [V.i (E5.r (L (U (n + t + 1)))), V.i (E5.a (L (U (n + t + 1)))), V.i (E5.f (L (U (n + t + 1)))), V.i (E5.t (L (U (n + t + 1)))), V.i (E5.w (L (U (n + t + 1))))])))] ⟨qTL40_, oM, oM, oM, tI⟩ (aops_nil (xt_n ?_)))
   refine ⟨t + 1, e, ?_, by omega⟩
   refine le_ren (tl := [(0, V.own 500), (1, V.i (↑(U n) : Int)), (5, V.own 5), (6, V.ref 6 0)]) (sl := [(500, Ob.row 120 5 n fun (v : Nat) => [V.i (E5.r (L v)), V.i (E5.a (L v)), V.i (E5.f (L v)), V.i (E5.t (L v)), V.i (E5.w (L v))]), (6, Ob.box 120 [V.i (E5.r (L (U (n + (t + 1))))), V.i (E5.a (L (U (n + (t + 1))))), V.i (E5.f (L (U (n + (t + 1))))), V.i (E5.t (L (U (n + (t + 1))))), V.i (E5.w (L (U (n + (t + 1)))))]), (5, Ob.row 118 2 (t + 1) fun (j : Nat) => [V.i (E5.r (L (U (n + j)))), V.i (E5.a (L (U (n + j))))])]) [(5, 100030), (6, 400006)] (.cons kR (.cons kR (.cons kR (.cons kR .nil)))) (.cons ⟨Ob.row 120 5 n fun (v : Nat) => [V.i (E5.r (L v)), V.i (E5.a (L v)), V.i (E5.f (L v)), V.i (E5.t (L v)), V.i (E5.w (L v))], kR, .row kR (fun _ _ => rfl)⟩ (.cons ⟨Ob.box 120 [V.i (E5.r (L (U (n + t + 1)))), V.i (E5.a (L (U (n + t + 1)))), V.i (E5.f (L (U (n + t + 1)))), V.i (E5.t (L (U (n + t + 1)))), V.i (E5.w (L (U (n + t + 1))))], kR, .box kR⟩ (.cons ⟨Ob.row 118 2 (t + 1) (appRow t (fun (j : Nat) => [V.i (E5.r (L (U (n + j)))), V.i (E5.a (L (U (n + j))))]) fun (i : Nat) => List.take (2 : Nat) (List.drop (i * 2) [V.i (E5.r (L (U (n + t)))), V.i (E5.a (L (U (n + t))))])), kR, .row kR ?_⟩ .nil))) kR kR
   intro i hi
   exact appS (A := fun j => (L (U (n + j))).r) (B := fun j => (L (U (n + j))).a) hi
end Go.Proofs.YtffggfnomhhckaaGreatDoor

namespace Go.Proofs.YtffggfnomhhckaaGreatDoor
open Go.Ab Go.RowKit Go.Dw Go.Shelf
def chI (s : BS) : Int := match s.ch with
 | none => -1
 | some v => v
def rnd (b : Bl) (l : List Pt) (k : Nat) : BS := BS.rounds (edgesL b l) (rimI b l) k
def mid (b : Bl) (l : List Pt) (k j : Nat) : BS := (rnd b l k).begin.to k (edgesL b l) j
theorem mid_end (b : Bl) (l : List Pt) (k : Nat) : mid b l k (edgesL b l).length = rnd b l (k + 1) := rfl
theorem mid_succ {b : Bl} {l : List Pt} {k j : Nat} {e : BE} (h : (edgesL b l)[j]? = some e) : mid b l k (j + 1) = (mid b l k j).step k e := to_succ h
section
variable {b : Bl} {l : List Pt}
theorem SOk.e1 (h : SOk b l) : EOk l.length (edgesL b l) ∧ ∀ e ∈ edgesL b l, e.f ≠ e.t := edges_ok h.bl.1.1
theorem SOk.w (h : SOk b l) : ∀ e ∈ edgesL b l, -8454144 ≤ e.w ∧ e.w ≤ 8454144 := by
 obtain ⟨⟨q1, q2⟩, ⟨q3, q4⟩, ⟨q5, q6⟩, ⟨q7, q8⟩, ⟨q9, q10⟩, q11, q12⟩ := h.bl
 intro e he
 rcases edgesL_mem.1 he with ⟨i, hi, ⟨h1, rfl⟩ | ⟨h1, rfl⟩⟩ | ⟨i, h1, h2, rfl⟩
 ·
  simp only [slowE]; omega
 ·
  have a := h.pt i hi
  have c := h.pt (i - b.per.toNat) oM
  simp only [landE]; omega
 ·
  simp only [fastE]; omega
theorem SOk.i (h : SOk b l) (v : Nat) (hv : v < l.length) : -8454144 ≤ rimI b l v ∧ rimI b l v ≤ 8454144 := by
 obtain ⟨⟨q1, q2⟩, ⟨q3, q4⟩, ⟨q5, q6⟩, ⟨q7, q8⟩, ⟨q9, q10⟩, q11, q12⟩ := h.bl
 have a := h.pt v hv
 unfold rimI
 omega
theorem SOk.inv (h : SOk b l) (k : Nat) {j : Nat} (hj : j ≤ (edgesL b l).length) : BInv l.length (edgesL b l) (rimI b l) k j (mid b l k j) := binv_at h.e1.1 h.e1.2 k hj
theorem SOk.bd (h : SOk b l) {k j : Nat} (hk : k ≤ 4097) (hj : j ≤ (edgesL b l).length) {v : Nat} (hv : v < l.length) : -1152921504606846976 ≤ (mid b l k j).r v ∧ (mid b l k j).r v ≤ 8454144 := by
 have h1 := low_at (M := 8454144) (i := rimI b l) (by decide) h.e1.1 (fun e he => (h.w e he).1) (fun v hv => (h.i v hv).1) k j hj hv
 have h2 := (h.inv k hj).le v hv
 have h3 := (h.i v hv).2
 have h4 := edgesL_len (b := b) (l := l)
 have h5 := h.len
 have h6 : (k + 1) * (edgesL b l).length ≤ 4098 * 12288 := Nat.mul_le_mul oM oM
 have h7 : 8454144 * ((1 + (k + 1) * (edgesL b l).length : Nat) : Int) ≤ 8454144 * ((1 + 4098 * 12288 : Nat) : Int) := Int.mul_le_mul_of_nonneg_left oM (by decide)
 have e : mid b l k j = (BS.rounds (edgesL b l) (rimI b l) k).begin.to k (edgesL b l) j := rfl
 rw [e] at h2 ⊢
 omega
end
set_option maxRecDepth 100000 in
theorem edges_ac (b : Bl) (l : List Pt) : AC Tryz.prog 38 [.ptr (sdC b l)] (.fn (.func 60) [] [.ptr [.ptr (sdC b l)]]) [] := by
 refine acI hTT hMX Tryz.func38 Tryz.ntmps38 fun C hC hF => ?_
 refine sX hTT 2 2 [] tI (sX hTT 3 2 [] tI ?_)
 refine aw_ret ?_
 refine rP (V.fn (Fn.func (60 : Nat)) [] [V.ptr [V.ptr [V.i (Bl.per b), V.i (Bl.rim b), V.i (Bl.core b), V.i (Bl.land b), V.i (Bl.slow b), V.i (Bl.fast b), V.sl 2 (List.length l) fun (k : Nat) => [V.i (Prod.fst (gp l k)), V.i (Prod.snd (gp l k))], V.i (Bl.per b)]]])
def corB (b : Bl) (l : List Pt) (s : BS) (i : Nat) : Prop := 0 ≤ s.r i + ((gp l i).1 - b.core)
def corX (b : Bl) (l : List Pt) (i : Nat) : E5 := ⟨2, i, i, -1, (gp l i).1 - b.core⟩
structure SEnd (b : Bl) (l : List Pt) (K : Nat) (v : V) (obs : List Ob) : Prop where
 k : K ≤ l.length + 1
 go : ∀ k, k < K → (rnd b l (k + 1)).ch ≠ none
 out : ((rnd b l (K + 1)).ch = none ∧ (∀ i, i < l.length → corB b l (rnd b l (K + 1)) i) ∧ v = .agg [.own 0, .nil] ∧ obs = [.row 2 1 l.length fun i => [.i ((rnd b l (K + 1)).r i)]])
  ∨ (∃ i T, (rnd b l (K + 1)).ch = none ∧ i < l.length ∧ (∀ j, j < i → corB b l (rnd b l (K + 1)) j) ∧ ¬ corB b l (rnd b l (K + 1)) i ∧ T ≤ 1099511627775 ∧ (wayX (laE b l (rnd b l (K + 1))) (corX b l i) T).f = -1 ∧ (∀ t, t < T → ∃ u : Nat, (wayX (laE b l (rnd b l (K + 1))) (corX b l i) t).f = u ∧ u < l.length)
    ∧ v = .agg [.nil, .own 0] ∧ obs = [.row 118 2 (T + 1) (fun j => [.i (wayX (laE b l (rnd b l (K + 1))) (corX b l i) (T - j)).r, .i (wayX (laE b l (rnd b l (K + 1))) (corX b l i) (T - j)).a])])
  ∨ (∃ x p, K = l.length + 1 ∧ (rnd b l (K + 1)).ch = some x ∧ (∀ m, (rnd b l (K + 1)).ups x m < l.length ∧ (laE b l (rnd b l (K + 1)) ((rnd b l (K + 1)).ups x m)).f = ((rnd b l (K + 1)).ups x (m + 1) : Nat)) ∧ (0 < p ∧ p ≤ l.length ∧ (rnd b l (K + 1)).ups x (l.length + p) = (rnd b l (K + 1)).ups x l.length ∧ ∀ q, 0 < q → q < p → (rnd b l (K + 1)).ups x (l.length + q) ≠ (rnd b l (K + 1)).ups x l.length)
    ∧ v = .agg [.nil, .own 0] ∧ obs = [.row 118 2 p (fun j => [.i (laE b l (rnd b l (K + 1)) ((rnd b l (K + 1)).ups x (l.length + (p - 1 - j)))).r, .i (laE b l (rnd b l (K + 1)) ((rnd b l (K + 1)).ups x (l.length + (p - 1 - j)))).a])])
theorem chI_none {s : BS} : chI s = -1 ↔ s.ch = none := by
 unfold chI
 cases s.ch with
 | none => simp
 | some v => simp
abbrev radO (n : Nat) (s : BS) : Ob := .row 2 1 n fun v => [.i (s.r v)]
abbrev ini4 (b : Bl) (l : List Pt) (i : Nat) : Ob := .row 2 1 l.length fun v => [.i (if v < i then rimI b l v else 0)]
abbrev ini5 (b : Bl) (l : List Pt) (i : Nat) : Ob := .row 120 5 l.length fun v => [.i (if v < i then 1 else 0), .i (if v < i then (v : Int) else 0), .i (if v < i then -1 else 0), .i (if v < i then (v : Int) else 0), .i (if v < i then rimI b l v else 0)]
abbrev qTL50 : Prop := (0 : Nat) ≤ (1 : Nat)
theorem qTL50_ : qTL50 := oM
abbrev qTL51 : Prop := (3 : Nat) ≤ (5 : Nat)
theorem qTL51_ : qTL51 := oM
abbrev yyTL51 (b : Bl) (l : List Pt) (KE : Nat) : Ob := Ob.row 120 5 (List.length l) fun (v : Nat) => [V.i (E5.r (laE b l (rnd b l (KE + 1)) v)), V.i (E5.a (laE b l (rnd b l (KE + 1)) v)), V.i (E5.f (laE b l (rnd b l (KE + 1)) v)), V.i (E5.t (laE b l (rnd b l (KE + 1)) v)), V.i (E5.w (laE b l (rnd b l (KE + 1)) v))]
abbrev yyTL50 (b : Bl) (l : List Pt) (KE : Nat) := (15, (yyTL51 b l KE))
abbrev yyTL53 (b : Bl) (l : List Pt) : V := V.ptr [V.i (Bl.per b), V.i (Bl.rim b), V.i (Bl.core b), V.i (Bl.land b), V.i (Bl.slow b), V.i (Bl.fast b), V.sl 2 (List.length l) fun (k : Nat) => [V.i (Prod.fst (gp l k)), V.i (Prod.snd (gp l k))], V.i (Bl.per b)]
abbrev yyTL52 (b : Bl) (l : List Pt) := (0, (yyTL53 b l))
abbrev yyTL54 (l : List Pt) : Ob := Ob.row 120 5 (List.length l) fun (x : Nat) => [V.c (Value.int IntKind.i64 0), V.c (Value.int IntKind.i64 0), V.c (Value.int IntKind.i64 0), V.c (Value.int IntKind.i64 0), V.c (Value.int IntKind.i64 0)]
abbrev yyTL55 (l : List Pt) := ((0 : Int) ≤ (↑(List.length l) : Int) ∧ (↑(List.length l) : Int) ≤ (↑(List.length l) : Int) ∧ (↑(List.length l) : Int) ≤ 1099511627776)
abbrev yyTL56 (b : Bl) (l : List Pt) (KE : Nat) : Ob := Ob.row 2 1 (List.length l) fun (v : Nat) => [V.i (BS.r (rnd b l (KE + 1)) v)]
set_option maxRecDepth 100000 in
theorem search_ac (b : Bl) (l : List Pt) (h : SOk b l) {KE : Nat} {v : V} {obs : List Ob} (hE : SEnd b l KE v obs) : AC Tryz.prog 22 [.ptr (sdC b l)] v obs := by
 have hl := h.len
 refine acI hTT hMX Tryz.func22 Tryz.ntmps22 fun C hC hF => ?_
 refine sX hTT 2 1 [(0, .r (pn 2 (V.ref 100002 0) (100002 : Nat) (Ob.box 83 [V.nil, V.nil])))] tI (sX hTT 3 6 [] tI (sK fun K hK => wD 4 (aX hTT 8 [(1, .r (PR.mk (some (19 : Nat)) (some (yyTL55 l)) (V.own 300019) [((300019 : Nat), some (Ob.row 2 1 (List.length l) fun (x : Nat) => [V.c (Value.int IntKind.i64 0)]))] false)), (3, .r (PR.mk (some (21 : Nat)) (some (yyTL55 l)) (V.own 300021) [((300021 : Nat), some ((yyTL54 l)))] false)), (4, .r (pn 4 (V.ref 300004 0) (300004 : Nat) (Ob.box 26 [V.nil]))), (5, .r (pn 5 (V.ref 300005 0) (300005 : Nat) (Ob.box 116 [V.nil]))), (6, .r (pw ((0 : Nat) + (1 : Nat) ≤ (1 : Nat)) (300004 : Nat) (Ob.box 26 [V.own 300019]))), (7, .r (pw ((0 : Nat) + (1 : Nat) ≤ (1 : Nat)) (300005 : Nat) (Ob.box 116 [V.own 300021])))] ⟨⟨oM, oM⟩, ⟨oM, oM⟩, oM, oM, tI⟩ (aops_nil ⟨kR, (xt_n (hK _ ?_))⟩)))); clear hK K; refine sK fun K hK => sX hTT 5 2 [] tI ?_
 refine aw_block ?_
 refine w_loop (ι := Nat) (fun i => [(0, .ptr (sdC b l)), (2, .ref 2 0), (3, .i l.length), (4, .ref 4 0), (5, .ref 5 0), (22, .i l.length), (23, .i i)]) (fun i => [(2, .box 83 [.nil, .nil]), (4, .box 26 [.own 14]), (5, .box 116 [.own 15]), (14, ini4 b l i), (15, ini5 b l i)]) (fun i => i ≤ l.length) (fun i => l.length - i) 0 (Nat.zero_le _) ?_ ?_
 ·
  refine le_ren (sl := [(2, Ob.box 83 [V.nil, V.nil]), (4, Ob.box 26 [V.own 14]), (5, Ob.box 116 [V.own 15]), (14, Ob.row 2 1 (List.length l) fun (v : Nat) => [V.i (if v < 0 then rimI b l v else (0 : Int))]), (15, Ob.row 120 5 (List.length l) fun (v : Nat) => [V.i (if v < 0 then (1 : Int) else (0 : Int)), V.i (if v < 0 then (↑v : Int) else (0 : Int)), V.i (if v < 0 then (-1 : Int) else (0 : Int)), V.i (if v < 0 then (↑v : Int) else (0 : Int)), V.i (if v < 0 then rimI b l v else (0 : Int))])]) [(2, 100002), (4, 300004), (5, 300005), (14, 300019), (15, 300021)] (.cons kR (.cons kR (.cons kR (.cons kR (.cons kR (.cons kR (.cons kR .nil))))))) (.cons ⟨Ob.box 83 [V.nil, V.nil], kR, .box kR⟩ (.cons ⟨Ob.box 26 [V.own 300019], kR, .box kR⟩ (.cons ⟨Ob.box 116 [V.own 300021], kR, .box kR⟩ (.cons ⟨Ob.row 2 1 (List.length l) fun (x : Nat) => [V.c (Value.int IntKind.i64 0)], kR, .row kR (fun _ _ => rfl)⟩ (.cons ⟨(yyTL54 l), kR, .row kR (fun _ _ => rfl)⟩ .nil))))) kR kR
 intro i hi
 refine sX hTT 2 1 [] tI (sK fun K hK => ?_)
 refine w_cond (t := decide ((↑i : Int) < (↑(List.length l) : Int))) kR (fun c1 => ?_) (fun c1 => ?_)
 ·
  have h1 : i < l.length := by simpa using c1
  have h2 := h.i i h1
  refine aw_skip ?_
  refine xt_n (hK _ ?_); clear hK K; refine sK fun K hK => ?_
  refine aw_block ?_
  refine sX hTT 3 2 [] tI (sK fun K hK => wD 4 (aX hTT 4 [(0, .c qTL50)] ⟨qTL50_, tI⟩ ?_))
  refine eC (edge1_ac b l h i h1) ?_
  refine aX hTT 5 [(3, .c ((0 : Int) ≤ (↑i : Int) ∧ (↑i : Int) < (↑(List.length l) : Int))), (4, .r (pw (i < List.length l ∧ (0 : Nat) + (5 : Nat) ≤ (5 : Nat)) (15 : Nat) (Ob.row 120 5 (List.length l) fun (j : Nat) => if j = i then [V.i 1, V.i (↑i : Int), V.i (-1), V.i (↑i : Int), V.i (rimI b l i)] else [V.i (if j < i then (1 : Int) else (0 : Int)), V.i (if j < i then (↑j : Int) else (0 : Int)), V.i (if j < i then (-1 : Int) else (0 : Int)), V.i (if j < i then (↑j : Int) else (0 : Int)), V.i (if j < i then rimI b l j else (0 : Int))])))] ⟨oM, oM, tI⟩ (aops_nil ⟨kR, (xt_n (hK _ ?_))⟩); clear hK K
  refine w_le (s' := ⟨mkT [(0, .ptr (sdC b l)), (2, .ref 2 0), (3, .i l.length), (4, .ref 4 0), (5, .ref 5 0), (6, .i i), (22, .i l.length), (23, .i i)], mkS [(2, .box 83 [.nil, .nil]), (4, .box 26 [.own 14]), (5, .box 116 [.own 15]), (14, ini4 b l i), (15, ini5 b l (i + 1))], 1⟩) ?_ ?_
  ·
   refine le_ren (tl := [(yyTL52 b l), (2, V.ref 2 0), (3, V.i (↑(List.length l) : Int)), (4, V.ref 4 0), (5, V.ref 5 0), (6, V.i (↑i : Int)), (22, V.i (↑(List.length l) : Int)), (23, V.i (↑i : Int))]) (sl := [(2, Ob.box 83 [V.nil, V.nil]), (4, Ob.box 26 [V.own 14]), (5, Ob.box 116 [V.own 15]), (14, Ob.row 2 1 (List.length l) fun (v : Nat) => [V.i (if v < i then rimI b l v else (0 : Int))]), (15, Ob.row 120 5 (List.length l) fun (v : Nat) => [V.i (if v < i + 1 then (1 : Int) else (0 : Int)), V.i (if v < i + 1 then (↑v : Int) else (0 : Int)), V.i (if v < i + 1 then (-1 : Int) else (0 : Int)), V.i (if v < i + 1 then (↑v : Int) else (0 : Int)), V.i (if v < i + 1 then rimI b l v else (0 : Int))])]) [(2, 2), (4, 4), (5, 5), (14, 14), (15, 15)] (.cons kR (.cons kR (.cons kR (.cons kR (.cons kR (.cons kR (.cons kR (.cons kR .nil)))))))) (.cons ⟨Ob.box 83 [V.nil, V.nil], kR, .box kR⟩ (.cons ⟨Ob.box 26 [V.own 14], kR, .box kR⟩ (.cons ⟨Ob.box 116 [V.own 15], kR, .box kR⟩ (.cons ⟨Ob.row 2 1 (List.length l) fun (v : Nat) => [V.i (if v < i then rimI b l v else (0 : Int))], kR, .row kR (fun _ _ => rfl)⟩ (.cons ⟨Ob.row 120 5 (List.length l) fun (j : Nat) => if j = i then [V.i 1, V.i (↑i : Int), V.i (-1), V.i (↑i : Int), V.i (rimI b l i)] else [V.i (if j < i then (1 : Int) else (0 : Int)), V.i (if j < i then (↑j : Int) else (0 : Int)), V.i (if j < i then (-1 : Int) else (0 : Int)), V.i (if j < i then (↑j : Int) else (0 : Int)), V.i (if j < i then rimI b l j else (0 : Int))], kR, .row kR ?_⟩ .nil))))) kR kR
   intro j hj
   show _ = [V.i (if j < i + 1 then 1 else 0), V.i (if j < i + 1 then (j : Int) else 0), V.i (if j < i + 1 then -1 else 0), V.i (if j < i + 1 then (j : Int) else 0), V.i (if j < i + 1 then rimI b l j else 0)]
   by_cases h3 : j = i
   ·
    subst h3
    simp
   ·
    simp only [if_neg h3, show j < i + 1 ↔ j < i by omega]
  refine wD 2 (aX hTT 9 [(0, .c qTL50), (2, .c qTL50), (4, .c ((0 : Int) ≤ (↑i : Int) ∧ (↑i : Int) < (↑(List.length l) : Int))), (6, .c (i < List.length l ∧ (4 : Nat) ≤ (5 : Nat))), (7, .c ((0 : Int) ≤ (↑i : Int) ∧ (↑i : Int) < (↑(List.length l) : Int))), (8, .r (pw (i < List.length l ∧ (0 : Nat) + (1 : Nat) ≤ (1 : Nat)) (14 : Nat) (Ob.row 2 1 (List.length l) fun (j : Nat) => if j = i then [V.i (if i < i + 1 then rimI b l i else (0 : Int))] else [V.i (if j < i then rimI b l j else (0 : Int))])))] ⟨qTL50_, qTL50_, oM, oM, oM, oM, tI⟩ (aops_nil ⟨kR, (xb_n (xt_n (hK _ ?_)))⟩)); clear hK K; refine wR 3 (aX hTT 2 [(0, .i ((↑i : Int) + 1))] ⟨oM, tI⟩ (aops_nil (xt_n ?_)))
  refine ⟨i + 1, by omega, ?_, by omega⟩
  refine le_ren (tl := [(yyTL52 b l), (2, V.ref 2 0), (3, V.i (↑(List.length l) : Int)), (4, V.ref 4 0), (5, V.ref 5 0), (22, V.i (↑(List.length l) : Int)), (23, V.i (↑(i + 1) : Int))]) (sl := [(2, Ob.box 83 [V.nil, V.nil]), (4, Ob.box 26 [V.own 14]), (5, Ob.box 116 [V.own 15]), (14, Ob.row 2 1 (List.length l) fun (v : Nat) => [V.i (if v < i + 1 then rimI b l v else (0 : Int))]), (15, Ob.row 120 5 (List.length l) fun (v : Nat) => [V.i (if v < i + 1 then (1 : Int) else (0 : Int)), V.i (if v < i + 1 then (↑v : Int) else (0 : Int)), V.i (if v < i + 1 then (-1 : Int) else (0 : Int)), V.i (if v < i + 1 then (↑v : Int) else (0 : Int)), V.i (if v < i + 1 then rimI b l v else (0 : Int))])]) [(2, 2), (4, 4), (5, 5), (14, 14), (15, 15)] (.cons kR (.cons kR (.cons kR (.cons kR (.cons kR (.cons kR (.cons kR .nil))))))) (.cons ⟨Ob.box 83 [V.nil, V.nil], kR, .box kR⟩ (.cons ⟨Ob.box 26 [V.own 14], kR, .box kR⟩ (.cons ⟨Ob.box 116 [V.own 15], kR, .box kR⟩ (.cons ⟨Ob.row 2 1 (List.length l) fun (j : Nat) => if j = i then [V.i (if i < i + 1 then rimI b l i else (0 : Int))] else [V.i (if j < i then rimI b l j else (0 : Int))], kR, .row kR ?_⟩ (.cons ⟨Ob.row 120 5 (List.length l) fun (v : Nat) => [V.i (if v < i + 1 then (1 : Int) else (0 : Int)), V.i (if v < i + 1 then (↑v : Int) else (0 : Int)), V.i (if v < i + 1 then (-1 : Int) else (0 : Int)), V.i (if v < i + 1 then (↑v : Int) else (0 : Int)), V.i (if v < i + 1 then rimI b l v else (0 : Int))], kR, .row kR (fun _ _ => rfl)⟩ .nil))))) kR kR
  intro j hj
  show _ = [V.i (if j < i + 1 then rimI b l j else 0)]
  by_cases h3 : j = i
  ·
   subst h3
   simp
  ·
   simp only [if_neg h3, show j < i + 1 ↔ j < i by omega]
 ·
  have h1 : i = l.length := by simp at c1; omega
  refine aw_exit ?_
  refine xt_x ?_; refine xt_x ?_
  refine xb_same ?_
  refine xt_n ?_; clear hK K; refine hK _ ?_; clear hK K; refine sK fun K hK => sX hTT 3 1 [] tI ?_
  refine aw_block ?_
  refine w_loop (ι := Nat) (fun k => [(0, .ptr (sdC b l)), (2, .ref 2 0), (3, .i l.length), (4, .ref 4 0), (5, .ref 5 0), (7, .i k)]) (fun k => [(2, .box 83 [.nil, .nil]), (4, .box 26 [.own 14]), (5, .box 116 [.own 15]), (14, radO l.length (rnd b l k)), (15, lasO l.length (laE b l (rnd b l k)))]) (fun k => k ≤ KE) (fun k => KE - k) 0 (Nat.zero_le _) ?_ ?_
  ·
   refine le_ren (tl := [(yyTL52 b l), (2, V.ref 2 0), (3, V.i (↑(List.length l) : Int)), (4, V.ref 4 0), (5, V.ref 5 0), (7, V.i 0)]) (sl := [(2, Ob.box 83 [V.nil, V.nil]), (4, Ob.box 26 [V.own 14]), (5, Ob.box 116 [V.own 15]), (14, Ob.row 2 1 (List.length l) fun (v : Nat) => [V.i (BS.r (rnd b l (0 : Nat)) v)]), (15, Ob.row 120 5 (List.length l) fun (v : Nat) => [V.i (E5.r (laE b l (rnd b l (0 : Nat)) v)), V.i (E5.a (laE b l (rnd b l (0 : Nat)) v)), V.i (E5.f (laE b l (rnd b l (0 : Nat)) v)), V.i (E5.t (laE b l (rnd b l (0 : Nat)) v)), V.i (E5.w (laE b l (rnd b l (0 : Nat)) v))])]) [(2, 2), (4, 4), (5, 5), (14, 14), (15, 15)] (.cons kR (.cons kR (.cons kR (.cons kR (.cons kR (.cons kR .nil)))))) (.cons ⟨Ob.box 83 [V.nil, V.nil], kR, .box kR⟩ (.cons ⟨Ob.box 26 [V.own 14], kR, .box kR⟩ (.cons ⟨Ob.box 116 [V.own 15], kR, .box kR⟩ (.cons ⟨Ob.row 2 1 (List.length l) fun (v : Nat) => [V.i (if v < i then rimI b l v else (0 : Int))], kR, .row kR ?_⟩ (.cons ⟨Ob.row 120 5 (List.length l) fun (v : Nat) => [V.i (if v < i then (1 : Int) else (0 : Int)), V.i (if v < i then (↑v : Int) else (0 : Int)), V.i (if v < i then (-1 : Int) else (0 : Int)), V.i (if v < i then (↑v : Int) else (0 : Int)), V.i (if v < i then rimI b l v else (0 : Int))], kR, .row kR ?_⟩ .nil))))) kR kR
   ·
    intro j hj
    have e : j < i := by omega
    simp only [e, if_true]
    rfl
   ·
    intro j hj
    have e : j < i := by omega
    simp only [e, if_true]
    rfl
  intro k hk
  have hk2 := hE.k
  have hes := h.e1.1
  refine sK fun K hK => ?_
  refine aw_block ?_
  refine aw_scope ?_
  refine sX hTT 2 2 [(0, .r (pn 8 (V.ref 100008 0) (100008 : Nat) (Ob.box 3 [V.i 0]))), (1, .r (pw ((0 : Nat) + (1 : Nat) ≤ (1 : Nat)) (100008 : Nat) (Ob.box 3 [V.i (-1)])))] ⟨oM, tI⟩ (sK fun K hK => ?_)
  refine aw_label ?_
  refine xt_n (hK _ ?_); clear hK K; refine sK fun K hK => sK fun K hK => wR 3 (aX hTT 1 [] tI ?_)
  refine eC (edges_ac b l) ?_
  refine nK hK ?_; clear hK K
  refine aw_block ?_
  refine w_rangeI (caps := [V.ptr [(yyTL53 b l)]]) hF hC ((edges_it b l h)) kR kR ?_ kR [500, 501, 502, 503, 504, 505] [(505, 2), (500, 4), (501, 5), (504, 100008), (502, 14), (503, 15)] [(0, .ptr (sdC b l)), (2, .ref 505 0), (3, .i l.length), (4, .ref 500 0), (5, .ref 501 0), (7, .i k), (8, .ref 504 0)] (fun _ => True) (fun j => [.box 26 [.own 502], .box 116 [.own 503], radO l.length (mid b l k j), lasO l.length (laE b l (mid b l k j)), .box 3 [.i (chI (mid b l k j))], .box 83 [.nil, .nil]]) (fun _ _ _ => False) ?_ kR kR kR (.cons kR (.cons kR (.cons kR (.cons kR (.cons kR (.cons kR (.cons kR .nil))))))) (.cons ⟨Ob.box 26 [V.own 14], kR, .box kR⟩ (.cons ⟨Ob.box 116 [V.own 15], kR, .box kR⟩ (.cons ⟨Ob.row 2 1 (List.length l) fun (v : Nat) => [V.i (BS.r (rnd b l k) v)], kR, .row kR (fun _ _ => rfl)⟩ (.cons ⟨Ob.row 120 5 (List.length l) fun (v : Nat) => [V.i (E5.r (laE b l (rnd b l k) v)), V.i (E5.a (laE b l (rnd b l k) v)), V.i (E5.f (laE b l (rnd b l k) v)), V.i (E5.t (laE b l (rnd b l k) v)), V.i (E5.w (laE b l (rnd b l k) v))], kR, .row kR (fun _ _ => rfl)⟩ (.cons ⟨Ob.box 3 [V.i (-1)], kR, .box kR⟩ (.cons ⟨Ob.box 83 [V.nil, V.nil], kR, .box kR⟩ .nil)))))) kR ?_ ?_ ?_ ?_ ?_
  ·
   intro x hx
   simp only [edgesV, List.mem_map] at hx
   obtain ⟨j, _, rfl⟩ := hx
   rfl
  ·
   trivial
  ·
   intro j o ho
   simp at ho
   rcases ho with rfl | rfl | rfl | rfl | rfl | rfl <;> first | rfl | exact fun _ _ => rfl
  ·
   intro k e sx hf
   exact hf.elim
  ·
   rintro C' ⟨lx, hF'⟩ j x hx _
   obtain ⟨e, he, rfl⟩ : ∃ e, (edgesL b l)[j]? = some e ∧ x = edV e := by
    simp only [edgesV, List.getElem?_map, Option.map_eq_some_iff] at hx
    obtain ⟨e, he, rfl⟩ := hx
    exact ⟨e, he, rfl⟩
   have hj : j < (edgesL b l).length := (List.getElem?_eq_some_iff.1 he).1
   have hm := List.mem_of_getElem? he
   obtain ⟨hf, ht⟩ := hes e hm
   have hw := h.w e hm
   have b1 := h.bd (k := k) (j := j) oM oM hf
   have b2 := h.bd (k := k) (j := j) oM oM ht
   have hs := mid_succ (k := k) he
   refine wR 2 (aX hTT 2 [(0, .r (pn 9 (V.ref 100009 0) (100009 : Nat) (Ob.box 120 [V.i 0, V.i 0, V.i 0, V.i 0, V.i 0]))), (1, .r (pw ((0 : Nat) + (5 : Nat) ≤ (5 : Nat)) (100009 : Nat) (Ob.box 120 [V.i (BE.rule e), V.i (BE.at' e), V.i (↑(BE.f e) : Int), V.i (↑(BE.t e) : Int), V.i (BE.w e)])))] ⟨oM, tI⟩ (aops_nil (xt_n ?_)))
   refine aw_block ?_
   refine sK fun K hK => sK fun K hK => wD 3 (aX hTT 14 [(0, .c qTL50), (2, .c ((2 : Nat) ≤ (5 : Nat))), (3, .c ((0 : Int) ≤ (↑(BE.f e) : Int) ∧ (↑(BE.f e) : Int) < (↑(List.length l) : Int))), (4, .c (BE.f e < List.length l ∧ (0 : Nat) ≤ (1 : Nat))), (6, .c ((4 : Nat) ≤ (5 : Nat))), (7, .i (BS.r (mid b l k j) (BE.f e) + BE.w e)), (8, .c qTL50), (10, .c qTL51), (11, .c ((0 : Int) ≤ (↑(BE.t e) : Int) ∧ (↑(BE.t e) : Int) < (↑(List.length l) : Int))), (12, .c (BE.t e < List.length l ∧ (0 : Nat) ≤ (1 : Nat)))] ⟨qTL50_, oM, oM, oM, oM, oM, qTL50_, qTL51_, oM, oM, tI⟩ (aops_nil ⟨kR, (xt_n (hK _ ?_))⟩)); clear hK K
   refine w_cond (t := decide (BS.r (mid b l k j) (BE.t e) ≤ BS.r (mid b l k j) (BE.f e) + BE.w e)) kR (fun c2 => ?_) (fun c2 => ?_)
   ·
    have c3 : ¬ (mid b l k j).r e.f + e.w < (mid b l k j).r e.t := by simp at c2; omega
    have hs2 : mid b l k (j + 1) = mid b l k j := by rw [hs, BS.step, if_neg c3]
    refine aw_exit ?_
    refine xt_x ?_
    refine xb_same ?_
    refine ⟨trivial, ?_⟩
    refine le_ren (sl := [(500, Ob.box 26 [V.own 502]), (501, Ob.box 116 [V.own 503]), (502, Ob.row 2 1 (List.length l) fun (v : Nat) => [V.i (BS.r (mid b l k (j + 1)) v)]), (503, Ob.row 120 5 (List.length l) fun (v : Nat) => [V.i (E5.r (laE b l (mid b l k (j + 1)) v)), V.i (E5.a (laE b l (mid b l k (j + 1)) v)), V.i (E5.f (laE b l (mid b l k (j + 1)) v)), V.i (E5.t (laE b l (mid b l k (j + 1)) v)), V.i (E5.w (laE b l (mid b l k (j + 1)) v))]), (504, Ob.box 3 [V.i (chI (mid b l k (j + 1)))]), (505, Ob.box 83 [V.nil, V.nil])]) [] .nil (.cons ⟨Ob.box 26 [V.own 502], kR, .box kR⟩ (.cons ⟨Ob.box 116 [V.own 503], kR, .box kR⟩ (.cons ⟨Ob.row 2 1 (List.length l) fun (v : Nat) => [V.i (BS.r (mid b l k j) v)], kR, .row kR ?_⟩ (.cons ⟨Ob.row 120 5 (List.length l) fun (v : Nat) => [V.i (E5.r (laE b l (mid b l k j) v)), V.i (E5.a (laE b l (mid b l k j) v)), V.i (E5.f (laE b l (mid b l k j) v)), V.i (E5.t (laE b l (mid b l k j) v)), V.i (E5.w (laE b l (mid b l k j) v))], kR, .row kR ?_⟩ (.cons ⟨Ob.box 3 [V.i (chI (mid b l k j))], kR, .box ?_⟩ (.cons ⟨Ob.box 83 [V.nil, V.nil], kR, .box kR⟩ .nil)))))) kR kR
    ·
     intro v hv
     show _ = [V.i ((mid b l k (j + 1)).r v)]
     rw [hs2]
    ·
     intro v hv
     show _ = [V.i (laE b l (mid b l k (j + 1)) v).r, V.i (laE b l (mid b l k (j + 1)) v).a, V.i (laE b l (mid b l k (j + 1)) v).f, V.i (laE b l (mid b l k (j + 1)) v).t, V.i (laE b l (mid b l k (j + 1)) v).w]
     rw [hs2]
    ·
     show _ = [V.i (chI (mid b l k (j + 1)))]
     rw [hs2]
   ·
    have c3 : (mid b l k j).r e.f + e.w < (mid b l k j).r e.t := by simp at c2; omega
    have hr : ∀ v, (mid b l k (j + 1)).r v = if v = e.t then (mid b l k j).r e.f + e.w else (mid b l k j).r v := fun v => by
     rw [hs, BS.step, if_pos c3]
     by_cases h3 : v = e.t
     ·
      rw [if_pos h3, h3]; simp only [upd_same]
     ·
      rw [if_neg h3]; simp only [upd_ne _ _ h3]
    have hla : ∀ v, laE b l (mid b l k (j + 1)) v = if v = e.t then E5.of e else laE b l (mid b l k j) v := fun v => by
     rw [hs, BS.step, if_pos c3]
     by_cases h3 : v = e.t
     ·
      rw [if_pos h3, h3]; simp only [laE, upd_same]
     ·
      rw [if_neg h3]; simp only [laE, upd_ne _ _ h3]
    have hch : chI (mid b l k (j + 1)) = e.t := by rw [hs, BS.step, if_pos c3]; rfl
    refine aw_skip ?_
    refine xt_n (hK _ ?_); clear hK K; refine wD 4 (aX hTT 22 [(0, .c qTL50), (2, .c qTL51), (3, .c qTL50), (5, .c qTL51), (6, .c qTL50), (8, .c ((2 : Nat) ≤ (5 : Nat))), (9, .c ((0 : Int) ≤ (↑(BE.f e) : Int) ∧ (↑(BE.f e) : Int) < (↑(List.length l) : Int))), (10, .c (BE.f e < List.length l ∧ (0 : Nat) ≤ (1 : Nat))), (12, .c ((4 : Nat) ≤ (5 : Nat))), (13, .i (BS.r (mid b l k j) (BE.f e) + BE.w e)), (14, .c ((0 : Nat) ≤ (5 : Nat))), (16, .c qTL51), (17, .c ((0 : Int) ≤ (↑(BE.t e) : Int) ∧ (↑(BE.t e) : Int) < (↑(List.length l) : Int))), (18, .r (pw (BE.t e < List.length l ∧ (0 : Nat) + (1 : Nat) ≤ (1 : Nat)) (502 : Nat) (Ob.row 2 1 (List.length l) fun (j_1 : Nat) => if j_1 = BE.t e then [V.i (BS.r (mid b l k j) (BE.f e) + BE.w e)] else [V.i (BS.r (mid b l k j) j_1)]))), (19, .c ((0 : Int) ≤ (↑(BE.t e) : Int) ∧ (↑(BE.t e) : Int) < (↑(List.length l) : Int))), (20, .r (pw (BE.t e < List.length l ∧ (0 : Nat) + (5 : Nat) ≤ (5 : Nat)) (503 : Nat) (Ob.row 120 5 (List.length l) fun (j_1 : Nat) => if j_1 = BE.t e then [V.i (BE.rule e), V.i (BE.at' e), V.i (↑(BE.f e) : Int), V.i (↑(BE.t e) : Int), V.i (BE.w e)] else [V.i (E5.r (laE b l (mid b l k j) j_1)), V.i (E5.a (laE b l (mid b l k j) j_1)), V.i (E5.f (laE b l (mid b l k j) j_1)), V.i (E5.t (laE b l (mid b l k j) j_1)), V.i (E5.w (laE b l (mid b l k j) j_1))]))), (21, .r (pw ((0 : Nat) + (1 : Nat) ≤ (1 : Nat)) (504 : Nat) (Ob.box 3 [V.i (↑(BE.t e) : Int)])))] ⟨qTL50_, qTL51_, qTL50_, qTL51_, qTL50_, oM, oM, oM, oM, oM, oM, qTL51_, oM, oM, oM, oM, oM, tI⟩ (aops_nil ⟨kR, (xb_n ?_)⟩))
    refine ⟨trivial, ?_⟩
    refine le_ren (sl := [(500, Ob.box 26 [V.own 502]), (501, Ob.box 116 [V.own 503]), (502, Ob.row 2 1 (List.length l) fun (v : Nat) => [V.i (BS.r (mid b l k (j + 1)) v)]), (503, Ob.row 120 5 (List.length l) fun (v : Nat) => [V.i (E5.r (laE b l (mid b l k (j + 1)) v)), V.i (E5.a (laE b l (mid b l k (j + 1)) v)), V.i (E5.f (laE b l (mid b l k (j + 1)) v)), V.i (E5.t (laE b l (mid b l k (j + 1)) v)), V.i (E5.w (laE b l (mid b l k (j + 1)) v))]), (504, Ob.box 3 [V.i (chI (mid b l k (j + 1)))]), (505, Ob.box 83 [V.nil, V.nil])]) [] .nil (.cons ⟨Ob.box 26 [V.own 502], kR, .box kR⟩ (.cons ⟨Ob.box 116 [V.own 503], kR, .box kR⟩ (.cons ⟨Ob.row 2 1 (List.length l) fun (j_1 : Nat) => if j_1 = BE.t e then [V.i (BS.r (mid b l k j) (BE.f e) + BE.w e)] else [V.i (BS.r (mid b l k j) j_1)], kR, .row kR ?_⟩ (.cons ⟨Ob.row 120 5 (List.length l) fun (j_1 : Nat) => if j_1 = BE.t e then [V.i (BE.rule e), V.i (BE.at' e), V.i (↑(BE.f e) : Int), V.i (↑(BE.t e) : Int), V.i (BE.w e)] else [V.i (E5.r (laE b l (mid b l k j) j_1)), V.i (E5.a (laE b l (mid b l k j) j_1)), V.i (E5.f (laE b l (mid b l k j) j_1)), V.i (E5.t (laE b l (mid b l k j) j_1)), V.i (E5.w (laE b l (mid b l k j) j_1))], kR, .row kR ?_⟩ (.cons ⟨Ob.box 3 [V.i (↑(BE.t e) : Int)], kR, .box ?_⟩ (.cons ⟨Ob.box 83 [V.nil, V.nil], kR, .box kR⟩ .nil)))))) kR kR
    ·
     intro v hv
     show _ = [V.i ((mid b l k (j + 1)).r v)]
     rw [hr]
     by_cases h3 : v = e.t
     ·
      rw [if_pos h3, if_pos h3]
     ·
      rw [if_neg h3, if_neg h3]
    ·
     intro v hv
     show _ = [V.i (laE b l (mid b l k (j + 1)) v).r, V.i (laE b l (mid b l k (j + 1)) v).a, V.i (laE b l (mid b l k (j + 1)) v).f, V.i (laE b l (mid b l k (j + 1)) v).t, V.i (laE b l (mid b l k (j + 1)) v).w]
     rw [hla]
     by_cases h3 : v = e.t
     ·
      rw [if_pos h3, if_pos h3]
      rfl
     ·
      rw [if_neg h3, if_neg h3]
    ·
     show _ = [V.i (chI (mid b l k (j + 1)))]
     rw [hch]
  ·
   intro _
   rw [show (edgesV b l).length = (edgesL b l).length by simp [edgesV], mid_end]
   refine xb_n (xt_n (hK _ ?_)); clear hK K; refine sK fun K hK => sX hTT 2 2 [(0, .c qTL50)] ⟨qTL50_, tI⟩ ?_
   refine w_cond (t := decide (chI (rnd b l (k + 1)) = (-1 : Int))) kR (fun c3 => ?_) (fun c3 => ?_)
   ·
    have hno : (rnd b l (k + 1)).ch = none := chI_none.1 (by simpa using c3)
    have hkE : k = KE := Classical.byContradiction fun hc => hE.go k oM hno
    rw [hkE] at hno ⊢
    have hout := hE.out
    refine aw_exit ?_
    refine xt_x ?_
    refine xs_x ?_
    refine xb_ne rfl ?_
    refine xt_x ?_; refine xt_x ?_
    refine xb_same ?_
    refine xt_n ?_; clear hK K; clear hK K; refine hK _ ?_; clear hK K; refine sK fun K hK => sX hTT 3 2 [] tI ?_
    refine aw_block ?_
    refine w_loop (ι := Nat) (fun i => [(0, .ptr (sdC b l)), (2, .ref 2 0), (4, .ref 4 0), (5, .ref 5 0), (91, .i l.length), (92, .i i)]) (fun i => [(2, .box 83 [.nil, .nil]), (4, .box 26 [.own 14]), (5, .box 116 [.own 15]), (14, radO l.length (rnd b l (KE + 1))), (15, lasO l.length (laE b l (rnd b l (KE + 1))))]) (fun i => i ≤ l.length ∧ ∀ j, j < i → corB b l (rnd b l (KE + 1)) j) (fun i => l.length - i) 0 ⟨Nat.zero_le _, fun j hj => by omega⟩ ?_ ?_
    ·
     refine le_ren (sl := [(2, Ob.box 83 [V.nil, V.nil]), (4, Ob.box 26 [V.own 14]), (5, Ob.box 116 [V.own 15]), (14, (yyTL56 b l KE)), (yyTL50 b l KE)]) [(2, 505), (4, 500), (5, 501), (14, 502), (15, 503)] (.cons kR (.cons kR (.cons kR (.cons kR (.cons kR (.cons kR .nil)))))) (.cons ⟨Ob.box 83 [V.nil, V.nil], kR, .box kR⟩ (.cons ⟨Ob.box 26 [V.own 502], kR, .box kR⟩ (.cons ⟨Ob.box 116 [V.own 503], kR, .box kR⟩ (.cons ⟨(yyTL56 b l KE), kR, .row kR (fun _ _ => rfl)⟩ (.cons ⟨(yyTL51 b l KE), kR, .row kR (fun _ _ => rfl)⟩ .nil))))) kR kR
    rintro m ⟨hm, hcor⟩
    refine sX hTT 2 1 [] tI (sK fun K hK => ?_)
    refine w_cond (t := decide ((↑m : Int) < (↑(List.length l) : Int))) kR (fun c5 => ?_) (fun c5 => ?_)
    ·
     have hm1 : m < l.length := by simpa using c5
     obtain ⟨⟨p1, p2⟩, p3, p4⟩ := h.pt m hm1
     obtain ⟨q1, q2, ⟨q3, q4⟩, q5⟩ := h.bl
     have b1 := h.bd (k := KE) (j := (edgesL b l).length) oM (Nat.le_refl _) hm1
     rw [mid_end] at b1
     refine aw_skip ?_
     refine xt_n (hK _ ?_); clear hK K; refine sK fun K hK => ?_
     refine aw_block ?_
     refine sX hTT 3 2 [] tI (sK fun K hK => wR 4 (aX hTT 2 [] tI ?_))
     refine eC (edge2_ac b l h m hm1) ?_
     refine aX hTT 6 [(3, .r (pn 11 (V.ref 300011 0) (300011 : Nat) (Ob.box 120 [V.i 0, V.i 0, V.i 0, V.i 0, V.i 0]))), (4, .r (pw ((0 : Nat) + (5 : Nat) ≤ (5 : Nat)) (300011 : Nat) (Ob.box 120 [V.i 2, V.i (↑m : Int), V.i (↑m : Int), V.i (-1), V.i (Prod.fst (gp l m) - Bl.core b)])))] ⟨oM, tI⟩ (nK hK ?_); clear hK K; refine sK fun K hK => wD 5 (aX hTT 8 [(0, .c qTL50), (2, .c ((0 : Int) ≤ (↑m : Int) ∧ (↑m : Int) < (↑(List.length l) : Int))), (3, .c (m < List.length l ∧ (0 : Nat) ≤ (1 : Nat))), (5, .c ((4 : Nat) ≤ (5 : Nat))), (6, .i (BS.r (rnd b l (KE + 1)) m + (Prod.fst (gp l m) - Bl.core b)))] ⟨qTL50_, oM, oM, oM, oM, tI⟩ (aops_nil ⟨kR, (xt_n (hK _ ?_))⟩)); clear hK K
     refine w_cond (t := decide (BS.r (rnd b l (KE + 1)) m + (Prod.fst (gp l m) - Bl.core b) < 0)) kR (fun c6 => ?_) (fun c6 => ?_)
     ·
      have hbad : ¬ corB b l (rnd b l (KE + 1)) m := by simp at c6; unfold corB; omega
      rcases hout with ⟨_, q, _⟩ | ⟨i0, T, _, u1, u2, u3, u4, u5, u6, rfl, rfl⟩ | ⟨_, _, _, q, _⟩
      ·
       exact absurd (q m hm1) hbad
      ·
       have hmi : m = i0 := by
        rcases Nat.lt_trichotomy m i0 with hc | hc | hc
        ·
         exact absurd (u2 m hc) hbad
        ·
         exact hc
        ·
         exact absurd (hcor i0 hc) u3
       rw [hmi]
       refine sK fun K hK => wR 6 (aX hTT 2 [(0, .c qTL50), (1, .c ((0 : Nat) ≤ (5 : Nat)))] ⟨qTL50_, oM, tI⟩ ?_)
       refine aops_callM [15] (first := []) (caps := []) (ins' := [(yyTL51 b l KE)]) (v' := V.own 500111) (δ := [(15, Option.none), (500111, Option.some (Ob.row 118 2 (T + 1) fun (i : Nat) => V.renL (nameG (5 : Nat) (some 111) [(15 : Nat)]) [V.i (E5.r (wayX (laE b l (rnd b l (KE + 1))) (corX b l i0) (T - i))), V.i (E5.a (wayX (laE b l (rnd b l (KE + 1))) (corX b l i0) (T - i)))]))]) (kp := [15]) (way_am l.length (laE b l (rnd b l (KE + 1))) (corX b l i0) T u5 u6 hl u4) kR kR kR kR kR kR rfl rfl kR (.row kR (fun _ _ => rfl) (fun _ _ => rfl) .nil) kR kR kR ?_
       refine aX hTT 2 [(1, .r (pw ((0 : Nat) + (2 : Nat) ≤ (2 : Nat)) (2 : Nat) (Ob.box 83 [V.nil, V.own 500111])))] ⟨oM, tI⟩ (nK hK ?_); clear hK K
       refine aw_ret ?_
       refine xb_r ?_
       refine xt_r (xt_r ?_)
       refine xb_r ?_
       refine xt_r ?_
       refine ret_of_M ?_
       refine retMx (v' := V.agg [V.nil, V.own 0]) [(0, 500111), (100, 2)] [(2, V.ref 100 0)] [(100, Ob.box 83 [V.nil, V.own 0])] (.inr rfl) (.cons kR .nil) (.cons ⟨Ob.row 118 2 (T + 1) fun (i : Nat) => V.renL (nameG (5 : Nat) (some (111 : Tmp)) [(15 : Nat)]) [V.i (E5.r (wayX (laE b l (rnd b l (KE + 1))) (corX b l i0) (T - i))), V.i (E5.a (wayX (laE b l (rnd b l (KE + 1))) (corX b l i0) (T - i)))], kR, .row kR (fun _ _ => rfl)⟩ (.cons ⟨Ob.box 83 [V.nil, V.own 500111], kR, .box kR⟩ .nil)) kR kR kR kR kR kR kR
      ·
       rw [hno] at q; cases q
     ·
      have hgood : corB b l (rnd b l (KE + 1)) m := by simp at c6; unfold corB; omega
      refine aw_skip ?_
      refine xb_n (xt_n (hK _ ?_)); clear hK K; refine wR 6 (aX hTT 2 [(0, .i ((↑m : Int) + 1))] ⟨oM, tI⟩ (aops_nil (xt_n ?_)))
      refine ⟨m + 1, ⟨by omega, fun j hj => ?_⟩, ?_, by omega⟩
      ·
       by_cases hc : j = m
       ·
        rw [hc]; exact hgood
       ·
        exact hcor j oM
      refine le_ren (sl := [(2, Ob.box 83 [V.nil, V.nil]), (4, Ob.box 26 [V.own 14]), (5, Ob.box 116 [V.own 15]), (14, (yyTL56 b l KE)), (yyTL50 b l KE)]) [(2, 2), (4, 4), (5, 5), (14, 14), (15, 15)] (.cons kR (.cons kR (.cons kR (.cons kR (.cons kR (.cons kR .nil)))))) (.cons ⟨Ob.box 83 [V.nil, V.nil], kR, .box kR⟩ (.cons ⟨Ob.box 26 [V.own 14], kR, .box kR⟩ (.cons ⟨Ob.box 116 [V.own 15], kR, .box kR⟩ (.cons ⟨(yyTL56 b l KE), kR, .row kR (fun _ _ => rfl)⟩ (.cons ⟨(yyTL51 b l KE), kR, .row kR (fun _ _ => rfl)⟩ .nil))))) kR kR
    ·
     have hm1 : m = l.length := by simp at c5; omega
     rcases hout with ⟨_, _, rfl, rfl⟩ | ⟨i0, T, _, u1, u2, u3, _⟩ | ⟨_, _, _, q, _⟩
     ·
      refine aw_exit ?_
      refine xt_x ?_; refine xt_x ?_
      refine xb_same ?_
      refine xt_n ?_; clear hK K; refine hK _ ?_; clear hK K; refine sX hTT 3 3 [(0, .c qTL50), (2, .r (pw ((0 : Nat) + (2 : Nat) ≤ (2 : Nat)) (2 : Nat) (Ob.box 83 [V.own 14, V.nil])))] ⟨qTL50_, oM, tI⟩ ?_
      refine aw_ret ?_
      refine ret_of_M ?_
      refine retMx (v' := V.agg [V.own 0, V.nil]) [(0, 14), (100, 2)] [(2, V.ref 100 0)] [(100, Ob.box 83 [V.own 0, V.nil])] (.inr rfl) (.cons kR .nil) (.cons ⟨(yyTL56 b l KE), kR, .row kR (fun _ _ => rfl)⟩ (.cons ⟨Ob.box 83 [V.own 14, V.nil], kR, .box kR⟩ .nil)) kR kR kR kR kR kR kR
     ·
      exact absurd (hcor i0 oM) u3
     ·
      rw [hno] at q; cases q
   ·
    have hno : (rnd b l (k + 1)).ch ≠ none := fun hc => by
     rw [chI_none.2 hc] at c3
     simp at c3
    have hcase : k = KE ∧ KE = l.length + 1 ∨ k < KE := by
     by_cases hc : k = KE
     ·
      subst hc
      rcases hE.out with ⟨q, _⟩ | ⟨_, _, q, _⟩ | ⟨_, _, q, _⟩
      ·
       exact absurd q hno
      ·
       exact absurd q hno
      ·
       exact .inl ⟨rfl, q⟩
     ·
      exact .inr oM
    refine aw_skip ?_
    refine xt_n (hK _ ?_); clear hK K; refine sX hTT 3 3 [] tI ?_
    refine w_cond (t := decide ((↑(List.length l) : Int) < (↑k : Int))) kR (fun c4 => ?_) (fun c4 => ?_)
    ·
     simp at c4
     have hkE : k = KE := by omega
     rcases hE.out with ⟨q, _⟩ | ⟨_, _, q, _⟩ | ⟨x, p, q1, q2, q3, q4, rfl, rfl⟩
     ·
      rw [hkE] at hno; exact absurd q hno
     ·
      rw [hkE] at hno; exact absurd q hno
     rw [hkE]
     have hci : chI (rnd b l (KE + 1)) = ((rnd b l (KE + 1)).ups x 0 : Nat) := by rw [chI, q2]; rfl
     rw [hci]
     refine sK fun K hK => wR 4 (aX hTT 2 [(0, .c qTL50), (1, .c qTL50)] ⟨qTL50_, qTL50_, tI⟩ ?_)
     refine aops_callM [503] (first := []) (caps := []) (ins' := [(yyTL51 b l KE)]) (v' := V.own 300089) (δ := [(503, Option.none), (300089, Option.some (Ob.row 118 2 p fun (i : Nat) => V.renL (nameG (3 : Nat) (some 89) [(503 : Nat)]) [V.i (E5.r (laE b l (rnd b l (KE + 1)) (BS.ups (rnd b l (KE + 1)) x (List.length l + (p - 1 - i))))), V.i (E5.a (laE b l (rnd b l (KE + 1)) (BS.ups (rnd b l (KE + 1)) x (List.length l + (p - 1 - i)))))]))]) (kp := [503]) (circle_am l.length (laE b l (rnd b l (KE + 1))) ((rnd b l (KE + 1)).ups x) p q3 q4 hl) kR kR kR kR kR kR rfl rfl kR (.row kR (fun _ _ => rfl) (fun _ _ => rfl) .nil) kR kR kR ?_
     refine aX hTT 2 [(1, .r (pw ((0 : Nat) + (2 : Nat) ≤ (2 : Nat)) (505 : Nat) (Ob.box 83 [V.nil, V.own 300089])))] ⟨oM, tI⟩ (nK hK ?_); clear hK K
     refine aw_ret ?_
     refine xs_r ?_
     refine xb_r ?_
     refine xt_r (xt_r ?_)
     refine xb_r ?_
     refine xt_r ?_
     refine ret_of_M ?_
     refine retMx (v' := V.agg [V.nil, V.own 0]) [(0, 300089), (100, 505)] [(2, V.ref 100 0)] [(100, Ob.box 83 [V.nil, V.own 0])] (.inr rfl) (.cons kR .nil) (.cons ⟨Ob.row 118 2 p fun (i : Nat) => V.renL (nameG (3 : Nat) (some (89 : Tmp)) [(503 : Nat)]) [V.i (E5.r (laE b l (rnd b l (KE + 1)) (BS.ups (rnd b l (KE + 1)) x (List.length l + (p - 1 - i))))), V.i (E5.a (laE b l (rnd b l (KE + 1)) (BS.ups (rnd b l (KE + 1)) x (List.length l + (p - 1 - i)))))], kR, .row kR (fun _ _ => rfl)⟩ (.cons ⟨Ob.box 83 [V.nil, V.own 300089], kR, .box kR⟩ .nil)) kR kR kR kR kR kR kR
    ·
     simp at c4
     refine aw_skip ?_
     refine xs_n ?_
     refine xb_n (xt_n (hK _ ?_)); clear hK K; refine wR 4 (aX hTT 3 [(1, .i ((↑k : Int) + 1))] ⟨oM, tI⟩ (aops_nil (xt_n ?_)))
     refine ⟨k + 1, by omega, ?_, by omega⟩
     refine le_ren (sl := [(2, Ob.box 83 [V.nil, V.nil]), (4, Ob.box 26 [V.own 14]), (5, Ob.box 116 [V.own 15]), (14, Ob.row 2 1 (List.length l) fun (v : Nat) => [V.i (BS.r (rnd b l (k + 1)) v)]), (15, Ob.row 120 5 (List.length l) fun (v : Nat) => [V.i (E5.r (laE b l (rnd b l (k + 1)) v)), V.i (E5.a (laE b l (rnd b l (k + 1)) v)), V.i (E5.f (laE b l (rnd b l (k + 1)) v)), V.i (E5.t (laE b l (rnd b l (k + 1)) v)), V.i (E5.w (laE b l (rnd b l (k + 1)) v))])]) [(2, 505), (4, 500), (5, 501), (14, 502), (15, 503)] (.cons kR (.cons kR (.cons kR (.cons kR (.cons kR (.cons kR .nil)))))) (.cons ⟨Ob.box 83 [V.nil, V.nil], kR, .box kR⟩ (.cons ⟨Ob.box 26 [V.own 502], kR, .box kR⟩ (.cons ⟨Ob.box 116 [V.own 503], kR, .box kR⟩ (.cons ⟨Ob.row 2 1 (List.length l) fun (v : Nat) => [V.i (BS.r (rnd b l (k + 1)) v)], kR, .row kR (fun _ _ => rfl)⟩ (.cons ⟨Ob.row 120 5 (List.length l) fun (v : Nat) => [V.i (E5.r (laE b l (rnd b l (k + 1)) v)), V.i (E5.a (laE b l (rnd b l (k + 1)) v)), V.i (E5.f (laE b l (rnd b l (k + 1)) v)), V.i (E5.t (laE b l (rnd b l (k + 1)) v)), V.i (E5.w (laE b l (rnd b l (k + 1)) v))], kR, .row kR (fun _ _ => rfl)⟩ .nil))))) kR kR
  ·
   intro k e sx _ hf
   exact hf.elim
end Go.Proofs.YtffggfnomhhckaaGreatDoor

namespace Go.Proofs.YtffggfnomhhckaaGreatDoor
open Go.Ab Go.RowKit Go.Dw Go.Shelf
section
variable {b : Bl} {l : List Pt}
theorem SOk.fix (h : SOk b l) {k : Nat} (hk : (rnd b l (k + 1)).ch = none) : LSol b l (rnd b l (k + 1)).r ∧ ∀ g, LSol b l g → ∀ v, v < l.length → g v ≤ (rnd b l (k + 1)).r v := by
 have e : (rnd b l (k + 1)).r = (rnd b l k).r := by
  have := (pass_none (s := BS.rounds (edgesL b l) (rimI b l) k) (k := (k : Int)) hk).1
  show ((BS.rounds (edgesL b l) (rimI b l) k).pass k (edgesL b l)).r = _
  rw [this]; rfl
 rw [e]
 exact ⟨sol_iff.1 (fix_sol h.e1.1 h.e1.2 hk), fun g hg v hv => (binv_rounds (i := rimI b l) h.e1.1 h.e1.2 k).sol g (sol_iff.2 hg) v hv⟩
theorem first_none (hx : ∃ k, (rnd b l (k + 1)).ch = none) : ∃ k, (rnd b l (k + 1)).ch = none ∧ ∀ k', k' < k → (rnd b l (k' + 1)).ch ≠ none := by
 obtain ⟨k, h1, h2⟩ := least (fun k => (rnd b l (k + 1)).ch = none) hx
 exact ⟨k, h1, fun k' hk he => by have := h2 k' he; omega⟩
theorem search_ok (h : SOk b l) {o : List Int} (ho : LOut b l o) : AC Tryz.prog 22 [.ptr (sdC b l)] (.agg [V.ints o, .nil]) [] := by
 have he := rounds_end h.e1.1 h.e1.2 ⟨_, sol_iff.2 ho.2.1.1⟩ (Nat.le_refl l.length)
 obtain ⟨K, h1, h2⟩ := first_none (b := b) (l := l) ⟨l.length, he⟩
 have hK : K ≤ l.length := Classical.byContradiction fun hc => h2 l.length oM he
 obtain ⟨f1, f2⟩ := h.fix h1
 have eq : ∀ v, v < l.length → (rnd b l (K + 1)).r v = gi o v := fun v hv => Int.le_antisymm (ho.2.2 _ f1 v hv) (f2 _ ho.2.1.1 v hv)
 have A := search_ac b l h (v := .agg [.own 0, .nil]) (obs := [.row 2 1 l.length fun i => [.i ((rnd b l (K + 1)).r i)]]) ⟨by omega, h2, .inl ⟨h1, fun i hi => by
  have := ho.2.1.2 i hi
  unfold corB
  rw [eq i hi]; omega, rfl, rfl⟩⟩
 exact A.shut1 (n' := o.length) (row' := fun k => [.i (gi o k)]) ho.1.symm (fun i hi => by rw [eq i hi]) (fun _ => rfl) rfl rfl
theorem search_no (h : SOk b l) (hno : ¬ ∃ o, LOut b l o) : ∃ (m : Nat) (A B : Nat → Int), 0 < m ∧ AC Tryz.prog 22 [.ptr (sdC b l)] (.agg [.nil, .sl 2 m fun j => [.i (A j), .i (B j)]]) [] := by
 by_cases hx : ∃ k, k ≤ l.length + 1 ∧ (rnd b l (k + 1)).ch = none
 ·
  obtain ⟨k0, hk0, hk1⟩ := hx
  obtain ⟨K, h1, h2⟩ := first_none (b := b) (l := l) ⟨k0, hk1⟩
  have hK : K ≤ k0 := Classical.byContradiction fun hc => h2 k0 oM hk1
  obtain ⟨f1, f2⟩ := h.fix h1
  have hbad : ∃ i, i < l.length ∧ ¬ corB b l (rnd b l (K + 1)) i := Classical.byContradiction fun hc => hno (lout_of h.bl.1.1 ⟨f1, fun v hv => by
   have : corB b l (rnd b l (K + 1)) v := Classical.byContradiction fun hb => hc ⟨v, hv, hb⟩
   unfold corB at this
   omega⟩)
  obtain ⟨i, ⟨hi, hb⟩, hmin⟩ := least (fun i => i < l.length ∧ ¬ corB b l (rnd b l (K + 1)) i) hbad
  have hinv := h.inv K (Nat.le_refl (edgesL b l).length)
  rw [mid_end] at hinv
  have hpn := pass_none (s := BS.rounds (edgesL b l) (rimI b l) K) (k := (K : Int)) h1
  have hs : ∀ e ∈ edgesL b l, (rnd b l (K + 1)).r e.t ≤ (rnd b l (K + 1)).r e.f + e.w := by
   have e : (rnd b l (K + 1)).r = (rnd b l K).r := by
    show ((BS.rounds (edgesL b l) (rimI b l) K).pass K (edgesL b l)).r = _
    rw [hpn.1]; rfl
   rw [e]
   exact hpn.2
  obtain ⟨T, t1, t2, t3⟩ := way_ends (x := corX b l i) (v := i) h.e1.1 hinv hs hi rfl
  have hclk := hinv.clk i
  have hc2 := rounds_clk (edgesL b l) (rimI b l) (K + 1)
  have hT : T ≤ 1099511627775 := by
   have h4 := edgesL_len (b := b) (l := l)
   have h5 := h.len
   have h6 : (K + 1) * (edgesL b l).length ≤ 4099 * 12288 := Nat.mul_le_mul oM oM
   have h7 : (rnd b l (K + 1)).clk ≤ (K + 1) * (edgesL b l).length := hc2
   omega
  have A := search_ac b l h (v := .agg [.nil, .own 0]) (obs := _) ⟨by omega, h2, .inr (.inl ⟨i, T, h1, hi, fun j hj => Classical.byContradiction fun hb => by have := hmin j ⟨by omega, hb⟩; omega, hb, hT, t2, t3, rfl, rfl⟩)⟩
  exact ⟨T + 1, _, _, by omega, A.shut1 rfl (fun i hi => rfl) (fun _ => rfl) rfl rfl⟩
 ·
  have hno1 : ∀ k, k ≤ l.length + 1 → (rnd b l (k + 1)).ch ≠ none := fun k hk he => hx ⟨k, hk, he⟩
  obtain ⟨x, hch⟩ : ∃ x, (rnd b l (l.length + 1 + 1)).ch = some x := by
   cases hc : (rnd b l (l.length + 1 + 1)).ch with
   | none => exact absurd hc (hno1 _ (Nat.le_refl _))
   | some x => exact ⟨x, rfl⟩
  have hinv := h.inv (l.length + 1) (Nat.le_refl (edgesL b l).length)
  rw [mid_end] at hinv
  obtain ⟨c1, c2⟩ := hinv.chg x hch
  obtain ⟨m1, p, m2, m3, m4, m5⟩ := circle_min (b := b) h.e1.1 hinv c1 c2 oM
  have A := search_ac b l h (v := .agg [.nil, .own 0]) (obs := _) ⟨Nat.le_refl _, fun k hk => hno1 k oM, .inr (.inr ⟨x, p, rfl, hch, m1, ⟨m2, m4, by rw [ups_add]; exact m3, fun q hq hqp => by rw [ups_add]; exact m5 q hq hqp⟩, rfl, rfl⟩)⟩
  exact ⟨p, _, _, m2, A.shut1 rfl (fun i hi => rfl) (fun _ => rfl) rfl rfl⟩
end
set_option maxRecDepth 100000 in
theorem Outer_ok (b : Bl) (l : List Pt) (h : SOk b l) {o : List Int} (ho : LOut b l o) : AC Tryz.prog 10 [b.v, V.pts l] (.tup [V.ints o, .i 0]) [] := by
 refine acI hTT hMX Tryz.func10 Tryz.ntmps10 fun C hC hF => ?_
 refine sX hTT 2 3 [] tI (sK fun K hK => wR 3 (aX hTT 2 [] tI ?_))
 refine eC (newSide_ok b l h) ?_
 refine aX hTT 5 [] tI (nK hK ?_); clear hK K; refine sK fun K hK => sX hTT 4 2 [] tI (w_false (t := false) kR rfl ?_)
 refine aw_skip ?_
 refine xt_n (hK _ ?_); clear hK K; refine sK fun K hK => wR 5 (aX hTT 1 [] tI ?_)
 refine eC (search_ok h ho) ?_
 refine aX hTT 2 [(0, .r (pn 8 (V.ref 400008 0) (400008 : Nat) (Ob.box 83 [V.nil, V.nil]))), (1, .r (pw ((0 : Nat) + (2 : Nat) ≤ (2 : Nat)) (400008 : Nat) (Ob.box 83 [V.sl 1 (List.length o) fun (k : Nat) => [V.i (gi o k)], V.nil])))] ⟨oM, tI⟩ (nK hK ?_); clear hK K; refine sK fun K hK => sX hTT 6 4 [(1, .c ((1 : Nat) ≤ (2 : Nat)))] ⟨oM, tI⟩ (w_false (t := false) kR rfl ?_)
 refine aw_skip ?_
 refine xt_n (hK _ ?_); clear hK K; refine sX hTT 7 4 [(1, .c ((0 : Nat) ≤ (2 : Nat)))] ⟨oM, tI⟩ ?_
 refine aw_ret ?_
 refine rP (V.tup [V.sl 1 (List.length o) fun (k : Nat) => [V.i (gi o k)], V.i 0])
set_option maxRecDepth 100000 in
theorem Outer_no (b : Bl) (l : List Pt) (h : SOk b l) (hno : ¬ ∃ o, LOut b l o) : AC Tryz.prog 10 [b.v, V.pts l] (.tup [.nil, .i 15]) [] := by
 obtain ⟨m, A, B, hm, S⟩ := search_no h hno
 refine acI hTT hMX Tryz.func10 Tryz.ntmps10 fun C hC hF => ?_
 refine sX hTT 2 3 [] tI (sK fun K hK => wR 3 (aX hTT 2 [] tI ?_))
 refine eC (newSide_ok b l h) ?_
 refine aX hTT 5 [] tI (nK hK ?_); clear hK K; refine sK fun K hK => sX hTT 4 2 [] tI (w_false (t := false) kR rfl ?_)
 refine aw_skip ?_
 refine xt_n (hK _ ?_); clear hK K; refine sK fun K hK => wR 5 (aX hTT 1 [] tI ?_)
 refine eC (S) ?_
 refine aX hTT 2 [(0, .r (pn 8 (V.ref 400008 0) (400008 : Nat) (Ob.box 83 [V.nil, V.nil]))), (1, .r (pw ((0 : Nat) + (2 : Nat) ≤ (2 : Nat)) (400008 : Nat) (Ob.box 83 [V.nil, V.sl 2 m fun (j : Nat) => [V.i (A j), V.i (B j)]])))] ⟨oM, tI⟩ (nK hK ?_); clear hK K; refine sK fun K hK => sX hTT 6 4 [(1, .c ((1 : Nat) ≤ (2 : Nat)))] ⟨oM, tI⟩ ?_
 refine w_cond (t := decide ((0 : Int) < (↑m : Int))) kR (fun c1 => ?_) (fun c1 => ?_)
 ·
  refine sK fun K hK => ?_
  refine wR 7 (aX hTT 2 [] tI (nK hK ?_)); clear hK K
  refine aw_ret ?_
  refine xt_r ?_
  refine rP (V.tup [V.nil, V.i 15])
 ·
  simp at c1
  omega
end Go.Proofs.YtffggfnomhhckaaGreatDoor

namespace Go.Proofs.YtffggfnomhhckaaGreatDoor
open Go.Ab Go.RowKit Go.Dw Go.Shelf
set_option maxRecDepth 100000 in
theorem within5_ac (x lo hi : Int) : AC Tryz.prog 20 [.i x, .i lo, .i hi] (.b (betB x lo hi)) [] := by
 refine acI hTT hMX Tryz.func20 Tryz.ntmps20 fun C hC hF => ?_
 refine sX hTT 2 1 [] tI ?_; refine sX hTT 3 9 [(4, .c (gA (decide (lo ≤ x) == true) True)), (5, .c (gA (decide (lo ≤ x) == true) True)), (6, .c (gC (decide (lo ≤ x) == true) True)), (7, .c ((decide (lo ≤ x) = true → (decide (lo ≤ x) == true) = true) ∧ True))] ⟨⟨⟨tI, tI⟩, (fun _ => tI)⟩, ⟨⟨tI, tI⟩, (fun _ => tI)⟩, ⟨⟨(by (exact fun h => h)), ⟨(by (exact fun h => h)), tI⟩⟩, (fun _ => tI)⟩, ⟨(by (intro h; rw [h]; rfl)), tI⟩, tI⟩ ?_
 refine aw_ret ?_
 refine rP (V.b (decide (lo ≤ x) && decide (x ≤ hi)))
set_option maxRecDepth 100000 in
theorem rCheck5_ac (b : Bl) : AC Tryz.prog 9 [b.v] (.i (blE b)) [] := by
 refine ac_intro hTT hMX (fn := Tryz.f9) (N := _) ⟨Tryz.func9, rfl, Tryz.ntmps9, kR⟩ (by simp) fun C hC hF => ?_
 refine sK fun K hK => ?_
 refine w_region (n' := 2) kR kR ?_
 refine aops_n hTT (M := []) (n := 2) [pv (1 : Nat) (V.ptr [V.i (Bl.per b), V.i (Bl.rim b), V.i (Bl.core b), V.i (Bl.land b), V.i (Bl.slow b), V.i (Bl.fast b)]), pv (2 : Nat) (V.i (0 : Int))] kR kR tI ?_
 refine aops_nil ?_
 refine xt_n ?_
 refine hK _ ?_
 clear hK K
 refine sK fun K hK => ?_
 refine sK fun K hK => ?_
 refine w_region (n' := 3) kR kR ?_
 refine aops_n hTT (M := []) (n := 2) [pv (3 : Nat) (V.ptr [V.i (Bl.per b), V.i (Bl.rim b), V.i (Bl.core b), V.i (Bl.land b), V.i (Bl.slow b), V.i (Bl.fast b)]), pv (4 : Nat) (V.i (Bl.per b))] kR kR tI ?_
 refine e_call (first := []) (caps := []) (within5_ac b.per 1 65536) kR kR kR kR kR ?_
 refine aops_n hTT (M := []) (n := 4) [pv (6 : Nat) (V.b !betB (Bl.per b) (1 : Int) (65536 : Int)), pv (7 : Nat) (V.b !betB (Bl.per b) (1 : Int) (65536 : Int)), pc (8 : Nat) ((True ∧ True) ∧ (((!betB (Bl.per b) (1 : Int) (65536 : Int)) == false) = true → True)) (V.gd ((!betB (Bl.per b) (1 : Int) (65536 : Int)) == false) (V.ptr [V.i (Bl.rim b), V.i (Bl.core b), V.i (Bl.land b), V.i (Bl.slow b), V.i (Bl.fast b)])), pc (9 : Nat) (((((!betB (Bl.per b) (1 : Int) (65536 : Int)) == false) = true → ((!betB (Bl.per b) (1 : Int) (65536 : Int)) == false) = true) ∧ True) ∧ (((!betB (Bl.per b) (1 : Int) (65536 : Int)) == false) = true → True)) (V.gd ((!betB (Bl.per b) (1 : Int) (65536 : Int)) == false) (V.i (Bl.rim b)))] kR kR ⟨⟨⟨tI, tI⟩, (fun _ => tI)⟩, ⟨⟨(by (exact fun h => h)), tI⟩, (fun _ => tI)⟩, tI⟩ ?_
 refine e_callG 1 (g := (!betB (Bl.per b) (1 : Int) (65536 : Int)) == false) (first := []) (caps := []) kR (fun h => within5_ac b.rim 0 4194304) kR kR kR kR kR kR ?_
 refine aops_n hTT (M := []) (n := 7) [pc (11 : Nat) (((((!betB (Bl.per b) (1 : Int) (65536 : Int)) == false) = true → ((!betB (Bl.per b) (1 : Int) (65536 : Int)) == false) = true) ∧ True) ∧ (((!betB (Bl.per b) (1 : Int) (65536 : Int)) == false) = true → True)) (V.gd ((!betB (Bl.per b) (1 : Int) (65536 : Int)) == false) (V.b !betB (Bl.rim b) (0 : Int) (4194304 : Int))), pc (12 : Nat) (True ∧ ((!betB (Bl.per b) (1 : Int) (65536 : Int)) = false → ((!betB (Bl.per b) (1 : Int) (65536 : Int)) == false) = true)) (V.b (!betB (Bl.per b) (1 : Int) (65536 : Int) || !betB (Bl.rim b) (0 : Int) (4194304 : Int))), pv (13 : Nat) (V.b (!betB (Bl.per b) (1 : Int) (65536 : Int) || !betB (Bl.rim b) (0 : Int) (4194304 : Int))), pc (14 : Nat) ((True ∧ True) ∧ (((!betB (Bl.per b) (1 : Int) (65536 : Int) || !betB (Bl.rim b) (0 : Int) (4194304 : Int)) == false) = true → True)) (V.gd ((!betB (Bl.per b) (1 : Int) (65536 : Int) || !betB (Bl.rim b) (0 : Int) (4194304 : Int)) == false) (V.ptr [V.i (Bl.core b), V.i (Bl.land b), V.i (Bl.slow b), V.i (Bl.fast b)])), pc (15 : Nat) (((((!betB (Bl.per b) (1 : Int) (65536 : Int) || !betB (Bl.rim b) (0 : Int) (4194304 : Int)) == false) = true → ((!betB (Bl.per b) (1 : Int) (65536 : Int) || !betB (Bl.rim b) (0 : Int) (4194304 : Int)) == false) = true) ∧ True) ∧ (((!betB (Bl.per b) (1 : Int) (65536 : Int) || !betB (Bl.rim b) (0 : Int) (4194304 : Int)) == false) = true → True)) (V.gd ((!betB (Bl.per b) (1 : Int) (65536 : Int) || !betB (Bl.rim b) (0 : Int) (4194304 : Int)) == false) (V.i (Bl.core b))), pc (16 : Nat) ((True ∧ True) ∧ (((!betB (Bl.per b) (1 : Int) (65536 : Int) || !betB (Bl.rim b) (0 : Int) (4194304 : Int)) == false) = true → True)) (V.gd ((!betB (Bl.per b) (1 : Int) (65536 : Int) || !betB (Bl.rim b) (0 : Int) (4194304 : Int)) == false) (V.ptr [V.i (Bl.rim b), V.i (Bl.core b), V.i (Bl.land b), V.i (Bl.slow b), V.i (Bl.fast b)])), pc (17 : Nat) (((((!betB (Bl.per b) (1 : Int) (65536 : Int) || !betB (Bl.rim b) (0 : Int) (4194304 : Int)) == false) = true → ((!betB (Bl.per b) (1 : Int) (65536 : Int) || !betB (Bl.rim b) (0 : Int) (4194304 : Int)) == false) = true) ∧ True) ∧ (((!betB (Bl.per b) (1 : Int) (65536 : Int) || !betB (Bl.rim b) (0 : Int) (4194304 : Int)) == false) = true → True)) (V.gd ((!betB (Bl.per b) (1 : Int) (65536 : Int) || !betB (Bl.rim b) (0 : Int) (4194304 : Int)) == false) (V.i (Bl.rim b)))] kR kR ⟨⟨⟨(by (exact fun h => h)), tI⟩, (fun _ => tI)⟩, ⟨tI, (by (intro h; rw [h]; rfl))⟩, ⟨⟨tI, tI⟩, (fun _ => tI)⟩, ⟨⟨(by (exact fun h => h)), tI⟩, (fun _ => tI)⟩, ⟨⟨tI, tI⟩, (fun _ => tI)⟩, ⟨⟨(by (exact fun h => h)), tI⟩, (fun _ => tI)⟩, tI⟩ ?_
 refine e_callG 2 (g := (!betB (Bl.per b) (1 : Int) (65536 : Int) || !betB (Bl.rim b) (0 : Int) (4194304 : Int)) == false) (first := []) (caps := []) kR (fun h => within5_ac b.core 0 b.rim) kR kR kR kR kR kR ?_
 refine aops_n hTT (M := []) (n := 5) [pc (19 : Nat) (((((!betB (Bl.per b) (1 : Int) (65536 : Int) || !betB (Bl.rim b) (0 : Int) (4194304 : Int)) == false) = true → ((!betB (Bl.per b) (1 : Int) (65536 : Int) || !betB (Bl.rim b) (0 : Int) (4194304 : Int)) == false) = true) ∧ True) ∧ (((!betB (Bl.per b) (1 : Int) (65536 : Int) || !betB (Bl.rim b) (0 : Int) (4194304 : Int)) == false) = true → True)) (V.gd ((!betB (Bl.per b) (1 : Int) (65536 : Int) || !betB (Bl.rim b) (0 : Int) (4194304 : Int)) == false) (V.b !betB (Bl.core b) (0 : Int) (Bl.rim b))), pc (20 : Nat) (True ∧ ((!betB (Bl.per b) (1 : Int) (65536 : Int) || !betB (Bl.rim b) (0 : Int) (4194304 : Int)) = false → ((!betB (Bl.per b) (1 : Int) (65536 : Int) || !betB (Bl.rim b) (0 : Int) (4194304 : Int)) == false) = true)) (V.b (!betB (Bl.per b) (1 : Int) (65536 : Int) || !betB (Bl.rim b) (0 : Int) (4194304 : Int) || !betB (Bl.core b) (0 : Int) (Bl.rim b))), pv (21 : Nat) (V.b (!betB (Bl.per b) (1 : Int) (65536 : Int) || !betB (Bl.rim b) (0 : Int) (4194304 : Int) || !betB (Bl.core b) (0 : Int) (Bl.rim b))), pc (22 : Nat) ((True ∧ True) ∧ (((!betB (Bl.per b) (1 : Int) (65536 : Int) || !betB (Bl.rim b) (0 : Int) (4194304 : Int) || !betB (Bl.core b) (0 : Int) (Bl.rim b)) == false) = true → True)) (V.gd ((!betB (Bl.per b) (1 : Int) (65536 : Int) || !betB (Bl.rim b) (0 : Int) (4194304 : Int) || !betB (Bl.core b) (0 : Int) (Bl.rim b)) == false) (V.ptr [V.i (Bl.land b), V.i (Bl.slow b), V.i (Bl.fast b)])), pc (23 : Nat) (((((!betB (Bl.per b) (1 : Int) (65536 : Int) || !betB (Bl.rim b) (0 : Int) (4194304 : Int) || !betB (Bl.core b) (0 : Int) (Bl.rim b)) == false) = true → ((!betB (Bl.per b) (1 : Int) (65536 : Int) || !betB (Bl.rim b) (0 : Int) (4194304 : Int) || !betB (Bl.core b) (0 : Int) (Bl.rim b)) == false) = true) ∧ True) ∧ (((!betB (Bl.per b) (1 : Int) (65536 : Int) || !betB (Bl.rim b) (0 : Int) (4194304 : Int) || !betB (Bl.core b) (0 : Int) (Bl.rim b)) == false) = true → True)) (V.gd ((!betB (Bl.per b) (1 : Int) (65536 : Int) || !betB (Bl.rim b) (0 : Int) (4194304 : Int) || !betB (Bl.core b) (0 : Int) (Bl.rim b)) == false) (V.i (Bl.land b)))] kR kR ⟨⟨⟨(by (exact fun h => h)), tI⟩, (fun _ => tI)⟩, ⟨tI, (by (intro h; rw [h]; rfl))⟩, ⟨⟨tI, tI⟩, (fun _ => tI)⟩, ⟨⟨(by (exact fun h => h)), tI⟩, (fun _ => tI)⟩, tI⟩ ?_
 refine e_callG 1 (g := (!betB (Bl.per b) (1 : Int) (65536 : Int) || !betB (Bl.rim b) (0 : Int) (4194304 : Int) || !betB (Bl.core b) (0 : Int) (Bl.rim b)) == false) (first := []) (caps := []) kR (fun h => within5_ac b.land 0 65536) kR kR kR kR kR kR ?_
 refine aops_n hTT (M := []) (n := 7) [pc (25 : Nat) (((((!betB (Bl.per b) (1 : Int) (65536 : Int) || !betB (Bl.rim b) (0 : Int) (4194304 : Int) || !betB (Bl.core b) (0 : Int) (Bl.rim b)) == false) = true → ((!betB (Bl.per b) (1 : Int) (65536 : Int) || !betB (Bl.rim b) (0 : Int) (4194304 : Int) || !betB (Bl.core b) (0 : Int) (Bl.rim b)) == false) = true) ∧ True) ∧ (((!betB (Bl.per b) (1 : Int) (65536 : Int) || !betB (Bl.rim b) (0 : Int) (4194304 : Int) || !betB (Bl.core b) (0 : Int) (Bl.rim b)) == false) = true → True)) (V.gd ((!betB (Bl.per b) (1 : Int) (65536 : Int) || !betB (Bl.rim b) (0 : Int) (4194304 : Int) || !betB (Bl.core b) (0 : Int) (Bl.rim b)) == false) (V.b !betB (Bl.land b) (0 : Int) (65536 : Int))), pc (26 : Nat) (True ∧ ((!betB (Bl.per b) (1 : Int) (65536 : Int) || !betB (Bl.rim b) (0 : Int) (4194304 : Int) || !betB (Bl.core b) (0 : Int) (Bl.rim b)) = false → ((!betB (Bl.per b) (1 : Int) (65536 : Int) || !betB (Bl.rim b) (0 : Int) (4194304 : Int) || !betB (Bl.core b) (0 : Int) (Bl.rim b)) == false) = true)) (V.b (!betB (Bl.per b) (1 : Int) (65536 : Int) || !betB (Bl.rim b) (0 : Int) (4194304 : Int) || !betB (Bl.core b) (0 : Int) (Bl.rim b) || !betB (Bl.land b) (0 : Int) (65536 : Int))), pv (27 : Nat) (V.b (!betB (Bl.per b) (1 : Int) (65536 : Int) || !betB (Bl.rim b) (0 : Int) (4194304 : Int) || !betB (Bl.core b) (0 : Int) (Bl.rim b) || !betB (Bl.land b) (0 : Int) (65536 : Int))), pc (28 : Nat) ((True ∧ True) ∧ (((!betB (Bl.per b) (1 : Int) (65536 : Int) || !betB (Bl.rim b) (0 : Int) (4194304 : Int) || !betB (Bl.core b) (0 : Int) (Bl.rim b) || !betB (Bl.land b) (0 : Int) (65536 : Int)) == false) = true → True)) (V.gd ((!betB (Bl.per b) (1 : Int) (65536 : Int) || !betB (Bl.rim b) (0 : Int) (4194304 : Int) || !betB (Bl.core b) (0 : Int) (Bl.rim b) || !betB (Bl.land b) (0 : Int) (65536 : Int)) == false) (V.ptr [V.i (Bl.slow b), V.i (Bl.fast b)])), pc (29 : Nat) (((((!betB (Bl.per b) (1 : Int) (65536 : Int) || !betB (Bl.rim b) (0 : Int) (4194304 : Int) || !betB (Bl.core b) (0 : Int) (Bl.rim b) || !betB (Bl.land b) (0 : Int) (65536 : Int)) == false) = true → ((!betB (Bl.per b) (1 : Int) (65536 : Int) || !betB (Bl.rim b) (0 : Int) (4194304 : Int) || !betB (Bl.core b) (0 : Int) (Bl.rim b) || !betB (Bl.land b) (0 : Int) (65536 : Int)) == false) = true) ∧ True) ∧ (((!betB (Bl.per b) (1 : Int) (65536 : Int) || !betB (Bl.rim b) (0 : Int) (4194304 : Int) || !betB (Bl.core b) (0 : Int) (Bl.rim b) || !betB (Bl.land b) (0 : Int) (65536 : Int)) == false) = true → True)) (V.gd ((!betB (Bl.per b) (1 : Int) (65536 : Int) || !betB (Bl.rim b) (0 : Int) (4194304 : Int) || !betB (Bl.core b) (0 : Int) (Bl.rim b) || !betB (Bl.land b) (0 : Int) (65536 : Int)) == false) (V.i (Bl.slow b))), pc (30 : Nat) ((True ∧ True) ∧ (((!betB (Bl.per b) (1 : Int) (65536 : Int) || !betB (Bl.rim b) (0 : Int) (4194304 : Int) || !betB (Bl.core b) (0 : Int) (Bl.rim b) || !betB (Bl.land b) (0 : Int) (65536 : Int)) == false) = true → True)) (V.gd ((!betB (Bl.per b) (1 : Int) (65536 : Int) || !betB (Bl.rim b) (0 : Int) (4194304 : Int) || !betB (Bl.core b) (0 : Int) (Bl.rim b) || !betB (Bl.land b) (0 : Int) (65536 : Int)) == false) (V.ptr [V.i (Bl.fast b)])), pc (31 : Nat) (((((!betB (Bl.per b) (1 : Int) (65536 : Int) || !betB (Bl.rim b) (0 : Int) (4194304 : Int) || !betB (Bl.core b) (0 : Int) (Bl.rim b) || !betB (Bl.land b) (0 : Int) (65536 : Int)) == false) = true → ((!betB (Bl.per b) (1 : Int) (65536 : Int) || !betB (Bl.rim b) (0 : Int) (4194304 : Int) || !betB (Bl.core b) (0 : Int) (Bl.rim b) || !betB (Bl.land b) (0 : Int) (65536 : Int)) == false) = true) ∧ True) ∧ (((!betB (Bl.per b) (1 : Int) (65536 : Int) || !betB (Bl.rim b) (0 : Int) (4194304 : Int) || !betB (Bl.core b) (0 : Int) (Bl.rim b) || !betB (Bl.land b) (0 : Int) (65536 : Int)) == false) = true → True)) (V.gd ((!betB (Bl.per b) (1 : Int) (65536 : Int) || !betB (Bl.rim b) (0 : Int) (4194304 : Int) || !betB (Bl.core b) (0 : Int) (Bl.rim b) || !betB (Bl.land b) (0 : Int) (65536 : Int)) == false) (V.i (Bl.fast b)))] kR kR ⟨⟨⟨(by (exact fun h => h)), tI⟩, (fun _ => tI)⟩, ⟨tI, (by (intro h; rw [h]; rfl))⟩, ⟨⟨tI, tI⟩, (fun _ => tI)⟩, ⟨⟨(by (exact fun h => h)), tI⟩, (fun _ => tI)⟩, ⟨⟨tI, tI⟩, (fun _ => tI)⟩, ⟨⟨(by (exact fun h => h)), tI⟩, (fun _ => tI)⟩, tI⟩ ?_
 refine e_callG 2 (g := (!betB (Bl.per b) (1 : Int) (65536 : Int) || !betB (Bl.rim b) (0 : Int) (4194304 : Int) || !betB (Bl.core b) (0 : Int) (Bl.rim b) || !betB (Bl.land b) (0 : Int) (65536 : Int)) == false) (first := []) (caps := []) kR (fun h => within5_ac b.slow 0 b.fast) kR kR kR kR kR kR ?_
 refine aops_n hTT (M := []) (n := 7) [pc (33 : Nat) (((((!betB (Bl.per b) (1 : Int) (65536 : Int) || !betB (Bl.rim b) (0 : Int) (4194304 : Int) || !betB (Bl.core b) (0 : Int) (Bl.rim b) || !betB (Bl.land b) (0 : Int) (65536 : Int)) == false) = true → ((!betB (Bl.per b) (1 : Int) (65536 : Int) || !betB (Bl.rim b) (0 : Int) (4194304 : Int) || !betB (Bl.core b) (0 : Int) (Bl.rim b) || !betB (Bl.land b) (0 : Int) (65536 : Int)) == false) = true) ∧ True) ∧ (((!betB (Bl.per b) (1 : Int) (65536 : Int) || !betB (Bl.rim b) (0 : Int) (4194304 : Int) || !betB (Bl.core b) (0 : Int) (Bl.rim b) || !betB (Bl.land b) (0 : Int) (65536 : Int)) == false) = true → True)) (V.gd ((!betB (Bl.per b) (1 : Int) (65536 : Int) || !betB (Bl.rim b) (0 : Int) (4194304 : Int) || !betB (Bl.core b) (0 : Int) (Bl.rim b) || !betB (Bl.land b) (0 : Int) (65536 : Int)) == false) (V.b !betB (Bl.slow b) (0 : Int) (Bl.fast b))), pc (34 : Nat) (True ∧ ((!betB (Bl.per b) (1 : Int) (65536 : Int) || !betB (Bl.rim b) (0 : Int) (4194304 : Int) || !betB (Bl.core b) (0 : Int) (Bl.rim b) || !betB (Bl.land b) (0 : Int) (65536 : Int)) = false → ((!betB (Bl.per b) (1 : Int) (65536 : Int) || !betB (Bl.rim b) (0 : Int) (4194304 : Int) || !betB (Bl.core b) (0 : Int) (Bl.rim b) || !betB (Bl.land b) (0 : Int) (65536 : Int)) == false) = true)) (V.b (!betB (Bl.per b) (1 : Int) (65536 : Int) || !betB (Bl.rim b) (0 : Int) (4194304 : Int) || !betB (Bl.core b) (0 : Int) (Bl.rim b) || !betB (Bl.land b) (0 : Int) (65536 : Int) || !betB (Bl.slow b) (0 : Int) (Bl.fast b))), pv (35 : Nat) (V.b (!betB (Bl.per b) (1 : Int) (65536 : Int) || !betB (Bl.rim b) (0 : Int) (4194304 : Int) || !betB (Bl.core b) (0 : Int) (Bl.rim b) || !betB (Bl.land b) (0 : Int) (65536 : Int) || !betB (Bl.slow b) (0 : Int) (Bl.fast b))), pc (36 : Nat) ((True ∧ True) ∧ (((!betB (Bl.per b) (1 : Int) (65536 : Int) || !betB (Bl.rim b) (0 : Int) (4194304 : Int) || !betB (Bl.core b) (0 : Int) (Bl.rim b) || !betB (Bl.land b) (0 : Int) (65536 : Int) || !betB (Bl.slow b) (0 : Int) (Bl.fast b)) == false) = true → True)) (V.gd ((!betB (Bl.per b) (1 : Int) (65536 : Int) || !betB (Bl.rim b) (0 : Int) (4194304 : Int) || !betB (Bl.core b) (0 : Int) (Bl.rim b) || !betB (Bl.land b) (0 : Int) (65536 : Int) || !betB (Bl.slow b) (0 : Int) (Bl.fast b)) == false) (V.ptr [V.i (Bl.fast b)])), pc (37 : Nat) (((((!betB (Bl.per b) (1 : Int) (65536 : Int) || !betB (Bl.rim b) (0 : Int) (4194304 : Int) || !betB (Bl.core b) (0 : Int) (Bl.rim b) || !betB (Bl.land b) (0 : Int) (65536 : Int) || !betB (Bl.slow b) (0 : Int) (Bl.fast b)) == false) = true → ((!betB (Bl.per b) (1 : Int) (65536 : Int) || !betB (Bl.rim b) (0 : Int) (4194304 : Int) || !betB (Bl.core b) (0 : Int) (Bl.rim b) || !betB (Bl.land b) (0 : Int) (65536 : Int) || !betB (Bl.slow b) (0 : Int) (Bl.fast b)) == false) = true) ∧ True) ∧ (((!betB (Bl.per b) (1 : Int) (65536 : Int) || !betB (Bl.rim b) (0 : Int) (4194304 : Int) || !betB (Bl.core b) (0 : Int) (Bl.rim b) || !betB (Bl.land b) (0 : Int) (65536 : Int) || !betB (Bl.slow b) (0 : Int) (Bl.fast b)) == false) = true → True)) (V.gd ((!betB (Bl.per b) (1 : Int) (65536 : Int) || !betB (Bl.rim b) (0 : Int) (4194304 : Int) || !betB (Bl.core b) (0 : Int) (Bl.rim b) || !betB (Bl.land b) (0 : Int) (65536 : Int) || !betB (Bl.slow b) (0 : Int) (Bl.fast b)) == false) (V.i (Bl.fast b))), pc (38 : Nat) (((((!betB (Bl.per b) (1 : Int) (65536 : Int) || !betB (Bl.rim b) (0 : Int) (4194304 : Int) || !betB (Bl.core b) (0 : Int) (Bl.rim b) || !betB (Bl.land b) (0 : Int) (65536 : Int) || !betB (Bl.slow b) (0 : Int) (Bl.fast b)) == false) = true → ((!betB (Bl.per b) (1 : Int) (65536 : Int) || !betB (Bl.rim b) (0 : Int) (4194304 : Int) || !betB (Bl.core b) (0 : Int) (Bl.rim b) || !betB (Bl.land b) (0 : Int) (65536 : Int) || !betB (Bl.slow b) (0 : Int) (Bl.fast b)) == false) = true) ∧ True ∧ True) ∧ (((!betB (Bl.per b) (1 : Int) (65536 : Int) || !betB (Bl.rim b) (0 : Int) (4194304 : Int) || !betB (Bl.core b) (0 : Int) (Bl.rim b) || !betB (Bl.land b) (0 : Int) (65536 : Int) || !betB (Bl.slow b) (0 : Int) (Bl.fast b)) == false) = true → True)) (V.gd ((!betB (Bl.per b) (1 : Int) (65536 : Int) || !betB (Bl.rim b) (0 : Int) (4194304 : Int) || !betB (Bl.core b) (0 : Int) (Bl.rim b) || !betB (Bl.land b) (0 : Int) (65536 : Int) || !betB (Bl.slow b) (0 : Int) (Bl.fast b)) == false) (V.b (decide ((65536 : Int) < Bl.fast b)))), pc (39 : Nat) (True ∧ ((!betB (Bl.per b) (1 : Int) (65536 : Int) || !betB (Bl.rim b) (0 : Int) (4194304 : Int) || !betB (Bl.core b) (0 : Int) (Bl.rim b) || !betB (Bl.land b) (0 : Int) (65536 : Int) || !betB (Bl.slow b) (0 : Int) (Bl.fast b)) = false → ((!betB (Bl.per b) (1 : Int) (65536 : Int) || !betB (Bl.rim b) (0 : Int) (4194304 : Int) || !betB (Bl.core b) (0 : Int) (Bl.rim b) || !betB (Bl.land b) (0 : Int) (65536 : Int) || !betB (Bl.slow b) (0 : Int) (Bl.fast b)) == false) = true)) (V.b (!betB (Bl.per b) (1 : Int) (65536 : Int) || !betB (Bl.rim b) (0 : Int) (4194304 : Int) || !betB (Bl.core b) (0 : Int) (Bl.rim b) || !betB (Bl.land b) (0 : Int) (65536 : Int) || !betB (Bl.slow b) (0 : Int) (Bl.fast b) || decide ((65536 : Int) < Bl.fast b)))] kR kR ⟨⟨⟨(by (exact fun h => h)), tI⟩, (fun _ => tI)⟩, ⟨tI, (by (intro h; rw [h]; rfl))⟩, ⟨⟨tI, tI⟩, (fun _ => tI)⟩, ⟨⟨(by (exact fun h => h)), tI⟩, (fun _ => tI)⟩, ⟨⟨(by (exact fun h => h)), ⟨tI, tI⟩⟩, (fun _ => tI)⟩, ⟨tI, (by (intro h; rw [h]; rfl))⟩, tI⟩ ?_
 refine aops_nil ?_
 refine xt_n ?_
 refine hK _ ?_
 clear hK K
 refine w_cond (t := !betB (Bl.per b) (1 : Int) (65536 : Int) || !betB (Bl.rim b) (0 : Int) (4194304 : Int) || !betB (Bl.core b) (0 : Int) (Bl.rim b) || !betB (Bl.land b) (0 : Int) (65536 : Int) || !betB (Bl.slow b) (0 : Int) (Bl.fast b) || decide ((65536 : Int) < Bl.fast b)) kR (fun c1 => ?_) (fun c1 => ?_)
 ·
  have e : blE b = 2 := blE_2 fun ⟨⟨q1, q2⟩, ⟨q3, q4⟩, ⟨q5, q6⟩, ⟨q7, q8⟩, ⟨q9, q10⟩, q11, q12⟩ => by
   simp [betB] at c1
   omega
  refine sK fun K hK => ?_
  refine w_region (n' := 4) kR kR ?_
  refine aops_n hTT (M := []) (n := 1) [pv (2 : Nat) (V.i (2 : Int))] kR kR tI ?_
  refine aops_nil ?_
  refine xt_n ?_
  refine hK _ ?_
  clear hK K
  refine aw_ret ?_
  refine xt_r ?_
  rw [e]
  refine ret_pure (v' := V.i (2 : Int)) (.inr rfl) kR kR kR
 ·
  have e : blE b = 0 := blE_ok.2 (by
   simp [betB] at c1
   unfold Bl.ok
   omega)
  refine aw_skip ?_
  refine xt_n ?_
  refine hK _ ?_
  clear hK K
  refine sK fun K hK => ?_
  refine w_region (n' := 4) kR kR ?_
  refine aops_n hTT (M := []) (n := 1) [pv (2 : Nat) (V.i (0 : Int))] kR kR tI ?_
  refine aops_nil ?_
  refine xt_n ?_
  refine hK _ ?_
  clear hK K
  refine aw_ret ?_
  rw [e]
  refine ret_pure (v' := V.i (0 : Int)) (.inr rfl) kR kR kR
theorem SOk.take {b : Bl} {l : List Pt} (h : SOk b l) (k : Nat) : SOk b (l.take k) := by
 refine ⟨h.b0, gChk_ok.2 ⟨?_, fun j hj => ?_⟩⟩
 ·
  have := h.len
  rw [List.length_take]; omega
 ·
  rw [List.length_take] at hj
  have : gp (l.take k) j = gp l j := by
   simp [gp, List.getD_eq_getElem?_getD, List.getElem?_take, show j < k by omega]
  rw [this]
  exact (gChk_ok.1 h.l0).2 j oM
end Go.Proofs.YtffggfnomhhckaaGreatDoor

namespace Go.Proofs.YtffggfnomhhckaaGreatDoor
open Go.Ab Go.RowKit Go.Dw Go.Shelf
def evMu : List Nat := [79, 64, 46, 80, 65, 47, 75, 71, 90, 92, 999999, 999999, 999999, 999999, 999999, 999999, 999999, 999999, 999999, 999999, 999999, 999999, 999999, 999999]
def evM : ML := [(44, [21]), (72, [8]), (50, [24])]
def evLit (sz n : Nat) (cs : List V) : V := .sl sz n fun i => (cs.drop (i * sz)).take sz
def evR1 (l : List Int) : V := evLit 1 l.length (l.map V.i)
def evFl : List (Int × Int) → List V
  | [] => []
  | x :: l => .i x.1 :: .i x.2 :: evFl l
def evR2 (l : List (Int × Int)) : V := evLit 2 l.length (evFl l)
def evQ1 (l : List Int) : V := .sl 1 l.length (rowOf (l.map fun x => [.i x]))
def evQ2 (l : List (Int × Int)) : V := .sl 2 l.length (rowOf (l.map fun x => [.i x.1, .i x.2]))
theorem evIdf (l : List (List V)) (h : l.all V.idfL = true) (i : Nat) : V.idfL (rowOf l i) = true := rowOf_idf h i
def evCut : V := .agg [.i 400, .i 2000, .i 200, .i 2000, .i 1000, .i 1000, .i 100]
def evPt : List (Int × Int) := [(-400, 400), (-200, 600), (-400, 400)]
set_option maxRecDepth 100000 in
theorem ev_Cut0 : AM Tryz.prog 26 [evCut, evR2 [(0, 0), (100, 100), (0, 0)]] [] (.tup [.own 0, .i 0]) [] [.row 57 2 3 (rowOf [[.i (-400), .i 400], [.i (-200), .i 600], [.i (-400), .i 400]])] := cAM' hTT hMX evM evMu kR kR
theorem ev_Cut : AC Tryz.prog 26 [evCut, evR2 [(0, 0), (100, 100), (0, 0)]] (.tup [evQ2 evPt, .i 0]) [] := AC.shut1 (ev_Cut0.ac (by decide)) rfl (fun _ _ => rfl) (evIdf _ rfl) rfl rfl
set_option maxRecDepth 100000 in
theorem ev_L : AC Tryz.prog 27 [evCut, evQ2 evPt, .i 1000] (.tup [.i 31831, .i 0]) [] := AM.ac (cAM' hTT hMX evM evMu kR kR) (by decide)
set_option maxRecDepth 100000 in
theorem ev_Ap0 : AM Tryz.prog 28 [.agg [evR1 [64], evR1 [128], .i 256], evR1 [100, 0, 0, -3]] [] (.tup [.own 0, .i 0]) [] [.row 2 1 4 (rowOf [[.i 100], [.i 75], [.i 37], [.i 15]])] := cAM' hTT hMX evM evMu kR kR
theorem ev_Ap : AC Tryz.prog 28 [.agg [evR1 [64], evR1 [128], .i 256], evR1 [100, 0, 0, -3]] (.tup [evQ1 [100, 75, 37, 15], .i 0]) [] := AC.shut1 (ev_Ap0.ac (by decide)) rfl (fun _ _ => rfl) (evIdf _ rfl) rfl rfl
def evNa : ByteArray := ⟨#[97]⟩
def evTks : V := evLit 2 1 [.c (.string evNa), evR2 [(10, -10), (5, 0)]]
def evPrt : V := evLit 7 1 [.i 0, .i 0, .i 2, .i 0, .i 0, .i 0, .i 500]
set_option maxRecDepth 100000 in
theorem ev_Ren : AC Tryz.prog 29 [evTks, evPrt] (.tup [evQ2 [(5, -5), (2, 0)], .i 0]) [] := AM.ac (cAM' hTT hMX evM evMu kR kR) (by decide)
def evNf : ByteArray := ⟨#[102]⟩
def evFmt (l : List Int) : V := .agg (.c (.string evNf) :: l.map V.i)
set_option maxRecDepth 100000 in
theorem ev_Wid5 : AC Tryz.prog 13 [evFmt [1000, 400, 10, 0, 0, 0, 0], .agg [.i 95, .i 20, .i 0]] (.tup [.i 200, .i 0]) [] := AM.ac (cAM' hTT hMX evM evMu kR kR) (by decide)
end Go.Proofs.YtffggfnomhhckaaGreatDoor

namespace Go.Proofs.YtffggfnomhhckaaGreatDoor
open Go.Ab Go.RowKit Go.Dw Go.Shelf
def w3K : List (FuncId × List V × V) := [(26, [evCut, evR2 [(0, 0), (100, 100), (0, 0)]], .tup [evQ2 evPt, .i 0]), (27, [evCut, evQ2 evPt, .i 1000], .tup [.i 31831, .i 0]), (28, [.agg [evR1 [64], evR1 [128], .i 256], evR1 [100, 0, 0, -3]], .tup [evQ1 [100, 75, 37, 15], .i 0]), (29, [evTks, evPrt], .tup [evQ2 [(5, -5), (2, 0)], .i 0])]
theorem w3_ok : OrcOk2 Tryz.prog w3K := orc2_cons ev_Cut rfl rfl (orc2_cons ev_L rfl rfl (orc2_cons ev_Ap rfl rfl (orc2_cons ev_Ren rfl rfl orc2_nil)))
set_option maxRecDepth 100000 in
theorem works03_ac : AC Tryz.prog 14 [] (.b true) [] := AM.ac (cAMO (O := orc2 w3K) hTT hMX [] [] (fun _ => orc2_ok w3_ok) kR kR) (by decide)
end Go.Proofs.YtffggfnomhhckaaGreatDoor

namespace Go.Proofs.YtffggfnomhhckaaGreatDoor
open Go.Ab Go.RowKit Go.Dw Go.Shelf
def w5T : List V := [.agg [.i 2, .i 1000, .i 100, .i 10, .i 1, .i 100], evR2 [(-20, 20), (-20, 20), (-20, 20), (-20, 50), (-20, 20)]]
set_option maxRecDepth 100000 in
theorem w5_out0 : AM Tryz.prog 10 w5T [] (.tup [.own 0, .i 0]) [] [.row 2 1 5 (rowOf [[.i 980], [.i 979], [.i 930], [.i 899], [.i 880]])] := cAM' hTT hMX [] [] kR kR
theorem w5_out : AC Tryz.prog 10 w5T (.tup [evQ1 [980, 979, 930, 899, 880], .i 0]) [] := AC.shut1 (w5_out0.ac (by decide)) rfl (fun _ _ => rfl) (evIdf _ rfl) rfl rfl
def w5K : List (FuncId × List V × V) := [(10, w5T, .tup [evQ1 [980, 979, 930, 899, 880], .i 0]), (13, [evFmt [1000, 400, 10, 0, 0, 0, 0], .agg [.i 95, .i 20, .i 0]], .tup [.i 200, .i 0]), (14, [], .b true)]
theorem w5_ok : OrcOk2 Tryz.prog w5K := orc2_cons w5_out rfl rfl (orc2_cons ev_Wid5 rfl rfl (orc2_cons works03_ac rfl rfl orc2_nil))
set_option maxRecDepth 100000 in
theorem works05_ac : AC Tryz.prog 5 [] (.b true) [] := AM.ac (cAMO (O := orc2 w5K) hTT hMX [] [] (fun _ => orc2_ok w5_ok) kR kR) (by decide)
end Go.Proofs.YtffggfnomhhckaaGreatDoor

namespace Go.Proofs.YtffggfnomhhckaaGreatDoor
open Go.Ab Go.RowKit Go.Dw Go.Shelf
theorem leN_add {i m : Nat} : i + m - i = m := by omega
abbrev yyWBands0 (a : List Int) : V := V.sl 1 (List.length a) fun (k : Nat) => [V.c (Value.int IntKind.u16 (gi a k))]
abbrev yyWBands1 (b : List Int) : V := V.sl 1 (List.length b) fun (k : Nat) => [V.c (Value.int IntKind.u16 (gi b k))]
abbrev yyWBands2 (c : List Int) : V := V.sl 1 (List.length c) fun (k : Nat) => [V.c (Value.int IntKind.u8 (gi c k))]
abbrev yyWBands3 := ((false == false) = true → (false == false) = true)
set_option maxRecDepth 100000 in
theorem bands_law (fs : List Fm) (a b c : List Int) (hfl : fs.length ≤ 4611686018427387904) (hfn : ∀ f ∈ fs, f.1.length ≤ 9223372036854775807) (hal : a.length ≤ 4611686018427387904) (ha : ∀ x ∈ a, 0 ≤ x ∧ x ≤ 65535) (hbl : b.length ≤ 4611686018427387904) (hb : ∀ x ∈ b, 0 ≤ x ∧ x ≤ 65535)
  (hcl : c.length ≤ 4611686018427387904) (hc : ∀ x ∈ c, 0 ≤ x ∧ x ≤ 255) : AC Tryz.prog 3 [V.fms fs, V.u16m a, V.u16m b, V.u8b c] (.b true) [] := by
 obtain ⟨n1, n2, n3, n4⟩ := nT_le a b c
 refine acI hTT hMX Tryz.func3 Tryz.ntmps3 fun C hC hF => ?_
 refine sK fun K hK => wR 2 ?_
 refine aops_n hTT (M := []) (n := 1) [pv 8 (V.b false)] kR kR tI ?_
 refine nK hK ?_; clear hK K; refine sK fun K hK => wR 3 ?_
 refine aops_n hTT (M := []) (n := 1) [pv 9 V.nil] kR kR tI ?_
 refine nK hK ?_; clear hK K; refine sK fun K hK => wR 4 ?_
 refine aops_n hTT (M := []) (n := 2) [pv 10 V.nil, pv 11 V.nil] kR kR tI ?_
 refine nK hK ?_; clear hK K; refine sK fun K hK => sK fun K hK => wR 5 ?_
 refine aops_n hTT (M := []) (n := 1) [pv 12 (V.i 0)] kR kR tI ?_
 refine nK hK ?_; clear hK K
 refine aw_block ?_
 refine w_le (le_open 9 29 3 (fun k => (trF a b c k).c) kR rfl) ?_
 refine w_le (le_open 10 2 1 (fun k => [.i (hfT a k)]) kR rfl) ?_
 refine w_le (le_open 11 2 1 (fun k => [.i (dfT b k)]) kR rfl) ?_
 refine w_loop (ι := Nat) (fun k => [(0, V.fms fs), (1, V.u16m a), (2, V.u16m b), (3, V.u8b c), (9, .own 1), (10, .own 2), (11, .own 3), (12, .i k)]) (fun k => [(1, .row 29 3 k fun k => (trF a b c k).c), (2, .row 2 1 k fun k => [.i (hfT a k)]), (3, .row 2 1 k fun k => [.i (dfT b k)])]) (fun k => k ≤ nT a b c) (fun k => nT a b c - k) 0 (Nat.zero_le _) ?_ ?_
 ·
  refine le_ren (sl := [(1, Ob.row 29 3 0 fun (k : Nat) => Tr.c (trF a b c k)), (2, Ob.row 2 1 0 fun (k : Nat) => [V.i (hfT a k)]), (3, Ob.row 2 1 0 fun (k : Nat) => [V.i (dfT b k)])]) [(1, 500009), (2, 600010), (3, 700011)] (.cons kR (.cons kR (.cons kR (.cons kR (.cons kR (.cons kR (.cons kR (.cons kR .nil)))))))) (.cons ⟨Ob.row 29 3 0 fun (k : Nat) => Tr.c (trF a b c k), kR, .row kR (fun _ _ => rfl)⟩ (.cons ⟨Ob.row 2 1 0 fun (k : Nat) => [V.i (hfT a k)], kR, .row kR (fun _ _ => rfl)⟩ (.cons ⟨Ob.row 2 1 0 fun (k : Nat) => [V.i (dfT b k)], kR, .row kR (fun _ _ => rfl)⟩ .nil))) kR kR
 intro k hk
 refine sK fun K hK => sK fun K hK => wR 2 ?_
 refine aops_n hTT (M := []) (n := 20) [pv 31 (V.i (↑k : Int)), pv 32 ((yyWBands0 a)), pv 33 (V.i (↑(List.length a) : Int)), pv 34 (V.b (decide ((↑k : Int) < (↑(List.length a) : Int)))), pv 35 (V.b (decide ((↑k : Int) < (↑(List.length a) : Int)))), pc 36 ((True ∧ True) ∧ ((decide ((↑k : Int) < (↑(List.length a) : Int)) == true) = true → True)) (V.gd (decide ((↑k : Int) < (↑(List.length a) : Int)) == true) (V.i (↑k : Int))), pc 37 ((True ∧ True) ∧ ((decide ((↑k : Int) < (↑(List.length a) : Int)) == true) = true → True)) (V.gd (decide ((↑k : Int) < (↑(List.length a) : Int)) == true) ((yyWBands1 b))), pc 38 ((((decide ((↑k : Int) < (↑(List.length a) : Int)) == true) = true → (decide ((↑k : Int) < (↑(List.length a) : Int)) == true) = true) ∧ True) ∧ ((decide ((↑k : Int) < (↑(List.length a) : Int)) == true) = true → True)) (V.gd (decide ((↑k : Int) < (↑(List.length a) : Int)) == true) (V.i (↑(List.length b) : Int))), pc 39 ((((decide ((↑k : Int) < (↑(List.length a) : Int)) == true) = true → (decide ((↑k : Int) < (↑(List.length a) : Int)) == true) = true) ∧ ((decide ((↑k : Int) < (↑(List.length a) : Int)) == true) = true → (decide ((↑k : Int) < (↑(List.length a) : Int)) == true) = true) ∧ True) ∧ ((decide ((↑k : Int) < (↑(List.length a) : Int)) == true) = true → True)) (V.gd (decide ((↑k : Int) < (↑(List.length a) : Int)) == true) (V.b (decide ((↑k : Int) < (↑(List.length b) : Int))))), pc 40 ((decide ((↑k : Int) < (↑(List.length a) : Int)) = true → (decide ((↑k : Int) < (↑(List.length a) : Int)) == true) = true) ∧ True) (V.b (decide ((↑k : Int) < (↑(List.length a) : Int)) && decide ((↑k : Int) < (↑(List.length b) : Int)))), pv 41 (V.b (decide ((↑k : Int) < (↑(List.length a) : Int)) && decide ((↑k : Int) < (↑(List.length b) : Int)))), pc 42 ((True ∧ True) ∧ (((decide ((↑k : Int) < (↑(List.length a) : Int)) && decide ((↑k : Int) < (↑(List.length b) : Int))) == true) = true → True)) (V.gd ((decide ((↑k : Int) < (↑(List.length a) : Int)) && decide ((↑k : Int) < (↑(List.length b) : Int))) == true) (V.i (↑k : Int))), pc 43 ((True ∧ True) ∧ (((decide ((↑k : Int) < (↑(List.length a) : Int)) && decide ((↑k : Int) < (↑(List.length b) : Int))) == true) = true → True)) (V.gd ((decide ((↑k : Int) < (↑(List.length a) : Int)) && decide ((↑k : Int) < (↑(List.length b) : Int))) == true) ((yyWBands2 c))), pc 44 (((((decide ((↑k : Int) < (↑(List.length a) : Int)) && decide ((↑k : Int) < (↑(List.length b) : Int))) == true) = true → ((decide ((↑k : Int) < (↑(List.length a) : Int)) && decide ((↑k : Int) < (↑(List.length b) : Int))) == true) = true) ∧ True) ∧ (((decide ((↑k : Int) < (↑(List.length a) : Int)) && decide ((↑k : Int) < (↑(List.length b) : Int))) == true) = true → True)) (V.gd ((decide ((↑k : Int) < (↑(List.length a) : Int)) && decide ((↑k : Int) < (↑(List.length b) : Int))) == true) (V.i (↑(List.length c) : Int))), pc 45 (((((decide ((↑k : Int) < (↑(List.length a) : Int)) && decide ((↑k : Int) < (↑(List.length b) : Int))) == true) = true → ((decide ((↑k : Int) < (↑(List.length a) : Int)) && decide ((↑k : Int) < (↑(List.length b) : Int))) == true) = true) ∧ (((decide ((↑k : Int) < (↑(List.length a) : Int)) && decide ((↑k : Int) < (↑(List.length b) : Int))) == true) = true → ((decide ((↑k : Int) < (↑(List.length a) : Int)) && decide ((↑k : Int) < (↑(List.length b) : Int))) == true) = true) ∧ True) ∧ (((decide ((↑k : Int) < (↑(List.length a) : Int)) && decide ((↑k : Int) < (↑(List.length b) : Int))) == true) = true → True)) (V.gd ((decide ((↑k : Int) < (↑(List.length a) : Int)) && decide ((↑k : Int) < (↑(List.length b) : Int))) == true) (V.b (decide ((↑k : Int) < (↑(List.length c) : Int))))), pc 46 (((decide ((↑k : Int) < (↑(List.length a) : Int)) && decide ((↑k : Int) < (↑(List.length b) : Int))) = true → ((decide ((↑k : Int) < (↑(List.length a) : Int)) && decide ((↑k : Int) < (↑(List.length b) : Int))) == true) = true) ∧ True) (V.b (decide ((↑k : Int) < (↑(List.length a) : Int)) && decide ((↑k : Int) < (↑(List.length b) : Int)) && decide ((↑k : Int) < (↑(List.length c) : Int)))), pv 47 (V.b (decide ((↑k : Int) < (↑(List.length a) : Int)) && decide ((↑k : Int) < (↑(List.length b) : Int)) && decide ((↑k : Int) < (↑(List.length c) : Int)))), pc 48 ((True ∧ True) ∧ (((decide ((↑k : Int) < (↑(List.length a) : Int)) && decide ((↑k : Int) < (↑(List.length b) : Int)) && decide ((↑k : Int) < (↑(List.length c) : Int))) == true) = true → True)) (V.gd ((decide ((↑k : Int) < (↑(List.length a) : Int)) && decide ((↑k : Int) < (↑(List.length b) : Int)) && decide ((↑k : Int) < (↑(List.length c) : Int))) == true) (V.i (↑k : Int))), pc 49 (((((decide ((↑k : Int) < (↑(List.length a) : Int)) && decide ((↑k : Int) < (↑(List.length b) : Int)) && decide ((↑k : Int) < (↑(List.length c) : Int))) == true) = true → ((decide ((↑k : Int) < (↑(List.length a) : Int)) && decide ((↑k : Int) < (↑(List.length b) : Int)) && decide ((↑k : Int) < (↑(List.length c) : Int))) == true) = true) ∧ True ∧ True) ∧ (((decide ((↑k : Int) < (↑(List.length a) : Int)) && decide ((↑k : Int) < (↑(List.length b) : Int)) && decide ((↑k : Int) < (↑(List.length c) : Int))) == true) = true → True)) (V.gd ((decide ((↑k : Int) < (↑(List.length a) : Int)) && decide ((↑k : Int) < (↑(List.length b) : Int)) && decide ((↑k : Int) < (↑(List.length c) : Int))) == true) (V.b (decide ((↑k : Int) < 6)))), pc 50 (((decide ((↑k : Int) < (↑(List.length a) : Int)) && decide ((↑k : Int) < (↑(List.length b) : Int)) && decide ((↑k : Int) < (↑(List.length c) : Int))) = true → ((decide ((↑k : Int) < (↑(List.length a) : Int)) && decide ((↑k : Int) < (↑(List.length b) : Int)) && decide ((↑k : Int) < (↑(List.length c) : Int))) == true) = true) ∧ True) (V.b (decide ((↑k : Int) < (↑(List.length a) : Int)) && decide ((↑k : Int) < (↑(List.length b) : Int)) && decide ((↑k : Int) < (↑(List.length c) : Int)) && decide ((↑k : Int) < 6)))] kR kR ⟨⟨⟨tI, tI⟩, (fun _ => tI)⟩, ⟨⟨tI, tI⟩, (fun _ => tI)⟩, ⟨⟨(by (exact fun h => h)), tI⟩, (fun _ => tI)⟩, ⟨⟨(by (exact fun h => h)), ⟨(by (exact fun h => h)), tI⟩⟩, (fun _ => tI)⟩, ⟨(by (intro h; rw [h]; rfl)), tI⟩, ⟨⟨tI, tI⟩, (fun _ => tI)⟩, ⟨⟨tI, tI⟩, (fun _ => tI)⟩, ⟨⟨(by (exact fun h => h)), tI⟩, (fun _ => tI)⟩, ⟨⟨(by (exact fun h => h)), ⟨(by (exact fun h => h)), tI⟩⟩, (fun _ => tI)⟩, ⟨(by (intro h; rw [h]; rfl)), tI⟩, ⟨⟨tI, tI⟩, (fun _ => tI)⟩, ⟨⟨(by (exact fun h => h)), ⟨tI, tI⟩⟩, (fun _ => tI)⟩, ⟨(by (intro h; rw [h]; rfl)), tI⟩, tI⟩ ?_
 refine nK hK ?_; clear hK K
 refine w_cond (t := decide ((↑k : Int) < (↑(List.length a) : Int)) && decide ((↑k : Int) < (↑(List.length b) : Int)) && decide ((↑k : Int) < (↑(List.length c) : Int)) && decide ((↑k : Int) < 6)) kR (fun c1 => ?_) (fun c1 => ?_)
 ·
  have hk1 : k < nT a b c := by
   simp only [Bool.and_eq_true, decide_eq_true_eq] at c1
   unfold nT
   omega
  have b1 := ha _ (gi_mem (show k < a.length by omega))
  have b2 := hb _ (gi_mem (show k < b.length by omega))
  have b3 := hc _ (gi_mem (show k < c.length by omega))
  have h1 := hfT_bd ha (show k < a.length by omega)
  have d1 := dfT_bd hb (show k < b.length by omega)
  have l1 := lnT_bd c k
  have e3 := lnT_eq hc (show k < c.length by omega)
  have h1' : 1 ≤ 1 + (gi a k).tmod 1000 ∧ 1 + (gi a k).tmod 1000 ≤ 1000 := h1
  have d1' : 0 ≤ (gi b k).tmod 1001 ∧ (gi b k).tmod 1001 ≤ 1000 := d1
  refine aw_skip ?_
  refine xt_n (hK _ ?_); clear hK K; refine sK fun K hK => ?_
  refine aw_block ?_
  refine sK fun K hK => wD 3 ?_
  refine aops_n hTT (M := []) (n := 21) [pv 53 (V.own 2), pv 54 ((yyWBands0 a)), pv 55 (V.i (↑k : Int)), pc 56 ((0 : Int) ≤ (↑k : Int) ∧ (↑k : Int) < (↑(List.length a) : Int)) (V.ptr [V.c (Value.int IntKind.u16 (gi a k))]), pv 57 (V.c (Value.int IntKind.u16 (gi a k))), pc 58 ((-9223372036854775808 : Int) ≤ gi a k ∧ gi a k ≤ 9223372036854775807) (V.i (gi a k)), pc 59 ((1000 : Int) ≠ (0 : Int)) (V.i (Int.tmod (gi a k) (1000 : Int))), pc 60 ((-9223372036854775808 : Int) ≤ (1 : Int) + Int.tmod (gi a k) (1000 : Int) ∧ (1 : Int) + Int.tmod (gi a k) (1000 : Int) ≤ (9223372036854775807 : Int)) (V.i ((1 : Int) + Int.tmod (gi a k) (1000 : Int))), pv 61 (V.sl 1 1 fun (i : Nat) => List.take (1 : Nat) (List.drop (i * 1) [V.i ((1 : Int) + Int.tmod (gi a k) (1000 : Int))])), PR.mk (some (62 : Nat)) (some (k + 1 ≤ (1099511627776 : Nat))) (V.own 200062) [((2 : Nat), none), ((200062 : Nat), some (Ob.row 2 1 (k + 1) (appRow k (fun (k : Nat) => [V.i (hfT a k)]) fun (i : Nat) => List.take (1 : Nat) (List.drop (i * 1) [V.i ((1 : Int) + Int.tmod (gi a k) (1000 : Int))]))))] false, pv 63 (V.own 3), pv 64 ((yyWBands1 b)), pv 65 (V.i (↑k : Int)), pc 66 ((0 : Int) ≤ (↑k : Int) ∧ (↑k : Int) < (↑(List.length b) : Int)) (V.ptr [V.c (Value.int IntKind.u16 (gi b k))]), pv 67 (V.c (Value.int IntKind.u16 (gi b k))), pc 68 ((-9223372036854775808 : Int) ≤ gi b k ∧ gi b k ≤ 9223372036854775807) (V.i (gi b k)), pc 69 ((1001 : Int) ≠ (0 : Int)) (V.i (Int.tmod (gi b k) (1001 : Int))), pv 70 (V.sl 1 1 fun (i : Nat) => List.take (1 : Nat) (List.drop (i * 1) [V.i (Int.tmod (gi b k) (1001 : Int))])), PR.mk (some (71 : Nat)) (some (k + 1 ≤ (1099511627776 : Nat))) (V.own 200071) [((3 : Nat), none), ((200071 : Nat), some (Ob.row 2 1 (k + 1) (appRow k (fun (k : Nat) => [V.i (dfT b k)]) fun (i : Nat) => List.take (1 : Nat) (List.drop (i * 1) [V.i (Int.tmod (gi b k) (1001 : Int))]))))] false, pv 10 (V.own 200062), pv 11 (V.own 200071)] kR kR ⟨oM, oM, oM, oM, oM, oM, oM, oM, oM, tI⟩ ?_
  refine aops_nil ⟨kR, (xt_n (hK _ ?_))⟩; clear hK K
  refine w_le (s' := ⟨mkT [(0, V.fms fs), (1, V.u16m a), (2, V.u16m b), (3, V.u8b c), (9, .own 1), (10, .own 2), (11, .own 3), (12, .i k)], mkS [(1, .row 29 3 k fun k => (trF a b c k).c), (2, .row 2 1 (k + 1) fun k => [.i (hfT a k)]), (3, .row 2 1 (k + 1) fun k => [.i (dfT b k)])], 1⟩) ?_ ?_
  ·
   refine le_ren (tl := [(0, V.sl 8 (List.length fs) fun (k : Nat) => Fm.c (gfm fs k)), (1, (yyWBands0 a)), (2, (yyWBands1 b)), (3, (yyWBands2 c)), (9, V.own 1), (10, V.own 2), (11, V.own 3), (12, V.i (↑k : Int))]) (sl := [(1, Ob.row 29 3 k fun (k : Nat) => Tr.c (trF a b c k)), (2, Ob.row 2 1 (k + 1) fun (k : Nat) => [V.i (hfT a k)]), (3, Ob.row 2 1 (k + 1) fun (k : Nat) => [V.i (dfT b k)])]) [(1, 1), (2, 200062), (3, 200071)] (.cons kR (.cons kR (.cons kR (.cons kR (.cons kR (.cons kR (.cons kR (.cons kR .nil)))))))) (.cons ⟨Ob.row 29 3 k fun (k : Nat) => Tr.c (trF a b c k), kR, .row kR (fun _ _ => rfl)⟩ (.cons ⟨Ob.row 2 1 (k + 1) (appRow k (fun (k : Nat) => [V.i (hfT a k)]) fun (i : Nat) => List.take (1 : Nat) (List.drop (i * 1) [V.i ((1 : Int) + Int.tmod (gi a k) (1000 : Int))])), kR, .row kR ?_⟩ (.cons ⟨Ob.row 2 1 (k + 1) (appRow k (fun (k : Nat) => [V.i (dfT b k)]) fun (i : Nat) => List.take (1 : Nat) (List.drop (i * 1) [V.i (Int.tmod (gi b k) (1001 : Int))])), kR, .row kR ?_⟩ .nil))) kR kR
   ·
    exact appRow_ok (fun i hi => rfl) rfl
   ·
    exact appRow_ok (fun i hi => rfl) rfl
  refine wD 2 ?_
  refine aops_n hTT (M := []) (n := 22) [pv 72 (V.own 1), pv 73 ((yyWBands2 c)), pv 74 (V.i (↑k : Int)), pc 75 ((0 : Int) ≤ (↑k : Int) ∧ (↑k : Int) < (↑(List.length c) : Int)) (V.ptr [V.c (Value.int IntKind.u8 (gi c k))]), pv 76 (V.c (Value.int IntKind.u8 (gi c k))), pc 77 ((-9223372036854775808 : Int) ≤ gi c k ∧ gi c k ≤ 9223372036854775807) (V.i (gi c k)), pc 78 ((40 : Int) ≠ (0 : Int)) (V.i (Int.tmod (gi c k) (40 : Int))), pc 79 ((-9223372036854775808 : Int) ≤ (1 : Int) + Int.tmod (gi c k) (40 : Int) ∧ (1 : Int) + Int.tmod (gi c k) (40 : Int) ≤ (9223372036854775807 : Int)) (V.i ((1 : Int) + Int.tmod (gi c k) (40 : Int))), pv 80 (V.own 2), pv 81 (V.i (↑k : Int)), pc 82 ((0 : Int) ≤ (↑k : Int) ∧ (↑k : Int) < (↑(k + 1) : Int)) (V.oel 2 1 k (0 : Nat)), pc 83 (k < k + 1 ∧ (0 : Nat) ≤ (1 : Nat)) (V.i (hfT a k)), pc 84 ((-9223372036854775808 : Int) ≤ (2 : Int) * hfT a k ∧ (2 : Int) * hfT a k ≤ 9223372036854775807) (V.i ((2 : Int) * hfT a k)), pv 85 (V.own 3), pv 86 (V.i (↑k : Int)), pc 87 ((0 : Int) ≤ (↑k : Int) ∧ (↑k : Int) < (↑(k + 1) : Int)) (V.oel 3 1 k (0 : Nat)), pc 88 (k < k + 1 ∧ (0 : Nat) ≤ (1 : Nat)) (V.i (dfT b k)), pc 89 ((-9223372036854775808 : Int) ≤ (2 : Int) * hfT a k + dfT b k ∧ (2 : Int) * hfT a k + dfT b k ≤ 9223372036854775807) (V.i ((2 : Int) * hfT a k + dfT b k)), pv 90 (V.agg [V.i ((1 : Int) + Int.tmod (gi c k) (40 : Int)), V.i ((2 : Int) * hfT a k + dfT b k), V.i 0]), pv 91 (V.sl 3 1 fun (i : Nat) => List.take (3 : Nat) (List.drop (i * 3) [V.i ((1 : Int) + Int.tmod (gi c k) (40 : Int)), V.i ((2 : Int) * hfT a k + dfT b k), V.i 0])), PR.mk (some (92 : Nat)) (some (k + 1 ≤ (1099511627776 : Nat))) (V.own 100092) [((1 : Nat), none), ((100092 : Nat), some (Ob.row 29 3 (k + 1) (appRow k (fun (k : Nat) => Tr.c (trF a b c k)) fun (i : Nat) => List.take (3 : Nat) (List.drop (i * 3) [V.i ((1 : Int) + Int.tmod (gi c k) (40 : Int)), V.i ((2 : Int) * hfT a k + dfT b k), V.i 0]))))] false, pv 9 (V.own 100092)] kR kR ⟨oM, oM, oM, oM, oM, oM, oM, oM, oM, oM, oM, tI⟩ ?_
  refine aops_nil ⟨kR, (xb_n (xt_n (hK _ ?_)))⟩; clear hK K; refine wR 3 ?_
  refine aops_n hTT (M := []) (n := 3) [pv 51 (V.i (↑k : Int)), pc 52 ((-9223372036854775808 : Int) ≤ (↑k : Int) + 1 ∧ (↑k : Int) + 1 ≤ (9223372036854775807 : Int)) (V.i ((↑k : Int) + 1)), pv 12 (V.i ((↑k : Int) + 1))] kR kR ⟨oM, tI⟩ ?_
  refine aops_nil (xt_n ?_)
  refine ⟨k + 1, by omega, ?_, by omega⟩
  refine le_ren (tl := [(0, V.sl 8 (List.length fs) fun (k : Nat) => Fm.c (gfm fs k)), (1, (yyWBands0 a)), (2, (yyWBands1 b)), (3, (yyWBands2 c)), (9, V.own 1), (10, V.own 2), (11, V.own 3), (12, V.i (↑(k + 1) : Int))]) (sl := [(1, Ob.row 29 3 (k + 1) fun (k : Nat) => Tr.c (trF a b c k)), (2, Ob.row 2 1 (k + 1) fun (k : Nat) => [V.i (hfT a k)]), (3, Ob.row 2 1 (k + 1) fun (k : Nat) => [V.i (dfT b k)])]) [(1, 100092), (2, 2), (3, 3)] (.cons kR (.cons kR (.cons kR (.cons kR (.cons kR (.cons kR (.cons kR (.cons kR .nil)))))))) (.cons ⟨Ob.row 29 3 (k + 1) (appRow k (fun (k : Nat) => Tr.c (trF a b c k)) fun (i : Nat) => List.take (3 : Nat) (List.drop (i * 3) [V.i ((1 : Int) + Int.tmod (gi c k) (40 : Int)), V.i ((2 : Int) * hfT a k + dfT b k), V.i 0])), kR, .row kR ?_⟩ (.cons ⟨Ob.row 2 1 (k + 1) fun (k : Nat) => [V.i (hfT a k)], kR, .row kR (fun _ _ => rfl)⟩ (.cons ⟨Ob.row 2 1 (k + 1) fun (k : Nat) => [V.i (dfT b k)], kR, .row kR (fun _ _ => rfl)⟩ .nil))) kR kR
  exact appRow_ok (fun i hi => rfl) (by show [V.i (1 + (gi c k).tmod 40), V.i (2 * hfT a k + dfT b k), V.i 0] = [V.i ((lnT c k : Nat) : Int), V.i (2 * hfT a k + dfT b k), V.i 0]; rw [e3])
 ·
  have hk1 : k = nT a b c := by
   refine Nat.le_antisymm hk (Nat.not_lt.1 fun hlt => ?_)
   simp only [Bool.and_eq_false_iff, decide_eq_false_iff_not] at c1
   omega
  subst hk1
  refine w_le (le_shut 9 1 (e := (29 : Nat)) (sz := (3 : Nat)) (n := nT a b c) (n' := (trL a b c).length) (row := fun (k : Nat) => Tr.c (trF a b c k)) (row' := (fun k => (gtr (trL a b c) k).c)) kR kR (fun _ _ => rfl) ?_ ?_) ?_
  ·
   rw [trL_len]
  ·
   intro i hi
   rw [trL_at hi]
  refine w_le (le_shut 10 2 (e := (2 : Nat)) (sz := (1 : Nat)) (n := nT a b c) (n' := (hsL a b c).length) (row := fun (k : Nat) => [V.i (hfT a k)]) (row' := (fun k => [.i (gi (hsL a b c) k)])) kR kR (fun _ _ => rfl) ?_ ?_) ?_
  ·
   rw [hsL_len]
  ·
   intro i hi
   rw [hsL_at hi]
  refine w_le (le_shut 11 3 (e := (2 : Nat)) (sz := (1 : Nat)) (n := nT a b c) (n' := (dsL a b c).length) (row := fun (k : Nat) => [V.i (dfT b k)]) (row' := (fun k => [.i (gi (dsL a b c) k)])) kR kR (fun _ _ => rfl) ?_ ?_) ?_
  ·
   rw [dsL_len]
  ·
   intro i hi
   rw [dsL_at hi]
  have len1 := trL_len a b c
  have len2 := hsL_len a b c
  have len3 := dsL_len a b c
  have hT := fun k (hk : k < nT a b c) => trL_at (a := a) (b := b) (c := c) hk
  have hH := fun k (hk : k < nT a b c) => hsL_at (a := a) (b := b) (c := c) hk
  have hD := fun k (hk : k < nT a b c) => dsL_at (a := a) (b := b) (c := c) hk
  generalize trL a b c = T at len1 hT ⊢
  generalize hsL a b c = H at len2 hH ⊢
  generalize dsL a b c = D at len3 hD ⊢
  refine aw_exit ?_
  refine xt_x ?_; refine xt_x ?_
  refine xb_same ?_
  refine xt_n ?_; clear hK K; refine hK _ ?_; clear hK K; refine sK fun K hK => sK fun K hK => wR 3 ?_
  refine aops_n hTT (M := []) (n := 6) [pv 93 (V.sl 8 (List.length fs) fun (k : Nat) => Fm.c (gfm fs k)), pv 94 (V.i (↑(List.length fs) : Int)), pv 95 (V.b (decide ((8 : Int) < (↑(List.length fs) : Int)))), pv 96 (V.b (decide ((8 : Int) < (↑(List.length fs) : Int)))), pc 97 ((True ∧ True) ∧ ((decide ((8 : Int) < (↑(List.length fs) : Int)) == false) = true → True)) (V.gd (decide ((8 : Int) < (↑(List.length fs) : Int)) == false) (V.sl 8 (List.length fs) fun (k : Nat) => Fm.c (gfm fs k))), pc 98 ((True ∧ True) ∧ ((decide ((8 : Int) < (↑(List.length fs) : Int)) == false) = true → True)) (V.gd (decide ((8 : Int) < (↑(List.length fs) : Int)) == false) (V.sl 3 (List.length T) fun (k : Nat) => Tr.c (gtr T k)))] kR kR ⟨⟨⟨tI, tI⟩, (fun _ => tI)⟩, ⟨⟨tI, tI⟩, (fun _ => tI)⟩, tI⟩ ?_
  refine eG 2 (g := decide ((8 : Int) < (↑(List.length fs) : Int)) == false) (fun h => rCheckFormats_ac fs T hfl oM hfn) ?_
  refine aops_n hTT (M := []) (n := 2) [pc 100 ((((decide ((8 : Int) < (↑(List.length fs) : Int)) == false) = true → (decide ((8 : Int) < (↑(List.length fs) : Int)) == false) = true) ∧ True ∧ True) ∧ ((decide ((8 : Int) < (↑(List.length fs) : Int)) == false) = true → True)) (V.gd (decide ((8 : Int) < (↑(List.length fs) : Int)) == false) (V.b !decide (fmsE fs T = 0))), pc 101 (True ∧ (decide ((8 : Int) < (↑(List.length fs) : Int)) = false → (decide ((8 : Int) < (↑(List.length fs) : Int)) == false) = true)) (V.b (decide ((8 : Int) < (↑(List.length fs) : Int)) || !decide (fmsE fs T = 0)))] kR kR ⟨⟨⟨(by (exact fun h => h)), ⟨tI, tI⟩⟩, (fun _ => tI)⟩, ⟨tI, (by (intro h; rw [h]; rfl))⟩, tI⟩ ?_
  refine nK hK ?_; clear hK K
  refine w_cond (t := decide ((8 : Int) < (↑(List.length fs) : Int)) || !decide (fmsE fs T = 0)) kR (fun c2 => ?_) (fun c2 => ?_)
  ·
   refine sK fun K hK => ?_
   refine wR 4 ?_
   refine eC (works05_ac) ?_
   refine aops_n hTT (M := []) (n := 1) [pv 8 (V.b true)] kR kR tI ?_
   refine nK hK ?_; clear hK K
   refine aw_ret ?_
   refine xt_r ?_
   refine rP (V.b true)
  have h0 : fmsE fs T = 0 := by
   simp only [Bool.or_eq_false_iff, Bool.not_eq_false', decide_eq_true_eq] at c2
   exact c2.2
  have A := fms_ok h0
  have hT24 := A.ll
  by_cases hw : (bestS fs T T.length).w 0 = noneW
  ·
   refine aw_skip ?_
   refine xt_n (hK _ ?_); clear hK K; refine sK fun K hK => wR 4 ?_
   refine aops_n hTT (M := []) (n := 2) [pv 104 (V.sl 8 (List.length fs) fun (k : Nat) => Fm.c (gfm fs k)), pv 105 (V.sl 3 (List.length T) fun (k : Nat) => Tr.c (gtr T k))] kR kR tI ?_
   refine eC (Album_no fs T A hw) ?_
   refine aops_n hTT (M := []) (n := 7) [pv 103 (V.tup [V.nil, V.i 0, V.i 15]), pv 107 V.nil, pv 108 (V.i 0), pv 109 (V.i 15), pv 13 V.nil, pv 14 (V.i 0), pv 15 (V.i 15)] kR kR tI ?_
   refine nK hK ?_; clear hK K; refine sK fun K hK => sK fun K hK => wR 5 ?_
   refine aops_n hTT (M := []) (n := 2) [pv 110 (V.i 15), pv 111 (V.b true)] kR kR tI ?_
   refine nK hK ?_; clear hK K; refine w_true (t := true) kR rfl (sK fun K hK => wR 6 ?_)
   refine aops_n hTT (M := []) (n := 3) [pv 112 (V.i 15), pv 113 (V.b true), pv 114 (V.b true)] kR kR tI ?_
   refine eG 0 (g := true == true) (fun h => works05_ac) ?_
   refine aops_n hTT (M := []) (n := 2) [pc 116 ((true = true → (true == true) = true) ∧ True) (V.b true), pv 8 (V.b true)] kR kR ⟨⟨(by (exact fun h => h)), tI⟩, tI⟩ ?_
   refine nK hK ?_; clear hK K
   refine aw_ret ?_
   refine xt_r ?_
   refine rP (V.b true)
  obtain ⟨p, hp⟩ := plan_ex (best_ok (fs := fs) (l := T) T.length (Nat.le_refl _)) T.length 0 rfl (Nat.zero_le _) hw
  have hpe := hp.end
  refine aw_skip ?_
  refine xt_n (hK _ ?_); clear hK K; refine sK fun K hK => wR 4 ?_
  refine aops_n hTT (M := []) (n := 2) [pv 104 (V.sl 8 (List.length fs) fun (k : Nat) => Fm.c (gfm fs k)), pv 105 (V.sl 3 (List.length T) fun (k : Nat) => Tr.c (gtr T k))] kR kR tI ?_
  refine eC (Album_ok fs T A hw p hp) ?_
  refine aops_n hTT (M := []) (n := 7) [pv 103 (V.tup [V.sl 2 (List.length p) (faC p), V.i (Prod.fst (BB.w (bestS fs T (List.length T)) (0 : Nat))), V.i 0]), pv 107 (V.sl 2 (List.length p) (faC p)), pv 108 (V.i (Prod.fst (BB.w (bestS fs T (List.length T)) (0 : Nat)))), pv 109 (V.i 0), pv 13 (V.sl 2 (List.length p) (faC p)), pv 14 (V.i (Prod.fst (BB.w (bestS fs T (List.length T)) (0 : Nat)))), pv 15 (V.i 0)] kR kR tI ?_
  refine nK hK ?_; clear hK K; refine sK fun K hK => sK fun K hK => wR 5 ?_
  refine aops_n hTT (M := []) (n := 2) [pv 110 (V.i 0), pv 111 (V.b false)] kR kR tI ?_
  refine nK hK ?_; clear hK K; refine w_false (t := false) kR rfl ?_
  refine aw_skip ?_
  refine xt_n (hK _ ?_); clear hK K; refine sK fun K hK => wR 6 ?_
  refine aops_n hTT (M := []) (n := 1) [pv 16 (V.i 0)] kR kR tI ?_
  refine nK hK ?_; clear hK K; refine sK fun K hK => sK fun K hK => wR 7 ?_
  refine aops_n hTT (M := []) (n := 1) [pv 17 (V.i 0)] kR kR tI ?_
  refine nK hK ?_; clear hK K
  refine aw_block ?_
  refine w_loop (ι := Nat) (fun k => [(0, V.fms fs), (9, V.trs T), (10, V.ints H), (11, V.ints D), (13, V.fcs p), (16, .i (offP p k)), (17, .i k)]) (fun _ => []) (fun k => k ≤ p.length) (fun k => p.length - k) 0 (Nat.zero_le _) ?_ ?_
  ·
   refine le_ren [] (.cons kR (.cons kR (.cons kR (.cons kR (.cons kR (.cons kR (.cons kR .nil))))))) .nil kR kR
  intro k hk
  have hpl := hp.ge p.length (Nat.le_refl _)
  refine sK fun K hK => sK fun K hK => wR 2 ?_
  refine aops_n hTT (M := []) (n := 4) [pv 117 (V.i (↑k : Int)), pv 118 (V.sl 2 (List.length p) (faC p)), pv 119 (V.i (↑(List.length p) : Int)), pv 120 (V.b (decide ((↑k : Int) < (↑(List.length p) : Int))))] kR kR tI ?_
  refine nK hK ?_; clear hK K
  refine w_cond (t := decide ((↑k : Int) < (↑(List.length p) : Int))) kR (fun c3 => ?_) (fun c3 => ?_)
  ·
   have hk1 : k < p.length := by simpa using c3
   obtain ⟨F1, _⟩ := hp.a k hk1
   rw [Nat.zero_add] at F1
   have f1 := F1.k
   have f2 := F1.m
   have f3 := F1.e
   have f4 := F1.p
   have f8 := A.f8
   have hff := A.ff _ f1
   have e4 : ((offP p k : Nat) : Int) + (((gpf p k).2 : Nat) : Int) = ((offP p (k + 1) : Nat) : Int) := by rw [offP]; omega
   refine aw_skip ?_
   refine xt_n (hK _ ?_); clear hK K; refine sK fun K hK => ?_
   refine aw_block ?_
   refine sK fun K hK => wR 3 ?_
   refine aops_n hTT (M := []) (n := 6) [pv 123 (V.sl 2 (List.length p) (faC p)), pv 124 (V.i (↑k : Int)), pc 125 ((0 : Int) ≤ (↑k : Int) ∧ (↑k : Int) < (↑(List.length p) : Int)) (V.ptr [V.i (↑(Prod.fst (gpf p k)) : Int), V.i (↑(Prod.snd (gpf p k)) : Int)]), pv 126 (V.agg [V.i (↑(Prod.fst (gpf p k)) : Int), V.i (↑(Prod.snd (gpf p k)) : Int)]), pn 18 (V.ref 200018 0) (200018 : Nat) (Ob.box 37 [V.i 0, V.i 0]), pw ((0 : Nat) + (2 : Nat) ≤ (2 : Nat)) (200018 : Nat) (Ob.box 37 [V.i (↑(Prod.fst (gpf p k)) : Int), V.i (↑(Prod.snd (gpf p k)) : Int)])] kR kR ⟨oM, oM, tI⟩ ?_
   refine nK hK ?_; clear hK K; refine sK fun K hK => sK fun K hK => wR 4 ?_
   refine aops_n hTT (M := []) (n := 24) [pv 127 (V.ref 200018 0), pc 128 ((0 : Nat) ≤ (2 : Nat)) (V.i (↑(Prod.fst (gpf p k)) : Int)), pv 129 (V.b (decide ((↑(Prod.fst (gpf p k)) : Int) < 0))), pv 130 (V.b (decide ((↑(Prod.fst (gpf p k)) : Int) < 0))), pc 131 ((True ∧ True) ∧ ((decide ((↑(Prod.fst (gpf p k)) : Int) < 0) == false) = true → True)) (V.gd (decide ((↑(Prod.fst (gpf p k)) : Int) < 0) == false) (V.ref 200018 0)), pc 132 ((((decide ((↑(Prod.fst (gpf p k)) : Int) < 0) == false) = true → (decide ((↑(Prod.fst (gpf p k)) : Int) < 0) == false) = true) ∧ True) ∧ ((decide ((↑(Prod.fst (gpf p k)) : Int) < 0) == false) = true → (0 : Nat) ≤ (2 : Nat))) (V.gd (decide ((↑(Prod.fst (gpf p k)) : Int) < 0) == false) (V.i (↑(Prod.fst (gpf p k)) : Int))), pc 133 ((True ∧ True) ∧ ((decide ((↑(Prod.fst (gpf p k)) : Int) < 0) == false) = true → True)) (V.gd (decide ((↑(Prod.fst (gpf p k)) : Int) < 0) == false) (V.sl 8 (List.length fs) fun (k : Nat) => Fm.c (gfm fs k))), pc 134 ((((decide ((↑(Prod.fst (gpf p k)) : Int) < 0) == false) = true → (decide ((↑(Prod.fst (gpf p k)) : Int) < 0) == false) = true) ∧ True) ∧ ((decide ((↑(Prod.fst (gpf p k)) : Int) < 0) == false) = true → True)) (V.gd (decide ((↑(Prod.fst (gpf p k)) : Int) < 0) == false) (V.i (↑(List.length fs) : Int))), pc 135 ((((decide ((↑(Prod.fst (gpf p k)) : Int) < 0) == false) = true → (decide ((↑(Prod.fst (gpf p k)) : Int) < 0) == false) = true) ∧ ((decide ((↑(Prod.fst (gpf p k)) : Int) < 0) == false) = true → (decide ((↑(Prod.fst (gpf p k)) : Int) < 0) == false) = true) ∧ True) ∧ ((decide ((↑(Prod.fst (gpf p k)) : Int) < 0) == false) = true → True)) (V.gd (decide ((↑(Prod.fst (gpf p k)) : Int) < 0) == false) (V.b (decide ((↑(List.length fs) : Int) ≤ (↑(Prod.fst (gpf p k)) : Int))))), pc 136 (True ∧ (decide ((↑(Prod.fst (gpf p k)) : Int) < 0) = false → (decide ((↑(Prod.fst (gpf p k)) : Int) < 0) == false) = true)) (V.b (decide ((↑(Prod.fst (gpf p k)) : Int) < 0) || decide ((↑(List.length fs) : Int) ≤ (↑(Prod.fst (gpf p k)) : Int)))), pv 137 (V.b (decide ((↑(Prod.fst (gpf p k)) : Int) < 0) || decide ((↑(List.length fs) : Int) ≤ (↑(Prod.fst (gpf p k)) : Int)))), pc 138 ((True ∧ True) ∧ (((decide ((↑(Prod.fst (gpf p k)) : Int) < 0) || decide ((↑(List.length fs) : Int) ≤ (↑(Prod.fst (gpf p k)) : Int))) == false) = true → True)) (V.gd ((decide ((↑(Prod.fst (gpf p k)) : Int) < 0) || decide ((↑(List.length fs) : Int) ≤ (↑(Prod.fst (gpf p k)) : Int))) == false) (V.ref 200018 1)), pc 139 (((((decide ((↑(Prod.fst (gpf p k)) : Int) < 0) || decide ((↑(List.length fs) : Int) ≤ (↑(Prod.fst (gpf p k)) : Int))) == false) = true → ((decide ((↑(Prod.fst (gpf p k)) : Int) < 0) || decide ((↑(List.length fs) : Int) ≤ (↑(Prod.fst (gpf p k)) : Int))) == false) = true) ∧ True) ∧ (((decide ((↑(Prod.fst (gpf p k)) : Int) < 0) || decide ((↑(List.length fs) : Int) ≤ (↑(Prod.fst (gpf p k)) : Int))) == false) = true → (1 : Nat) ≤ (2 : Nat))) (V.gd ((decide ((↑(Prod.fst (gpf p k)) : Int) < 0) || decide ((↑(List.length fs) : Int) ≤ (↑(Prod.fst (gpf p k)) : Int))) == false) (V.i (↑(Prod.snd (gpf p k)) : Int))), pc 140 (((((decide ((↑(Prod.fst (gpf p k)) : Int) < 0) || decide ((↑(List.length fs) : Int) ≤ (↑(Prod.fst (gpf p k)) : Int))) == false) = true → ((decide ((↑(Prod.fst (gpf p k)) : Int) < 0) || decide ((↑(List.length fs) : Int) ≤ (↑(Prod.fst (gpf p k)) : Int))) == false) = true) ∧ True ∧ True) ∧ (((decide ((↑(Prod.fst (gpf p k)) : Int) < 0) || decide ((↑(List.length fs) : Int) ≤ (↑(Prod.fst (gpf p k)) : Int))) == false) = true → True)) (V.gd ((decide ((↑(Prod.fst (gpf p k)) : Int) < 0) || decide ((↑(List.length fs) : Int) ≤ (↑(Prod.fst (gpf p k)) : Int))) == false) (V.b (decide ((↑(Prod.snd (gpf p k)) : Int) < 1)))), pc 141 (True ∧ ((decide ((↑(Prod.fst (gpf p k)) : Int) < 0) || decide ((↑(List.length fs) : Int) ≤ (↑(Prod.fst (gpf p k)) : Int))) = false → ((decide ((↑(Prod.fst (gpf p k)) : Int) < 0) || decide ((↑(List.length fs) : Int) ≤ (↑(Prod.fst (gpf p k)) : Int))) == false) = true)) (V.b (decide ((↑(Prod.fst (gpf p k)) : Int) < 0) || decide ((↑(List.length fs) : Int) ≤ (↑(Prod.fst (gpf p k)) : Int)) || decide ((↑(Prod.snd (gpf p k)) : Int) < 1))), pv 142 (V.b (decide ((↑(Prod.fst (gpf p k)) : Int) < 0) || decide ((↑(List.length fs) : Int) ≤ (↑(Prod.fst (gpf p k)) : Int)) || decide ((↑(Prod.snd (gpf p k)) : Int) < 1))), pc 143 ((True ∧ True) ∧ (((decide ((↑(Prod.fst (gpf p k)) : Int) < 0) || decide ((↑(List.length fs) : Int) ≤ (↑(Prod.fst (gpf p k)) : Int)) || decide ((↑(Prod.snd (gpf p k)) : Int) < 1)) == false) = true → True)) (V.gd ((decide ((↑(Prod.fst (gpf p k)) : Int) < 0) || decide ((↑(List.length fs) : Int) ≤ (↑(Prod.fst (gpf p k)) : Int)) || decide ((↑(Prod.snd (gpf p k)) : Int) < 1)) == false) (V.i (↑(offP p k) : Int))), pc 144 ((True ∧ True) ∧ (((decide ((↑(Prod.fst (gpf p k)) : Int) < 0) || decide ((↑(List.length fs) : Int) ≤ (↑(Prod.fst (gpf p k)) : Int)) || decide ((↑(Prod.snd (gpf p k)) : Int) < 1)) == false) = true → True)) (V.gd ((decide ((↑(Prod.fst (gpf p k)) : Int) < 0) || decide ((↑(List.length fs) : Int) ≤ (↑(Prod.fst (gpf p k)) : Int)) || decide ((↑(Prod.snd (gpf p k)) : Int) < 1)) == false) (V.ref 200018 1)), pc 145 (((((decide ((↑(Prod.fst (gpf p k)) : Int) < 0) || decide ((↑(List.length fs) : Int) ≤ (↑(Prod.fst (gpf p k)) : Int)) || decide ((↑(Prod.snd (gpf p k)) : Int) < 1)) == false) = true → ((decide ((↑(Prod.fst (gpf p k)) : Int) < 0) || decide ((↑(List.length fs) : Int) ≤ (↑(Prod.fst (gpf p k)) : Int)) || decide ((↑(Prod.snd (gpf p k)) : Int) < 1)) == false) = true) ∧ True) ∧ (((decide ((↑(Prod.fst (gpf p k)) : Int) < 0) || decide ((↑(List.length fs) : Int) ≤ (↑(Prod.fst (gpf p k)) : Int)) || decide ((↑(Prod.snd (gpf p k)) : Int) < 1)) == false) = true → (1 : Nat) ≤ (2 : Nat))) (V.gd ((decide ((↑(Prod.fst (gpf p k)) : Int) < 0) || decide ((↑(List.length fs) : Int) ≤ (↑(Prod.fst (gpf p k)) : Int)) || decide ((↑(Prod.snd (gpf p k)) : Int) < 1)) == false) (V.i (↑(Prod.snd (gpf p k)) : Int))), pc 146 (((((decide ((↑(Prod.fst (gpf p k)) : Int) < 0) || decide ((↑(List.length fs) : Int) ≤ (↑(Prod.fst (gpf p k)) : Int)) || decide ((↑(Prod.snd (gpf p k)) : Int) < 1)) == false) = true → ((decide ((↑(Prod.fst (gpf p k)) : Int) < 0) || decide ((↑(List.length fs) : Int) ≤ (↑(Prod.fst (gpf p k)) : Int)) || decide ((↑(Prod.snd (gpf p k)) : Int) < 1)) == false) = true) ∧ (((decide ((↑(Prod.fst (gpf p k)) : Int) < 0) || decide ((↑(List.length fs) : Int) ≤ (↑(Prod.fst (gpf p k)) : Int)) || decide ((↑(Prod.snd (gpf p k)) : Int) < 1)) == false) = true → ((decide ((↑(Prod.fst (gpf p k)) : Int) < 0) || decide ((↑(List.length fs) : Int) ≤ (↑(Prod.fst (gpf p k)) : Int)) || decide ((↑(Prod.snd (gpf p k)) : Int) < 1)) == false) = true) ∧ True) ∧ (((decide ((↑(Prod.fst (gpf p k)) : Int) < 0) || decide ((↑(List.length fs) : Int) ≤ (↑(Prod.fst (gpf p k)) : Int)) || decide ((↑(Prod.snd (gpf p k)) : Int) < 1)) == false) = true → (-9223372036854775808 : Int) ≤ (↑(offP p k) : Int) + (↑(Prod.snd (gpf p k)) : Int) ∧ (↑(offP p k) : Int) + (↑(Prod.snd (gpf p k)) : Int) ≤ 9223372036854775807)) (V.gd ((decide ((↑(Prod.fst (gpf p k)) : Int) < 0) || decide ((↑(List.length fs) : Int) ≤ (↑(Prod.fst (gpf p k)) : Int)) || decide ((↑(Prod.snd (gpf p k)) : Int) < 1)) == false) (V.i ((↑(offP p k) : Int) + (↑(Prod.snd (gpf p k)) : Int)))), pc 147 ((True ∧ True) ∧ (((decide ((↑(Prod.fst (gpf p k)) : Int) < 0) || decide ((↑(List.length fs) : Int) ≤ (↑(Prod.fst (gpf p k)) : Int)) || decide ((↑(Prod.snd (gpf p k)) : Int) < 1)) == false) = true → True)) (V.gd ((decide ((↑(Prod.fst (gpf p k)) : Int) < 0) || decide ((↑(List.length fs) : Int) ≤ (↑(Prod.fst (gpf p k)) : Int)) || decide ((↑(Prod.snd (gpf p k)) : Int) < 1)) == false) (V.sl 3 (List.length T) fun (k : Nat) => Tr.c (gtr T k))), pc 148 (((((decide ((↑(Prod.fst (gpf p k)) : Int) < 0) || decide ((↑(List.length fs) : Int) ≤ (↑(Prod.fst (gpf p k)) : Int)) || decide ((↑(Prod.snd (gpf p k)) : Int) < 1)) == false) = true → ((decide ((↑(Prod.fst (gpf p k)) : Int) < 0) || decide ((↑(List.length fs) : Int) ≤ (↑(Prod.fst (gpf p k)) : Int)) || decide ((↑(Prod.snd (gpf p k)) : Int) < 1)) == false) = true) ∧ True) ∧ (((decide ((↑(Prod.fst (gpf p k)) : Int) < 0) || decide ((↑(List.length fs) : Int) ≤ (↑(Prod.fst (gpf p k)) : Int)) || decide ((↑(Prod.snd (gpf p k)) : Int) < 1)) == false) = true → True)) (V.gd ((decide ((↑(Prod.fst (gpf p k)) : Int) < 0) || decide ((↑(List.length fs) : Int) ≤ (↑(Prod.fst (gpf p k)) : Int)) || decide ((↑(Prod.snd (gpf p k)) : Int) < 1)) == false) (V.i (↑(List.length T) : Int))), pc 149 (((((decide ((↑(Prod.fst (gpf p k)) : Int) < 0) || decide ((↑(List.length fs) : Int) ≤ (↑(Prod.fst (gpf p k)) : Int)) || decide ((↑(Prod.snd (gpf p k)) : Int) < 1)) == false) = true → ((decide ((↑(Prod.fst (gpf p k)) : Int) < 0) || decide ((↑(List.length fs) : Int) ≤ (↑(Prod.fst (gpf p k)) : Int)) || decide ((↑(Prod.snd (gpf p k)) : Int) < 1)) == false) = true) ∧ (((decide ((↑(Prod.fst (gpf p k)) : Int) < 0) || decide ((↑(List.length fs) : Int) ≤ (↑(Prod.fst (gpf p k)) : Int)) || decide ((↑(Prod.snd (gpf p k)) : Int) < 1)) == false) = true → ((decide ((↑(Prod.fst (gpf p k)) : Int) < 0) || decide ((↑(List.length fs) : Int) ≤ (↑(Prod.fst (gpf p k)) : Int)) || decide ((↑(Prod.snd (gpf p k)) : Int) < 1)) == false) = true) ∧ True) ∧ (((decide ((↑(Prod.fst (gpf p k)) : Int) < 0) || decide ((↑(List.length fs) : Int) ≤ (↑(Prod.fst (gpf p k)) : Int)) || decide ((↑(Prod.snd (gpf p k)) : Int) < 1)) == false) = true → True)) (V.gd ((decide ((↑(Prod.fst (gpf p k)) : Int) < 0) || decide ((↑(List.length fs) : Int) ≤ (↑(Prod.fst (gpf p k)) : Int)) || decide ((↑(Prod.snd (gpf p k)) : Int) < 1)) == false) (V.b (decide ((↑(List.length T) : Int) < (↑(offP p k) : Int) + (↑(Prod.snd (gpf p k)) : Int))))), pc 150 (True ∧ ((decide ((↑(Prod.fst (gpf p k)) : Int) < 0) || decide ((↑(List.length fs) : Int) ≤ (↑(Prod.fst (gpf p k)) : Int)) || decide ((↑(Prod.snd (gpf p k)) : Int) < 1)) = false → ((decide ((↑(Prod.fst (gpf p k)) : Int) < 0) || decide ((↑(List.length fs) : Int) ≤ (↑(Prod.fst (gpf p k)) : Int)) || decide ((↑(Prod.snd (gpf p k)) : Int) < 1)) == false) = true)) (V.b (decide ((↑(Prod.fst (gpf p k)) : Int) < 0) || decide ((↑(List.length fs) : Int) ≤ (↑(Prod.fst (gpf p k)) : Int)) || decide ((↑(Prod.snd (gpf p k)) : Int) < 1) || decide ((↑(List.length T) : Int) < (↑(offP p k) : Int) + (↑(Prod.snd (gpf p k)) : Int))))] kR kR ⟨oM, ⟨⟨tI, tI⟩, (fun _ => tI)⟩, ⟨⟨(by (exact fun h => h)), tI⟩, (by (intro _; simp; done))⟩, ⟨⟨tI, tI⟩, (fun _ => tI)⟩, ⟨⟨(by (exact fun h => h)), tI⟩, (fun _ => tI)⟩, ⟨⟨(by (exact fun h => h)), ⟨(by (exact fun h => h)), tI⟩⟩, (fun _ => tI)⟩, ⟨tI, (by (intro h; rw [h]; rfl))⟩, ⟨⟨tI, tI⟩, (fun _ => tI)⟩, ⟨⟨(by (exact fun h => h)), tI⟩, (by (intro _; simp; done))⟩, ⟨⟨(by (exact fun h => h)), ⟨tI, tI⟩⟩, (fun _ => tI)⟩, ⟨tI, (by (intro h; rw [h]; rfl))⟩, ⟨⟨tI, tI⟩, (fun _ => tI)⟩, ⟨⟨tI, tI⟩, (fun _ => tI)⟩, ⟨⟨(by (exact fun h => h)), tI⟩, (by (intro _; simp; done))⟩, ⟨⟨(by (exact fun h => h)), ⟨(by (exact fun h => h)), tI⟩⟩, (by (intro hg; simp at hg; omega))⟩, ⟨⟨tI, tI⟩, (fun _ => tI)⟩, ⟨⟨(by (exact fun h => h)), tI⟩, (fun _ => tI)⟩, ⟨⟨(by (exact fun h => h)), ⟨(by (exact fun h => h)), tI⟩⟩, (fun _ => tI)⟩, ⟨tI, (by (intro h; rw [h]; rfl))⟩, tI⟩ ?_
   refine nK hK ?_; clear hK K
   refine w_cond (t := decide ((↑(Prod.fst (gpf p k)) : Int) < 0) || decide ((↑(List.length fs) : Int) ≤ (↑(Prod.fst (gpf p k)) : Int)) || decide ((↑(Prod.snd (gpf p k)) : Int) < 1) || decide ((↑(List.length T) : Int) < (↑(offP p k) : Int) + (↑(Prod.snd (gpf p k)) : Int))) kR (fun c4 => ?_) (fun c4 => ?_)
   ·
    exfalso
    simp only [Bool.or_eq_true, decide_eq_true_eq] at c4
    omega
   refine aw_skip ?_
   refine xt_n (hK _ ?_); clear hK K; refine sK fun K hK => wR 5 ?_
   refine aops_n hTT (M := []) (n := 7) [pv 151 (V.sl 8 (List.length fs) fun (k : Nat) => Fm.c (gfm fs k)), pv 152 (V.ref 200018 0), pc 153 ((0 : Nat) ≤ (2 : Nat)) (V.i (↑(Prod.fst (gpf p k)) : Int)), pc 154 ((0 : Int) ≤ (↑(Prod.fst (gpf p k)) : Int) ∧ (↑(Prod.fst (gpf p k)) : Int) < (↑(List.length fs) : Int)) (V.ptr [V.c (Value.string (ByteArray.mk (List.toArray (Prod.fst (gfm fs (Prod.fst (gpf p k))))))), V.i (Fm.ou (gfm fs (Prod.fst (gpf p k)))), V.i (Fm.inn (gfm fs (Prod.fst (gpf p k)))), V.i (Fm.per (gfm fs (Prod.fst (gpf p k)))), V.i (Fm.lead (gfm fs (Prod.fst (gpf p k)))), V.i (Fm.gap (gfm fs (Prod.fst (gpf p k)))), V.i (Fm.tail (gfm fs (Prod.fst (gpf p k)))), V.i (Fm.cost (gfm fs (Prod.fst (gpf p k))))]), pv 155 (V.agg [V.c (Value.string (ByteArray.mk (List.toArray (Prod.fst (gfm fs (Prod.fst (gpf p k))))))), V.i (Fm.ou (gfm fs (Prod.fst (gpf p k)))), V.i (Fm.inn (gfm fs (Prod.fst (gpf p k)))), V.i (Fm.per (gfm fs (Prod.fst (gpf p k)))), V.i (Fm.lead (gfm fs (Prod.fst (gpf p k)))), V.i (Fm.gap (gfm fs (Prod.fst (gpf p k)))), V.i (Fm.tail (gfm fs (Prod.fst (gpf p k)))), V.i (Fm.cost (gfm fs (Prod.fst (gpf p k))))]), pn 19 (V.ref 400019 0) (400019 : Nat) (Ob.box 39 [V.c (Value.string (ByteArray.mk #[])), V.i 0, V.i 0, V.i 0, V.i 0, V.i 0, V.i 0, V.i 0]), pw ((0 : Nat) + (8 : Nat) ≤ (8 : Nat)) (400019 : Nat) (Ob.box 39 [V.c (Value.string (ByteArray.mk (List.toArray (Prod.fst (gfm fs (Prod.fst (gpf p k))))))), V.i (Fm.ou (gfm fs (Prod.fst (gpf p k)))), V.i (Fm.inn (gfm fs (Prod.fst (gpf p k)))), V.i (Fm.per (gfm fs (Prod.fst (gpf p k)))), V.i (Fm.lead (gfm fs (Prod.fst (gpf p k)))), V.i (Fm.gap (gfm fs (Prod.fst (gpf p k)))), V.i (Fm.tail (gfm fs (Prod.fst (gpf p k)))), V.i (Fm.cost (gfm fs (Prod.fst (gpf p k))))])] kR kR ⟨oM, oM, oM, tI⟩ ?_
   refine nK hK ?_; clear hK K; refine sK fun K hK => wR 6 ?_
   refine aops_n hTT (M := []) (n := 1) [pv 20 V.nil] kR kR tI ?_
   refine nK hK ?_; clear hK K; refine sK fun K hK => sK fun K hK => wR 7 ?_
   refine aops_n hTT (M := []) (n := 1) [pv 21 (V.i 0)] kR kR tI ?_
   refine nK hK ?_; clear hK K
   refine aw_block ?_
   generalize hq : (gpf p k).1 = q at f1 f2 f3 f4 hff e4 ⊢
   generalize hm : (gpf p k).2 = m at f1 f2 f3 f4 hff e4 ⊢
   generalize ho : offP p k = o at f1 f2 f3 f4 hff e4 ⊢
   generalize hf : gfm fs q = f at f4 hff ⊢
   have hfo := fmB_ok hff
   refine w_le (le_freezeBox (t := (37 : Nat)) (cs := [V.i (↑q : Int), V.i (↑m : Int)]) 200018 kR kR) ?_
   refine w_le (le_freezeBox (t := (39 : Nat)) (cs := [V.c (Value.string (ByteArray.mk (List.toArray (Prod.fst f)))), V.i (Fm.ou f), V.i (Fm.inn f), V.i (Fm.per f), V.i (Fm.lead f), V.i (Fm.gap f), V.i (Fm.tail f), V.i (Fm.cost f)]) 400019 kR kR) ?_
   refine w_le (le_open 20 3 1 (fun j => [.i (j : Int)]) kR rfl) ?_
   refine w_loop (ι := Nat) (fun j => [(0, V.fms fs), (9, V.trs T), (10, V.ints H), (11, V.ints D), (13, V.fcs p), (16, .i o), (17, .i k), (18, .ptr [.i q, .i m]), (19, .ptr f.c), (20, .own 1), (21, .i j)]) (fun j => [(1, .row 3 1 j fun j => [.i (j : Int)])]) (fun j => j ≤ m) (fun j => m - j) 0 (Nat.zero_le _) ?_ ?_
   ·
    refine le_ren (sl := [(1, Ob.row 3 1 0 fun (j : Nat) => [V.i (↑j : Int)])]) [(1, 700020)] (.cons kR (.cons kR (.cons kR (.cons kR (.cons kR (.cons kR (.cons kR (.cons kR (.cons kR (.cons kR (.cons kR .nil))))))))))) (.cons ⟨Ob.row 3 1 0 fun (j : Nat) => [V.i (↑j : Int)], kR, .row kR (fun _ _ => rfl)⟩ .nil) kR kR
   intro j hj
   refine sK fun K hK => sK fun K hK => wR 2 ?_
   refine aops_n hTT (M := []) (n := 4) [pv 156 (V.i (↑j : Int)), pv 157 (V.ptr [V.i (↑m : Int)]), pv 158 (V.i (↑m : Int)), pv 159 (V.b (decide ((↑j : Int) < (↑m : Int))))] kR kR tI ?_
   refine nK hK ?_; clear hK K
   refine w_cond (t := decide ((↑j : Int) < (↑m : Int))) kR (fun c5 => ?_) (fun c5 => ?_)
   ·
    have hj1 : j < m := by simpa using c5
    refine aw_skip ?_
    refine xt_n (hK _ ?_); clear hK K; refine sK fun K hK => ?_
    refine aw_block ?_
    refine wR 3 ?_
    refine aops_n hTT (M := []) (n := 5) [pv 162 (V.own 1), pv 163 (V.i (↑j : Int)), pv 164 (V.sl 1 1 fun (i : Nat) => List.take (1 : Nat) (List.drop (i * 1) [V.i (↑j : Int)])), PR.mk (some (165 : Nat)) (some (j + 1 ≤ (1099511627776 : Nat))) (V.own 200165) [((1 : Nat), none), ((200165 : Nat), some (Ob.row 3 1 (j + 1) (appRow j (fun (j : Nat) => [V.i (↑j : Int)]) fun (i : Nat) => List.take (1 : Nat) (List.drop (i * 1) [V.i (↑j : Int)]))))] false, pv 20 (V.own 200165)] kR kR ⟨oM, tI⟩ ?_
    refine aops_nil (xb_n (xt_n (hK _ ?_))); clear hK K; refine wR 4 ?_
    refine aops_n hTT (M := []) (n := 3) [pv 160 (V.i (↑j : Int)), pc 161 ((-9223372036854775808 : Int) ≤ (↑j : Int) + 1 ∧ (↑j : Int) + 1 ≤ (9223372036854775807 : Int)) (V.i ((↑j : Int) + 1)), pv 21 (V.i ((↑j : Int) + 1))] kR kR ⟨oM, tI⟩ ?_
    refine aops_nil (xt_n ?_)
    refine ⟨j + 1, by omega, ?_, by omega⟩
    refine le_ren (tl := [(0, V.sl 8 (List.length fs) fun (k : Nat) => Fm.c (gfm fs k)), (9, V.sl 3 (List.length T) fun (k : Nat) => Tr.c (gtr T k)), (10, V.sl 1 (List.length H) fun (k : Nat) => [V.i (gi H k)]), (11, V.sl 1 (List.length D) fun (k : Nat) => [V.i (gi D k)]), (13, V.sl 2 (List.length p) (faC p)), (16, V.i (↑o : Int)), (17, V.i (↑k : Int)), (18, V.ptr [V.i (↑q : Int), V.i (↑m : Int)]), (19, V.ptr [V.c (Value.string (ByteArray.mk (List.toArray (Prod.fst f)))), V.i (Fm.ou f), V.i (Fm.inn f), V.i (Fm.per f), V.i (Fm.lead f), V.i (Fm.gap f), V.i (Fm.tail f), V.i (Fm.cost f)]), (20, V.own 1), (21, V.i (↑(j + 1) : Int))]) (sl := [(1, Ob.row 3 1 (j + 1) fun (j : Nat) => [V.i (↑j : Int)])]) [(1, 200165)] (.cons kR (.cons kR (.cons kR (.cons kR (.cons kR (.cons kR (.cons kR (.cons kR (.cons kR (.cons kR (.cons kR .nil))))))))))) (.cons ⟨Ob.row 3 1 (j + 1) (appRow j (fun (j : Nat) => [V.i (↑j : Int)]) fun (i : Nat) => List.take (1 : Nat) (List.drop (i * 1) [V.i (↑j : Int)])), kR, .row kR ?_⟩ .nil) kR kR
    exact appRow_i rfl rfl
   have hj1 : j = m := by simp at c5; omega
   subst hj1
   refine w_le (le_shut 20 1 (e := (3 : Nat)) (sz := (1 : Nat)) (n := j) (n' := (numL j).length) (row := fun (j : Nat) => [V.i (↑j : Int)]) (row' := (fun k => [.i (gi (numL j) k)])) kR kR (fun _ _ => rfl) ?_ ?_) ?_
   ·
    rw [numL_len]
   ·
    intro i hi
    rw [numL_at hi]
   have O := or_sub hff (show j ≤ 24 by omega) A.tt f3
   have L := Lay_ac f (subT T o j) (numL j) O (fun k hk i hi => by rw [numL_len] at hk; rw [numL_at oM, numL_at hk]; omega) (by rw [ps_sub]; exact f4)
   refine aw_exit ?_
   refine xt_x ?_; refine xt_x ?_
   refine xb_same ?_
   refine xt_n ?_; clear hK K; refine hK _ ?_; clear hK K; refine sK fun K hK => wD 3 ?_
   refine aops_n hTT (M := []) (n := 9) [pv 167 (V.agg [V.c (Value.string (ByteArray.mk (List.toArray (Prod.fst f)))), V.i (Fm.ou f), V.i (Fm.inn f), V.i (Fm.per f), V.i (Fm.lead f), V.i (Fm.gap f), V.i (Fm.tail f), V.i (Fm.cost f)]), pv 168 (V.sl 3 (List.length T) fun (k : Nat) => Tr.c (gtr T k)), pv 169 (V.i (↑o : Int)), pv 170 (V.i (↑o : Int)), pv 171 (V.ptr [V.i (↑j : Int)]), pv 172 (V.i (↑j : Int)), pc 173 ((-9223372036854775808 : Int) ≤ (↑o : Int) + (↑j : Int) ∧ (↑o : Int) + (↑j : Int) ≤ 9223372036854775807) (V.i ((↑o : Int) + (↑j : Int))), pc 174 ((0 : Int) ≤ (↑o : Int) ∧ (↑o : Int) ≤ (↑o : Int) + (↑j : Int) ∧ (↑o : Int) + (↑j : Int) ≤ (↑(List.length T) : Int)) (V.sl 3 (o + j - o) fun (i : Nat) => Tr.c (gtr T (i + o))), pv 175 (V.sl 1 (List.length (numL j)) fun (k : Nat) => [V.i (gi (numL j) k)])] kR kR ⟨oM, ⟨oM, oM⟩, tI⟩ ?_
   refine eC (AC.conv (L) (args' := [V.agg [V.c (Value.string (ByteArray.mk (List.toArray (Prod.fst f)))), V.i (Fm.ou f), V.i (Fm.inn f), V.i (Fm.per f), V.i (Fm.lead f), V.i (Fm.gap f), V.i (Fm.tail f), V.i (Fm.cost f)], V.sl 3 (o + j - o) fun (i : Nat) => Tr.c (gtr T (i + o)), V.sl 1 (List.length (numL j)) fun (k : Nat) => [V.i (gi (numL j) k)]]) ⟨RImp.refl _, ?_, RImp.refl _, trivial⟩) ?_
   ·
    exact RImp.rows (by rw [subT_len]; omega) fun i hi => by rw [subT_at oM, Nat.add_comm]
   have nl := numL_len j
   refine aops_n hTT (M := []) (n := 7) [pv 166 (V.tup [V.sl 3 (List.length (numL j)) (bndC f (subT T o j) (numL j)), V.i (↑(List.length (numL j)) : Int), V.i 0]), pv 177 (V.sl 3 (List.length (numL j)) (bndC f (subT T o j) (numL j))), pv 178 (V.i (↑(List.length (numL j)) : Int)), pv 179 (V.i 0), pv 22 (V.sl 3 (List.length (numL j)) (bndC f (subT T o j) (numL j))), pv 23 (V.i (↑(List.length (numL j)) : Int)), pv 24 (V.i 0)] kR kR tI ?_
   refine aops_nil ⟨kR, (xt_n (hK _ ?_))⟩; clear hK K; refine sK fun K hK => sK fun K hK => wR 4 ?_
   refine aops_n hTT (M := []) (n := 15) [pv 180 (V.i 0), pv 181 (V.b false), pv 182 (V.b false), pc 183 ((True ∧ True) ∧ ((false == false) = true → True)) (V.gd (false == false) (V.i (↑(List.length (numL j)) : Int))), pc 184 ((True ∧ True) ∧ ((false == false) = true → True)) (V.gd (false == false) (V.ptr [V.i (↑j : Int)])), pc 185 ((yyWBands3 ∧ True) ∧ ((false == false) = true → True)) (V.gd (false == false) (V.i (↑j : Int))), pc 186 ((yyWBands3 ∧ yyWBands3 ∧ True) ∧ ((false == false) = true → True)) (V.gd (false == false) (V.b !decide ((↑(List.length (numL j)) : Int) = (↑j : Int)))), pc 187 (True ∧ (false = false → (false == false) = true)) (V.b !decide ((↑(List.length (numL j)) : Int) = (↑j : Int))), pv 188 (V.b !decide ((↑(List.length (numL j)) : Int) = (↑j : Int))), pc 189 ((True ∧ True) ∧ (((!decide ((↑(List.length (numL j)) : Int) = (↑j : Int))) == false) = true → True)) (V.gd ((!decide ((↑(List.length (numL j)) : Int) = (↑j : Int))) == false) (V.sl 3 (List.length (numL j)) (bndC f (subT T o j) (numL j)))), pc 190 (((((!decide ((↑(List.length (numL j)) : Int) = (↑j : Int))) == false) = true → ((!decide ((↑(List.length (numL j)) : Int) = (↑j : Int))) == false) = true) ∧ True) ∧ (((!decide ((↑(List.length (numL j)) : Int) = (↑j : Int))) == false) = true → True)) (V.gd ((!decide ((↑(List.length (numL j)) : Int) = (↑j : Int))) == false) (V.i (↑(List.length (numL j)) : Int))), pc 191 ((True ∧ True) ∧ (((!decide ((↑(List.length (numL j)) : Int) = (↑j : Int))) == false) = true → True)) (V.gd ((!decide ((↑(List.length (numL j)) : Int) = (↑j : Int))) == false) (V.ptr [V.i (↑j : Int)])), pc 192 (((((!decide ((↑(List.length (numL j)) : Int) = (↑j : Int))) == false) = true → ((!decide ((↑(List.length (numL j)) : Int) = (↑j : Int))) == false) = true) ∧ True) ∧ (((!decide ((↑(List.length (numL j)) : Int) = (↑j : Int))) == false) = true → True)) (V.gd ((!decide ((↑(List.length (numL j)) : Int) = (↑j : Int))) == false) (V.i (↑j : Int))), pc 193 (((((!decide ((↑(List.length (numL j)) : Int) = (↑j : Int))) == false) = true → ((!decide ((↑(List.length (numL j)) : Int) = (↑j : Int))) == false) = true) ∧ (((!decide ((↑(List.length (numL j)) : Int) = (↑j : Int))) == false) = true → ((!decide ((↑(List.length (numL j)) : Int) = (↑j : Int))) == false) = true) ∧ True) ∧ (((!decide ((↑(List.length (numL j)) : Int) = (↑j : Int))) == false) = true → True)) (V.gd ((!decide ((↑(List.length (numL j)) : Int) = (↑j : Int))) == false) (V.b !decide ((↑(List.length (numL j)) : Int) = (↑j : Int)))), pc 194 (True ∧ ((!decide ((↑(List.length (numL j)) : Int) = (↑j : Int))) = false → ((!decide ((↑(List.length (numL j)) : Int) = (↑j : Int))) == false) = true)) (V.b (!decide ((↑(List.length (numL j)) : Int) = (↑j : Int)) || !decide ((↑(List.length (numL j)) : Int) = (↑j : Int))))] kR kR ⟨⟨⟨tI, tI⟩, (fun _ => tI)⟩, ⟨⟨tI, tI⟩, (fun _ => tI)⟩, ⟨⟨(by (exact fun h => h)), tI⟩, (fun _ => tI)⟩, ⟨⟨(by (exact fun h => h)), ⟨(by (exact fun h => h)), tI⟩⟩, (fun _ => tI)⟩, ⟨tI, (by (intro h; rw [h]; rfl))⟩, ⟨⟨tI, tI⟩, (fun _ => tI)⟩, ⟨⟨(by (exact fun h => h)), tI⟩, (fun _ => tI)⟩, ⟨⟨tI, tI⟩, (fun _ => tI)⟩, ⟨⟨(by (exact fun h => h)), tI⟩, (fun _ => tI)⟩, ⟨⟨(by (exact fun h => h)), ⟨(by (exact fun h => h)), tI⟩⟩, (fun _ => tI)⟩, ⟨tI, (by (intro h; rw [h]; rfl))⟩, tI⟩ ?_
   refine nK hK ?_; clear hK K
   refine w_cond (t := !decide ((↑(List.length (numL j)) : Int) = (↑j : Int)) || !decide ((↑(List.length (numL j)) : Int) = (↑j : Int))) kR (fun c6 => ?_) (fun c6 => ?_)
   ·
    exfalso
    simp [nl] at c6
   refine aw_skip ?_
   refine xt_n (hK _ ?_); clear hK K; refine sK fun K hK => sK fun K hK => wR 5 ?_
   refine aops_n hTT (M := []) (n := 1) [pv 25 (V.i 0)] kR kR tI ?_
   refine nK hK ?_; clear hK K
   refine aw_block ?_
   refine w_loop (ι := Nat) (fun i => [(0, V.fms fs), (9, V.trs T), (10, V.ints H), (11, V.ints D), (13, V.fcs p), (16, .i o), (17, .i k), (18, .ptr [.i q, .i j]), (19, .ptr f.c), (22, V.bnds f (subT T o j) (numL j)), (25, .i i)]) (fun _ => []) (fun i => i ≤ j) (fun i => j - i) 0 (Nat.zero_le _) ?_ ?_
   ·
    refine le_ren [] (.cons kR (.cons kR (.cons kR (.cons kR (.cons kR (.cons kR (.cons kR (.cons kR (.cons kR (.cons kR (.cons kR .nil))))))))))) .nil kR kR
   intro i hi
   refine sK fun K hK => sK fun K hK => wR 2 ?_
   refine aops_n hTT (M := []) (n := 4) [pv 195 (V.i (↑i : Int)), pv 196 (V.ptr [V.i (↑j : Int)]), pv 197 (V.i (↑j : Int)), pv 198 (V.b (decide ((↑i : Int) < (↑j : Int))))] kR kR tI ?_
   refine nK hK ?_; clear hK K
   refine w_cond (t := decide ((↑i : Int) < (↑j : Int))) kR (fun c7 => ?_) (fun c7 => ?_)
   ·
    have hi1 : i < j := by simpa using c7
    have hoi : o + i < nT a b c := by omega
    have h1 := hfT_bd ha (show o + i < a.length by omega)
    have d1 := dfT_bd hb (show o + i < b.length by omega)
    have l1 := lnT_bd c (o + i)
    have eT := hT _ hoi
    have eH := hH _ hoi
    have eD := hD _ hoi
    have eN : (gtr T (o + i)).1 = ((lnT c (o + i) : Nat) : Int) := by rw [eT]; rfl
    rw [← eH] at h1
    rw [← eD] at d1
    have eT2 : gtr T (o + i) = (((lnT c (o + i) : Nat) : Int), 2 * gi H (o + i) + gi D (o + i), 0) := by rw [eT, eH, eD]; rfl
    have K := band_ok hff (show j ≤ 24 by omega) A.tt f3 f4 hi1 eT2 h1 d1 l1.1
    have S := silent_ac (gi H (o + i)) (lnT c (o + i)) oM oM
    rw [← eN] at S
    have eFr : bFr f (trO (subT T o j) (numL j)) i = bFr f (sh T o) i := by
     unfold bFr
     rw [bTo_ext i fun k hk => trO_sub oM]
    have eTo : bTo f (trO (subT T o j) (numL j)) (i + 1) = bTo f (sh T o) (i + 1) := bTo_ext (i + 1) fun k hk => trO_sub oM
    obtain ⟨K1, K2, K3⟩ := K
    obtain ⟨B, hB⟩ : ∃ B, B = bnB f T o i (gi D (o + i)) := ⟨_, rfl⟩
    rw [← hB] at K1 K2 K3
    have hB1 : B = ⟨f.per, bFr f (trO (subT T o j) (numL j)) i, bTo f (trO (subT T o j) (numL j)) (i + 1) + gi D (o + i), gi D (o + i), 0, 65536⟩ := by rw [hB, bnB, eFr, eTo]
    have sk := silL_chk (h := gi H (o + i)) (n := lnT c (o + i)) oM oM oM
    obtain ⟨r, hr, hr0⟩ := sil_out (b := B) (h := gi H (o + i)) (d := gi D (o + i)) (n := lnT c (o + i)) K1.1.1 (by rw [hB]; rfl) (by rw [hB]; rfl) (by rw [hB]; rfl) oM d1 l1.1 (by rw [K2]; exact Int.le_refl _)
    have X := Outer_ok B (silL (gi H (o + i)) (lnT c (o + i))) ⟨blE_ok.2 K1, sk⟩ hr
    have R5 := rCheck5_ac B
    rw [blE_ok.2 K1] at R5
    obtain ⟨k1, k2, k3, k4, k5⟩ := K1
    have B2 : (⟨B.per, B.rim, B.core + 1, B.land, B.slow, B.fast⟩ : Bl).ok := ⟨k1, k2, ⟨by have := k3.1; simp only; omega, K3⟩, k4, k5⟩
    have N := Outer_no ⟨B.per, B.rim, B.core + 1, B.land, B.slow, B.fast⟩ (silL (gi H (o + i)) (lnT c (o + i))) ⟨blE_ok.2 B2, sk⟩ (sil_no (d := gi D (o + i)) k1.1 (by rw [hB]; rfl) l1.1 (by simp only; omega))
    have e5 : B.core = bTo f (trO (subT T o j) (numL j)) (i + 1) + gi D (o + i) := congrArg Bl.core hB1
    have e6 : B.rim = bFr f (trO (subT T o j) (numL j)) i := congrArg Bl.rim hB1
    rw [e5, e6] at K3
    rw [e6] at k2
    rw [e5] at k3
    rw [hB1] at X R5 N hr0
    simp only at hr0
    have hrl := hr.1
    rw [silL_len] at hrl
    have sl := silL_len (gi H (o + i)) (lnT c (o + i))
    refine aw_skip ?_
    refine xt_n (hK _ ?_); clear hK K; refine sK fun K hK => ?_
    refine aw_block ?_
    refine sK fun K hK => wR 3 ?_
    refine aops_n hTT (M := []) (n := 4) [pv 201 (V.i (↑o : Int)), pv 202 (V.i (↑i : Int)), pc 203 ((-9223372036854775808 : Int) ≤ (↑o : Int) + (↑i : Int) ∧ (↑o : Int) + (↑i : Int) ≤ 9223372036854775807) (V.i ((↑o : Int) + (↑i : Int))), pv 26 (V.i ((↑o : Int) + (↑i : Int)))] kR kR ⟨oM, tI⟩ ?_
    refine nK hK ?_; clear hK K; refine sK fun K hK => wD 4 ?_
    refine aops_n hTT (M := []) (n := 9) [pv 204 (V.sl 1 (List.length H) fun (k : Nat) => [V.i (gi H k)]), pv 205 (V.i ((↑o : Int) + (↑i : Int))), pc 206 ((0 : Int) ≤ (↑o : Int) + (↑i : Int) ∧ (↑o : Int) + (↑i : Int) < (↑(List.length H) : Int)) (V.ptr [V.i (gi H (o + i))]), pv 207 (V.i (gi H (o + i))), pv 208 (V.sl 3 (List.length T) fun (k : Nat) => Tr.c (gtr T k)), pv 209 (V.i ((↑o : Int) + (↑i : Int))), pc 210 ((0 : Int) ≤ (↑o : Int) + (↑i : Int) ∧ (↑o : Int) + (↑i : Int) < (↑(List.length T) : Int)) (V.ptr [V.i (Prod.fst (gtr T (o + i))), V.i (Prod.fst (Prod.snd (gtr T (o + i)))), V.i (Prod.snd (Prod.snd (gtr T (o + i))))]), pv 211 (V.ptr [V.i (Prod.fst (gtr T (o + i))), V.i (Prod.fst (Prod.snd (gtr T (o + i)))), V.i (Prod.snd (Prod.snd (gtr T (o + i))))]), pv 212 (V.i (Prod.fst (gtr T (o + i))))] kR kR ⟨oM, oM, tI⟩ ?_
    refine eC (S) ?_
    refine aops_n hTT (M := []) (n := 1) [pv 27 (V.sl 2 (List.length (silL (gi H (o + i)) (lnT c (o + i)))) fun (k : Nat) => [V.i (Prod.fst (gp (silL (gi H (o + i)) (lnT c (o + i))) k)), V.i (Prod.snd (gp (silL (gi H (o + i)) (lnT c (o + i))) k))])] kR kR tI ?_
    refine aops_nil ⟨kR, (xt_n (hK _ ?_))⟩; clear hK K; refine sK fun K hK => wD 5 ?_
    refine aops_n hTT (M := []) (n := 24) [pv 214 (V.ptr [V.i (Fm.per f), V.i (Fm.lead f), V.i (Fm.gap f), V.i (Fm.tail f), V.i (Fm.cost f)]), pv 215 (V.i (Fm.per f)), pv 216 (V.sl 3 (List.length (numL j)) (bndC f (subT T o j) (numL j))), pv 217 (V.i (↑i : Int)), pc 218 ((0 : Int) ≤ (↑i : Int) ∧ (↑i : Int) < (↑(List.length (numL j)) : Int)) (V.ptr [V.i (gi (numL j) i), V.i (bFr f (trO (subT T o j) (numL j)) i), V.i (bTo f (trO (subT T o j) (numL j)) (i + 1))]), pv 219 (V.ptr [V.i (bFr f (trO (subT T o j) (numL j)) i), V.i (bTo f (trO (subT T o j) (numL j)) (i + 1))]), pv 220 (V.i (bFr f (trO (subT T o j) (numL j)) i)), pv 221 (V.sl 3 (List.length (numL j)) (bndC f (subT T o j) (numL j))), pv 222 (V.i (↑i : Int)), pc 223 ((0 : Int) ≤ (↑i : Int) ∧ (↑i : Int) < (↑(List.length (numL j)) : Int)) (V.ptr [V.i (gi (numL j) i), V.i (bFr f (trO (subT T o j) (numL j)) i), V.i (bTo f (trO (subT T o j) (numL j)) (i + 1))]), pv 224 (V.ptr [V.i (bTo f (trO (subT T o j) (numL j)) (i + 1))]), pv 225 (V.i (bTo f (trO (subT T o j) (numL j)) (i + 1))), pv 226 (V.sl 1 (List.length D) fun (k : Nat) => [V.i (gi D k)]), pv 227 (V.i ((↑o : Int) + (↑i : Int))), pc 228 ((0 : Int) ≤ (↑o : Int) + (↑i : Int) ∧ (↑o : Int) + (↑i : Int) < (↑(List.length D) : Int)) (V.ptr [V.i (gi D (o + i))]), pv 229 (V.i (gi D (o + i))), pc 230 ((-9223372036854775808 : Int) ≤ bTo f (trO (subT T o j) (numL j)) (i + 1) + gi D (o + i) ∧ bTo f (trO (subT T o j) (numL j)) (i + 1) + gi D (o + i) ≤ 9223372036854775807) (V.i (bTo f (trO (subT T o j) (numL j)) (i + 1) + gi D (o + i))), pv 231 (V.sl 1 (List.length D) fun (k : Nat) => [V.i (gi D k)]), pv 232 (V.i ((↑o : Int) + (↑i : Int))), pc 233 ((0 : Int) ≤ (↑o : Int) + (↑i : Int) ∧ (↑o : Int) + (↑i : Int) < (↑(List.length D) : Int)) (V.ptr [V.i (gi D (o + i))]), pv 234 (V.i (gi D (o + i))), pv 235 (V.agg [V.i (Fm.per f), V.i (bFr f (trO (subT T o j) (numL j)) i), V.i (bTo f (trO (subT T o j) (numL j)) (i + 1) + gi D (o + i)), V.i (gi D (o + i)), V.i 0, V.i 65536]), pn 28 (V.ref 400028 0) (400028 : Nat) (Ob.box 49 [V.i 0, V.i 0, V.i 0, V.i 0, V.i 0, V.i 0]), pw ((0 : Nat) + (6 : Nat) ≤ (6 : Nat)) (400028 : Nat) (Ob.box 49 [V.i (Fm.per f), V.i (bFr f (trO (subT T o j) (numL j)) i), V.i (bTo f (trO (subT T o j) (numL j)) (i + 1) + gi D (o + i)), V.i (gi D (o + i)), V.i 0, V.i 65536])] kR kR ⟨oM, oM, oM, oM, oM, oM, tI⟩ ?_
    refine aops_nil ⟨kR, (xt_n (hK _ ?_))⟩; clear hK K; refine sK fun K hK => sK fun K hK => wR 6 ?_
    refine aops_n hTT (M := []) (n := 1) [pc 236 ((0 : Nat) ≤ (6 : Nat)) (V.agg [V.i (Fm.per f), V.i (bFr f (trO (subT T o j) (numL j)) i), V.i (bTo f (trO (subT T o j) (numL j)) (i + 1) + gi D (o + i)), V.i (gi D (o + i)), V.i 0, V.i 65536])] kR kR ⟨oM, tI⟩ ?_
    refine eC (R5) ?_
    refine aops_n hTT (M := []) (n := 1) [pv 238 (V.b false)] kR kR tI ?_
    refine nK hK ?_; clear hK K; refine w_false (t := false) kR rfl ?_
    refine aw_skip ?_
    refine xt_n (hK _ ?_); clear hK K; refine sK fun K hK => wR 7 ?_
    refine aops_n hTT (M := []) (n := 2) [pc 240 ((0 : Nat) ≤ (6 : Nat)) (V.agg [V.i (Fm.per f), V.i (bFr f (trO (subT T o j) (numL j)) i), V.i (bTo f (trO (subT T o j) (numL j)) (i + 1) + gi D (o + i)), V.i (gi D (o + i)), V.i 0, V.i 65536]), pv 241 (V.sl 2 (List.length (silL (gi H (o + i)) (lnT c (o + i)))) fun (k : Nat) => [V.i (Prod.fst (gp (silL (gi H (o + i)) (lnT c (o + i))) k)), V.i (Prod.snd (gp (silL (gi H (o + i)) (lnT c (o + i))) k))])] kR kR ⟨oM, tI⟩ ?_
    refine eC (X) ?_
    refine aops_n hTT (M := []) (n := 5) [pv 239 (V.tup [V.sl 1 (List.length r) fun (k : Nat) => [V.i (gi r k)], V.i 0]), pv 243 (V.sl 1 (List.length r) fun (k : Nat) => [V.i (gi r k)]), pv 244 (V.i 0), pv 29 (V.sl 1 (List.length r) fun (k : Nat) => [V.i (gi r k)]), pv 30 (V.i 0)] kR kR tI ?_
    refine nK hK ?_; clear hK K; refine sK fun K hK => sK fun K hK => wD 8 ?_
    refine aops_n hTT (M := []) (n := 25) [pv 245 (V.i 0), pv 246 (V.b false), pv 247 (V.b false), pc 248 ((True ∧ True) ∧ ((false == false) = true → True)) (V.gd (false == false) (V.sl 1 (List.length r) fun (k : Nat) => [V.i (gi r k)])), pc 249 ((yyWBands3 ∧ True) ∧ ((false == false) = true → True)) (V.gd (false == false) (V.i (↑(List.length r) : Int))), pc 250 ((True ∧ True) ∧ ((false == false) = true → True)) (V.gd (false == false) (V.sl 2 (List.length (silL (gi H (o + i)) (lnT c (o + i)))) fun (k : Nat) => [V.i (Prod.fst (gp (silL (gi H (o + i)) (lnT c (o + i))) k)), V.i (Prod.snd (gp (silL (gi H (o + i)) (lnT c (o + i))) k))])), pc 251 ((yyWBands3 ∧ True) ∧ ((false == false) = true → True)) (V.gd (false == false) (V.i (↑(List.length (silL (gi H (o + i)) (lnT c (o + i)))) : Int))), pc 252 ((yyWBands3 ∧ yyWBands3 ∧ True) ∧ ((false == false) = true → True)) (V.gd (false == false) (V.b !decide ((↑(List.length r) : Int) = (↑(List.length (silL (gi H (o + i)) (lnT c (o + i)))) : Int)))), pc 253 (True ∧ (false = false → (false == false) = true)) (V.b !decide ((↑(List.length r) : Int) = (↑(List.length (silL (gi H (o + i)) (lnT c (o + i)))) : Int))), pv 254 (V.b !decide ((↑(List.length r) : Int) = (↑(List.length (silL (gi H (o + i)) (lnT c (o + i)))) : Int))), pc 255 ((True ∧ True) ∧ (((!decide ((↑(List.length r) : Int) = (↑(List.length (silL (gi H (o + i)) (lnT c (o + i)))) : Int))) == false) = true → True)) (V.gd ((!decide ((↑(List.length r) : Int) = (↑(List.length (silL (gi H (o + i)) (lnT c (o + i)))) : Int))) == false) (V.sl 1 (List.length r) fun (k : Nat) => [V.i (gi r k)])), pc 256 (((((!decide ((↑(List.length r) : Int) = (↑(List.length (silL (gi H (o + i)) (lnT c (o + i)))) : Int))) == false) = true → ((!decide ((↑(List.length r) : Int) = (↑(List.length (silL (gi H (o + i)) (lnT c (o + i)))) : Int))) == false) = true) ∧ True ∧ True) ∧ (((!decide ((↑(List.length r) : Int) = (↑(List.length (silL (gi H (o + i)) (lnT c (o + i)))) : Int))) == false) = true → (0 : Int) ≤ (0 : Int) ∧ (0 : Int) < (↑(List.length r) : Int))) (V.gd ((!decide ((↑(List.length r) : Int) = (↑(List.length (silL (gi H (o + i)) (lnT c (o + i)))) : Int))) == false) (V.ptr [V.i (gi r (0 : Nat))])), pc 257 (((((!decide ((↑(List.length r) : Int) = (↑(List.length (silL (gi H (o + i)) (lnT c (o + i)))) : Int))) == false) = true → ((!decide ((↑(List.length r) : Int) = (↑(List.length (silL (gi H (o + i)) (lnT c (o + i)))) : Int))) == false) = true) ∧ True) ∧ (((!decide ((↑(List.length r) : Int) = (↑(List.length (silL (gi H (o + i)) (lnT c (o + i)))) : Int))) == false) = true → True)) (V.gd ((!decide ((↑(List.length r) : Int) = (↑(List.length (silL (gi H (o + i)) (lnT c (o + i)))) : Int))) == false) (V.i (gi r (0 : Nat)))), pc 258 ((True ∧ True) ∧ (((!decide ((↑(List.length r) : Int) = (↑(List.length (silL (gi H (o + i)) (lnT c (o + i)))) : Int))) == false) = true → True)) (V.gd ((!decide ((↑(List.length r) : Int) = (↑(List.length (silL (gi H (o + i)) (lnT c (o + i)))) : Int))) == false) (V.sl 1 (List.length H) fun (k : Nat) => [V.i (gi H k)])), pc 259 ((True ∧ True) ∧ (((!decide ((↑(List.length r) : Int) = (↑(List.length (silL (gi H (o + i)) (lnT c (o + i)))) : Int))) == false) = true → True)) (V.gd ((!decide ((↑(List.length r) : Int) = (↑(List.length (silL (gi H (o + i)) (lnT c (o + i)))) : Int))) == false) (V.i ((↑o : Int) + (↑i : Int)))), pc 260 (((((!decide ((↑(List.length r) : Int) = (↑(List.length (silL (gi H (o + i)) (lnT c (o + i)))) : Int))) == false) = true → ((!decide ((↑(List.length r) : Int) = (↑(List.length (silL (gi H (o + i)) (lnT c (o + i)))) : Int))) == false) = true) ∧ (((!decide ((↑(List.length r) : Int) = (↑(List.length (silL (gi H (o + i)) (lnT c (o + i)))) : Int))) == false) = true → ((!decide ((↑(List.length r) : Int) = (↑(List.length (silL (gi H (o + i)) (lnT c (o + i)))) : Int))) == false) = true) ∧ True) ∧ (((!decide ((↑(List.length r) : Int) = (↑(List.length (silL (gi H (o + i)) (lnT c (o + i)))) : Int))) == false) = true → (0 : Int) ≤ (↑o : Int) + (↑i : Int) ∧ (↑o : Int) + (↑i : Int) < (↑(List.length H) : Int))) (V.gd ((!decide ((↑(List.length r) : Int) = (↑(List.length (silL (gi H (o + i)) (lnT c (o + i)))) : Int))) == false) (V.ptr [V.i (gi H (o + i))])), pc 261 (((((!decide ((↑(List.length r) : Int) = (↑(List.length (silL (gi H (o + i)) (lnT c (o + i)))) : Int))) == false) = true → ((!decide ((↑(List.length r) : Int) = (↑(List.length (silL (gi H (o + i)) (lnT c (o + i)))) : Int))) == false) = true) ∧ True) ∧ (((!decide ((↑(List.length r) : Int) = (↑(List.length (silL (gi H (o + i)) (lnT c (o + i)))) : Int))) == false) = true → True)) (V.gd ((!decide ((↑(List.length r) : Int) = (↑(List.length (silL (gi H (o + i)) (lnT c (o + i)))) : Int))) == false) (V.i (gi H (o + i)))), pc 262 (((((!decide ((↑(List.length r) : Int) = (↑(List.length (silL (gi H (o + i)) (lnT c (o + i)))) : Int))) == false) = true → ((!decide ((↑(List.length r) : Int) = (↑(List.length (silL (gi H (o + i)) (lnT c (o + i)))) : Int))) == false) = true) ∧ (((!decide ((↑(List.length r) : Int) = (↑(List.length (silL (gi H (o + i)) (lnT c (o + i)))) : Int))) == false) = true → ((!decide ((↑(List.length r) : Int) = (↑(List.length (silL (gi H (o + i)) (lnT c (o + i)))) : Int))) == false) = true) ∧ True) ∧ (((!decide ((↑(List.length r) : Int) = (↑(List.length (silL (gi H (o + i)) (lnT c (o + i)))) : Int))) == false) = true → (-9223372036854775808 : Int) ≤ gi r (0 : Nat) + gi H (o + i) ∧ gi r (0 : Nat) + gi H (o + i) ≤ 9223372036854775807)) (V.gd ((!decide ((↑(List.length r) : Int) = (↑(List.length (silL (gi H (o + i)) (lnT c (o + i)))) : Int))) == false) (V.i (gi r (0 : Nat) + gi H (o + i)))), pc 263 ((True ∧ True) ∧ (((!decide ((↑(List.length r) : Int) = (↑(List.length (silL (gi H (o + i)) (lnT c (o + i)))) : Int))) == false) = true → True)) (V.gd ((!decide ((↑(List.length r) : Int) = (↑(List.length (silL (gi H (o + i)) (lnT c (o + i)))) : Int))) == false) (V.sl 3 (List.length (numL j)) (bndC f (subT T o j) (numL j)))), pc 264 ((True ∧ True) ∧ (((!decide ((↑(List.length r) : Int) = (↑(List.length (silL (gi H (o + i)) (lnT c (o + i)))) : Int))) == false) = true → True)) (V.gd ((!decide ((↑(List.length r) : Int) = (↑(List.length (silL (gi H (o + i)) (lnT c (o + i)))) : Int))) == false) (V.i (↑i : Int))), pc 265 (((((!decide ((↑(List.length r) : Int) = (↑(List.length (silL (gi H (o + i)) (lnT c (o + i)))) : Int))) == false) = true → ((!decide ((↑(List.length r) : Int) = (↑(List.length (silL (gi H (o + i)) (lnT c (o + i)))) : Int))) == false) = true) ∧ (((!decide ((↑(List.length r) : Int) = (↑(List.length (silL (gi H (o + i)) (lnT c (o + i)))) : Int))) == false) = true → ((!decide ((↑(List.length r) : Int) = (↑(List.length (silL (gi H (o + i)) (lnT c (o + i)))) : Int))) == false) = true) ∧ True) ∧ (((!decide ((↑(List.length r) : Int) = (↑(List.length (silL (gi H (o + i)) (lnT c (o + i)))) : Int))) == false) = true → (0 : Int) ≤ (↑i : Int) ∧ (↑i : Int) < (↑(List.length (numL j)) : Int))) (V.gd ((!decide ((↑(List.length r) : Int) = (↑(List.length (silL (gi H (o + i)) (lnT c (o + i)))) : Int))) == false) (V.ptr [V.i (gi (numL j) i), V.i (bFr f (trO (subT T o j) (numL j)) i), V.i (bTo f (trO (subT T o j) (numL j)) (i + 1))])), pc 266 (((((!decide ((↑(List.length r) : Int) = (↑(List.length (silL (gi H (o + i)) (lnT c (o + i)))) : Int))) == false) = true → ((!decide ((↑(List.length r) : Int) = (↑(List.length (silL (gi H (o + i)) (lnT c (o + i)))) : Int))) == false) = true) ∧ True) ∧ (((!decide ((↑(List.length r) : Int) = (↑(List.length (silL (gi H (o + i)) (lnT c (o + i)))) : Int))) == false) = true → True)) (V.gd ((!decide ((↑(List.length r) : Int) = (↑(List.length (silL (gi H (o + i)) (lnT c (o + i)))) : Int))) == false) (V.ptr [V.i (bFr f (trO (subT T o j) (numL j)) i), V.i (bTo f (trO (subT T o j) (numL j)) (i + 1))])), pc 267 (((((!decide ((↑(List.length r) : Int) = (↑(List.length (silL (gi H (o + i)) (lnT c (o + i)))) : Int))) == false) = true → ((!decide ((↑(List.length r) : Int) = (↑(List.length (silL (gi H (o + i)) (lnT c (o + i)))) : Int))) == false) = true) ∧ True) ∧ (((!decide ((↑(List.length r) : Int) = (↑(List.length (silL (gi H (o + i)) (lnT c (o + i)))) : Int))) == false) = true → True)) (V.gd ((!decide ((↑(List.length r) : Int) = (↑(List.length (silL (gi H (o + i)) (lnT c (o + i)))) : Int))) == false) (V.i (bFr f (trO (subT T o j) (numL j)) i))), pc 268 (((((!decide ((↑(List.length r) : Int) = (↑(List.length (silL (gi H (o + i)) (lnT c (o + i)))) : Int))) == false) = true → ((!decide ((↑(List.length r) : Int) = (↑(List.length (silL (gi H (o + i)) (lnT c (o + i)))) : Int))) == false) = true) ∧ (((!decide ((↑(List.length r) : Int) = (↑(List.length (silL (gi H (o + i)) (lnT c (o + i)))) : Int))) == false) = true → ((!decide ((↑(List.length r) : Int) = (↑(List.length (silL (gi H (o + i)) (lnT c (o + i)))) : Int))) == false) = true) ∧ True) ∧ (((!decide ((↑(List.length r) : Int) = (↑(List.length (silL (gi H (o + i)) (lnT c (o + i)))) : Int))) == false) = true → True)) (V.gd ((!decide ((↑(List.length r) : Int) = (↑(List.length (silL (gi H (o + i)) (lnT c (o + i)))) : Int))) == false) (V.b !decide (gi r (0 : Nat) + gi H (o + i) = bFr f (trO (subT T o j) (numL j)) i))), pc 269 (True ∧ ((!decide ((↑(List.length r) : Int) = (↑(List.length (silL (gi H (o + i)) (lnT c (o + i)))) : Int))) = false → ((!decide ((↑(List.length r) : Int) = (↑(List.length (silL (gi H (o + i)) (lnT c (o + i)))) : Int))) == false) = true)) (V.b (!decide ((↑(List.length r) : Int) = (↑(List.length (silL (gi H (o + i)) (lnT c (o + i)))) : Int)) || !decide (gi r (0 : Nat) + gi H (o + i) = bFr f (trO (subT T o j) (numL j)) i)))] kR kR ⟨⟨⟨tI, tI⟩, (fun _ => tI)⟩, ⟨⟨(by (exact fun h => h)), tI⟩, (fun _ => tI)⟩, ⟨⟨tI, tI⟩, (fun _ => tI)⟩, ⟨⟨(by (exact fun h => h)), tI⟩, (fun _ => tI)⟩, ⟨⟨(by (exact fun h => h)), ⟨(by (exact fun h => h)), tI⟩⟩, (fun _ => tI)⟩, ⟨tI, (by (intro h; rw [h]; rfl))⟩, ⟨⟨tI, tI⟩, (fun _ => tI)⟩, ⟨⟨(by (exact fun h => h)), ⟨tI, tI⟩⟩, (by (intro hg; simp at hg; omega))⟩, ⟨⟨(by (exact fun h => h)), tI⟩, (fun _ => tI)⟩, ⟨⟨tI, tI⟩, (fun _ => tI)⟩, ⟨⟨tI, tI⟩, (fun _ => tI)⟩, ⟨⟨(by (exact fun h => h)), ⟨(by (exact fun h => h)), tI⟩⟩, (by (intro hg; simp at hg; omega))⟩, ⟨⟨(by (exact fun h => h)), tI⟩, (fun _ => tI)⟩, ⟨⟨(by (exact fun h => h)), ⟨(by (exact fun h => h)), tI⟩⟩, (by (intro hg; simp at hg; omega))⟩, ⟨⟨tI, tI⟩, (fun _ => tI)⟩, ⟨⟨tI, tI⟩, (fun _ => tI)⟩, ⟨⟨(by (exact fun h => h)), ⟨(by (exact fun h => h)), tI⟩⟩, (by (intro hg; simp at hg; omega))⟩, ⟨⟨(by (exact fun h => h)), tI⟩, (fun _ => tI)⟩, ⟨⟨(by (exact fun h => h)), tI⟩, (fun _ => tI)⟩, ⟨⟨(by (exact fun h => h)), ⟨(by (exact fun h => h)), tI⟩⟩, (fun _ => tI)⟩, ⟨tI, (by (intro h; rw [h]; rfl))⟩, tI⟩ ?_
    refine aops_nil ⟨kR, (xt_n (hK _ ?_))⟩; clear hK K
    refine w_cond (t := !decide ((↑(List.length r) : Int) = (↑(List.length (silL (gi H (o + i)) (lnT c (o + i)))) : Int)) || !decide (gi r (0 : Nat) + gi H (o + i) = bFr f (trO (subT T o j) (numL j)) i)) kR (fun c8 => ?_) (fun c8 => ?_)
    ·
     exfalso
     rw [hrl, sl, hr0] at c8
     simp at c8
    refine aw_skip ?_
    refine xt_n (hK _ ?_); clear hK K; refine sK fun K hK => wR 9 ?_
    refine aops_n hTT (M := []) (n := 5) [pv 270 (V.ref 400028 2), pc 271 ((2 : Nat) ≤ (6 : Nat)) (V.i (bTo f (trO (subT T o j) (numL j)) (i + 1) + gi D (o + i))), pc 272 ((-9223372036854775808 : Int) ≤ bTo f (trO (subT T o j) (numL j)) (i + 1) + gi D (o + i) + 1 ∧ bTo f (trO (subT T o j) (numL j)) (i + 1) + gi D (o + i) + 1 ≤ (9223372036854775807 : Int)) (V.i (bTo f (trO (subT T o j) (numL j)) (i + 1) + gi D (o + i) + 1)), pv 273 (V.ref 400028 2), pw ((2 : Nat) + (1 : Nat) ≤ (6 : Nat)) (400028 : Nat) (Ob.box 49 [V.i (Fm.per f), V.i (bFr f (trO (subT T o j) (numL j)) i), V.i (bTo f (trO (subT T o j) (numL j)) (i + 1) + gi D (o + i) + 1), V.i (gi D (o + i)), V.i 0, V.i 65536])] kR kR ⟨oM, oM, oM, tI⟩ ?_
    refine nK hK ?_; clear hK K; refine sK fun K hK => wR 10 ?_
    refine aops_n hTT (M := []) (n := 2) [pc 275 ((0 : Nat) ≤ (6 : Nat)) (V.agg [V.i (Fm.per f), V.i (bFr f (trO (subT T o j) (numL j)) i), V.i (bTo f (trO (subT T o j) (numL j)) (i + 1) + gi D (o + i) + 1), V.i (gi D (o + i)), V.i 0, V.i 65536]), pv 276 (V.sl 2 (List.length (silL (gi H (o + i)) (lnT c (o + i)))) fun (k : Nat) => [V.i (Prod.fst (gp (silL (gi H (o + i)) (lnT c (o + i))) k)), V.i (Prod.snd (gp (silL (gi H (o + i)) (lnT c (o + i))) k))])] kR kR ⟨oM, tI⟩ ?_
    refine eC (N) ?_
    refine aops_n hTT (M := []) (n := 4) [pv 274 (V.tup [V.nil, V.i 15]), pv 278 V.nil, pv 279 (V.i 15), pv 30 (V.i 15)] kR kR tI ?_
    refine nK hK ?_; clear hK K; refine sK fun K hK => wR 11 ?_
    refine aops_n hTT (M := []) (n := 2) [pv 280 (V.i 15), pv 281 (V.b false)] kR kR tI ?_
    refine nK hK ?_; clear hK K; refine w_false (t := false) kR rfl ?_
    refine aw_skip ?_
    refine xb_n (xt_n (hK _ ?_)); clear hK K; refine wR 12 ?_
    refine aops_n hTT (M := []) (n := 3) [pv 199 (V.i (↑i : Int)), pc 200 ((-9223372036854775808 : Int) ≤ (↑i : Int) + 1 ∧ (↑i : Int) + 1 ≤ (9223372036854775807 : Int)) (V.i ((↑i : Int) + 1)), pv 25 (V.i ((↑i : Int) + 1))] kR kR ⟨oM, tI⟩ ?_
    refine aops_nil (xt_n ?_)
    refine ⟨i + 1, by omega, ?_, by omega⟩
    refine le_ren [] (.cons kR (.cons kR (.cons kR (.cons kR (.cons kR (.cons kR (.cons kR (.cons kR (.cons kR (.cons kR (.cons kR .nil))))))))))) .nil kR kR
   ·
    have hi1 : i = j := by simp at c7; omega
    refine aw_exit ?_
    refine xt_x ?_; refine xt_x ?_
    refine xb_same ?_
    refine xt_n ?_; clear hK K; refine hK _ ?_; clear hK K; refine wR 3 ?_
    refine aops_n hTT (M := []) (n := 5) [pv 282 (V.i (↑o : Int)), pv 283 (V.ptr [V.i (↑j : Int)]), pv 284 (V.i (↑j : Int)), pc 285 ((-9223372036854775808 : Int) ≤ (↑o : Int) + (↑j : Int) ∧ (↑o : Int) + (↑j : Int) ≤ 9223372036854775807) (V.i ((↑o : Int) + (↑j : Int))), pv 16 (V.i ((↑o : Int) + (↑j : Int)))] kR kR ⟨oM, tI⟩ ?_
    refine aops_nil (xb_n (xt_n (hK _ ?_))); clear hK K; refine wR 4 ?_
    refine aops_n hTT (M := []) (n := 3) [pv 121 (V.i (↑k : Int)), pc 122 ((-9223372036854775808 : Int) ≤ (↑k : Int) + 1 ∧ (↑k : Int) + 1 ≤ (9223372036854775807 : Int)) (V.i ((↑k : Int) + 1)), pv 17 (V.i ((↑k : Int) + 1))] kR kR ⟨oM, tI⟩ ?_
    refine aops_nil (xt_n ?_)
    refine ⟨k + 1, by omega, ?_, by omega⟩
    rw [e4]
    refine le_ren [] (.cons kR (.cons kR (.cons kR (.cons kR (.cons kR (.cons kR (.cons kR .nil))))))) .nil kR kR
  ·
   have hk1 : k = p.length := by simp at c3; omega
   subst hk1
   rw [hpe]
   refine aw_exit ?_
   refine xt_x ?_; refine xt_x ?_
   refine xb_same ?_
   refine xt_n ?_; clear hK K; refine hK _ ?_; clear hK K; refine sK fun K hK => wR 3 ?_
   refine aops_n hTT (M := []) (n := 5) [pv 286 (V.i (↑(List.length T) : Int)), pv 287 (V.sl 3 (List.length T) fun (k : Nat) => Tr.c (gtr T k)), pv 288 (V.i (↑(List.length T) : Int)), pv 289 (V.b (decide ((↑(List.length T) : Int) = (↑(List.length T) : Int)))), pv 290 (V.b (decide ((↑(List.length T) : Int) = (↑(List.length T) : Int))))] kR kR tI ?_
   refine eG 0 (g := decide ((↑(List.length T) : Int) = (↑(List.length T) : Int)) == true) (fun h => works05_ac) ?_
   refine aops_n hTT (M := []) (n := 2) [pc 292 ((decide ((↑(List.length T) : Int) = (↑(List.length T) : Int)) = true → (decide ((↑(List.length T) : Int) = (↑(List.length T) : Int)) == true) = true) ∧ True) (V.b (decide ((↑(List.length T) : Int) = (↑(List.length T) : Int)) && true)), pv 8 (V.b (decide ((↑(List.length T) : Int) = (↑(List.length T) : Int)) && true))] kR kR ⟨⟨(by (intro h; rw [h]; rfl)), tI⟩, tI⟩ ?_
   refine nK hK ?_; clear hK K
   refine aw_ret ?_
   refine ret_pure (v' := V.b (decide ((↑(List.length T) : Int) = (↑(List.length T) : Int)) && true)) (.inr rfl) kR ?_ kR
   simp
def bandsSh : List Sh := [(.sl (.fld .str (.fld (.int .i64) (.fld (.int .i64) (.fld (.int .i64) (.fld (.int .i64) (.fld (.int .i64) (.fld (.int .i64) (.lst (.int .i64)))))))))), (.sl (.int .u16)), (.sl (.int .u16)), (.sl (.int .u8))]
theorem bands_all (x : TL bandsSh) (hx : wfL bandsSh x) : AC Tryz.prog 3 (valL bandsSh x) (V.b true) [] := by
 obtain ⟨fs, a, b, c, _⟩ := x
 obtain ⟨⟨h1, h2⟩, ⟨h3, h4⟩, ⟨h5, h6⟩, ⟨h7, h8⟩, _⟩ := hx
 exact bands_law fs a b c h1 (fun f hf => Nat.le_trans (h2 f hf).1 (by decide)) h3 (fun x hx => wf_u16 (h4 x hx)) h5 (fun x hx => wf_u16 (h6 x hx)) h7 (fun x hx => wf_u8 (h8 x hx))
end Go.Proofs.YtffggfnomhhckaaGreatDoor
