/-
  Several texts in one: A groove turned round, mirrored, cut: what is read of it. Conditions: told in each theorem. .. The state of a curve: rings, corrections, steps. Conditions: told in each theorem.
-/
import Derived.Test.YtepkjobndmmejaaGreatDoorX05
import Derived.Test.YtepkjobndmmejaaGreatDoorX04
import Derived.Test.YtepkjobndmmejaaGreatDoorMD
import Derived.Test.YtepkjobndmmejaaGreatDoorAbs42
import Derived.Test.YtepkjobndmmejaaGreatDoorMC
import Derived.Test.YtepkjobndmmejaaGreatDoorX00
namespace Go.Proofs.YtepkjobndmmejaaGreatDoor
open Go.Ab Go.RowKit Go.Dw Go.Shelf
theorem Balance_ac (l : List Pt) (hl : l.length ≤ 4611686018427387904) : AC Tryz.prog 23 [V.pts l] (.tup [.agg [.i (balArm l).1, .i (balArm l).2], .i (checkPts l)]) [] := by
  refine ac_of_calls (enters_of Tryz.func23 (by kernel_rfl) rfl) fun L w vs hL hvs => ?_
  obtain ⟨vs⟩ := vs
  obtain ⟨x1, e1, q1⟩ := hvs.get (i := 0) rfl
  obtain ⟨A, c, rfl, _, ha⟩ := R_pts_inv q1 hL
  have hn := hvs.1
  have hvs' : vs = [.slice A l.length c] := by
    match vs, hn with
    | [a], _ => simp at e1; subst e1; rfl
  subst hvs'
  refine (balance_calls A _ c l w ha hl).mono ?_
  rintro e w' ⟨rfl, hb⟩
  exact ⟨_, rfl, hb, fun _ => False, fun _ h => h.elim, .tup' (.cons (.agg' (.cons (.c _ _) rfl (.cons (.c _ _) rfl .nil))) (.cons (.c _ _) .nil))⟩
end Go.Proofs.YtepkjobndmmejaaGreatDoor

namespace Go.Proofs.YtepkjobndmmejaaGreatDoor
open Go.Ab Go.RowKit Go.Dw Go.Shelf
theorem appRow_lt {n i : Nat} {r r' : Nat → List V} (h : i < n) : appRow n r r' i = r i := by simp [appRow, h]
theorem appRow_at {n : Nat} {r r' : Nat → List V} : appRow n r r' n = r' 0 := by simp [appRow]
def armB (h s : Int) : Bool := decide (0 ≤ h) && decide (h ≤ 67108864) && decide (-67108864 ≤ s) && decide (s ≤ 67108864)
theorem armB_iff {h s : Int} : armB h s = true ↔ 0 ≤ h ∧ h ≤ 67108864 ∧ -67108864 ≤ s ∧ s ≤ 67108864 := by simp [armB]; omega
theorem bend_bd {l : List Pt} (hl : Bd l) {i : Nat} (h0 : 0 < i) (h1 : i + 1 < l.length) : -33554432 ≤ bendAt l i ∧ bendAt l i ≤ 33554432 := by
  have a := (forall_gp.1 hl) (i - 1) (by omega)
  have b := (forall_gp.1 hl) i (by omega)
  have c := (forall_gp.1 hl) (i + 1) h1
  unfold bendAt; omega
def outB (h s b : Int) : Bool := decide (h < b - s) || decide (h < -(b - s))
def jumpK (h s : Int) (l : List Pt) : Option Nat := (List.range (l.length - 2)).find? fun k => outB h s (bendAt l (k + 1))
def jumpI (h s : Int) (l : List Pt) : Int × Int × Int :=
  if armB h s then (if checkPts l = 0 then (match jumpK h s l with
    | some k => ((k : Int) + 1, if h < bendAt l (k + 1) - s then 1 else -1, 0)
    | none => (0, 0, 5)) else (0, 0, checkPts l)) else (0, 0, 2)
theorem jumpI_arm {h s : Int} {l : List Pt} (ha : armB h s = false) : jumpI h s l = (0, 0, 2) := by rw [jumpI, ha]; rfl
theorem jumpI_pts {h s : Int} {l : List Pt} (ha : armB h s = true) (hc : ¬ checkPts l = 0) : jumpI h s l = (0, 0, checkPts l) := by rw [jumpI, if_pos ha, if_neg hc]
theorem jumpI_some {h s : Int} {l : List Pt} {k : Nat} (ha : armB h s = true) (hc : checkPts l = 0) (hk : k < l.length - 2) (ho : outB h s (bendAt l (k + 1)) = true) (hb : ∀ j, j < k → outB h s (bendAt l (j + 1)) = false) :
    jumpI h s l = ((k : Int) + 1, if h < bendAt l (k + 1) - s then 1 else -1, 0) := by
  have : jumpK h s l = some k := find_first hk ho hb
  rw [jumpI, if_pos ha, if_pos hc, this]
theorem jumpI_none {h s : Int} {l : List Pt} (ha : armB h s = true) (hc : checkPts l = 0) (hb : ∀ j, j < l.length - 2 → outB h s (bendAt l (j + 1)) = false) : jumpI h s l = (0, 0, 5) := by
  have : jumpK h s l = none := find_none hb
  rw [jumpI, if_pos ha, if_pos hc, this]
end Go.Proofs.YtepkjobndmmejaaGreatDoor

namespace Go.Proofs.YtepkjobndmmejaaGreatDoor
open Go.Ab Go.RowKit Go.Dw Go.Shelf
set_option maxRecDepth 100000 in
theorem bends_ac (l : List Pt) (hl : l.length ≤ 4096) (hb : Bd l) : AC Tryz.prog 49 [V.pts l] (.sl 1 (l.length - 2) fun k => [.i (bendAt l (k + 1))]) [] := by
 refine acI hTT hMX Tryz.func49 Tryz.ntmps49 fun C hC hF => ?_
 refine aw_seq_k fun K hK => wR 2 ?_; refine aX hTT 1 [] True.intro ?_; refine aops_nil (xt_n (hK _ ?_)); clear hK K; refine aw_seq_k fun K hK => wR 3 ?_; refine aX hTT 1 [] True.intro ?_; refine aops_nil (xt_n (hK _ ?_)); clear hK K; refine aw_seq_k fun K hK => ?_; refine aw_seq_k fun K hK => wR 4 ?_; refine aX hTT 1 [] True.intro ?_; refine aops_nil (xt_n (hK _ ?_)); clear hK K
 refine aw_block ?_
 refine w_le (le_open 3 2 1 (fun k => [.i (bendAt l (k + 1))]) (by kernel_rfl) rfl) ?_
 refine w_loop (fun k : Nat => [(0, V.pts l), (3, .own 3), (4, .i ((k : Int) + 1))]) (fun k => [(3, .row 2 1 k fun k => [.i (bendAt l (k + 1))])]) (fun k => k ≤ l.length - 2) (fun k => l.length - k) 0 (Nat.zero_le _) ?_ ?_
 ·
  refine le_ren (sl := [(3, Ob.row 2 1 0 fun (k : Nat) => [V.i (bendAt l (k + (1 : Nat)))])]) [(3, 400003)] (.cons (by kernel_rfl) (.cons (by kernel_rfl) (.cons (by kernel_rfl) .nil))) (.cons ⟨Ob.row 2 1 0 fun (k : Nat) => [V.i (bendAt l (k + (1 : Nat)))], (by kernel_rfl), .row (by kernel_rfl) (fun _ _ => rfl)⟩ .nil) (by kernel_rfl) (by kernel_rfl)
 intro k hk
 refine aw_seq_k fun K hK => ?_; refine aw_seq_k fun K hK => wR 2 ?_; refine aX hTT 5 [(1, .i ((↑k : Int) + (1 : Int) + (1 : Int)))] ⟨(by omega), True.intro⟩ ?_; refine aops_nil (xt_n (hK _ ?_)); clear hK K
 refine w_cond (t := decide ((↑k : Int) + (1 : Int) + (1 : Int) < (↑(List.length l) : Int))) (by kernel_rfl) (fun h => ?_) (fun h => ?_)
 ·
  simp at h
  have e0 : ((k : Int) + 1 - 1).toNat = k := by omega
  have h0 := gp_bd hb ((k : Int) + 1 - 1).toNat
  have h1 := gp_bd hb (k + 1)
  have h2 := gp_bd hb (k + 1 + 1)
  refine aw_skip ?_
  refine xt_n (hK _ ?_); clear hK K; refine aw_seq_k fun K hK => ?_
  refine aw_block ?_
  refine aw_seq_k fun K hK => wD 3 ?_; refine aX hTT 20 [(2, .i ((↑k : Int) + (1 : Int) - (1 : Int))), (3, .c ((0 : Int) ≤ (↑k : Int) + (1 : Int) - (1 : Int) ∧ (↑k : Int) + (1 : Int) - (1 : Int) < (↑(List.length l) : Int))), (7, .c ((0 : Int) ≤ (↑k : Int) + (1 : Int) ∧ (↑k : Int) + (1 : Int) < (↑(List.length l) : Int))), (11, .i ((↑k : Int) + (1 : Int) + (1 : Int))), (12, .c ((0 : Int) ≤ (↑k : Int) + (1 : Int) + (1 : Int) ∧ (↑k : Int) + (1 : Int) + (1 : Int) < (↑(List.length l) : Int))), (14, .r (pn 5 (V.ref 200005 0) (200005 : Nat) (Ob.box 81 [V.i 0, V.i 0]))), (15, .r (pn 6 (V.ref 200006 0) (200006 : Nat) (Ob.box 81 [V.i 0, V.i 0]))), (16, .r (pn 7 (V.ref 200007 0) (200007 : Nat) (Ob.box 81 [V.i 0, V.i 0]))), (17, .r (pw ((0 : Nat) + (2 : Nat) ≤ (2 : Nat)) (200005 : Nat) (Ob.box 81 [V.i (Prod.fst (gp l (Int.toNat ((↑k : Int) + (1 : Int) - (1 : Int))))), V.i (Prod.snd (gp l (Int.toNat ((↑k : Int) + (1 : Int) - (1 : Int)))))]))), (18, .r (pw ((0 : Nat) + (2 : Nat) ≤ (2 : Nat)) (200006 : Nat) (Ob.box 81 [V.i (Prod.fst (gp l (k + (1 : Nat)))), V.i (Prod.snd (gp l (k + (1 : Nat))))]))), (19, .r (pw ((0 : Nat) + (2 : Nat) ≤ (2 : Nat)) (200007 : Nat) (Ob.box 81 [V.i (Prod.fst (gp l (k + (1 : Nat) + (1 : Nat)))), V.i (Prod.snd (gp l (k + (1 : Nat) + (1 : Nat))))])))] ⟨(by omega), (by omega), (by omega), (by omega), (by omega), (by omega), (by omega), (by omega), True.intro⟩ ?_; refine aops_nil ⟨by kernel_rfl, ?_⟩; refine xt_n (hK _ ?_); clear hK K; refine wR 4 ?_; refine aX hTT 22 [(2, .c ((0 : Nat) ≤ (2 : Nat))), (4, .c ((1 : Nat) ≤ (2 : Nat))), (5, .i (Prod.fst (gp l (Int.toNat ((↑k : Int) + (1 : Int) - (1 : Int)))) + Prod.snd (gp l (Int.toNat ((↑k : Int) + (1 : Int) - (1 : Int)))))), (7, .c ((0 : Nat) ≤ (2 : Nat))), (8, .i (Prod.fst (gp l (Int.toNat ((↑k : Int) + (1 : Int) - (1 : Int)))) + Prod.snd (gp l (Int.toNat ((↑k : Int) + (1 : Int) - (1 : Int)))) + Prod.fst (gp l (k + (1 : Nat) + (1 : Nat))))), (10, .c ((1 : Nat) ≤ (2 : Nat))), (11, .i (Prod.fst (gp l (Int.toNat ((↑k : Int) + (1 : Int) - (1 : Int)))) + Prod.snd (gp l (Int.toNat ((↑k : Int) + (1 : Int) - (1 : Int)))) + Prod.fst (gp l (k + (1 : Nat) + (1 : Nat))) + Prod.snd (gp l (k + (1 : Nat) + (1 : Nat))))), (13, .c ((0 : Nat) ≤ (2 : Nat))), (15, .c ((1 : Nat) ≤ (2 : Nat))), (16, .i (Prod.fst (gp l (k + (1 : Nat))) + Prod.snd (gp l (k + (1 : Nat))))), (17, .i ((2 : Int) * (Prod.fst (gp l (k + (1 : Nat))) + Prod.snd (gp l (k + (1 : Nat)))))), (18, .i (Prod.fst (gp l (Int.toNat ((↑k : Int) + (1 : Int) - (1 : Int)))) + Prod.snd (gp l (Int.toNat ((↑k : Int) + (1 : Int) - (1 : Int)))) + Prod.fst (gp l (k + (1 : Nat) + (1 : Nat))) + Prod.snd (gp l (k + (1 : Nat) + (1 : Nat))) - (2 : Int) * (Prod.fst (gp l (k + (1 : Nat))) + Prod.snd (gp l (k + (1 : Nat)))))), (20, .r (PR.mk (some (49 : Nat)) (some (k + (1 : Nat) ≤ (1099511627776 : Nat))) (V.own 300049) [((3 : Nat), none), ((300049 : Nat), some (Ob.row 2 1 (k + (1 : Nat)) (appRow k (fun (k : Nat) => [V.i (bendAt l (k + (1 : Nat)))]) fun (i : Nat) => List.take (1 : Nat) (List.drop (i * (1 : Nat)) [V.i (Prod.fst (gp l (Int.toNat ((↑k : Int) + (1 : Int) - (1 : Int)))) + Prod.snd (gp l (Int.toNat ((↑k : Int) + (1 : Int) - (1 : Int)))) + Prod.fst (gp l (k + (1 : Nat) + (1 : Nat))) + Prod.snd (gp l (k + (1 : Nat) + (1 : Nat))) - (2 : Int) * (Prod.fst (gp l (k + (1 : Nat))) + Prod.snd (gp l (k + (1 : Nat)))))]))))] false))] ⟨(by omega), (by omega), (by omega), (by omega), (by omega), (by omega), (by omega), (by omega), (by omega), (by omega), (by omega), (by omega), (by omega), True.intro⟩ ?_; refine aops_nil ?_; refine xb_n ?_; refine xt_n (hK _ ?_); clear hK K; refine wR 5 ?_; refine aX hTT 3 [(1, .i ((↑k : Int) + (1 : Int) + (1 : Int)))] ⟨(by omega), True.intro⟩ ?_; refine aops_nil ?_; refine xt_n ?_
  refine ⟨k + 1, by omega, ?_, by omega⟩
  refine le_ren (tl := [(0, V.sl 2 (List.length l) fun (k : Nat) => [V.i (Prod.fst (gp l k)), V.i (Prod.snd (gp l k))]), (3, V.own 3), (4, V.i ((↑(k + (1 : Nat)) : Int) + (1 : Int)))]) (sl := [(3, Ob.row 2 1 (k + (1 : Nat)) fun (k : Nat) => [V.i (bendAt l (k + (1 : Nat)))])]) [(3, 300049)] (.cons (by kernel_rfl) (.cons (by kernel_rfl) (.cons (by kernel_rfl) .nil))) (.cons ⟨Ob.row 2 1 (k + (1 : Nat)) (appRow k (fun (k : Nat) => [V.i (bendAt l (k + (1 : Nat)))]) fun (i : Nat) => List.take (1 : Nat) (List.drop (i * (1 : Nat)) [V.i (Prod.fst (gp l (Int.toNat ((↑k : Int) + (1 : Int) - (1 : Int)))) + Prod.snd (gp l (Int.toNat ((↑k : Int) + (1 : Int) - (1 : Int)))) + Prod.fst (gp l (k + (1 : Nat) + (1 : Nat))) + Prod.snd (gp l (k + (1 : Nat) + (1 : Nat))) - (2 : Int) * (Prod.fst (gp l (k + (1 : Nat))) + Prod.snd (gp l (k + (1 : Nat)))))])), (by kernel_rfl), .row (by kernel_rfl) ?_⟩ .nil) (by kernel_rfl) (by kernel_rfl)
  intro i hi
  by_cases hik : i < k
  ·
   rw [appRow_lt hik]; rfl
  ·
   obtain rfl : i = k := by omega
   rw [appRow_at, e0]
   rfl
 simp at h
 obtain rfl : k = l.length - 2 := by omega
 refine aw_exit ?_
 refine xt_x ?_; refine xt_x ?_
 refine xb_same ?_
 refine xt_n ?_; clear hK K; refine hK _ ?_; clear hK K; refine aw_seq_k fun K hK => wR 3 ?_; refine aX hTT 2 [] True.intro ?_; refine aops_nil (xt_n (hK _ ?_)); clear hK K
 refine aw_ret ?_
 refine ret_of_le (le_shut 2 3 (e := (2 : Nat)) (sz := (1 : Nat)) (n := List.length l - (2 : Nat)) (n' := (l.length - 2)) (row := fun (k : Nat) => [V.i (bendAt l (k + (1 : Nat)))]) (row' := (fun k => [.i (bendAt l (k + 1))])) (by kernel_rfl) (by kernel_rfl) (fun _ _ => rfl) ?_ ?_) ?_
 ·
  rfl
 ·
  exact fun _ _ => rfl
 refine rP (V.sl 1 (List.length l - (2 : Nat)) fun (k : Nat) => [V.i (bendAt l (k + (1 : Nat)))])
theorem arm_test {h s : Int} (hr : -9223372036854775808 ≤ s ∧ s ≤ 9223372036854775807) : (decide (h < 0) || decide (67108864 < h) || decide (67108864 < max s (IntKind.i64.wrap (0 - s))) || decide (s < -67108864)) = !armB h s := by
 by_cases hm : s = -9223372036854775808
 ·
  subst hm
  have e : IntKind.i64.wrap (0 - -9223372036854775808) = -9223372036854775808 := by decide
  rw [e]
  simp [armB]
 ·
  have e : IntKind.i64.wrap (0 - s) = -s := by rw [IntWalk.i64_in _ (by omega)]; omega
  rw [e, Bool.eq_iff_iff]
  simp [armB]
  omega
set_option maxRecDepth 100000 in
theorem Jump_ac (h s : Int) (l : List Pt) (hl : l.length ≤ 4611686018427387904) (hr : -9223372036854775808 ≤ s ∧ s ≤ 9223372036854775807) : AC Tryz.prog 22 [.agg [.i h, .i s], V.pts l] (.tup [.i (jumpI h s l).1, .i (jumpI h s l).2.1, .i (jumpI h s l).2.2]) [] := by
 refine acI hTT hMX Tryz.func22 Tryz.ntmps22 fun C hC hF => ?_
 refine aw_seq_k fun K hK => wR 2 ?_; refine aX hTT 4 [] True.intro ?_; refine aops_nil (xt_n (hK _ ?_)); clear hK K; refine aw_seq_k fun K hK => ?_; refine aw_seq_k fun K hK => wR 3 ?_
 refine aops_n hTT (M := []) (n := 22) [pv 11 (V.ptr [V.i h, V.i s]), pv 12 (V.i h), pv 13 (V.b (decide (h < (0 : Int)))), pv 14 (V.b (decide (h < (0 : Int)))), pc 15 ((True ∧ True) ∧ ((decide (h < (0 : Int)) == false) = true → True)) (V.gd (decide (h < (0 : Int)) == false) (V.ptr [V.i h, V.i s])), pc 16 ((((decide (h < (0 : Int)) == false) = true → (decide (h < (0 : Int)) == false) = true) ∧ True) ∧ ((decide (h < (0 : Int)) == false) = true → True)) (V.gd (decide (h < (0 : Int)) == false) (V.i h)), pc 17 ((((decide (h < (0 : Int)) == false) = true → (decide (h < (0 : Int)) == false) = true) ∧ True ∧ True) ∧ ((decide (h < (0 : Int)) == false) = true → True)) (V.gd (decide (h < (0 : Int)) == false) (V.b (decide ((67108864 : Int) < h)))), pc 18 (True ∧ (decide (h < (0 : Int)) = false → (decide (h < (0 : Int)) == false) = true)) (V.b (decide (h < (0 : Int)) || decide ((67108864 : Int) < h))), pv 19 (V.b (decide (h < (0 : Int)) || decide ((67108864 : Int) < h))), pc 20 ((True ∧ True) ∧ (((decide (h < (0 : Int)) || decide ((67108864 : Int) < h)) == false) = true → True)) (V.gd ((decide (h < (0 : Int)) || decide ((67108864 : Int) < h)) == false) (V.ptr [V.i s])), pc 21 (((((decide (h < (0 : Int)) || decide ((67108864 : Int) < h)) == false) = true → ((decide (h < (0 : Int)) || decide ((67108864 : Int) < h)) == false) = true) ∧ True) ∧ (((decide (h < (0 : Int)) || decide ((67108864 : Int) < h)) == false) = true → True)) (V.gd ((decide (h < (0 : Int)) || decide ((67108864 : Int) < h)) == false) (V.i s)), pc 22 ((True ∧ True) ∧ (((decide (h < (0 : Int)) || decide ((67108864 : Int) < h)) == false) = true → True)) (V.gd ((decide (h < (0 : Int)) || decide ((67108864 : Int) < h)) == false) (V.ptr [V.i s])), pc 23 (((((decide (h < (0 : Int)) || decide ((67108864 : Int) < h)) == false) = true → ((decide (h < (0 : Int)) || decide ((67108864 : Int) < h)) == false) = true) ∧ True) ∧ (((decide (h < (0 : Int)) || decide ((67108864 : Int) < h)) == false) = true → True)) (V.gd ((decide (h < (0 : Int)) || decide ((67108864 : Int) < h)) == false) (V.i s)), pcw 24 (((((decide (h < (0 : Int)) || decide ((67108864 : Int) < h)) == false) = true → ((decide (h < (0 : Int)) || decide ((67108864 : Int) < h)) == false) = true) ∧ True) ∧ (((decide (h < (0 : Int)) || decide ((67108864 : Int) < h)) == false) = true → True)) (V.gd ((decide (h < (0 : Int)) || decide ((67108864 : Int) < h)) == false) (V.i (IntKind.wrap IntKind.i64 ((0 : Int) - s)))), pc 25 (((((decide (h < (0 : Int)) || decide ((67108864 : Int) < h)) == false) = true → ((decide (h < (0 : Int)) || decide ((67108864 : Int) < h)) == false) = true) ∧ (((decide (h < (0 : Int)) || decide ((67108864 : Int) < h)) == false) = true → ((decide (h < (0 : Int)) || decide ((67108864 : Int) < h)) == false) = true) ∧ True) ∧ (((decide (h < (0 : Int)) || decide ((67108864 : Int) < h)) == false) = true → True)) (V.gd ((decide (h < (0 : Int)) || decide ((67108864 : Int) < h)) == false) (V.i (max s (IntKind.wrap IntKind.i64 ((0 : Int) - s))))), pc 26 (((((decide (h < (0 : Int)) || decide ((67108864 : Int) < h)) == false) = true → ((decide (h < (0 : Int)) || decide ((67108864 : Int) < h)) == false) = true) ∧ True ∧ True) ∧ (((decide (h < (0 : Int)) || decide ((67108864 : Int) < h)) == false) = true → True)) (V.gd ((decide (h < (0 : Int)) || decide ((67108864 : Int) < h)) == false) (V.b (decide ((67108864 : Int) < max s (IntKind.wrap IntKind.i64 ((0 : Int) - s)))))), pc 27 (True ∧ ((decide (h < (0 : Int)) || decide ((67108864 : Int) < h)) = false → ((decide (h < (0 : Int)) || decide ((67108864 : Int) < h)) == false) = true)) (V.b (decide (h < (0 : Int)) || decide ((67108864 : Int) < h) || decide ((67108864 : Int) < max s (IntKind.wrap IntKind.i64 ((0 : Int) - s))))), pv 28 (V.b (decide (h < (0 : Int)) || decide ((67108864 : Int) < h) || decide ((67108864 : Int) < max s (IntKind.wrap IntKind.i64 ((0 : Int) - s))))), pc 29 ((True ∧ True) ∧ (((decide (h < (0 : Int)) || decide ((67108864 : Int) < h) || decide ((67108864 : Int) < max s (IntKind.wrap IntKind.i64 ((0 : Int) - s)))) == false) = true → True)) (V.gd ((decide (h < (0 : Int)) || decide ((67108864 : Int) < h) || decide ((67108864 : Int) < max s (IntKind.wrap IntKind.i64 ((0 : Int) - s)))) == false) (V.ptr [V.i s])), pc 30 (((((decide (h < (0 : Int)) || decide ((67108864 : Int) < h) || decide ((67108864 : Int) < max s (IntKind.wrap IntKind.i64 ((0 : Int) - s)))) == false) = true → ((decide (h < (0 : Int)) || decide ((67108864 : Int) < h) || decide ((67108864 : Int) < max s (IntKind.wrap IntKind.i64 ((0 : Int) - s)))) == false) = true) ∧ True) ∧ (((decide (h < (0 : Int)) || decide ((67108864 : Int) < h) || decide ((67108864 : Int) < max s (IntKind.wrap IntKind.i64 ((0 : Int) - s)))) == false) = true → True)) (V.gd ((decide (h < (0 : Int)) || decide ((67108864 : Int) < h) || decide ((67108864 : Int) < max s (IntKind.wrap IntKind.i64 ((0 : Int) - s)))) == false) (V.i s)), pc 31 (((((decide (h < (0 : Int)) || decide ((67108864 : Int) < h) || decide ((67108864 : Int) < max s (IntKind.wrap IntKind.i64 ((0 : Int) - s)))) == false) = true → ((decide (h < (0 : Int)) || decide ((67108864 : Int) < h) || decide ((67108864 : Int) < max s (IntKind.wrap IntKind.i64 ((0 : Int) - s)))) == false) = true) ∧ True ∧ True) ∧ (((decide (h < (0 : Int)) || decide ((67108864 : Int) < h) || decide ((67108864 : Int) < max s (IntKind.wrap IntKind.i64 ((0 : Int) - s)))) == false) = true → True)) (V.gd ((decide (h < (0 : Int)) || decide ((67108864 : Int) < h) || decide ((67108864 : Int) < max s (IntKind.wrap IntKind.i64 ((0 : Int) - s)))) == false) (V.b (decide (s < (-67108864 : Int))))), pc 32 (True ∧ ((decide (h < (0 : Int)) || decide ((67108864 : Int) < h) || decide ((67108864 : Int) < max s (IntKind.wrap IntKind.i64 ((0 : Int) - s)))) = false → ((decide (h < (0 : Int)) || decide ((67108864 : Int) < h) || decide ((67108864 : Int) < max s (IntKind.wrap IntKind.i64 ((0 : Int) - s)))) == false) = true)) (V.b (decide (h < (0 : Int)) || decide ((67108864 : Int) < h) || decide ((67108864 : Int) < max s (IntKind.wrap IntKind.i64 ((0 : Int) - s))) || decide (s < (-67108864 : Int))))] (by kernel_rfl) (by kernel_rfl) ⟨⟨⟨True.intro, True.intro⟩, (fun _ => True.intro)⟩, ⟨⟨(by (exact fun h => h)), True.intro⟩, (fun _ => True.intro)⟩, ⟨⟨(by (exact fun h => h)), ⟨True.intro, True.intro⟩⟩, (fun _ => True.intro)⟩, ⟨True.intro, (by (intro h; rw [h]; rfl))⟩, ⟨⟨True.intro, True.intro⟩, (fun _ => True.intro)⟩, ⟨⟨(by (exact fun h => h)), True.intro⟩, (fun _ => True.intro)⟩, ⟨⟨True.intro, True.intro⟩, (fun _ => True.intro)⟩, ⟨⟨(by (exact fun h => h)), True.intro⟩, (fun _ => True.intro)⟩, ⟨⟨(by (exact fun h => h)), True.intro⟩, (fun _ => True.intro)⟩, ⟨⟨(by (exact fun h => h)), ⟨(by (exact fun h => h)), True.intro⟩⟩, (fun _ => True.intro)⟩, ⟨⟨(by (exact fun h => h)), ⟨True.intro, True.intro⟩⟩, (fun _ => True.intro)⟩, ⟨True.intro, (by (intro h; rw [h]; rfl))⟩, ⟨⟨True.intro, True.intro⟩, (fun _ => True.intro)⟩, ⟨⟨(by (exact fun h => h)), True.intro⟩, (fun _ => True.intro)⟩, ⟨⟨(by (exact fun h => h)), ⟨True.intro, True.intro⟩⟩, (fun _ => True.intro)⟩, ⟨True.intro, (by (intro h; rw [h]; rfl))⟩, True.intro⟩ ?_
 refine aops_nil (xt_n (hK _ ?_)); clear hK K
 rw [arm_test hr]
 refine w_cond (t := !armB h s) (by kernel_rfl) (fun h1 => ?_) (fun h1 => ?_)
 ·
  refine aw_seq_k fun K hK => ?_
  refine wR 4 ?_; refine aX hTT 3 [] True.intro ?_; refine aops_nil (xt_n (hK _ ?_)); clear hK K
  refine aw_ret ?_
  refine xt_r ?_
  rw [jumpI_arm (by simpa using h1)]
  refine rP (V.tup [V.i 0, V.i 0, V.i 2])
 simp at h1
 refine aw_skip ?_
 refine xt_n (hK _ ?_); clear hK K; refine aw_seq_k fun K hK => ?_; refine aw_seq_k fun K hK => wR 4 ?_; refine aX hTT 1 [] True.intro ?_
 refine eC (checkPts_ac l hl) ?_
 refine aX hTT 1 [] True.intro ?_; refine aops_nil (xt_n (hK _ ?_)); clear hK K; refine aw_seq_k fun K hK => wR 5 ?_; refine aX hTT 2 [] True.intro ?_; refine aops_nil (xt_n (hK _ ?_)); clear hK K
 refine w_cond (t := !decide (checkPts l = (0 : Int))) (by kernel_rfl) (fun h2 => ?_) (fun h2 => ?_)
 ·
  simp at h2
  refine aw_seq_k fun K hK => wR 6 ?_; refine aX hTT 4 [] True.intro ?_; refine aops_nil (xt_n (hK _ ?_)); clear hK K
  refine aw_ret ?_
  refine xt_r ?_
  rw [jumpI_pts h1 h2]
  refine rP (V.tup [V.i 0, V.i 0, V.i (checkPts l)])
 simp at h2
 obtain ⟨m4, m5⟩ := checkPts_ok h2
 obtain ⟨a1, a2, a3, a4⟩ := armB_iff.1 h1
 refine aw_skip ?_
 refine xt_n (hK _ ?_); clear hK K; refine aw_seq_k fun K hK => ?_; refine aw_seq_k fun K hK => wR 6 ?_; refine aX hTT 1 [] True.intro ?_
 refine eC (bends_ac l m4 m5) ?_
 refine aX hTT 2 [] True.intro ?_; refine aops_nil (xt_n (hK _ ?_)); clear hK K
 refine aw_block ?_
 refine w_loop (fun k : Nat => [(2, .ptr [V.i h, V.i s]), (39, .sl 1 (l.length - 2) fun k => [.i (bendAt l (k + 1))]), (40, .i ((l.length - 2 : Nat) : Int)), (41, .i k)]) (fun _ => []) (fun k => k ≤ l.length - 2 ∧ ∀ j, j < k → outB h s (bendAt l (j + 1)) = false) (fun k => l.length - k) 0 ⟨Nat.zero_le _, fun j hj => by omega⟩ ?_ ?_
 ·
  refine le_ren [] (.cons (by kernel_rfl) (.cons (by kernel_rfl) (.cons (by kernel_rfl) (.cons (by kernel_rfl) .nil)))) .nil (by kernel_rfl) (by kernel_rfl)
 rintro k ⟨hk, hb⟩
 refine aw_seq_k fun K hK => wR 2 ?_; refine aX hTT 1 [] True.intro ?_; refine aops_nil (xt_n (hK _ ?_)); clear hK K; refine aw_seq_k fun K hK => ?_
 refine w_cond (t := decide ((↑k : Int) < (↑(List.length l - (2 : Nat)) : Int))) (by kernel_rfl) (fun hkl => ?_) (fun hkl => ?_)
 ·
  simp at hkl
  have b0 := bend_bd m5 (i := k + 1) (by omega) (by omega)
  refine aw_skip ?_
  refine xt_n (hK _ ?_); clear hK K; refine aw_seq_k fun K hK => ?_
  refine aw_block ?_
  refine aw_seq_k fun K hK => wR 3 ?_; refine aX hTT 5 [(1, .c ((0 : Int) ≤ (↑k : Int) ∧ (↑k : Int) < (↑(List.length l - (2 : Nat)) : Int)))] ⟨(by omega), True.intro⟩ ?_; refine aops_nil (xt_n (hK _ ?_)); clear hK K; refine aw_seq_k fun K hK => wR 4 ?_; refine aX hTT 5 [(3, .i (bendAt l (k + (1 : Nat)) - s))] ⟨(by omega), True.intro⟩ ?_; refine aops_nil (xt_n (hK _ ?_)); clear hK K
  refine aw_block ?_
  refine aw_seq_k fun K hK => wR 5 ?_; refine aX hTT 5 [] True.intro ?_; refine aops_nil (xt_n (hK _ ?_)); clear hK K
  refine w_cond (t := decide (h < bendAt l (k + (1 : Nat)) - s)) (by kernel_rfl) (fun h3 => ?_) (fun h3 => ?_)
  ·
   simp at h3
   refine aw_seq_k fun K hK => wR 6 ?_; refine aX hTT 5 [(1, .i ((↑k : Int) + (1 : Int)))] ⟨(by omega), True.intro⟩ ?_; refine aops_nil (xt_n (hK _ ?_)); clear hK K
   refine aw_ret ?_
   refine xb_r ?_
   refine xb_r ?_
   refine xt_r ?_; refine xt_r ?_
   refine xb_r ?_
   refine xt_r ?_
   rw [jumpI_some h1 h2 (by omega) (by simp [outB]; omega) hb, if_pos h3]
   refine rP (V.tup [V.i ((↑k : Int) + (1 : Int)), V.i 1, V.i 0])
  simp at h3
  refine aw_seq_k fun K hK => wR 6 ?_; refine aX hTT 6 [(3, .i (-h))] ⟨(by omega), True.intro⟩ ?_; refine aops_nil (xt_n (hK _ ?_)); clear hK K
  refine w_cond (t := decide (bendAt l (k + (1 : Nat)) - s < -h)) (by kernel_rfl) (fun h4 => ?_) (fun h4 => ?_)
  ·
   simp at h4
   refine aw_seq_k fun K hK => wR 7 ?_; refine aX hTT 5 [(1, .i ((↑k : Int) + (1 : Int)))] ⟨(by omega), True.intro⟩ ?_; refine aops_nil (xt_n (hK _ ?_)); clear hK K
   refine aw_ret ?_
   refine xb_r ?_
   refine xb_r ?_
   refine xt_r ?_; refine xt_r ?_
   refine xb_r ?_
   refine xt_r ?_
   rw [jumpI_some h1 h2 (by omega) (by simp [outB]; omega) hb, if_neg (by omega)]
   refine rP (V.tup [V.i ((↑k : Int) + (1 : Int)), V.i (-1), V.i 0])
  simp at h4
  refine aw_skip ?_
  refine xb_n ?_; refine xb_n ?_; refine xt_n (hK _ ?_); clear hK K; refine wR 7 ?_; refine aX hTT 2 [(0, .i ((↑k : Int) + (1 : Int)))] ⟨(by omega), True.intro⟩ ?_; refine aops_nil ?_; refine xt_n ?_
  refine ⟨k + 1, ⟨by omega, fun j hj => ?_⟩, ?_, by omega⟩
  ·
   by_cases he : j = k
   ·
    subst he; simp [outB]; omega
   ·
    exact hb j (by omega)
  ·
   refine le_ren [] (.cons (by kernel_rfl) (.cons (by kernel_rfl) (.cons (by kernel_rfl) (.cons (by kernel_rfl) .nil)))) .nil (by kernel_rfl) (by kernel_rfl)
 simp at hkl
 refine aw_exit ?_
 refine xt_x ?_; refine xt_x ?_
 refine xb_same ?_
 refine xt_n ?_; clear hK K; refine hK _ ?_; clear hK K; refine aw_seq_k fun K hK => wR 3 ?_; refine aX hTT 3 [] True.intro ?_; refine aops_nil (xt_n (hK _ ?_)); clear hK K
 refine aw_ret ?_
 rw [jumpI_none h1 h2 fun j hj => hb j (by omega)]
 refine rP (V.tup [V.i 0, V.i 0, V.i 5])
end Go.Proofs.YtepkjobndmmejaaGreatDoor

namespace Go.Proofs.YtepkjobndmmejaaGreatDoor
open Go.Ab Go.RowKit Go.Dw Go.Shelf
structure Cv where
  feed : List Int
  back : List Int
  share : Int
def dot (w h : List Int) : Nat → Int
  | 0 => 0
  | k + 1 => dot w h k + gi w k * gi h k
def corr (c : Cv) (hx hy : List Int) : Int := (dot c.feed hx c.feed.length + dot c.back hy c.back.length) / c.share
def stepH (c : Cv) (u : Bool) (p : List Int × List Int) (g : Int) : List Int × List Int :=
  if u then ((g - corr c p.1 p.2) :: p.1, g :: p.2) else (g :: p.1, (g + corr c p.1 p.2) :: p.2)
def hist (c : Cv) (u : Bool) (l : List Int) : Nat → List Int × List Int
  | 0 => ([], [])
  | k + 1 => stepH c u (hist c u l k) (gi l k)
def outK (c : Cv) (u : Bool) (l : List Int) (k : Nat) : Int :=
  if u then gi l k - corr c (hist c u l k).1 (hist c u l k).2 else gi l k + corr c (hist c u l k).1 (hist c u l k).2
def resL (c : Cv) (u : Bool) (l : List Int) : List Int := (List.range l.length).map (outK c u l)
def bey (n m : Int) : Bool := decide (n < -m) || decide (m < n)
theorem bey_no {n m : Int} : bey n m = false ↔ -m ≤ n ∧ n ≤ m := by
  simp [bey]
theorem resL_len (c : Cv) (u : Bool) (l : List Int) : (resL c u l).length = l.length := by simp [resL]
theorem resL_gi {c : Cv} {u : Bool} {l : List Int} {k : Nat} (h : k < l.length) : gi (resL c u l) k = outK c u l k := by simp [resL, gi, h]
theorem gi_consS (x : Int) (l : List Int) (k : Nat) : gi (x :: l) (k + 1) = gi l k := rfl
theorem gi_out {l : List Int} {k : Nat} (h : l.length ≤ k) : gi l k = 0 := by simp [gi, List.getElem?_eq_none h]
theorem hist_x (c : Cv) (u : Bool) (l : List Int) (k : Nat) : (hist c u l (k + 1)).1 = (if u then outK c u l k else gi l k) :: (hist c u l k).1 := by
  rw [hist, stepH, outK]; cases u <;> rfl
theorem hist_y (c : Cv) (u : Bool) (l : List Int) (k : Nat) : (hist c u l (k + 1)).2 = (if u then gi l k else outK c u l k) :: (hist c u l k).2 := by
  rw [hist, stepH, outK]; cases u <;> rfl
theorem hist_len (c : Cv) (u : Bool) (l : List Int) (k : Nat) : (hist c u l k).1.length = k ∧ (hist c u l k).2.length = k := by
  induction k with
  | zero => exact ⟨rfl, rfl⟩
  | succ k ih => rw [hist_x, hist_y]; simp [ih.1, ih.2]
theorem hist_at (c : Cv) (u : Bool) (l : List Int) : ∀ (k i : Nat), i < k → gi (hist c u l k).1 i = (if u then outK c u l (k - 1 - i) else gi l (k - 1 - i)) ∧ gi (hist c u l k).2 i = (if u then gi l (k - 1 - i) else outK c u l (k - 1 - i))
  | 0, i, h => by omega
  | k + 1, 0, _ => by rw [hist_x, hist_y]; exact ⟨rfl, rfl⟩
  | k + 1, i + 1, h => by
    rw [hist_x, hist_y, gi_consS, gi_consS, show k + 1 - 1 - (i + 1) = k - 1 - i by omega]
    exact hist_at c u l k i (by omega)
def AllLe (m : Int) (l : List Int) : Prop := ∀ x ∈ l, -m ≤ x ∧ x ≤ m
theorem AllLe.gi {m : Int} {l : List Int} (h : AllLe m l) (hm : 0 ≤ m) (k : Nat) : -m ≤ gi l k ∧ gi l k ≤ m := by
  by_cases hk : k < l.length
  · rw [gi_eq hk]; exact h _ (List.getElem_mem _)
  · rw [gi_out (by omega)]; omega
theorem AllLe.of_gi {m : Int} {l : List Int} (h : ∀ k, k < l.length → -m ≤ Go.Dw.gi l k ∧ Go.Dw.gi l k ≤ m) : AllLe m l := by
  intro x hx
  obtain ⟨k, hk, rfl⟩ := List.getElem_of_mem hx
  rw [← gi_eq hk]; exact h k hk
theorem mul_bd {a b m n : Int} (ha : -m ≤ a ∧ a ≤ m) (hb : -n ≤ b ∧ b ≤ n) : -(m * n) ≤ a * b ∧ a * b ≤ m * n := by
  have h1 : 0 ≤ (m - a) * (n + b) := Int.mul_nonneg (by omega) (by omega)
  have h2 : 0 ≤ (m + a) * (n - b) := Int.mul_nonneg (by omega) (by omega)
  have h3 : 0 ≤ (m - a) * (n - b) := Int.mul_nonneg (by omega) (by omega)
  have h4 : 0 ≤ (m + a) * (n + b) := Int.mul_nonneg (by omega) (by omega)
  simp only [Int.sub_mul, Int.add_mul, Int.mul_add, Int.mul_sub] at h1 h2 h3 h4
  omega
theorem dot_bd {w h : List Int} {m n : Int} (hm : 0 ≤ m) (hn : 0 ≤ n) (hw : AllLe m w) (hh : AllLe n h) : ∀ k : Nat, -(k * (m * n)) ≤ dot w h k ∧ dot w h k ≤ k * (m * n)
  | 0 => by simp [dot]
  | k + 1 => by
    have ih := dot_bd hm hn hw hh k
    have hb := mul_bd (hw.gi hm k) (hh.gi hn k)
    have e : ((k + 1 : Nat) : Int) * (m * n) = k * (m * n) + m * n := by rw [Int.natCast_succ, Int.add_mul, Int.one_mul]
    rw [dot, e]
    omega
def cvE (c : Cv) : Int :=
  if 8 < max c.feed.length c.back.length then 6 else
  if (c.feed.any fun n => bey n 4096) || (c.back.any fun n => bey n 4096) || decide (c.share < 1) || decide (4096 < c.share) then 2 else 0
def cvOk (c : Cv) : Prop := c.feed.length ≤ 8 ∧ c.back.length ≤ 8 ∧ AllLe 4096 c.feed ∧ AllLe 4096 c.back ∧ 1 ≤ c.share ∧ c.share ≤ 4096
theorem any_bey {l : List Int} {m : Int} : (l.any fun n => bey n m) = false ↔ AllLe m l := by
  rw [List.any_eq_false]
  refine ⟨fun h x hx => bey_no.1 (by simpa using h x hx), fun h x hx => by simpa using bey_no.2 (h x hx)⟩
theorem cvE_ok {c : Cv} : cvE c = 0 ↔ cvOk c := by
  unfold cvE cvOk
  rw [← any_bey, ← any_bey]
  by_cases h : 8 < max c.feed.length c.back.length
  · rw [if_pos h]; constructor
    · intro h; cases h
    · intro ⟨h1, h2, _⟩; omega
  · rw [if_neg h]
    cases h1 : (c.feed.any fun n => bey n 4096) <;> cases h2 : (c.back.any fun n => bey n 4096) <;> simp
    omega
theorem corr_bd {c : Cv} (hc : cvOk c) {hx hy : List Int} {m : Int} (hm : 0 ≤ m) (h1 : AllLe m hx) (h2 : AllLe m hy) :
    (-(32768 * m) ≤ dot c.feed hx c.feed.length ∧ dot c.feed hx c.feed.length ≤ 32768 * m) ∧ (-(32768 * m) ≤ dot c.back hy c.back.length ∧ dot c.back hy c.back.length ≤ 32768 * m) ∧ -(65536 * m) ≤ corr c hx hy ∧ corr c hx hy ≤ 65536 * m := by
  obtain ⟨l1, l2, a1, a2, s1, s2⟩ := hc
  have d1 := dot_bd (by decide) hm a1 h1 c.feed.length
  have d2 := dot_bd (by decide) hm a2 h2 c.back.length
  have e1 : (c.feed.length : Int) * (4096 * m) ≤ 8 * (4096 * m) := Int.mul_le_mul_of_nonneg_right (by omega) (by omega)
  have e2 : (c.back.length : Int) * (4096 * m) ≤ 8 * (4096 * m) := Int.mul_le_mul_of_nonneg_right (by omega) (by omega)
  refine ⟨by omega, by omega, ?_⟩
  unfold corr
  constructor
  · refine Int.le_ediv_of_mul_le (by omega) ?_
    have : -(65536 * m) * c.share ≤ -(65536 * m) * 1 := Int.mul_le_mul_of_nonpos_left (by omega) (by omega)
    omega
  · have h3 : (dot c.feed hx c.feed.length + dot c.back hy c.back.length) / c.share ≤ 65536 * m := by
      refine Int.ediv_le_of_le_mul (by omega) ?_
      have : 65536 * m * 1 ≤ 65536 * m * c.share := Int.mul_le_mul_of_nonneg_left (by omega) (by omega)
      omega
    exact h3
def fine (c : Cv) (u : Bool) (l : List Int) (m : Int) (k : Nat) : Prop := ∀ j, j < k → bey (outK c u l j) m = false
theorem hist_bd {c : Cv} {u : Bool} {l : List Int} {m : Int} (hm : 0 ≤ m) (hl : AllLe m l) {k : Nat} (hf : fine c u l m k) : AllLe m (hist c u l k).1 ∧ AllLe m (hist c u l k).2 := by
  constructor
  · refine .of_gi fun i hi => ?_
    rw [(hist_len c u l k).1] at hi
    rw [(hist_at c u l k i hi).1]
    split
    · exact bey_no.1 (hf _ (by omega))
    · exact hl.gi hm _
  · refine .of_gi fun i hi => ?_
    rw [(hist_len c u l k).2] at hi
    rw [(hist_at c u l k i hi).2]
    split
    · exact hl.gi hm _
    · exact bey_no.1 (hf _ (by omega))
def runI (c : Cv) (u : Bool) (m : Int) (l : List Int) : Option (List Int) := if (resL c u l).any fun n => bey n m then none else some (resL c u l)
theorem any_resL {c : Cv} {u : Bool} {l : List Int} {m : Int} : ((resL c u l).any fun n => bey n m) = false ↔ fine c u l m l.length := by
  rw [List.any_eq_false]
  constructor
  · intro h j hj
    have := h (outK c u l j) (by simp only [resL, List.mem_map, List.mem_range]; exact ⟨j, hj, rfl⟩)
    simpa using this
  · intro h x hx
    simp only [resL, List.mem_map, List.mem_range] at hx
    obtain ⟨j, hj, rfl⟩ := hx
    simpa using h j hj
theorem runI_some {c : Cv} {u : Bool} {m : Int} {l : List Int} (h : fine c u l m l.length) : runI c u m l = some (resL c u l) := by
  rw [runI, any_resL.2 h]; rfl
theorem runI_none {c : Cv} {u : Bool} {m : Int} {l : List Int} {j : Nat} (hj : j < l.length) (h : bey (outK c u l j) m = true) : runI c u m l = none := by
  rw [runI, if_pos]
  rw [List.any_eq_true]
  exact ⟨_, by simp only [resL, List.mem_map, List.mem_range]; exact ⟨j, hj, rfl⟩, h⟩
end Go.Proofs.YtepkjobndmmejaaGreatDoor

namespace Go.Proofs.YtepkjobndmmejaaGreatDoor
open Go.Ab Go.RowKit Go.Dw Go.Shelf
def chainI (cs : List Cv) (u : Bool) (m : Int) (x : List Int) : Option (List Int) := (if u then cs.reverse else cs).foldl (fun o c => o.bind (runI c u m)) (some x)
theorem fold_none (u : Bool) (m : Int) : ∀ cs : List Cv, cs.foldl (fun o c => o.bind (runI c u m)) none = none
  | [] => rfl
  | _ :: cs => fold_none u m cs
def foldI (u : Bool) (m : Int) (cs : List Cv) (o : Option (List Int)) : Option (List Int) := cs.foldl (fun o c => o.bind (runI c u m)) o
theorem foldI_append (u : Bool) (m : Int) (a b : List Cv) (o : Option (List Int)) : foldI u m (a ++ b) o = foldI u m b (foldI u m a o) := by simp [foldI]
theorem foldI_none (u : Bool) (m : Int) (cs : List Cv) : foldI u m cs none = none := fold_none u m cs
end Go.Proofs.YtepkjobndmmejaaGreatDoor

namespace Go.Proofs.YtepkjobndmmejaaGreatDoor
open Go.Ab Go.RowKit Go.Dw Go.Shelf
def bigL : Nat := 4611686018427387904
theorem tdiv_ediv (n d : Int) (hd : 1 ≤ d) : n / d = if n.tmod d < 0 then n.tdiv d - 1 else n.tdiv d := by
 have h1 := Int.mul_tdiv_add_tmod n d
 by_cases h0 : 0 ≤ n
 ·
  have h2 : 0 ≤ n.tmod d := Int.tmod_nonneg d h0
  rw [if_neg (by omega), Int.tdiv_eq_ediv_of_nonneg h0]
 ·
  have h2 : n.tmod d ≤ 0 := by
   have h4 := Int.tmod_nonneg (a := -n) d (by omega)
   rw [Int.neg_tmod] at h4
   omega
  have h3 : -d < n.tmod d := by
   have h4 := Int.tmod_lt_of_pos (-n) (b := d) (by omega)
   rw [Int.neg_tmod] at h4
   omega
  split
  ·
   rename_i h
   refine Int.ediv_eq_iff_of_pos (by omega) |>.2 ?_
   rw [Int.sub_mul, Int.mul_comm (n.tdiv d) d]
   omega
  ·
   rename_i h
   refine Int.ediv_eq_iff_of_pos (by omega) |>.2 ?_
   rw [Int.mul_comm (n.tdiv d) d]
   omega
theorem down_ac (n d : Int) (hn : -4611686018427387904 ≤ n ∧ n ≤ 4611686018427387904) (hd : 1 ≤ d) : AC Tryz.prog 186 [.i n, .i d] (.i (n / d)) [] := by
 refine acI hTT hMX Tryz.func186 Tryz.ntmps186 fun C hC hF => ?_
 have hb : -4611686018427387904 ≤ n.tdiv d ∧ n.tdiv d ≤ 4611686018427387904 := by
  by_cases h0 : 0 ≤ n
  ·
   rw [Int.tdiv_eq_ediv_of_nonneg h0]
   have h1 := Int.ediv_nonneg h0 (show 0 ≤ d by omega)
   have h2 := Int.ediv_le_self d h0
   omega
  ·
   have e : n.tdiv d = -((-n) / d) := by
    rw [← Int.tdiv_eq_ediv_of_nonneg (by omega), Int.neg_tdiv]; omega
   have h1 := Int.ediv_nonneg (a := -n) (by omega) (show 0 ≤ d by omega)
   have h2 := Int.ediv_le_self (a := -n) d (by omega)
   omega
 refine aw_seq_k fun K hK => wR 2 ?_; refine aX hTT 1 [] True.intro ?_; refine aops_nil (xt_n (hK _ ?_)); clear hK K; refine aw_seq_k fun K hK => wR 3 ?_; refine aX hTT 4 [(2, .c ((0 : Int) < d ∧ (-9223372036854775808 : Int) ≤ n ∧ n ≤ (9223372036854775807 : Int)))] ⟨⟨(by omega), (by omega)⟩, True.intro⟩ ?_; refine aops_nil (xt_n (hK _ ?_)); clear hK K; refine aw_seq_k fun K hK => ?_; refine aw_seq_k fun K hK => wR 4 ?_; refine aX hTT 4 [(2, .c (d ≠ (0 : Int)))] ⟨(by omega), True.intro⟩ ?_; refine aops_nil (xt_n (hK _ ?_)); clear hK K
 refine w_cond (t := decide (Int.tmod n d < (0 : Int))) (by kernel_rfl) (fun c1 => ?_) (fun c1 => ?_)
 ·
  simp at c1
  refine wR 5 ?_; refine aX hTT 3 [(1, .i (Int.tdiv n d - (1 : Int)))] ⟨(by omega), True.intro⟩ ?_; refine aops_nil (xt_n (hK _ ?_)); clear hK K; refine aw_seq_k fun K hK => wR 6 ?_; refine aX hTT 2 [] True.intro ?_; refine aops_nil (xt_n (hK _ ?_)); clear hK K
  refine aw_ret ?_
  rw [tdiv_ediv n d hd, if_pos c1]
  refine rP (V.i (Int.tdiv n d - (1 : Int)))
 ·
  simp at c1
  refine aw_skip ?_
  refine xt_n (hK _ ?_); clear hK K; refine aw_seq_k fun K hK => wR 5 ?_; refine aX hTT 2 [] True.intro ?_; refine aops_nil (xt_n (hK _ ?_)); clear hK K
  refine aw_ret ?_
  rw [tdiv_ediv n d hd, if_neg (by omega)]
  refine rP (V.i (Int.tdiv n d))
theorem beyond_ac (n m : Int) (hm : 0 ≤ m ∧ m ≤ 4611686018427387904) : AC Tryz.prog 142 [.i n, .i m] (.b (bey n m)) [] := by
 refine acI hTT hMX Tryz.func142 Tryz.ntmps142 fun C hC hF => ?_
 refine aw_seq_k fun K hK => wR 2 ?_; refine aX hTT 1 [] True.intro ?_; refine aops_nil (xt_n (hK _ ?_)); clear hK K; refine aw_seq_k fun K hK => wR 3 ?_; refine aX hTT 10 [(2, .i (-m)), (5, .c (gA (decide (n < -m) == false) True)), (6, .c (gA (decide (n < -m) == false) True)), (7, .c (gC (decide (n < -m) == false) True)), (8, .c (True ∧ (decide (n < -m) = false → (decide (n < -m) == false) = true)))] ⟨(by omega), ⟨⟨True.intro, True.intro⟩, (fun _ => True.intro)⟩, ⟨⟨True.intro, True.intro⟩, (fun _ => True.intro)⟩, ⟨⟨(by (exact fun h => h)), ⟨(by (exact fun h => h)), True.intro⟩⟩, (fun _ => True.intro)⟩, ⟨True.intro, (by (intro h; rw [h]; rfl))⟩, True.intro⟩ ?_; refine aops_nil (xt_n (hK _ ?_)); clear hK K
 refine aw_ret ?_
 unfold bey
 refine rP (V.b (decide (n < -m) || decide (m < n)))
set_option maxRecDepth 100000 in
theorem anyBeyond1_ac (n m : Int) (hm : 0 ≤ m ∧ m ≤ 4611686018427387904) : AC Tryz.prog 185 [.i n, .ptr [.i m]] (.b (bey n m)) [] := by
 refine acI hTT hMX Tryz.func185 Tryz.ntmps185 fun C hC hF => ?_
 refine aw_seq_k fun K hK => wR 2 ?_; refine aX hTT 1 [] True.intro ?_; refine aops_nil (xt_n (hK _ ?_)); clear hK K; refine aw_seq_k fun K hK => wR 3 ?_; refine aX hTT 2 [] True.intro ?_
 refine eC (beyond_ac n m hm) ?_
 refine aX hTT 1 [] True.intro ?_; refine aops_nil (xt_n (hK _ ?_)); clear hK K
 refine aw_ret ?_
 refine rP (V.b (bey n m))
theorem idx_any (l : List Int) (m : Int) : (∃ k, k < l.length ∧ bey (gi l k) m = true ∧ ∀ j, j < k → bey (gi l j) m = false) ∨ ∀ k, k < l.length → bey (gi l k) m = false := by
 by_cases h : ∃ k, k < l.length ∧ bey (gi l k) m = true
 ·
  obtain ⟨k, ⟨h1, h2⟩, h3⟩ := least _ h
  refine .inl ⟨k, h1, h2, fun j hj => ?_⟩
  cases hb : bey (gi l j) m with
  | false => rfl
  | true => have := h3 j ⟨by omega, hb⟩; omega
 ·
  refine .inr fun k hk => ?_
  cases hb : bey (gi l k) m with
  | false => rfl
  | true => exact absurd ⟨k, hk, hb⟩ h
def firstB (l : List Int) (m : Int) : Int := match (List.range l.length).find? fun k => bey (gi l k) m with
 | some k => (k : Int)
 | none => -1
theorem firstB_some {l : List Int} {m : Int} {k : Nat} (hk : k < l.length) (h : bey (gi l k) m = true) (hj : ∀ j, j < k → bey (gi l j) m = false) : firstB l m = k := by
 have : (List.range l.length).find? (fun k => bey (gi l k) m) = some k := by
  rw [List.find?_range_eq_some]
  exact ⟨h, by simpa using hk, fun j hjk => by simp [hj j hjk]⟩
 rw [firstB, this]
theorem firstB_none {l : List Int} {m : Int} (h : ∀ k, k < l.length → bey (gi l k) m = false) : firstB l m = -1 := by
 have : (List.range l.length).find? (fun k => bey (gi l k) m) = none := by
  rw [List.find?_eq_none]
  intro x hx
  simp [h x (by simpa using hx)]
 rw [firstB, this]
theorem any_gi {l : List Int} {m : Int} : (l.any fun n => bey n m) = true ↔ ∃ k, k < l.length ∧ bey (gi l k) m = true := by
 rw [List.any_eq_true]
 constructor
 ·
  rintro ⟨x, hx, h⟩
  obtain ⟨k, hk, rfl⟩ := List.getElem_of_mem hx
  exact ⟨k, hk, by rw [gi_eq hk]; exact h⟩
 ·
  rintro ⟨k, hk, h⟩
  exact ⟨l[k], List.getElem_mem _, by rw [← gi_eq hk]; exact h⟩
theorem firstB_any (l : List Int) (m : Int) : decide (0 ≤ firstB l m) = l.any fun n => bey n m := by
 rcases idx_any l m with ⟨k, hk, h, hj⟩ | h
 ·
  rw [firstB_some hk h hj, any_gi.2 ⟨k, hk, h⟩]; simp
 ·
  rw [firstB_none h]
  cases ha : l.any fun n => bey n m with
  | false => rfl
  | true =>
   obtain ⟨k, hk, hb⟩ := any_gi.1 ha
   rw [h k hk] at hb; cases hb
set_option maxRecDepth 100000 in
theorem indexBeyond_ac (l : List Int) (m : Int) (hl : l.length ≤ bigL) (hm : 0 ≤ m ∧ m ≤ 4611686018427387904) : AC Tryz.prog 198 [V.ints l, .fn (.func 185) [] [.ptr [.i m]]] (.i (firstB l m)) [] := by
 unfold bigL at hl
 refine acI hTT hMX Tryz.func198 Tryz.ntmps198 fun C hC hF => ?_
 refine aw_seq_k fun K hK => wR 2 ?_; refine aX hTT 1 [] True.intro ?_; refine aops_nil (xt_n (hK _ ?_)); clear hK K; refine aw_seq_k fun K hK => ?_; refine aw_seq_k fun K hK => wR 3 ?_; refine aX hTT 3 [] True.intro ?_; refine aops_nil (xt_n (hK _ ?_)); clear hK K
 refine aw_block ?_
 refine w_loop (ι := Nat) (fun k => [(0, V.ints l), (1, .fn (.func 185) [] [.ptr [.i m]]), (7, .i l.length), (8, .i k)]) (fun _ => []) (fun k => k ≤ l.length ∧ ∀ j, j < k → bey (gi l j) m = false) (fun k => l.length - k) 0 ⟨Nat.zero_le _, fun j hj => by omega⟩ ?_ ?_
 ·
  refine le_ren [] (.cons (by kernel_rfl) (.cons (by kernel_rfl) (.cons (by kernel_rfl) (.cons (by kernel_rfl) .nil)))) .nil (by kernel_rfl) (by kernel_rfl)
 rintro k ⟨hk, hb⟩
 refine aw_seq_k fun K hK => wR 2 ?_; refine aX hTT 1 [] True.intro ?_; refine aops_nil (xt_n (hK _ ?_)); clear hK K; refine aw_seq_k fun K hK => ?_
 refine w_cond (t := decide ((↑k : Int) < (↑(List.length l) : Int))) (by kernel_rfl) (fun c1 => ?_) (fun c1 => ?_)
 ·
  simp at c1
  refine aw_skip ?_
  refine xt_n (hK _ ?_); clear hK K; refine aw_seq_k fun K hK => ?_
  refine aw_block ?_
  refine aw_seq_k fun K hK => wR 3 ?_; refine aX hTT 2 [] True.intro ?_; refine aops_nil (xt_n (hK _ ?_)); clear hK K; refine aw_seq_k fun K hK => wR 4 ?_; refine aX hTT 5 [(3, .c ((0 : Int) ≤ (↑k : Int) ∧ (↑k : Int) < (↑(List.length l) : Int)))] ⟨(by omega), True.intro⟩ ?_
  refine e_call (first := []) (caps := [V.ptr [V.i m]]) (anyBeyond1_ac (gi l k) m hm) (by kernel_rfl) (by kernel_rfl) (by kernel_rfl) (by kernel_rfl) (by kernel_rfl) ?_
  refine aops_nil (xt_n (hK _ ?_)); clear hK K
  refine w_cond (t := bey (gi l k) m) (by kernel_rfl) (fun c2 => ?_) (fun c2 => ?_)
  ·
   refine aw_seq_k fun K hK => ?_
   refine wR 5 ?_; refine aX hTT 2 [] True.intro ?_; refine aops_nil (xt_n (hK _ ?_)); clear hK K
   refine aw_ret ?_
   refine xb_r ?_
   refine xt_r ?_; refine xt_r ?_
   refine xb_r ?_
   refine xt_r ?_
   rw [firstB_some c1 c2 hb]
   refine rP (V.i (↑k : Int))
  ·
   refine aw_skip ?_
   refine xb_n ?_; refine xt_n (hK _ ?_); clear hK K; refine wR 5 ?_; refine aX hTT 2 [(0, .i ((↑k : Int) + (1 : Int)))] ⟨(by omega), True.intro⟩ ?_; refine aops_nil ?_; refine xt_n ?_
   refine ⟨k + 1, ⟨by omega, fun j hj => ?_⟩, by refine le_ren [] (.cons (by kernel_rfl) (.cons (by kernel_rfl) (.cons (by kernel_rfl) (.cons (by kernel_rfl) .nil)))) .nil (by kernel_rfl) (by kernel_rfl), by omega⟩
   by_cases h : j < k
   ·
    exact hb j h
   ·
    obtain rfl : j = k := by omega
    exact c2
 ·
  simp at c1
  refine aw_exit ?_
  refine xt_x ?_; refine xt_x ?_
  refine xb_same ?_
  refine xt_n ?_; clear hK K; refine hK _ ?_; clear hK K; refine aw_seq_k fun K hK => wR 3 ?_; refine aX hTT 1 [] True.intro ?_; refine aops_nil (xt_n (hK _ ?_)); clear hK K
  refine aw_ret ?_
  rw [firstB_none fun j hj => hb j (by omega)]
  refine rP (V.i (-1))
set_option maxRecDepth 100000 in
theorem containsBeyond_ac (l : List Int) (m : Int) (hl : l.length ≤ bigL) (hm : 0 ≤ m ∧ m ≤ 4611686018427387904) : AC Tryz.prog 184 [V.ints l, .fn (.func 185) [] [.ptr [.i m]]] (.b (l.any fun n => bey n m)) [] := by
 refine acI hTT hMX Tryz.func184 Tryz.ntmps184 fun C hC hF => ?_
 refine aw_seq_k fun K hK => wR 2 ?_; refine aX hTT 1 [] True.intro ?_; refine aops_nil (xt_n (hK _ ?_)); clear hK K; refine aw_seq_k fun K hK => wR 3 ?_; refine aX hTT 2 [] True.intro ?_
 refine eC (indexBeyond_ac l m hl hm) ?_
 refine aX hTT 2 [] True.intro ?_; refine aops_nil (xt_n (hK _ ?_)); clear hK K
 refine aw_ret ?_
 rw [← firstB_any]
 refine rP (V.b (decide ((0 : Int) ≤ firstB l m)))
set_option maxRecDepth 100000 in
theorem anyBeyond_ac (l : List Int) (m : Int) (hl : l.length ≤ bigL) (hm : 0 ≤ m ∧ m ≤ 4611686018427387904) : AC Tryz.prog 157 [V.ints l, .i m] (.b (l.any fun n => bey n m)) [] := by
 refine acI hTT hMX Tryz.func157 Tryz.ntmps157 fun C hC hF => ?_
 refine aw_seq_k fun K hK => wR 2 ?_; refine aX hTT 2 [] True.intro ?_; refine aops_nil (xt_n (hK _ ?_)); clear hK K; refine aw_seq_k fun K hK => wR 3 ?_; refine aX hTT 2 [] True.intro ?_
 refine eC (containsBeyond_ac l m hl hm) ?_
 refine aX hTT 1 [] True.intro ?_; refine aops_nil (xt_n (hK _ ?_)); clear hK K
 refine aw_ret ?_
 refine rP (V.b (List.any l fun (n : Int) => bey n m))
def sigE (l : List Int) : Int := if 4096 < l.length then 6 else if l.any fun n => bey n 32767 then 3 else 0
theorem sigE_ok {l : List Int} : sigE l = 0 ↔ l.length ≤ 4096 ∧ AllLe 32767 l := by
 unfold sigE
 rw [← any_bey]
 by_cases h : 4096 < l.length
 ·
  rw [if_pos h]; simp; omega
 ·
  rw [if_neg h]
  cases h1 : (l.any fun n => bey n 32767) <;> simp
  omega
set_option maxRecDepth 100000 in
theorem checkSignal_ac (l : List Int) (hl : l.length ≤ bigL) : AC Tryz.prog 136 [V.ints l] (.i (sigE l)) [] := by
 have hl' := hl
 unfold bigL at hl'
 refine acI hTT hMX Tryz.func136 Tryz.ntmps136 fun C hC hF => ?_
 refine aw_seq_k fun K hK => wR 2 ?_; refine aX hTT 1 [] True.intro ?_; refine aops_nil (xt_n (hK _ ?_)); clear hK K; refine aw_seq_k fun K hK => ?_; refine aw_seq_k fun K hK => wR 3 ?_; refine aX hTT 3 [] True.intro ?_; refine aops_nil (xt_n (hK _ ?_)); clear hK K
 refine w_cond (t := decide ((4096 : Int) < (↑(List.length l) : Int))) (by kernel_rfl) (fun c1 => ?_) (fun c1 => ?_)
 ·
  simp at c1
  refine aw_seq_k fun K hK => wR 4 ?_; refine aX hTT 1 [] True.intro ?_; refine aops_nil (xt_n (hK _ ?_)); clear hK K
  refine aw_ret ?_
  refine xt_r ?_
  rw [show sigE l = 6 by unfold sigE; rw [if_pos (by omega)]]
  refine rP (V.i 6)
 ·
  simp at c1
  refine aw_skip ?_
  refine xt_n (hK _ ?_); clear hK K; refine aw_seq_k fun K hK => ?_; refine aw_seq_k fun K hK => wR 4 ?_; refine aX hTT 1 [] True.intro ?_
  refine eC (anyBeyond_ac l 32767 hl (by decide)) ?_
  refine aops_nil (xt_n (hK _ ?_)); clear hK K
  refine w_cond (t := List.any l fun (n : Int) => bey n (32767 : Int)) (by kernel_rfl) (fun c2 => ?_) (fun c2 => ?_)
  ·
   refine aw_seq_k fun K hK => ?_
   refine wR 5 ?_; refine aX hTT 1 [] True.intro ?_; refine aops_nil (xt_n (hK _ ?_)); clear hK K
   refine aw_ret ?_
   refine xt_r ?_
   rw [show sigE l = 3 by unfold sigE; rw [if_neg (by omega), if_pos c2]]
   refine rP (V.i 3)
  ·
   refine aw_skip ?_
   refine xt_n (hK _ ?_); clear hK K; refine aw_seq_k fun K hK => wR 5 ?_; refine aX hTT 1 [] True.intro ?_; refine aops_nil (xt_n (hK _ ?_)); clear hK K
   refine aw_ret ?_
   rw [show sigE l = 0 by unfold sigE; rw [if_neg (by omega), if_neg (by rw [c2]; decide)]]
   refine rP (V.i 0)
end Go.Proofs.YtepkjobndmmejaaGreatDoor

namespace Go.Proofs.YtepkjobndmmejaaGreatDoor
open Go.Ab Go.RowKit Go.Dw Go.Shelf
abbrev V.cv (c : Cv) : V := .agg [V.ints c.feed, V.ints c.back, V.i c.share]
def cv0 : Cv := ⟨[], [], 0⟩
def gc (l : List Cv) (k : Nat) : Cv := l.getD k cv0
theorem gc_eq {l : List Cv} {k : Nat} (h : k < l.length) : gc l k = l[k] := by simp [gc, h]
def V.cvs (l : List Cv) : V := .sl 3 l.length fun k => [V.ints (gc l k).feed, V.ints (gc l k).back, V.i (gc l k).share]
def cvL (c : Cv) : Prop := c.feed.length ≤ bigL ∧ c.back.length ≤ bigL
theorem cvE_many {c : Cv} (h : 8 < c.feed.length ∨ 8 < c.back.length) : cvE c = 6 := by unfold cvE; rw [if_pos (by omega)]
theorem cvE_few {c : Cv} (h1 : c.feed.length ≤ 8) (h2 : c.back.length ≤ 8) : cvE c = if (c.feed.any fun n => bey n 4096) || (c.back.any fun n => bey n 4096) || decide (c.share < 1) || decide (4096 < c.share) then 2 else 0 := by
 unfold cvE; rw [if_neg (by omega)]
set_option maxRecDepth 100000 in
theorem CheckCurve_ac (c : Cv) (hl : cvL c) : AC Tryz.prog 156 [V.cv c] (.i (cvE c)) [] := by
 obtain ⟨hl1, hl2⟩ := hl
 refine acI hTT hMX Tryz.func156 Tryz.ntmps156 fun C hC hF => ?_
 refine aw_seq_k fun K hK => wR 2 ?_; refine aX hTT 2 [] True.intro ?_; refine aops_nil (xt_n (hK _ ?_)); clear hK K; refine aw_seq_k fun K hK => ?_
 refine aw_block ?_
 refine aw_seq_k fun K hK => wR 3 ?_; refine aX hTT 9 [] True.intro ?_; refine aops_nil (xt_n (hK _ ?_)); clear hK K
 refine w_cond (t := decide ((8 : Int) < max (↑(List.length (Cv.feed c)) : Int) (↑(List.length (Cv.back c)) : Int))) (by kernel_rfl) (fun c1 => ?_) (fun c1 => ?_)
 ·
  simp at c1
  refine aw_seq_k fun K hK => wR 4 ?_
  refine aops_n hTT (M := []) (n := 1) [pv (2 : Nat) (V.i (6 : Int))] (by kernel_rfl) (by kernel_rfl) True.intro ?_
  refine aops_nil (xt_n (hK _ ?_)); clear hK K
  refine aw_ret ?_
  refine xb_r ?_
  refine xt_r ?_
  rw [cvE_many (by omega)]
  refine rP (V.i (6 : Int))
 ·
  simp at c1
  refine aw_seq_k fun K hK => wR 4 ?_
  refine aops_n hTT (M := []) (n := 2) [pv (13 : Nat) (V.ptr [V.sl (1 : Nat) (List.length (Cv.feed c)) fun (k : Nat) => [V.i (gi (Cv.feed c) k)], V.sl (1 : Nat) (List.length (Cv.back c)) fun (k : Nat) => [V.i (gi (Cv.back c) k)], V.i (Cv.share c)]), pv (14 : Nat) (V.sl (1 : Nat) (List.length (Cv.feed c)) fun (k : Nat) => [V.i (gi (Cv.feed c) k)])] (by kernel_rfl) (by kernel_rfl) True.intro ?_
  refine eC (anyBeyond_ac c.feed 4096 hl1 (by decide)) ?_
  refine aops_n hTT (M := []) (n := 3) [pv (16 : Nat) (V.b (List.any (Cv.feed c) fun (n : Int) => bey n (4096 : Int))), pc (17 : Nat) ((True ∧ True) ∧ (((List.any (Cv.feed c) fun (n : Int) => bey n (4096 : Int)) == false) = true → True)) (V.gd ((List.any (Cv.feed c) fun (n : Int) => bey n (4096 : Int)) == false) (V.ptr [V.sl (1 : Nat) (List.length (Cv.back c)) fun (k : Nat) => [V.i (gi (Cv.back c) k)], V.i (Cv.share c)])), pc (18 : Nat) (((((List.any (Cv.feed c) fun (n : Int) => bey n (4096 : Int)) == false) = true → ((List.any (Cv.feed c) fun (n : Int) => bey n (4096 : Int)) == false) = true) ∧ True) ∧ (((List.any (Cv.feed c) fun (n : Int) => bey n (4096 : Int)) == false) = true → True)) (V.gd ((List.any (Cv.feed c) fun (n : Int) => bey n (4096 : Int)) == false) (V.sl (1 : Nat) (List.length (Cv.back c)) fun (k : Nat) => [V.i (gi (Cv.back c) k)]))] (by kernel_rfl) (by kernel_rfl) ⟨⟨⟨True.intro, True.intro⟩, (fun _ => True.intro)⟩, ⟨⟨(by (exact fun h => h)), True.intro⟩, (fun _ => True.intro)⟩, True.intro⟩ ?_
  refine eG 1 (g := (List.any (Cv.feed c) fun (n : Int) => bey n (4096 : Int)) == false) (fun h => anyBeyond_ac c.back 4096 hl2 (by decide)) ?_
  refine aops_n hTT (M := []) (n := 12) [pc (20 : Nat) (True ∧ ((List.any (Cv.feed c) fun (n : Int) => bey n (4096 : Int)) = false → ((List.any (Cv.feed c) fun (n : Int) => bey n (4096 : Int)) == false) = true)) (V.b ((List.any (Cv.feed c) fun (n : Int) => bey n (4096 : Int)) || List.any (Cv.back c) fun (n : Int) => bey n (4096 : Int))), pv (21 : Nat) (V.b ((List.any (Cv.feed c) fun (n : Int) => bey n (4096 : Int)) || List.any (Cv.back c) fun (n : Int) => bey n (4096 : Int))), pc (22 : Nat) ((True ∧ True) ∧ ((((List.any (Cv.feed c) fun (n : Int) => bey n (4096 : Int)) || List.any (Cv.back c) fun (n : Int) => bey n (4096 : Int)) == false) = true → True)) (V.gd (((List.any (Cv.feed c) fun (n : Int) => bey n (4096 : Int)) || List.any (Cv.back c) fun (n : Int) => bey n (4096 : Int)) == false) (V.ptr [V.i (Cv.share c)])), pc (23 : Nat) ((((((List.any (Cv.feed c) fun (n : Int) => bey n (4096 : Int)) || List.any (Cv.back c) fun (n : Int) => bey n (4096 : Int)) == false) = true → (((List.any (Cv.feed c) fun (n : Int) => bey n (4096 : Int)) || List.any (Cv.back c) fun (n : Int) => bey n (4096 : Int)) == false) = true) ∧ True) ∧ ((((List.any (Cv.feed c) fun (n : Int) => bey n (4096 : Int)) || List.any (Cv.back c) fun (n : Int) => bey n (4096 : Int)) == false) = true → True)) (V.gd (((List.any (Cv.feed c) fun (n : Int) => bey n (4096 : Int)) || List.any (Cv.back c) fun (n : Int) => bey n (4096 : Int)) == false) (V.i (Cv.share c))), pc (24 : Nat) ((((((List.any (Cv.feed c) fun (n : Int) => bey n (4096 : Int)) || List.any (Cv.back c) fun (n : Int) => bey n (4096 : Int)) == false) = true → (((List.any (Cv.feed c) fun (n : Int) => bey n (4096 : Int)) || List.any (Cv.back c) fun (n : Int) => bey n (4096 : Int)) == false) = true) ∧ True ∧ True) ∧ ((((List.any (Cv.feed c) fun (n : Int) => bey n (4096 : Int)) || List.any (Cv.back c) fun (n : Int) => bey n (4096 : Int)) == false) = true → True)) (V.gd (((List.any (Cv.feed c) fun (n : Int) => bey n (4096 : Int)) || List.any (Cv.back c) fun (n : Int) => bey n (4096 : Int)) == false) (V.b (decide (Cv.share c < (1 : Int))))), pc (25 : Nat) (True ∧ (((List.any (Cv.feed c) fun (n : Int) => bey n (4096 : Int)) || List.any (Cv.back c) fun (n : Int) => bey n (4096 : Int)) = false → (((List.any (Cv.feed c) fun (n : Int) => bey n (4096 : Int)) || List.any (Cv.back c) fun (n : Int) => bey n (4096 : Int)) == false) = true)) (V.b (((List.any (Cv.feed c) fun (n : Int) => bey n (4096 : Int)) || List.any (Cv.back c) fun (n : Int) => bey n (4096 : Int)) || decide (Cv.share c < (1 : Int)))), pv (26 : Nat) (V.b (((List.any (Cv.feed c) fun (n : Int) => bey n (4096 : Int)) || List.any (Cv.back c) fun (n : Int) => bey n (4096 : Int)) || decide (Cv.share c < (1 : Int)))), pc (27 : Nat) ((True ∧ True) ∧ (((((List.any (Cv.feed c) fun (n : Int) => bey n (4096 : Int)) || List.any (Cv.back c) fun (n : Int) => bey n (4096 : Int)) || decide (Cv.share c < (1 : Int))) == false) = true → True)) (V.gd ((((List.any (Cv.feed c) fun (n : Int) => bey n (4096 : Int)) || List.any (Cv.back c) fun (n : Int) => bey n (4096 : Int)) || decide (Cv.share c < (1 : Int))) == false) (V.ptr [V.i (Cv.share c)])), pc (28 : Nat) (((((((List.any (Cv.feed c) fun (n : Int) => bey n (4096 : Int)) || List.any (Cv.back c) fun (n : Int) => bey n (4096 : Int)) || decide (Cv.share c < (1 : Int))) == false) = true → ((((List.any (Cv.feed c) fun (n : Int) => bey n (4096 : Int)) || List.any (Cv.back c) fun (n : Int) => bey n (4096 : Int)) || decide (Cv.share c < (1 : Int))) == false) = true) ∧ True) ∧ (((((List.any (Cv.feed c) fun (n : Int) => bey n (4096 : Int)) || List.any (Cv.back c) fun (n : Int) => bey n (4096 : Int)) || decide (Cv.share c < (1 : Int))) == false) = true → True)) (V.gd ((((List.any (Cv.feed c) fun (n : Int) => bey n (4096 : Int)) || List.any (Cv.back c) fun (n : Int) => bey n (4096 : Int)) || decide (Cv.share c < (1 : Int))) == false) (V.i (Cv.share c))), pc (29 : Nat) (((((((List.any (Cv.feed c) fun (n : Int) => bey n (4096 : Int)) || List.any (Cv.back c) fun (n : Int) => bey n (4096 : Int)) || decide (Cv.share c < (1 : Int))) == false) = true → ((((List.any (Cv.feed c) fun (n : Int) => bey n (4096 : Int)) || List.any (Cv.back c) fun (n : Int) => bey n (4096 : Int)) || decide (Cv.share c < (1 : Int))) == false) = true) ∧ True ∧ True) ∧ (((((List.any (Cv.feed c) fun (n : Int) => bey n (4096 : Int)) || List.any (Cv.back c) fun (n : Int) => bey n (4096 : Int)) || decide (Cv.share c < (1 : Int))) == false) = true → True)) (V.gd ((((List.any (Cv.feed c) fun (n : Int) => bey n (4096 : Int)) || List.any (Cv.back c) fun (n : Int) => bey n (4096 : Int)) || decide (Cv.share c < (1 : Int))) == false) (V.b (decide ((4096 : Int) < Cv.share c)))), pc (30 : Nat) (True ∧ ((((List.any (Cv.feed c) fun (n : Int) => bey n (4096 : Int)) || List.any (Cv.back c) fun (n : Int) => bey n (4096 : Int)) || decide (Cv.share c < (1 : Int))) = false → ((((List.any (Cv.feed c) fun (n : Int) => bey n (4096 : Int)) || List.any (Cv.back c) fun (n : Int) => bey n (4096 : Int)) || decide (Cv.share c < (1 : Int))) == false) = true)) (V.b (((List.any (Cv.feed c) fun (n : Int) => bey n (4096 : Int)) || List.any (Cv.back c) fun (n : Int) => bey n (4096 : Int)) || decide (Cv.share c < (1 : Int)) || decide ((4096 : Int) < Cv.share c))), pv (12 : Nat) (V.b (((List.any (Cv.feed c) fun (n : Int) => bey n (4096 : Int)) || List.any (Cv.back c) fun (n : Int) => bey n (4096 : Int)) || decide (Cv.share c < (1 : Int)) || decide ((4096 : Int) < Cv.share c)))] (by kernel_rfl) (by kernel_rfl) ⟨⟨True.intro, (by (intro h; rw [h]; rfl))⟩, ⟨⟨True.intro, True.intro⟩, (fun _ => True.intro)⟩, ⟨⟨(by (exact fun h => h)), True.intro⟩, (fun _ => True.intro)⟩, ⟨⟨(by (exact fun h => h)), ⟨True.intro, True.intro⟩⟩, (fun _ => True.intro)⟩, ⟨True.intro, (by (intro h; rw [h]; rfl))⟩, ⟨⟨True.intro, True.intro⟩, (fun _ => True.intro)⟩, ⟨⟨(by (exact fun h => h)), True.intro⟩, (fun _ => True.intro)⟩, ⟨⟨(by (exact fun h => h)), ⟨True.intro, True.intro⟩⟩, (fun _ => True.intro)⟩, ⟨True.intro, (by (intro h; rw [h]; rfl))⟩, True.intro⟩ ?_
  refine aops_nil (xt_n (hK _ ?_)); clear hK K
  refine w_cond (t := ((List.any (Cv.feed c) fun (n : Int) => bey n (4096 : Int)) || List.any (Cv.back c) fun (n : Int) => bey n (4096 : Int)) || decide (Cv.share c < (1 : Int)) || decide ((4096 : Int) < Cv.share c)) (by kernel_rfl) (fun c2 => ?_) (fun c2 => ?_)
  ·
   refine aw_seq_k fun K hK => ?_
   refine wR 5 ?_; refine aX hTT 1 [] True.intro ?_; refine aops_nil (xt_n (hK _ ?_)); clear hK K
   refine aw_ret ?_
   refine xb_r ?_
   refine xt_r ?_
   rw [cvE_few (by omega) (by omega), if_pos c2]
   refine rP (V.i (2 : Int))
  ·
   refine aw_skip ?_
   refine xb_n ?_; refine xt_n (hK _ ?_); clear hK K; refine aw_seq_k fun K hK => wR 5 ?_; refine aX hTT 1 [] True.intro ?_; refine aops_nil (xt_n (hK _ ?_)); clear hK K
   refine aw_ret ?_
   rw [cvE_few (by omega) (by omega), if_neg (by rw [c2]; decide)]
   refine rP (V.i (0 : Int))
def fChE (l : List Cv) : Int := if 8 < l.length then 6 else match l.find? fun c => decide (cvE c ≠ 0) with | some c => cvE c | none => 0
theorem fChE_first {l : List Cv} (h8 : l.length ≤ 8) {k : Nat} (hk : k < l.length) (h : cvE (gc l k) ≠ 0) (hj : ∀ j, j < k → cvE (gc l j) = 0) : fChE l = cvE (gc l k) := by
 have : l.find? (fun c => decide (cvE c ≠ 0)) = some (gc l k) := by
  rw [gc_eq hk] at h ⊢
  rw [List.find?_eq_some_iff_getElem]
  refine ⟨by simpa using h, k, hk, rfl, fun j hjk => ?_⟩
  have := hj j hjk
  rw [gc_eq (by omega)] at this
  simp [this]
 unfold fChE
 rw [if_neg (by omega), this]
theorem fChE_ok {l : List Cv} : fChE l = 0 ↔ l.length ≤ 8 ∧ ∀ k, k < l.length → cvE (gc l k) = 0 := by
 constructor
 ·
  intro h
  have h8 : l.length ≤ 8 := by
   unfold fChE at h
   split at h
   ·
    cases h
   ·
    omega
  refine ⟨h8, fun k hk => ?_⟩
  by_cases hc : ∃ k, k < l.length ∧ cvE (gc l k) ≠ 0
  ·
   obtain ⟨j, ⟨h1, h2⟩, h3⟩ := least _ hc
   rw [fChE_first h8 h1 h2 fun i hi => by
    by_cases h0 : cvE (gc l i) = 0
    ·
     exact h0
    ·
     have := h3 i ⟨by omega, h0⟩; omega] at h
   exact absurd h h2
  ·
   by_cases h0 : cvE (gc l k) = 0
   ·
    exact h0
   ·
    exact absurd ⟨k, hk, h0⟩ hc
 ·
  rintro ⟨h8, h⟩
  have : l.find? (fun c => decide (cvE c ≠ 0)) = none := by
   rw [List.find?_eq_none]
   intro x hx
   obtain ⟨k, hk, rfl⟩ := List.getElem_of_mem hx
   have := h k hk
   rw [gc_eq hk] at this
   simp [this]
  unfold fChE
  rw [if_neg (by omega), this]
def cvsL (l : List Cv) : Prop := l.length ≤ bigL ∧ ∀ k, k < l.length → cvL (gc l k)
set_option maxRecDepth 100000 in
theorem checkChain_ac (l : List Cv) (hl : cvsL l) : AC Tryz.prog 135 [V.cvs l] (.i (fChE l)) [] := by
 obtain ⟨hl1, hl2⟩ := hl
 unfold bigL at hl1
 refine acI hTT hMX Tryz.func135 Tryz.ntmps135 fun C hC hF => ?_
 refine aw_seq_k fun K hK => wR 2 ?_; refine aX hTT 1 [] True.intro ?_; refine aops_nil (xt_n (hK _ ?_)); clear hK K; refine aw_seq_k fun K hK => ?_; refine aw_seq_k fun K hK => wR 3 ?_; refine aX hTT 3 [] True.intro ?_; refine aops_nil (xt_n (hK _ ?_)); clear hK K
 refine w_cond (t := decide ((8 : Int) < (↑(List.length l) : Int))) (by kernel_rfl) (fun c1 => ?_) (fun c1 => ?_)
 ·
  simp at c1
  refine aw_seq_k fun K hK => wR 4 ?_; refine aX hTT 1 [] True.intro ?_; refine aops_nil (xt_n (hK _ ?_)); clear hK K
  refine aw_ret ?_
  refine xt_r ?_
  rw [show fChE l = 6 by unfold fChE; rw [if_pos (by omega)]]
  refine rP (V.i 6)
 simp at c1
 refine aw_skip ?_
 refine xt_n (hK _ ?_); clear hK K; refine aw_seq_k fun K hK => ?_; refine aw_seq_k fun K hK => wR 4 ?_; refine aX hTT 3 [] True.intro ?_; refine aops_nil (xt_n (hK _ ?_)); clear hK K
 refine aw_block ?_
 refine w_loop (ι := Nat) (fun k => [(9, V.cvs l), (10, .i l.length), (11, .i k)]) (fun _ => []) (fun k => k ≤ l.length ∧ ∀ j, j < k → cvE (gc l j) = 0) (fun k => l.length - k) 0 ⟨Nat.zero_le _, fun j hj => by omega⟩ ?_ ?_
 ·
  refine le_ren [] (.cons (by kernel_rfl) (.cons (by kernel_rfl) (.cons (by kernel_rfl) .nil))) .nil (by kernel_rfl) (by kernel_rfl)
 rintro k ⟨hk, hb⟩
 refine aw_seq_k fun K hK => wR 2 ?_; refine aX hTT 1 [] True.intro ?_; refine aops_nil (xt_n (hK _ ?_)); clear hK K; refine aw_seq_k fun K hK => ?_
 refine w_cond (t := decide ((↑k : Int) < (↑(List.length l) : Int))) (by kernel_rfl) (fun c2 => ?_) (fun c2 => ?_)
 ·
  simp at c2
  refine aw_skip ?_
  refine xt_n (hK _ ?_); clear hK K; refine aw_seq_k fun K hK => ?_
  refine aw_block ?_
  refine aw_seq_k fun K hK => wR 3 ?_; refine aX hTT 4 [(0, .c ((0 : Int) ≤ (↑k : Int) ∧ (↑k : Int) < (↑(List.length l) : Int))), (2, .r (pn 4 (V.ref 200004 0) (200004 : Nat) (Ob.box 162 [V.nil, V.nil, V.i 0]))), (3, .r (pw ((0 : Nat) + (3 : Nat) ≤ (3 : Nat)) (200004 : Nat) (Ob.box 162 [V.sl 1 (List.length (Cv.feed (gc l k))) fun (k_1 : Nat) => [V.i (gi (Cv.feed (gc l k)) k_1)], V.sl 1 (List.length (Cv.back (gc l k))) fun (k_1 : Nat) => [V.i (gi (Cv.back (gc l k)) k_1)], V.i (Cv.share (gc l k))])))] ⟨(by omega), (by omega), True.intro⟩ ?_; refine aops_nil (xt_n (hK _ ?_)); clear hK K; refine aw_seq_k fun K hK => wR 4 ?_; refine aX hTT 1 [(0, .c ((0 : Nat) ≤ (3 : Nat)))] ⟨(by omega), True.intro⟩ ?_
  refine eC (CheckCurve_ac (gc l k) (hl2 k c2)) ?_
  refine aX hTT 1 [] True.intro ?_; refine aops_nil (xt_n (hK _ ?_)); clear hK K; refine aw_seq_k fun K hK => wR 5 ?_; refine aX hTT 2 [] True.intro ?_; refine aops_nil (xt_n (hK _ ?_)); clear hK K
  refine w_cond (t := !decide (cvE (gc l k) = (0 : Int))) (by kernel_rfl) (fun c3 => ?_) (fun c3 => ?_)
  ·
   simp at c3
   refine aw_seq_k fun K hK => wR 6 ?_; refine aX hTT 2 [] True.intro ?_; refine aops_nil (xt_n (hK _ ?_)); clear hK K
   refine aw_ret ?_
   refine xb_r ?_
   refine xt_r ?_; refine xt_r ?_
   refine xb_r ?_
   refine xt_r ?_
   rw [fChE_first (by omega) c2 c3 hb]
   refine rP (V.i (cvE (gc l k)))
  ·
   simp at c3
   refine aw_skip ?_
   refine xb_n ?_; refine xt_n (hK _ ?_); clear hK K; refine wR 6 ?_; refine aX hTT 2 [(0, .i ((↑k : Int) + (1 : Int)))] ⟨(by omega), True.intro⟩ ?_; refine aops_nil ?_; refine xt_n ?_
   refine ⟨k + 1, ⟨by omega, fun j hj => ?_⟩, by refine le_ren [] (.cons (by kernel_rfl) (.cons (by kernel_rfl) (.cons (by kernel_rfl) .nil))) .nil (by kernel_rfl) (by kernel_rfl), by omega⟩
   by_cases h : j < k
   ·
    exact hb j h
   ·
    obtain rfl : j = k := by omega
    exact c3
 ·
  simp at c2
  refine aw_exit ?_
  refine xt_x ?_; refine xt_x ?_
  refine xb_same ?_
  refine xt_n ?_; clear hK K; refine hK _ ?_; clear hK K; refine aw_seq_k fun K hK => wR 3 ?_; refine aX hTT 1 [] True.intro ?_; refine aops_nil (xt_n (hK _ ?_)); clear hK K
  refine aw_ret ?_
  rw [fChE_ok.2 ⟨by omega, fun k hk => hb k (by omega)⟩]
  refine rP (V.i 0)
end Go.Proofs.YtepkjobndmmejaaGreatDoor

namespace Go.Proofs.YtepkjobndmmejaaGreatDoor
open Go.Ab Go.RowKit Go.Dw Go.Shelf
def ringC (h : List Int) (m : Nat) : List V := [V.i (gi h ((m + 7) % 8)), V.i (gi h ((m + 6) % 8)), V.i (gi h ((m + 5) % 8)), V.i (gi h ((m + 4) % 8)), V.i (gi h ((m + 3) % 8)), V.i (gi h ((m + 2) % 8)), V.i (gi h ((m + 1) % 8)), V.i (gi h (m % 8)), V.i m]
def stD (c : Cv) (hy hx : List Int) (m m' : Nat) : List V := ringC hy m ++ ringC hx m' ++ [V.ints c.feed, V.ints c.back, V.i c.share]
abbrev StO (c : Cv) (hy hx : List Int) (m m' : Nat) : Ob := .box 239 (stD c hy hx m m')
abbrev qFA30 : Prop := (8 : Int) ≠ (0 : Int)
theorem qFA30_ : qFA30 := (by omega)
abbrev qFA31 : Prop := (17 : Nat) ≤ (21 : Nat)
theorem qFA31_ : qFA31 := (by omega)
abbrev qFA32 : Prop := (8 : Nat) ≤ (21 : Nat)
theorem qFA32_ : qFA32 := (by omega)
abbrev yyFA38 (c : Cv) : V := V.sl 1 (List.length (Cv.feed c)) fun (k : Nat) => [V.i (gi (Cv.feed c) k)]
abbrev yyFA39 (c : Cv) : V := V.sl 1 (List.length (Cv.back c)) fun (k : Nat) => [V.i (gi (Cv.back c) k)]
abbrev yyFA30 (c : Cv) (hy : List Int) (hx : List Int) (m : Nat) (n : Int) : Ob := Ob.box 239 [V.i (gi hy ((m + (7 : Nat)) % (8 : Nat))), V.i (gi hy ((m + (6 : Nat)) % (8 : Nat))), V.i (gi hy ((m + (5 : Nat)) % (8 : Nat))), V.i (gi hy ((m + (4 : Nat)) % (8 : Nat))), V.i (gi hy ((m + (3 : Nat)) % (8 : Nat))), V.i (gi hy ((m + (2 : Nat)) % (8 : Nat))), V.i (gi hy ((m + (1 : Nat)) % (8 : Nat))), V.i (gi hy (m % (8 : Nat))), V.i (↑m : Int), V.i (gi hx (((7 : Nat) + (7 : Nat)) % (8 : Nat))), V.i (gi hx (((7 : Nat) + (6 : Nat)) % (8 : Nat))), V.i (gi hx (((7 : Nat) + (5 : Nat)) % (8 : Nat))), V.i (gi hx (((7 : Nat) + (4 : Nat)) % (8 : Nat))), V.i (gi hx (((7 : Nat) + (3 : Nat)) % (8 : Nat))), V.i (gi hx (((7 : Nat) + (2 : Nat)) % (8 : Nat))), V.i (gi hx (((7 : Nat) + (1 : Nat)) % (8 : Nat))), V.i n, V.i 0, (yyFA38 c), (yyFA39 c), V.i (Cv.share c)]
abbrev yyFA31 (c : Cv) (hy : List Int) (hx : List Int) (m : Nat) (n : Int) : Ob := Ob.box 239 [V.i (gi hy ((m + (7 : Nat)) % (8 : Nat))), V.i (gi hy ((m + (6 : Nat)) % (8 : Nat))), V.i (gi hy ((m + (5 : Nat)) % (8 : Nat))), V.i (gi hy ((m + (4 : Nat)) % (8 : Nat))), V.i (gi hy ((m + (3 : Nat)) % (8 : Nat))), V.i (gi hy ((m + (2 : Nat)) % (8 : Nat))), V.i (gi hy ((m + (1 : Nat)) % (8 : Nat))), V.i (gi hy (m % (8 : Nat))), V.i (↑m : Int), V.i n, V.i (gi hx (((0 : Nat) + (6 : Nat)) % (8 : Nat))), V.i (gi hx (((0 : Nat) + (5 : Nat)) % (8 : Nat))), V.i (gi hx (((0 : Nat) + (4 : Nat)) % (8 : Nat))), V.i (gi hx (((0 : Nat) + (3 : Nat)) % (8 : Nat))), V.i (gi hx (((0 : Nat) + (2 : Nat)) % (8 : Nat))), V.i (gi hx (((0 : Nat) + (1 : Nat)) % (8 : Nat))), V.i (gi hx ((0 : Nat) % (8 : Nat))), V.i 1, (yyFA38 c), (yyFA39 c), V.i (Cv.share c)]
abbrev yyFA32 (c : Cv) (hy : List Int) (hx : List Int) (m : Nat) (n : Int) : Ob := Ob.box 239 [V.i (gi hy ((m + (7 : Nat)) % (8 : Nat))), V.i (gi hy ((m + (6 : Nat)) % (8 : Nat))), V.i (gi hy ((m + (5 : Nat)) % (8 : Nat))), V.i (gi hy ((m + (4 : Nat)) % (8 : Nat))), V.i (gi hy ((m + (3 : Nat)) % (8 : Nat))), V.i (gi hy ((m + (2 : Nat)) % (8 : Nat))), V.i (gi hy ((m + (1 : Nat)) % (8 : Nat))), V.i (gi hy (m % (8 : Nat))), V.i (↑m : Int), V.i (gi hx (((1 : Nat) + (7 : Nat)) % (8 : Nat))), V.i n, V.i (gi hx (((1 : Nat) + (5 : Nat)) % (8 : Nat))), V.i (gi hx (((1 : Nat) + (4 : Nat)) % (8 : Nat))), V.i (gi hx (((1 : Nat) + (3 : Nat)) % (8 : Nat))), V.i (gi hx (((1 : Nat) + (2 : Nat)) % (8 : Nat))), V.i (gi hx (((1 : Nat) + (1 : Nat)) % (8 : Nat))), V.i (gi hx ((1 : Nat) % (8 : Nat))), V.i 2, (yyFA38 c), (yyFA39 c), V.i (Cv.share c)]
abbrev yyFA33 (c : Cv) (hy : List Int) (hx : List Int) (m : Nat) (n : Int) : Ob := Ob.box 239 [V.i (gi hy ((m + (7 : Nat)) % (8 : Nat))), V.i (gi hy ((m + (6 : Nat)) % (8 : Nat))), V.i (gi hy ((m + (5 : Nat)) % (8 : Nat))), V.i (gi hy ((m + (4 : Nat)) % (8 : Nat))), V.i (gi hy ((m + (3 : Nat)) % (8 : Nat))), V.i (gi hy ((m + (2 : Nat)) % (8 : Nat))), V.i (gi hy ((m + (1 : Nat)) % (8 : Nat))), V.i (gi hy (m % (8 : Nat))), V.i (↑m : Int), V.i (gi hx (((2 : Nat) + (7 : Nat)) % (8 : Nat))), V.i (gi hx (((2 : Nat) + (6 : Nat)) % (8 : Nat))), V.i n, V.i (gi hx (((2 : Nat) + (4 : Nat)) % (8 : Nat))), V.i (gi hx (((2 : Nat) + (3 : Nat)) % (8 : Nat))), V.i (gi hx (((2 : Nat) + (2 : Nat)) % (8 : Nat))), V.i (gi hx (((2 : Nat) + (1 : Nat)) % (8 : Nat))), V.i (gi hx ((2 : Nat) % (8 : Nat))), V.i 3, (yyFA38 c), (yyFA39 c), V.i (Cv.share c)]
abbrev yyFA34 (c : Cv) (hy : List Int) (hx : List Int) (m : Nat) (n : Int) : Ob := Ob.box 239 [V.i (gi hy ((m + (7 : Nat)) % (8 : Nat))), V.i (gi hy ((m + (6 : Nat)) % (8 : Nat))), V.i (gi hy ((m + (5 : Nat)) % (8 : Nat))), V.i (gi hy ((m + (4 : Nat)) % (8 : Nat))), V.i (gi hy ((m + (3 : Nat)) % (8 : Nat))), V.i (gi hy ((m + (2 : Nat)) % (8 : Nat))), V.i (gi hy ((m + (1 : Nat)) % (8 : Nat))), V.i (gi hy (m % (8 : Nat))), V.i (↑m : Int), V.i (gi hx (((3 : Nat) + (7 : Nat)) % (8 : Nat))), V.i (gi hx (((3 : Nat) + (6 : Nat)) % (8 : Nat))), V.i (gi hx (((3 : Nat) + (5 : Nat)) % (8 : Nat))), V.i n, V.i (gi hx (((3 : Nat) + (3 : Nat)) % (8 : Nat))), V.i (gi hx (((3 : Nat) + (2 : Nat)) % (8 : Nat))), V.i (gi hx (((3 : Nat) + (1 : Nat)) % (8 : Nat))), V.i (gi hx ((3 : Nat) % (8 : Nat))), V.i 4, (yyFA38 c), (yyFA39 c), V.i (Cv.share c)]
abbrev yyFA35 (c : Cv) (hy : List Int) (hx : List Int) (m : Nat) (n : Int) : Ob := Ob.box 239 [V.i (gi hy ((m + (7 : Nat)) % (8 : Nat))), V.i (gi hy ((m + (6 : Nat)) % (8 : Nat))), V.i (gi hy ((m + (5 : Nat)) % (8 : Nat))), V.i (gi hy ((m + (4 : Nat)) % (8 : Nat))), V.i (gi hy ((m + (3 : Nat)) % (8 : Nat))), V.i (gi hy ((m + (2 : Nat)) % (8 : Nat))), V.i (gi hy ((m + (1 : Nat)) % (8 : Nat))), V.i (gi hy (m % (8 : Nat))), V.i (↑m : Int), V.i (gi hx (((4 : Nat) + (7 : Nat)) % (8 : Nat))), V.i (gi hx (((4 : Nat) + (6 : Nat)) % (8 : Nat))), V.i (gi hx (((4 : Nat) + (5 : Nat)) % (8 : Nat))), V.i (gi hx (((4 : Nat) + (4 : Nat)) % (8 : Nat))), V.i n, V.i (gi hx (((4 : Nat) + (2 : Nat)) % (8 : Nat))), V.i (gi hx (((4 : Nat) + (1 : Nat)) % (8 : Nat))), V.i (gi hx ((4 : Nat) % (8 : Nat))), V.i 5, (yyFA38 c), (yyFA39 c), V.i (Cv.share c)]
abbrev yyFA36 (c : Cv) (hy : List Int) (hx : List Int) (m : Nat) (n : Int) : Ob := Ob.box 239 [V.i (gi hy ((m + (7 : Nat)) % (8 : Nat))), V.i (gi hy ((m + (6 : Nat)) % (8 : Nat))), V.i (gi hy ((m + (5 : Nat)) % (8 : Nat))), V.i (gi hy ((m + (4 : Nat)) % (8 : Nat))), V.i (gi hy ((m + (3 : Nat)) % (8 : Nat))), V.i (gi hy ((m + (2 : Nat)) % (8 : Nat))), V.i (gi hy ((m + (1 : Nat)) % (8 : Nat))), V.i (gi hy (m % (8 : Nat))), V.i (↑m : Int), V.i (gi hx (((5 : Nat) + (7 : Nat)) % (8 : Nat))), V.i (gi hx (((5 : Nat) + (6 : Nat)) % (8 : Nat))), V.i (gi hx (((5 : Nat) + (5 : Nat)) % (8 : Nat))), V.i (gi hx (((5 : Nat) + (4 : Nat)) % (8 : Nat))), V.i (gi hx (((5 : Nat) + (3 : Nat)) % (8 : Nat))), V.i n, V.i (gi hx (((5 : Nat) + (1 : Nat)) % (8 : Nat))), V.i (gi hx ((5 : Nat) % (8 : Nat))), V.i 6, (yyFA38 c), (yyFA39 c), V.i (Cv.share c)]
abbrev yyFA37 (c : Cv) (hy : List Int) (hx : List Int) (m : Nat) (n : Int) : Ob := Ob.box 239 [V.i (gi hy ((m + (7 : Nat)) % (8 : Nat))), V.i (gi hy ((m + (6 : Nat)) % (8 : Nat))), V.i (gi hy ((m + (5 : Nat)) % (8 : Nat))), V.i (gi hy ((m + (4 : Nat)) % (8 : Nat))), V.i (gi hy ((m + (3 : Nat)) % (8 : Nat))), V.i (gi hy ((m + (2 : Nat)) % (8 : Nat))), V.i (gi hy ((m + (1 : Nat)) % (8 : Nat))), V.i (gi hy (m % (8 : Nat))), V.i (↑m : Int), V.i (gi hx (((6 : Nat) + (7 : Nat)) % (8 : Nat))), V.i (gi hx (((6 : Nat) + (6 : Nat)) % (8 : Nat))), V.i (gi hx (((6 : Nat) + (5 : Nat)) % (8 : Nat))), V.i (gi hx (((6 : Nat) + (4 : Nat)) % (8 : Nat))), V.i (gi hx (((6 : Nat) + (3 : Nat)) % (8 : Nat))), V.i (gi hx (((6 : Nat) + (2 : Nat)) % (8 : Nat))), V.i n, V.i (gi hx ((6 : Nat) % (8 : Nat))), V.i 7, (yyFA38 c), (yyFA39 c), V.i (Cv.share c)]
set_option maxRecDepth 100000 in
theorem putI_ac (c : Cv) (hy hx : List Int) (m m' : Nat) (n : Int) (hm : m' < 8) : AM Tryz.prog 160 [.ref 500 9, .i n] [StO c hy hx m m'] (.tup []) [some (StO c hy (n :: hx) m ((m' + 1) % 8))] [] := by
 have hm2 : m' = 0 ∨ m' = 1 ∨ m' = 2 ∨ m' = 3 ∨ m' = 4 ∨ m' = 5 ∨ m' = 6 ∨ m' = 7 := by omega
 rcases hm2 with rfl | rfl | rfl | rfl | rfl | rfl | rfl | rfl
 ·
  refine am_intro hTT hMX (fn := Tryz.f160) (N := _) ⟨Tryz.func160, rfl, Tryz.ntmps160, by kernel_rfl⟩ (by simp) rfl (by simp) (by simp) fun C hF => ?_
  refine aw_seq_k fun K hK => wD 2 ?_; refine aX hTT 10 [(4, .c qFA31), (8, .c ((0 : Int) ≤ (0 : Int) ∧ (0 : Int) < (↑(8 : Nat) : Int))), (9, .r (pw ((9 : Nat) + (1 : Nat) ≤ (21 : Nat)) (500 : Nat) (Ob.box 239 [V.i (gi hy ((m + (7 : Nat)) % (8 : Nat))), V.i (gi hy ((m + (6 : Nat)) % (8 : Nat))), V.i (gi hy ((m + (5 : Nat)) % (8 : Nat))), V.i (gi hy ((m + (4 : Nat)) % (8 : Nat))), V.i (gi hy ((m + (3 : Nat)) % (8 : Nat))), V.i (gi hy ((m + (2 : Nat)) % (8 : Nat))), V.i (gi hy ((m + (1 : Nat)) % (8 : Nat))), V.i (gi hy (m % (8 : Nat))), V.i (↑m : Int), V.i n, V.i (gi hx (((0 : Nat) + (6 : Nat)) % (8 : Nat))), V.i (gi hx (((0 : Nat) + (5 : Nat)) % (8 : Nat))), V.i (gi hx (((0 : Nat) + (4 : Nat)) % (8 : Nat))), V.i (gi hx (((0 : Nat) + (3 : Nat)) % (8 : Nat))), V.i (gi hx (((0 : Nat) + (2 : Nat)) % (8 : Nat))), V.i (gi hx (((0 : Nat) + (1 : Nat)) % (8 : Nat))), V.i (gi hx ((0 : Nat) % (8 : Nat))), V.i 0, (yyFA38 c), (yyFA39 c), V.i (Cv.share c)])))] ⟨qFA31_, (by omega), (by omega), True.intro⟩ ?_; refine aops_nil ⟨by kernel_rfl, ?_⟩; refine xt_n (hK _ ?_); clear hK K; refine wR 3 ?_; refine aX hTT 10 [(4, .c qFA31), (5, .i ((0 : Int) + (1 : Int))), (6, .c qFA30), (9, .r (pw ((17 : Nat) + (1 : Nat) ≤ (21 : Nat)) (500 : Nat) ((yyFA31 c hy hx m n))))] ⟨qFA31_, (by omega), qFA30_, (by omega), True.intro⟩ ?_; refine aops_nil ?_
  refine retM (v' := V.tup []) [] [] (.inl rfl) .nil (.cons ⟨(yyFA31 c hy hx m n), (by kernel_rfl), .box (by kernel_rfl)⟩ .nil) (by kernel_rfl) (by kernel_rfl) (by kernel_rfl) (by kernel_rfl) (by kernel_rfl) (by kernel_rfl) (by kernel_rfl)
 ·
  refine am_intro hTT hMX (fn := Tryz.f160) (N := _) ⟨Tryz.func160, rfl, Tryz.ntmps160, by kernel_rfl⟩ (by simp) rfl (by simp) (by simp) fun C hF => ?_
  refine aw_seq_k fun K hK => wD 2 ?_; refine aX hTT 10 [(4, .c qFA31), (8, .c ((0 : Int) ≤ (1 : Int) ∧ (1 : Int) < (↑(8 : Nat) : Int))), (9, .r (pw ((10 : Nat) + (1 : Nat) ≤ (21 : Nat)) (500 : Nat) (Ob.box 239 [V.i (gi hy ((m + (7 : Nat)) % (8 : Nat))), V.i (gi hy ((m + (6 : Nat)) % (8 : Nat))), V.i (gi hy ((m + (5 : Nat)) % (8 : Nat))), V.i (gi hy ((m + (4 : Nat)) % (8 : Nat))), V.i (gi hy ((m + (3 : Nat)) % (8 : Nat))), V.i (gi hy ((m + (2 : Nat)) % (8 : Nat))), V.i (gi hy ((m + (1 : Nat)) % (8 : Nat))), V.i (gi hy (m % (8 : Nat))), V.i (↑m : Int), V.i (gi hx (((1 : Nat) + (7 : Nat)) % (8 : Nat))), V.i n, V.i (gi hx (((1 : Nat) + (5 : Nat)) % (8 : Nat))), V.i (gi hx (((1 : Nat) + (4 : Nat)) % (8 : Nat))), V.i (gi hx (((1 : Nat) + (3 : Nat)) % (8 : Nat))), V.i (gi hx (((1 : Nat) + (2 : Nat)) % (8 : Nat))), V.i (gi hx (((1 : Nat) + (1 : Nat)) % (8 : Nat))), V.i (gi hx ((1 : Nat) % (8 : Nat))), V.i 1, (yyFA38 c), (yyFA39 c), V.i (Cv.share c)])))] ⟨qFA31_, (by omega), (by omega), True.intro⟩ ?_; refine aops_nil ⟨by kernel_rfl, ?_⟩; refine xt_n (hK _ ?_); clear hK K; refine wR 3 ?_; refine aX hTT 10 [(4, .c qFA31), (5, .i ((1 : Int) + (1 : Int))), (6, .c qFA30), (9, .r (pw ((17 : Nat) + (1 : Nat) ≤ (21 : Nat)) (500 : Nat) ((yyFA32 c hy hx m n))))] ⟨qFA31_, (by omega), qFA30_, (by omega), True.intro⟩ ?_; refine aops_nil ?_
  refine retM (v' := V.tup []) [] [] (.inl rfl) .nil (.cons ⟨(yyFA32 c hy hx m n), (by kernel_rfl), .box (by kernel_rfl)⟩ .nil) (by kernel_rfl) (by kernel_rfl) (by kernel_rfl) (by kernel_rfl) (by kernel_rfl) (by kernel_rfl) (by kernel_rfl)
 ·
  refine am_intro hTT hMX (fn := Tryz.f160) (N := _) ⟨Tryz.func160, rfl, Tryz.ntmps160, by kernel_rfl⟩ (by simp) rfl (by simp) (by simp) fun C hF => ?_
  refine aw_seq_k fun K hK => wD 2 ?_; refine aX hTT 10 [(4, .c qFA31), (8, .c ((0 : Int) ≤ (2 : Int) ∧ (2 : Int) < (↑(8 : Nat) : Int))), (9, .r (pw ((11 : Nat) + (1 : Nat) ≤ (21 : Nat)) (500 : Nat) (Ob.box 239 [V.i (gi hy ((m + (7 : Nat)) % (8 : Nat))), V.i (gi hy ((m + (6 : Nat)) % (8 : Nat))), V.i (gi hy ((m + (5 : Nat)) % (8 : Nat))), V.i (gi hy ((m + (4 : Nat)) % (8 : Nat))), V.i (gi hy ((m + (3 : Nat)) % (8 : Nat))), V.i (gi hy ((m + (2 : Nat)) % (8 : Nat))), V.i (gi hy ((m + (1 : Nat)) % (8 : Nat))), V.i (gi hy (m % (8 : Nat))), V.i (↑m : Int), V.i (gi hx (((2 : Nat) + (7 : Nat)) % (8 : Nat))), V.i (gi hx (((2 : Nat) + (6 : Nat)) % (8 : Nat))), V.i n, V.i (gi hx (((2 : Nat) + (4 : Nat)) % (8 : Nat))), V.i (gi hx (((2 : Nat) + (3 : Nat)) % (8 : Nat))), V.i (gi hx (((2 : Nat) + (2 : Nat)) % (8 : Nat))), V.i (gi hx (((2 : Nat) + (1 : Nat)) % (8 : Nat))), V.i (gi hx ((2 : Nat) % (8 : Nat))), V.i 2, (yyFA38 c), (yyFA39 c), V.i (Cv.share c)])))] ⟨qFA31_, (by omega), (by omega), True.intro⟩ ?_; refine aops_nil ⟨by kernel_rfl, ?_⟩; refine xt_n (hK _ ?_); clear hK K; refine wR 3 ?_; refine aX hTT 10 [(4, .c qFA31), (5, .i ((2 : Int) + (1 : Int))), (6, .c qFA30), (9, .r (pw ((17 : Nat) + (1 : Nat) ≤ (21 : Nat)) (500 : Nat) ((yyFA33 c hy hx m n))))] ⟨qFA31_, (by omega), qFA30_, (by omega), True.intro⟩ ?_; refine aops_nil ?_
  refine retM (v' := V.tup []) [] [] (.inl rfl) .nil (.cons ⟨(yyFA33 c hy hx m n), (by kernel_rfl), .box (by kernel_rfl)⟩ .nil) (by kernel_rfl) (by kernel_rfl) (by kernel_rfl) (by kernel_rfl) (by kernel_rfl) (by kernel_rfl) (by kernel_rfl)
 ·
  refine am_intro hTT hMX (fn := Tryz.f160) (N := _) ⟨Tryz.func160, rfl, Tryz.ntmps160, by kernel_rfl⟩ (by simp) rfl (by simp) (by simp) fun C hF => ?_
  refine aw_seq_k fun K hK => wD 2 ?_; refine aX hTT 10 [(4, .c qFA31), (8, .c ((0 : Int) ≤ (3 : Int) ∧ (3 : Int) < (↑(8 : Nat) : Int))), (9, .r (pw ((12 : Nat) + (1 : Nat) ≤ (21 : Nat)) (500 : Nat) (Ob.box 239 [V.i (gi hy ((m + (7 : Nat)) % (8 : Nat))), V.i (gi hy ((m + (6 : Nat)) % (8 : Nat))), V.i (gi hy ((m + (5 : Nat)) % (8 : Nat))), V.i (gi hy ((m + (4 : Nat)) % (8 : Nat))), V.i (gi hy ((m + (3 : Nat)) % (8 : Nat))), V.i (gi hy ((m + (2 : Nat)) % (8 : Nat))), V.i (gi hy ((m + (1 : Nat)) % (8 : Nat))), V.i (gi hy (m % (8 : Nat))), V.i (↑m : Int), V.i (gi hx (((3 : Nat) + (7 : Nat)) % (8 : Nat))), V.i (gi hx (((3 : Nat) + (6 : Nat)) % (8 : Nat))), V.i (gi hx (((3 : Nat) + (5 : Nat)) % (8 : Nat))), V.i n, V.i (gi hx (((3 : Nat) + (3 : Nat)) % (8 : Nat))), V.i (gi hx (((3 : Nat) + (2 : Nat)) % (8 : Nat))), V.i (gi hx (((3 : Nat) + (1 : Nat)) % (8 : Nat))), V.i (gi hx ((3 : Nat) % (8 : Nat))), V.i 3, (yyFA38 c), (yyFA39 c), V.i (Cv.share c)])))] ⟨qFA31_, (by omega), (by omega), True.intro⟩ ?_; refine aops_nil ⟨by kernel_rfl, ?_⟩; refine xt_n (hK _ ?_); clear hK K; refine wR 3 ?_; refine aX hTT 10 [(4, .c qFA31), (5, .i ((3 : Int) + (1 : Int))), (6, .c qFA30), (9, .r (pw ((17 : Nat) + (1 : Nat) ≤ (21 : Nat)) (500 : Nat) ((yyFA34 c hy hx m n))))] ⟨qFA31_, (by omega), qFA30_, (by omega), True.intro⟩ ?_; refine aops_nil ?_
  refine retM (v' := V.tup []) [] [] (.inl rfl) .nil (.cons ⟨(yyFA34 c hy hx m n), (by kernel_rfl), .box (by kernel_rfl)⟩ .nil) (by kernel_rfl) (by kernel_rfl) (by kernel_rfl) (by kernel_rfl) (by kernel_rfl) (by kernel_rfl) (by kernel_rfl)
 ·
  refine am_intro hTT hMX (fn := Tryz.f160) (N := _) ⟨Tryz.func160, rfl, Tryz.ntmps160, by kernel_rfl⟩ (by simp) rfl (by simp) (by simp) fun C hF => ?_
  refine aw_seq_k fun K hK => wD 2 ?_; refine aX hTT 10 [(4, .c qFA31), (8, .c ((0 : Int) ≤ (4 : Int) ∧ (4 : Int) < (↑(8 : Nat) : Int))), (9, .r (pw ((13 : Nat) + (1 : Nat) ≤ (21 : Nat)) (500 : Nat) (Ob.box 239 [V.i (gi hy ((m + (7 : Nat)) % (8 : Nat))), V.i (gi hy ((m + (6 : Nat)) % (8 : Nat))), V.i (gi hy ((m + (5 : Nat)) % (8 : Nat))), V.i (gi hy ((m + (4 : Nat)) % (8 : Nat))), V.i (gi hy ((m + (3 : Nat)) % (8 : Nat))), V.i (gi hy ((m + (2 : Nat)) % (8 : Nat))), V.i (gi hy ((m + (1 : Nat)) % (8 : Nat))), V.i (gi hy (m % (8 : Nat))), V.i (↑m : Int), V.i (gi hx (((4 : Nat) + (7 : Nat)) % (8 : Nat))), V.i (gi hx (((4 : Nat) + (6 : Nat)) % (8 : Nat))), V.i (gi hx (((4 : Nat) + (5 : Nat)) % (8 : Nat))), V.i (gi hx (((4 : Nat) + (4 : Nat)) % (8 : Nat))), V.i n, V.i (gi hx (((4 : Nat) + (2 : Nat)) % (8 : Nat))), V.i (gi hx (((4 : Nat) + (1 : Nat)) % (8 : Nat))), V.i (gi hx ((4 : Nat) % (8 : Nat))), V.i 4, (yyFA38 c), (yyFA39 c), V.i (Cv.share c)])))] ⟨qFA31_, (by omega), (by omega), True.intro⟩ ?_; refine aops_nil ⟨by kernel_rfl, ?_⟩; refine xt_n (hK _ ?_); clear hK K; refine wR 3 ?_; refine aX hTT 10 [(4, .c qFA31), (5, .i ((4 : Int) + (1 : Int))), (6, .c qFA30), (9, .r (pw ((17 : Nat) + (1 : Nat) ≤ (21 : Nat)) (500 : Nat) ((yyFA35 c hy hx m n))))] ⟨qFA31_, (by omega), qFA30_, (by omega), True.intro⟩ ?_; refine aops_nil ?_
  refine retM (v' := V.tup []) [] [] (.inl rfl) .nil (.cons ⟨(yyFA35 c hy hx m n), (by kernel_rfl), .box (by kernel_rfl)⟩ .nil) (by kernel_rfl) (by kernel_rfl) (by kernel_rfl) (by kernel_rfl) (by kernel_rfl) (by kernel_rfl) (by kernel_rfl)
 ·
  refine am_intro hTT hMX (fn := Tryz.f160) (N := _) ⟨Tryz.func160, rfl, Tryz.ntmps160, by kernel_rfl⟩ (by simp) rfl (by simp) (by simp) fun C hF => ?_
  refine aw_seq_k fun K hK => wD 2 ?_; refine aX hTT 10 [(4, .c qFA31), (8, .c ((0 : Int) ≤ (5 : Int) ∧ (5 : Int) < (↑(8 : Nat) : Int))), (9, .r (pw ((14 : Nat) + (1 : Nat) ≤ (21 : Nat)) (500 : Nat) (Ob.box 239 [V.i (gi hy ((m + (7 : Nat)) % (8 : Nat))), V.i (gi hy ((m + (6 : Nat)) % (8 : Nat))), V.i (gi hy ((m + (5 : Nat)) % (8 : Nat))), V.i (gi hy ((m + (4 : Nat)) % (8 : Nat))), V.i (gi hy ((m + (3 : Nat)) % (8 : Nat))), V.i (gi hy ((m + (2 : Nat)) % (8 : Nat))), V.i (gi hy ((m + (1 : Nat)) % (8 : Nat))), V.i (gi hy (m % (8 : Nat))), V.i (↑m : Int), V.i (gi hx (((5 : Nat) + (7 : Nat)) % (8 : Nat))), V.i (gi hx (((5 : Nat) + (6 : Nat)) % (8 : Nat))), V.i (gi hx (((5 : Nat) + (5 : Nat)) % (8 : Nat))), V.i (gi hx (((5 : Nat) + (4 : Nat)) % (8 : Nat))), V.i (gi hx (((5 : Nat) + (3 : Nat)) % (8 : Nat))), V.i n, V.i (gi hx (((5 : Nat) + (1 : Nat)) % (8 : Nat))), V.i (gi hx ((5 : Nat) % (8 : Nat))), V.i 5, (yyFA38 c), (yyFA39 c), V.i (Cv.share c)])))] ⟨qFA31_, (by omega), (by omega), True.intro⟩ ?_; refine aops_nil ⟨by kernel_rfl, ?_⟩; refine xt_n (hK _ ?_); clear hK K; refine wR 3 ?_; refine aX hTT 10 [(4, .c qFA31), (5, .i ((5 : Int) + (1 : Int))), (6, .c qFA30), (9, .r (pw ((17 : Nat) + (1 : Nat) ≤ (21 : Nat)) (500 : Nat) ((yyFA36 c hy hx m n))))] ⟨qFA31_, (by omega), qFA30_, (by omega), True.intro⟩ ?_; refine aops_nil ?_
  refine retM (v' := V.tup []) [] [] (.inl rfl) .nil (.cons ⟨(yyFA36 c hy hx m n), (by kernel_rfl), .box (by kernel_rfl)⟩ .nil) (by kernel_rfl) (by kernel_rfl) (by kernel_rfl) (by kernel_rfl) (by kernel_rfl) (by kernel_rfl) (by kernel_rfl)
 ·
  refine am_intro hTT hMX (fn := Tryz.f160) (N := _) ⟨Tryz.func160, rfl, Tryz.ntmps160, by kernel_rfl⟩ (by simp) rfl (by simp) (by simp) fun C hF => ?_
  refine aw_seq_k fun K hK => wD 2 ?_; refine aX hTT 10 [(4, .c qFA31), (8, .c ((0 : Int) ≤ (6 : Int) ∧ (6 : Int) < (↑(8 : Nat) : Int))), (9, .r (pw ((15 : Nat) + (1 : Nat) ≤ (21 : Nat)) (500 : Nat) (Ob.box 239 [V.i (gi hy ((m + (7 : Nat)) % (8 : Nat))), V.i (gi hy ((m + (6 : Nat)) % (8 : Nat))), V.i (gi hy ((m + (5 : Nat)) % (8 : Nat))), V.i (gi hy ((m + (4 : Nat)) % (8 : Nat))), V.i (gi hy ((m + (3 : Nat)) % (8 : Nat))), V.i (gi hy ((m + (2 : Nat)) % (8 : Nat))), V.i (gi hy ((m + (1 : Nat)) % (8 : Nat))), V.i (gi hy (m % (8 : Nat))), V.i (↑m : Int), V.i (gi hx (((6 : Nat) + (7 : Nat)) % (8 : Nat))), V.i (gi hx (((6 : Nat) + (6 : Nat)) % (8 : Nat))), V.i (gi hx (((6 : Nat) + (5 : Nat)) % (8 : Nat))), V.i (gi hx (((6 : Nat) + (4 : Nat)) % (8 : Nat))), V.i (gi hx (((6 : Nat) + (3 : Nat)) % (8 : Nat))), V.i (gi hx (((6 : Nat) + (2 : Nat)) % (8 : Nat))), V.i n, V.i (gi hx ((6 : Nat) % (8 : Nat))), V.i 6, (yyFA38 c), (yyFA39 c), V.i (Cv.share c)])))] ⟨qFA31_, (by omega), (by omega), True.intro⟩ ?_; refine aops_nil ⟨by kernel_rfl, ?_⟩; refine xt_n (hK _ ?_); clear hK K; refine wR 3 ?_; refine aX hTT 10 [(4, .c qFA31), (5, .i ((6 : Int) + (1 : Int))), (6, .c qFA30), (9, .r (pw ((17 : Nat) + (1 : Nat) ≤ (21 : Nat)) (500 : Nat) ((yyFA37 c hy hx m n))))] ⟨qFA31_, (by omega), qFA30_, (by omega), True.intro⟩ ?_; refine aops_nil ?_
  refine retM (v' := V.tup []) [] [] (.inl rfl) .nil (.cons ⟨(yyFA37 c hy hx m n), (by kernel_rfl), .box (by kernel_rfl)⟩ .nil) (by kernel_rfl) (by kernel_rfl) (by kernel_rfl) (by kernel_rfl) (by kernel_rfl) (by kernel_rfl) (by kernel_rfl)
 ·
  refine am_intro hTT hMX (fn := Tryz.f160) (N := _) ⟨Tryz.func160, rfl, Tryz.ntmps160, by kernel_rfl⟩ (by simp) rfl (by simp) (by simp) fun C hF => ?_
  refine aw_seq_k fun K hK => wD 2 ?_; refine aX hTT 10 [(4, .c qFA31), (8, .c ((0 : Int) ≤ (7 : Int) ∧ (7 : Int) < (↑(8 : Nat) : Int))), (9, .r (pw ((16 : Nat) + (1 : Nat) ≤ (21 : Nat)) (500 : Nat) (Ob.box 239 [V.i (gi hy ((m + (7 : Nat)) % (8 : Nat))), V.i (gi hy ((m + (6 : Nat)) % (8 : Nat))), V.i (gi hy ((m + (5 : Nat)) % (8 : Nat))), V.i (gi hy ((m + (4 : Nat)) % (8 : Nat))), V.i (gi hy ((m + (3 : Nat)) % (8 : Nat))), V.i (gi hy ((m + (2 : Nat)) % (8 : Nat))), V.i (gi hy ((m + (1 : Nat)) % (8 : Nat))), V.i (gi hy (m % (8 : Nat))), V.i (↑m : Int), V.i (gi hx (((7 : Nat) + (7 : Nat)) % (8 : Nat))), V.i (gi hx (((7 : Nat) + (6 : Nat)) % (8 : Nat))), V.i (gi hx (((7 : Nat) + (5 : Nat)) % (8 : Nat))), V.i (gi hx (((7 : Nat) + (4 : Nat)) % (8 : Nat))), V.i (gi hx (((7 : Nat) + (3 : Nat)) % (8 : Nat))), V.i (gi hx (((7 : Nat) + (2 : Nat)) % (8 : Nat))), V.i (gi hx (((7 : Nat) + (1 : Nat)) % (8 : Nat))), V.i n, V.i 7, (yyFA38 c), (yyFA39 c), V.i (Cv.share c)])))] ⟨qFA31_, (by omega), (by omega), True.intro⟩ ?_; refine aops_nil ⟨by kernel_rfl, ?_⟩; refine xt_n (hK _ ?_); clear hK K; refine wR 3 ?_; refine aX hTT 10 [(4, .c qFA31), (5, .i ((7 : Int) + (1 : Int))), (6, .c qFA30), (9, .r (pw ((17 : Nat) + (1 : Nat) ≤ (21 : Nat)) (500 : Nat) ((yyFA30 c hy hx m n))))] ⟨qFA31_, (by omega), qFA30_, (by omega), True.intro⟩ ?_; refine aops_nil ?_
  refine retM (v' := V.tup []) [] [] (.inl rfl) .nil (.cons ⟨(yyFA30 c hy hx m n), (by kernel_rfl), .box (by kernel_rfl)⟩ .nil) (by kernel_rfl) (by kernel_rfl) (by kernel_rfl) (by kernel_rfl) (by kernel_rfl) (by kernel_rfl) (by kernel_rfl)
abbrev yyFA310 (c : Cv) (hy : List Int) (hx : List Int) (m' : Nat) (n : Int) : Ob := Ob.box 239 [V.i (gi hy (((7 : Nat) + (7 : Nat)) % (8 : Nat))), V.i (gi hy (((7 : Nat) + (6 : Nat)) % (8 : Nat))), V.i (gi hy (((7 : Nat) + (5 : Nat)) % (8 : Nat))), V.i (gi hy (((7 : Nat) + (4 : Nat)) % (8 : Nat))), V.i (gi hy (((7 : Nat) + (3 : Nat)) % (8 : Nat))), V.i (gi hy (((7 : Nat) + (2 : Nat)) % (8 : Nat))), V.i (gi hy (((7 : Nat) + (1 : Nat)) % (8 : Nat))), V.i n, V.i 0, V.i (gi hx ((m' + (7 : Nat)) % (8 : Nat))), V.i (gi hx ((m' + (6 : Nat)) % (8 : Nat))), V.i (gi hx ((m' + (5 : Nat)) % (8 : Nat))), V.i (gi hx ((m' + (4 : Nat)) % (8 : Nat))), V.i (gi hx ((m' + (3 : Nat)) % (8 : Nat))), V.i (gi hx ((m' + (2 : Nat)) % (8 : Nat))), V.i (gi hx ((m' + (1 : Nat)) % (8 : Nat))), V.i (gi hx (m' % (8 : Nat))), V.i (↑m' : Int), (yyFA38 c), (yyFA39 c), V.i (Cv.share c)]
abbrev yyFA311 (c : Cv) (hy : List Int) (hx : List Int) (m' : Nat) (n : Int) : Ob := Ob.box 239 [V.i n, V.i (gi hy (((0 : Nat) + (6 : Nat)) % (8 : Nat))), V.i (gi hy (((0 : Nat) + (5 : Nat)) % (8 : Nat))), V.i (gi hy (((0 : Nat) + (4 : Nat)) % (8 : Nat))), V.i (gi hy (((0 : Nat) + (3 : Nat)) % (8 : Nat))), V.i (gi hy (((0 : Nat) + (2 : Nat)) % (8 : Nat))), V.i (gi hy (((0 : Nat) + (1 : Nat)) % (8 : Nat))), V.i (gi hy ((0 : Nat) % (8 : Nat))), V.i 1, V.i (gi hx ((m' + (7 : Nat)) % (8 : Nat))), V.i (gi hx ((m' + (6 : Nat)) % (8 : Nat))), V.i (gi hx ((m' + (5 : Nat)) % (8 : Nat))), V.i (gi hx ((m' + (4 : Nat)) % (8 : Nat))), V.i (gi hx ((m' + (3 : Nat)) % (8 : Nat))), V.i (gi hx ((m' + (2 : Nat)) % (8 : Nat))), V.i (gi hx ((m' + (1 : Nat)) % (8 : Nat))), V.i (gi hx (m' % (8 : Nat))), V.i (↑m' : Int), (yyFA38 c), (yyFA39 c), V.i (Cv.share c)]
abbrev yyFA312 (c : Cv) (hy : List Int) (hx : List Int) (m' : Nat) (n : Int) : Ob := Ob.box 239 [V.i (gi hy (((1 : Nat) + (7 : Nat)) % (8 : Nat))), V.i n, V.i (gi hy (((1 : Nat) + (5 : Nat)) % (8 : Nat))), V.i (gi hy (((1 : Nat) + (4 : Nat)) % (8 : Nat))), V.i (gi hy (((1 : Nat) + (3 : Nat)) % (8 : Nat))), V.i (gi hy (((1 : Nat) + (2 : Nat)) % (8 : Nat))), V.i (gi hy (((1 : Nat) + (1 : Nat)) % (8 : Nat))), V.i (gi hy ((1 : Nat) % (8 : Nat))), V.i 2, V.i (gi hx ((m' + (7 : Nat)) % (8 : Nat))), V.i (gi hx ((m' + (6 : Nat)) % (8 : Nat))), V.i (gi hx ((m' + (5 : Nat)) % (8 : Nat))), V.i (gi hx ((m' + (4 : Nat)) % (8 : Nat))), V.i (gi hx ((m' + (3 : Nat)) % (8 : Nat))), V.i (gi hx ((m' + (2 : Nat)) % (8 : Nat))), V.i (gi hx ((m' + (1 : Nat)) % (8 : Nat))), V.i (gi hx (m' % (8 : Nat))), V.i (↑m' : Int), (yyFA38 c), (yyFA39 c), V.i (Cv.share c)]
abbrev yyFA313 (c : Cv) (hy : List Int) (hx : List Int) (m' : Nat) (n : Int) : Ob := Ob.box 239 [V.i (gi hy (((2 : Nat) + (7 : Nat)) % (8 : Nat))), V.i (gi hy (((2 : Nat) + (6 : Nat)) % (8 : Nat))), V.i n, V.i (gi hy (((2 : Nat) + (4 : Nat)) % (8 : Nat))), V.i (gi hy (((2 : Nat) + (3 : Nat)) % (8 : Nat))), V.i (gi hy (((2 : Nat) + (2 : Nat)) % (8 : Nat))), V.i (gi hy (((2 : Nat) + (1 : Nat)) % (8 : Nat))), V.i (gi hy ((2 : Nat) % (8 : Nat))), V.i 3, V.i (gi hx ((m' + (7 : Nat)) % (8 : Nat))), V.i (gi hx ((m' + (6 : Nat)) % (8 : Nat))), V.i (gi hx ((m' + (5 : Nat)) % (8 : Nat))), V.i (gi hx ((m' + (4 : Nat)) % (8 : Nat))), V.i (gi hx ((m' + (3 : Nat)) % (8 : Nat))), V.i (gi hx ((m' + (2 : Nat)) % (8 : Nat))), V.i (gi hx ((m' + (1 : Nat)) % (8 : Nat))), V.i (gi hx (m' % (8 : Nat))), V.i (↑m' : Int), (yyFA38 c), (yyFA39 c), V.i (Cv.share c)]
abbrev yyFA314 (c : Cv) (hy : List Int) (hx : List Int) (m' : Nat) (n : Int) : Ob := Ob.box 239 [V.i (gi hy (((3 : Nat) + (7 : Nat)) % (8 : Nat))), V.i (gi hy (((3 : Nat) + (6 : Nat)) % (8 : Nat))), V.i (gi hy (((3 : Nat) + (5 : Nat)) % (8 : Nat))), V.i n, V.i (gi hy (((3 : Nat) + (3 : Nat)) % (8 : Nat))), V.i (gi hy (((3 : Nat) + (2 : Nat)) % (8 : Nat))), V.i (gi hy (((3 : Nat) + (1 : Nat)) % (8 : Nat))), V.i (gi hy ((3 : Nat) % (8 : Nat))), V.i 4, V.i (gi hx ((m' + (7 : Nat)) % (8 : Nat))), V.i (gi hx ((m' + (6 : Nat)) % (8 : Nat))), V.i (gi hx ((m' + (5 : Nat)) % (8 : Nat))), V.i (gi hx ((m' + (4 : Nat)) % (8 : Nat))), V.i (gi hx ((m' + (3 : Nat)) % (8 : Nat))), V.i (gi hx ((m' + (2 : Nat)) % (8 : Nat))), V.i (gi hx ((m' + (1 : Nat)) % (8 : Nat))), V.i (gi hx (m' % (8 : Nat))), V.i (↑m' : Int), (yyFA38 c), (yyFA39 c), V.i (Cv.share c)]
abbrev yyFA315 (c : Cv) (hy : List Int) (hx : List Int) (m' : Nat) (n : Int) : Ob := Ob.box 239 [V.i (gi hy (((4 : Nat) + (7 : Nat)) % (8 : Nat))), V.i (gi hy (((4 : Nat) + (6 : Nat)) % (8 : Nat))), V.i (gi hy (((4 : Nat) + (5 : Nat)) % (8 : Nat))), V.i (gi hy (((4 : Nat) + (4 : Nat)) % (8 : Nat))), V.i n, V.i (gi hy (((4 : Nat) + (2 : Nat)) % (8 : Nat))), V.i (gi hy (((4 : Nat) + (1 : Nat)) % (8 : Nat))), V.i (gi hy ((4 : Nat) % (8 : Nat))), V.i 5, V.i (gi hx ((m' + (7 : Nat)) % (8 : Nat))), V.i (gi hx ((m' + (6 : Nat)) % (8 : Nat))), V.i (gi hx ((m' + (5 : Nat)) % (8 : Nat))), V.i (gi hx ((m' + (4 : Nat)) % (8 : Nat))), V.i (gi hx ((m' + (3 : Nat)) % (8 : Nat))), V.i (gi hx ((m' + (2 : Nat)) % (8 : Nat))), V.i (gi hx ((m' + (1 : Nat)) % (8 : Nat))), V.i (gi hx (m' % (8 : Nat))), V.i (↑m' : Int), (yyFA38 c), (yyFA39 c), V.i (Cv.share c)]
abbrev yyFA316 (c : Cv) (hy : List Int) (hx : List Int) (m' : Nat) (n : Int) : Ob := Ob.box 239 [V.i (gi hy (((5 : Nat) + (7 : Nat)) % (8 : Nat))), V.i (gi hy (((5 : Nat) + (6 : Nat)) % (8 : Nat))), V.i (gi hy (((5 : Nat) + (5 : Nat)) % (8 : Nat))), V.i (gi hy (((5 : Nat) + (4 : Nat)) % (8 : Nat))), V.i (gi hy (((5 : Nat) + (3 : Nat)) % (8 : Nat))), V.i n, V.i (gi hy (((5 : Nat) + (1 : Nat)) % (8 : Nat))), V.i (gi hy ((5 : Nat) % (8 : Nat))), V.i 6, V.i (gi hx ((m' + (7 : Nat)) % (8 : Nat))), V.i (gi hx ((m' + (6 : Nat)) % (8 : Nat))), V.i (gi hx ((m' + (5 : Nat)) % (8 : Nat))), V.i (gi hx ((m' + (4 : Nat)) % (8 : Nat))), V.i (gi hx ((m' + (3 : Nat)) % (8 : Nat))), V.i (gi hx ((m' + (2 : Nat)) % (8 : Nat))), V.i (gi hx ((m' + (1 : Nat)) % (8 : Nat))), V.i (gi hx (m' % (8 : Nat))), V.i (↑m' : Int), (yyFA38 c), (yyFA39 c), V.i (Cv.share c)]
abbrev yyFA317 (c : Cv) (hy : List Int) (hx : List Int) (m' : Nat) (n : Int) : Ob := Ob.box 239 [V.i (gi hy (((6 : Nat) + (7 : Nat)) % (8 : Nat))), V.i (gi hy (((6 : Nat) + (6 : Nat)) % (8 : Nat))), V.i (gi hy (((6 : Nat) + (5 : Nat)) % (8 : Nat))), V.i (gi hy (((6 : Nat) + (4 : Nat)) % (8 : Nat))), V.i (gi hy (((6 : Nat) + (3 : Nat)) % (8 : Nat))), V.i (gi hy (((6 : Nat) + (2 : Nat)) % (8 : Nat))), V.i n, V.i (gi hy ((6 : Nat) % (8 : Nat))), V.i 7, V.i (gi hx ((m' + (7 : Nat)) % (8 : Nat))), V.i (gi hx ((m' + (6 : Nat)) % (8 : Nat))), V.i (gi hx ((m' + (5 : Nat)) % (8 : Nat))), V.i (gi hx ((m' + (4 : Nat)) % (8 : Nat))), V.i (gi hx ((m' + (3 : Nat)) % (8 : Nat))), V.i (gi hx ((m' + (2 : Nat)) % (8 : Nat))), V.i (gi hx ((m' + (1 : Nat)) % (8 : Nat))), V.i (gi hx (m' % (8 : Nat))), V.i (↑m' : Int), (yyFA38 c), (yyFA39 c), V.i (Cv.share c)]
set_option maxRecDepth 100000 in
theorem putO_ac (c : Cv) (hy hx : List Int) (m m' : Nat) (n : Int) (hm : m < 8) : AM Tryz.prog 160 [.ref 500 0, .i n] [StO c hy hx m m'] (.tup []) [some (StO c (n :: hy) hx ((m + 1) % 8) m')] [] := by
 have hm2 : m = 0 ∨ m = 1 ∨ m = 2 ∨ m = 3 ∨ m = 4 ∨ m = 5 ∨ m = 6 ∨ m = 7 := by omega
 rcases hm2 with rfl | rfl | rfl | rfl | rfl | rfl | rfl | rfl
 ·
  refine am_intro hTT hMX (fn := Tryz.f160) (N := _) ⟨Tryz.func160, rfl, Tryz.ntmps160, by kernel_rfl⟩ (by simp) rfl (by simp) (by simp) fun C hF => ?_
  refine aw_seq_k fun K hK => wD 2 ?_; refine aX hTT 10 [(4, .c qFA32), (8, .c ((0 : Int) ≤ (0 : Int) ∧ (0 : Int) < (↑(8 : Nat) : Int))), (9, .r (pw ((0 : Nat) + (1 : Nat) ≤ (21 : Nat)) (500 : Nat) (Ob.box 239 [V.i n, V.i (gi hy (((0 : Nat) + (6 : Nat)) % (8 : Nat))), V.i (gi hy (((0 : Nat) + (5 : Nat)) % (8 : Nat))), V.i (gi hy (((0 : Nat) + (4 : Nat)) % (8 : Nat))), V.i (gi hy (((0 : Nat) + (3 : Nat)) % (8 : Nat))), V.i (gi hy (((0 : Nat) + (2 : Nat)) % (8 : Nat))), V.i (gi hy (((0 : Nat) + (1 : Nat)) % (8 : Nat))), V.i (gi hy ((0 : Nat) % (8 : Nat))), V.i 0, V.i (gi hx ((m' + (7 : Nat)) % (8 : Nat))), V.i (gi hx ((m' + (6 : Nat)) % (8 : Nat))), V.i (gi hx ((m' + (5 : Nat)) % (8 : Nat))), V.i (gi hx ((m' + (4 : Nat)) % (8 : Nat))), V.i (gi hx ((m' + (3 : Nat)) % (8 : Nat))), V.i (gi hx ((m' + (2 : Nat)) % (8 : Nat))), V.i (gi hx ((m' + (1 : Nat)) % (8 : Nat))), V.i (gi hx (m' % (8 : Nat))), V.i (↑m' : Int), (yyFA38 c), (yyFA39 c), V.i (Cv.share c)])))] ⟨qFA32_, (by omega), (by omega), True.intro⟩ ?_; refine aops_nil ⟨by kernel_rfl, ?_⟩; refine xt_n (hK _ ?_); clear hK K; refine wR 3 ?_; refine aX hTT 10 [(4, .c qFA32), (5, .i ((0 : Int) + (1 : Int))), (6, .c qFA30), (9, .r (pw ((8 : Nat) + (1 : Nat) ≤ (21 : Nat)) (500 : Nat) ((yyFA311 c hy hx m' n))))] ⟨qFA32_, (by omega), qFA30_, (by omega), True.intro⟩ ?_; refine aops_nil ?_
  refine retM (v' := V.tup []) [] [] (.inl rfl) .nil (.cons ⟨(yyFA311 c hy hx m' n), (by kernel_rfl), .box (by kernel_rfl)⟩ .nil) (by kernel_rfl) (by kernel_rfl) (by kernel_rfl) (by kernel_rfl) (by kernel_rfl) (by kernel_rfl) (by kernel_rfl)
 ·
  refine am_intro hTT hMX (fn := Tryz.f160) (N := _) ⟨Tryz.func160, rfl, Tryz.ntmps160, by kernel_rfl⟩ (by simp) rfl (by simp) (by simp) fun C hF => ?_
  refine aw_seq_k fun K hK => wD 2 ?_; refine aX hTT 10 [(4, .c qFA32), (8, .c ((0 : Int) ≤ (1 : Int) ∧ (1 : Int) < (↑(8 : Nat) : Int))), (9, .r (pw ((1 : Nat) + (1 : Nat) ≤ (21 : Nat)) (500 : Nat) (Ob.box 239 [V.i (gi hy (((1 : Nat) + (7 : Nat)) % (8 : Nat))), V.i n, V.i (gi hy (((1 : Nat) + (5 : Nat)) % (8 : Nat))), V.i (gi hy (((1 : Nat) + (4 : Nat)) % (8 : Nat))), V.i (gi hy (((1 : Nat) + (3 : Nat)) % (8 : Nat))), V.i (gi hy (((1 : Nat) + (2 : Nat)) % (8 : Nat))), V.i (gi hy (((1 : Nat) + (1 : Nat)) % (8 : Nat))), V.i (gi hy ((1 : Nat) % (8 : Nat))), V.i 1, V.i (gi hx ((m' + (7 : Nat)) % (8 : Nat))), V.i (gi hx ((m' + (6 : Nat)) % (8 : Nat))), V.i (gi hx ((m' + (5 : Nat)) % (8 : Nat))), V.i (gi hx ((m' + (4 : Nat)) % (8 : Nat))), V.i (gi hx ((m' + (3 : Nat)) % (8 : Nat))), V.i (gi hx ((m' + (2 : Nat)) % (8 : Nat))), V.i (gi hx ((m' + (1 : Nat)) % (8 : Nat))), V.i (gi hx (m' % (8 : Nat))), V.i (↑m' : Int), (yyFA38 c), (yyFA39 c), V.i (Cv.share c)])))] ⟨qFA32_, (by omega), (by omega), True.intro⟩ ?_; refine aops_nil ⟨by kernel_rfl, ?_⟩; refine xt_n (hK _ ?_); clear hK K; refine wR 3 ?_; refine aX hTT 10 [(4, .c qFA32), (5, .i ((1 : Int) + (1 : Int))), (6, .c qFA30), (9, .r (pw ((8 : Nat) + (1 : Nat) ≤ (21 : Nat)) (500 : Nat) ((yyFA312 c hy hx m' n))))] ⟨qFA32_, (by omega), qFA30_, (by omega), True.intro⟩ ?_; refine aops_nil ?_
  refine retM (v' := V.tup []) [] [] (.inl rfl) .nil (.cons ⟨(yyFA312 c hy hx m' n), (by kernel_rfl), .box (by kernel_rfl)⟩ .nil) (by kernel_rfl) (by kernel_rfl) (by kernel_rfl) (by kernel_rfl) (by kernel_rfl) (by kernel_rfl) (by kernel_rfl)
 ·
  refine am_intro hTT hMX (fn := Tryz.f160) (N := _) ⟨Tryz.func160, rfl, Tryz.ntmps160, by kernel_rfl⟩ (by simp) rfl (by simp) (by simp) fun C hF => ?_
  refine aw_seq_k fun K hK => wD 2 ?_; refine aX hTT 10 [(4, .c qFA32), (8, .c ((0 : Int) ≤ (2 : Int) ∧ (2 : Int) < (↑(8 : Nat) : Int))), (9, .r (pw ((2 : Nat) + (1 : Nat) ≤ (21 : Nat)) (500 : Nat) (Ob.box 239 [V.i (gi hy (((2 : Nat) + (7 : Nat)) % (8 : Nat))), V.i (gi hy (((2 : Nat) + (6 : Nat)) % (8 : Nat))), V.i n, V.i (gi hy (((2 : Nat) + (4 : Nat)) % (8 : Nat))), V.i (gi hy (((2 : Nat) + (3 : Nat)) % (8 : Nat))), V.i (gi hy (((2 : Nat) + (2 : Nat)) % (8 : Nat))), V.i (gi hy (((2 : Nat) + (1 : Nat)) % (8 : Nat))), V.i (gi hy ((2 : Nat) % (8 : Nat))), V.i 2, V.i (gi hx ((m' + (7 : Nat)) % (8 : Nat))), V.i (gi hx ((m' + (6 : Nat)) % (8 : Nat))), V.i (gi hx ((m' + (5 : Nat)) % (8 : Nat))), V.i (gi hx ((m' + (4 : Nat)) % (8 : Nat))), V.i (gi hx ((m' + (3 : Nat)) % (8 : Nat))), V.i (gi hx ((m' + (2 : Nat)) % (8 : Nat))), V.i (gi hx ((m' + (1 : Nat)) % (8 : Nat))), V.i (gi hx (m' % (8 : Nat))), V.i (↑m' : Int), (yyFA38 c), (yyFA39 c), V.i (Cv.share c)])))] ⟨qFA32_, (by omega), (by omega), True.intro⟩ ?_; refine aops_nil ⟨by kernel_rfl, ?_⟩; refine xt_n (hK _ ?_); clear hK K; refine wR 3 ?_; refine aX hTT 10 [(4, .c qFA32), (5, .i ((2 : Int) + (1 : Int))), (6, .c qFA30), (9, .r (pw ((8 : Nat) + (1 : Nat) ≤ (21 : Nat)) (500 : Nat) ((yyFA313 c hy hx m' n))))] ⟨qFA32_, (by omega), qFA30_, (by omega), True.intro⟩ ?_; refine aops_nil ?_
  refine retM (v' := V.tup []) [] [] (.inl rfl) .nil (.cons ⟨(yyFA313 c hy hx m' n), (by kernel_rfl), .box (by kernel_rfl)⟩ .nil) (by kernel_rfl) (by kernel_rfl) (by kernel_rfl) (by kernel_rfl) (by kernel_rfl) (by kernel_rfl) (by kernel_rfl)
 ·
  refine am_intro hTT hMX (fn := Tryz.f160) (N := _) ⟨Tryz.func160, rfl, Tryz.ntmps160, by kernel_rfl⟩ (by simp) rfl (by simp) (by simp) fun C hF => ?_
  refine aw_seq_k fun K hK => wD 2 ?_; refine aX hTT 10 [(4, .c qFA32), (8, .c ((0 : Int) ≤ (3 : Int) ∧ (3 : Int) < (↑(8 : Nat) : Int))), (9, .r (pw ((3 : Nat) + (1 : Nat) ≤ (21 : Nat)) (500 : Nat) (Ob.box 239 [V.i (gi hy (((3 : Nat) + (7 : Nat)) % (8 : Nat))), V.i (gi hy (((3 : Nat) + (6 : Nat)) % (8 : Nat))), V.i (gi hy (((3 : Nat) + (5 : Nat)) % (8 : Nat))), V.i n, V.i (gi hy (((3 : Nat) + (3 : Nat)) % (8 : Nat))), V.i (gi hy (((3 : Nat) + (2 : Nat)) % (8 : Nat))), V.i (gi hy (((3 : Nat) + (1 : Nat)) % (8 : Nat))), V.i (gi hy ((3 : Nat) % (8 : Nat))), V.i 3, V.i (gi hx ((m' + (7 : Nat)) % (8 : Nat))), V.i (gi hx ((m' + (6 : Nat)) % (8 : Nat))), V.i (gi hx ((m' + (5 : Nat)) % (8 : Nat))), V.i (gi hx ((m' + (4 : Nat)) % (8 : Nat))), V.i (gi hx ((m' + (3 : Nat)) % (8 : Nat))), V.i (gi hx ((m' + (2 : Nat)) % (8 : Nat))), V.i (gi hx ((m' + (1 : Nat)) % (8 : Nat))), V.i (gi hx (m' % (8 : Nat))), V.i (↑m' : Int), (yyFA38 c), (yyFA39 c), V.i (Cv.share c)])))] ⟨qFA32_, (by omega), (by omega), True.intro⟩ ?_; refine aops_nil ⟨by kernel_rfl, ?_⟩; refine xt_n (hK _ ?_); clear hK K; refine wR 3 ?_; refine aX hTT 10 [(4, .c qFA32), (5, .i ((3 : Int) + (1 : Int))), (6, .c qFA30), (9, .r (pw ((8 : Nat) + (1 : Nat) ≤ (21 : Nat)) (500 : Nat) ((yyFA314 c hy hx m' n))))] ⟨qFA32_, (by omega), qFA30_, (by omega), True.intro⟩ ?_; refine aops_nil ?_
  refine retM (v' := V.tup []) [] [] (.inl rfl) .nil (.cons ⟨(yyFA314 c hy hx m' n), (by kernel_rfl), .box (by kernel_rfl)⟩ .nil) (by kernel_rfl) (by kernel_rfl) (by kernel_rfl) (by kernel_rfl) (by kernel_rfl) (by kernel_rfl) (by kernel_rfl)
 ·
  refine am_intro hTT hMX (fn := Tryz.f160) (N := _) ⟨Tryz.func160, rfl, Tryz.ntmps160, by kernel_rfl⟩ (by simp) rfl (by simp) (by simp) fun C hF => ?_
  refine aw_seq_k fun K hK => wD 2 ?_; refine aX hTT 10 [(4, .c qFA32), (8, .c ((0 : Int) ≤ (4 : Int) ∧ (4 : Int) < (↑(8 : Nat) : Int))), (9, .r (pw ((4 : Nat) + (1 : Nat) ≤ (21 : Nat)) (500 : Nat) (Ob.box 239 [V.i (gi hy (((4 : Nat) + (7 : Nat)) % (8 : Nat))), V.i (gi hy (((4 : Nat) + (6 : Nat)) % (8 : Nat))), V.i (gi hy (((4 : Nat) + (5 : Nat)) % (8 : Nat))), V.i (gi hy (((4 : Nat) + (4 : Nat)) % (8 : Nat))), V.i n, V.i (gi hy (((4 : Nat) + (2 : Nat)) % (8 : Nat))), V.i (gi hy (((4 : Nat) + (1 : Nat)) % (8 : Nat))), V.i (gi hy ((4 : Nat) % (8 : Nat))), V.i 4, V.i (gi hx ((m' + (7 : Nat)) % (8 : Nat))), V.i (gi hx ((m' + (6 : Nat)) % (8 : Nat))), V.i (gi hx ((m' + (5 : Nat)) % (8 : Nat))), V.i (gi hx ((m' + (4 : Nat)) % (8 : Nat))), V.i (gi hx ((m' + (3 : Nat)) % (8 : Nat))), V.i (gi hx ((m' + (2 : Nat)) % (8 : Nat))), V.i (gi hx ((m' + (1 : Nat)) % (8 : Nat))), V.i (gi hx (m' % (8 : Nat))), V.i (↑m' : Int), (yyFA38 c), (yyFA39 c), V.i (Cv.share c)])))] ⟨qFA32_, (by omega), (by omega), True.intro⟩ ?_; refine aops_nil ⟨by kernel_rfl, ?_⟩; refine xt_n (hK _ ?_); clear hK K; refine wR 3 ?_; refine aX hTT 10 [(4, .c qFA32), (5, .i ((4 : Int) + (1 : Int))), (6, .c qFA30), (9, .r (pw ((8 : Nat) + (1 : Nat) ≤ (21 : Nat)) (500 : Nat) ((yyFA315 c hy hx m' n))))] ⟨qFA32_, (by omega), qFA30_, (by omega), True.intro⟩ ?_; refine aops_nil ?_
  refine retM (v' := V.tup []) [] [] (.inl rfl) .nil (.cons ⟨(yyFA315 c hy hx m' n), (by kernel_rfl), .box (by kernel_rfl)⟩ .nil) (by kernel_rfl) (by kernel_rfl) (by kernel_rfl) (by kernel_rfl) (by kernel_rfl) (by kernel_rfl) (by kernel_rfl)
 ·
  refine am_intro hTT hMX (fn := Tryz.f160) (N := _) ⟨Tryz.func160, rfl, Tryz.ntmps160, by kernel_rfl⟩ (by simp) rfl (by simp) (by simp) fun C hF => ?_
  refine aw_seq_k fun K hK => wD 2 ?_; refine aX hTT 10 [(4, .c qFA32), (8, .c ((0 : Int) ≤ (5 : Int) ∧ (5 : Int) < (↑(8 : Nat) : Int))), (9, .r (pw ((5 : Nat) + (1 : Nat) ≤ (21 : Nat)) (500 : Nat) (Ob.box 239 [V.i (gi hy (((5 : Nat) + (7 : Nat)) % (8 : Nat))), V.i (gi hy (((5 : Nat) + (6 : Nat)) % (8 : Nat))), V.i (gi hy (((5 : Nat) + (5 : Nat)) % (8 : Nat))), V.i (gi hy (((5 : Nat) + (4 : Nat)) % (8 : Nat))), V.i (gi hy (((5 : Nat) + (3 : Nat)) % (8 : Nat))), V.i n, V.i (gi hy (((5 : Nat) + (1 : Nat)) % (8 : Nat))), V.i (gi hy ((5 : Nat) % (8 : Nat))), V.i 5, V.i (gi hx ((m' + (7 : Nat)) % (8 : Nat))), V.i (gi hx ((m' + (6 : Nat)) % (8 : Nat))), V.i (gi hx ((m' + (5 : Nat)) % (8 : Nat))), V.i (gi hx ((m' + (4 : Nat)) % (8 : Nat))), V.i (gi hx ((m' + (3 : Nat)) % (8 : Nat))), V.i (gi hx ((m' + (2 : Nat)) % (8 : Nat))), V.i (gi hx ((m' + (1 : Nat)) % (8 : Nat))), V.i (gi hx (m' % (8 : Nat))), V.i (↑m' : Int), (yyFA38 c), (yyFA39 c), V.i (Cv.share c)])))] ⟨qFA32_, (by omega), (by omega), True.intro⟩ ?_; refine aops_nil ⟨by kernel_rfl, ?_⟩; refine xt_n (hK _ ?_); clear hK K; refine wR 3 ?_; refine aX hTT 10 [(4, .c qFA32), (5, .i ((5 : Int) + (1 : Int))), (6, .c qFA30), (9, .r (pw ((8 : Nat) + (1 : Nat) ≤ (21 : Nat)) (500 : Nat) ((yyFA316 c hy hx m' n))))] ⟨qFA32_, (by omega), qFA30_, (by omega), True.intro⟩ ?_; refine aops_nil ?_
  refine retM (v' := V.tup []) [] [] (.inl rfl) .nil (.cons ⟨(yyFA316 c hy hx m' n), (by kernel_rfl), .box (by kernel_rfl)⟩ .nil) (by kernel_rfl) (by kernel_rfl) (by kernel_rfl) (by kernel_rfl) (by kernel_rfl) (by kernel_rfl) (by kernel_rfl)
 ·
  refine am_intro hTT hMX (fn := Tryz.f160) (N := _) ⟨Tryz.func160, rfl, Tryz.ntmps160, by kernel_rfl⟩ (by simp) rfl (by simp) (by simp) fun C hF => ?_
  refine aw_seq_k fun K hK => wD 2 ?_; refine aX hTT 10 [(4, .c qFA32), (8, .c ((0 : Int) ≤ (6 : Int) ∧ (6 : Int) < (↑(8 : Nat) : Int))), (9, .r (pw ((6 : Nat) + (1 : Nat) ≤ (21 : Nat)) (500 : Nat) (Ob.box 239 [V.i (gi hy (((6 : Nat) + (7 : Nat)) % (8 : Nat))), V.i (gi hy (((6 : Nat) + (6 : Nat)) % (8 : Nat))), V.i (gi hy (((6 : Nat) + (5 : Nat)) % (8 : Nat))), V.i (gi hy (((6 : Nat) + (4 : Nat)) % (8 : Nat))), V.i (gi hy (((6 : Nat) + (3 : Nat)) % (8 : Nat))), V.i (gi hy (((6 : Nat) + (2 : Nat)) % (8 : Nat))), V.i n, V.i (gi hy ((6 : Nat) % (8 : Nat))), V.i 6, V.i (gi hx ((m' + (7 : Nat)) % (8 : Nat))), V.i (gi hx ((m' + (6 : Nat)) % (8 : Nat))), V.i (gi hx ((m' + (5 : Nat)) % (8 : Nat))), V.i (gi hx ((m' + (4 : Nat)) % (8 : Nat))), V.i (gi hx ((m' + (3 : Nat)) % (8 : Nat))), V.i (gi hx ((m' + (2 : Nat)) % (8 : Nat))), V.i (gi hx ((m' + (1 : Nat)) % (8 : Nat))), V.i (gi hx (m' % (8 : Nat))), V.i (↑m' : Int), (yyFA38 c), (yyFA39 c), V.i (Cv.share c)])))] ⟨qFA32_, (by omega), (by omega), True.intro⟩ ?_; refine aops_nil ⟨by kernel_rfl, ?_⟩; refine xt_n (hK _ ?_); clear hK K; refine wR 3 ?_; refine aX hTT 10 [(4, .c qFA32), (5, .i ((6 : Int) + (1 : Int))), (6, .c qFA30), (9, .r (pw ((8 : Nat) + (1 : Nat) ≤ (21 : Nat)) (500 : Nat) ((yyFA317 c hy hx m' n))))] ⟨qFA32_, (by omega), qFA30_, (by omega), True.intro⟩ ?_; refine aops_nil ?_
  refine retM (v' := V.tup []) [] [] (.inl rfl) .nil (.cons ⟨(yyFA317 c hy hx m' n), (by kernel_rfl), .box (by kernel_rfl)⟩ .nil) (by kernel_rfl) (by kernel_rfl) (by kernel_rfl) (by kernel_rfl) (by kernel_rfl) (by kernel_rfl) (by kernel_rfl)
 ·
  refine am_intro hTT hMX (fn := Tryz.f160) (N := _) ⟨Tryz.func160, rfl, Tryz.ntmps160, by kernel_rfl⟩ (by simp) rfl (by simp) (by simp) fun C hF => ?_
  refine aw_seq_k fun K hK => wD 2 ?_; refine aX hTT 10 [(4, .c qFA32), (8, .c ((0 : Int) ≤ (7 : Int) ∧ (7 : Int) < (↑(8 : Nat) : Int))), (9, .r (pw ((7 : Nat) + (1 : Nat) ≤ (21 : Nat)) (500 : Nat) (Ob.box 239 [V.i (gi hy (((7 : Nat) + (7 : Nat)) % (8 : Nat))), V.i (gi hy (((7 : Nat) + (6 : Nat)) % (8 : Nat))), V.i (gi hy (((7 : Nat) + (5 : Nat)) % (8 : Nat))), V.i (gi hy (((7 : Nat) + (4 : Nat)) % (8 : Nat))), V.i (gi hy (((7 : Nat) + (3 : Nat)) % (8 : Nat))), V.i (gi hy (((7 : Nat) + (2 : Nat)) % (8 : Nat))), V.i (gi hy (((7 : Nat) + (1 : Nat)) % (8 : Nat))), V.i n, V.i 7, V.i (gi hx ((m' + (7 : Nat)) % (8 : Nat))), V.i (gi hx ((m' + (6 : Nat)) % (8 : Nat))), V.i (gi hx ((m' + (5 : Nat)) % (8 : Nat))), V.i (gi hx ((m' + (4 : Nat)) % (8 : Nat))), V.i (gi hx ((m' + (3 : Nat)) % (8 : Nat))), V.i (gi hx ((m' + (2 : Nat)) % (8 : Nat))), V.i (gi hx ((m' + (1 : Nat)) % (8 : Nat))), V.i (gi hx (m' % (8 : Nat))), V.i (↑m' : Int), (yyFA38 c), (yyFA39 c), V.i (Cv.share c)])))] ⟨qFA32_, (by omega), (by omega), True.intro⟩ ?_; refine aops_nil ⟨by kernel_rfl, ?_⟩; refine xt_n (hK _ ?_); clear hK K; refine wR 3 ?_; refine aX hTT 10 [(4, .c qFA32), (5, .i ((7 : Int) + (1 : Int))), (6, .c qFA30), (9, .r (pw ((8 : Nat) + (1 : Nat) ≤ (21 : Nat)) (500 : Nat) ((yyFA310 c hy hx m' n))))] ⟨qFA32_, (by omega), qFA30_, (by omega), True.intro⟩ ?_; refine aops_nil ?_
  refine retM (v' := V.tup []) [] [] (.inl rfl) .nil (.cons ⟨(yyFA310 c hy hx m' n), (by kernel_rfl), .box (by kernel_rfl)⟩ .nil) (by kernel_rfl) (by kernel_rfl) (by kernel_rfl) (by kernel_rfl) (by kernel_rfl) (by kernel_rfl) (by kernel_rfl)
abbrev yyFA319 (c : Cv) (hy : List Int) (hx : List Int) (m : Nat) (m' : Nat) : Ob := Ob.box 239 [V.i (gi hy ((m + (7 : Nat)) % (8 : Nat))), V.i (gi hy ((m + (6 : Nat)) % (8 : Nat))), V.i (gi hy ((m + (5 : Nat)) % (8 : Nat))), V.i (gi hy ((m + (4 : Nat)) % (8 : Nat))), V.i (gi hy ((m + (3 : Nat)) % (8 : Nat))), V.i (gi hy ((m + (2 : Nat)) % (8 : Nat))), V.i (gi hy ((m + (1 : Nat)) % (8 : Nat))), V.i (gi hy (m % (8 : Nat))), V.i (↑m : Int), V.i (gi hx ((m' + (7 : Nat)) % (8 : Nat))), V.i (gi hx ((m' + (6 : Nat)) % (8 : Nat))), V.i (gi hx ((m' + (5 : Nat)) % (8 : Nat))), V.i (gi hx ((m' + (4 : Nat)) % (8 : Nat))), V.i (gi hx ((m' + (3 : Nat)) % (8 : Nat))), V.i (gi hx ((m' + (2 : Nat)) % (8 : Nat))), V.i (gi hx ((m' + (1 : Nat)) % (8 : Nat))), V.i (gi hx (m' % (8 : Nat))), V.i (↑m' : Int), (yyFA38 c), (yyFA39 c), V.i (Cv.share c)]
abbrev yyFA318 (c : Cv) (hy : List Int) (hx : List Int) (m : Nat) (m' : Nat) := (500, (yyFA319 c hy hx m m'))
set_option maxRecDepth 100000 in
theorem weighI_ac (c : Cv) (hy hx : List Int) (m m' : Nat) (w : List Int) (n : Int) (hm : m' < 8) (hw : AllLe 4096 w) (hl : w.length ≤ 8) (hn : 0 ≤ n ∧ n ≤ 131072) (hh : AllLe n hx) : AM Tryz.prog 187 [.ref 500 9, V.ints w] [StO c hy hx m m'] (.i (dot w hx w.length)) [some (StO c hy hx m m')] [] := by
 refine am_intro hTT hMX (fn := Tryz.f187) (N := _) ⟨Tryz.func187, rfl, Tryz.ntmps187, by kernel_rfl⟩ (by simp) rfl (by simp) (by simp) fun C hF => ?_
 refine aw_seq_k fun K hK => wR 2 ?_; refine aX hTT 1 [] True.intro ?_; refine aops_nil (xt_n (hK _ ?_)); clear hK K; refine aw_seq_k fun K hK => wR 3 ?_; refine aX hTT 1 [] True.intro ?_; refine aops_nil (xt_n (hK _ ?_)); clear hK K; refine aw_seq_k fun K hK => ?_; refine aw_seq_k fun K hK => wR 4 ?_; refine aX hTT 3 [] True.intro ?_; refine aops_nil (xt_n (hK _ ?_)); clear hK K
 refine aw_block ?_
 refine w_loop (ι := Nat) (fun k => [(0, .ref 500 9), (5, .i (dot w hx k)), (8, V.ints w), (9, .i w.length), (10, .i k)]) (fun _ => [(500, StO c hy hx m m')]) (fun k => k ≤ w.length) (fun k => w.length - k) 0 (Nat.zero_le _) ?_ ?_
 ·
  refine le_ren (sl := [(yyFA318 c hy hx m m')]) [] (.cons (by kernel_rfl) (.cons (by kernel_rfl) (.cons (by kernel_rfl) (.cons (by kernel_rfl) (.cons (by kernel_rfl) .nil))))) (.cons ⟨(yyFA319 c hy hx m m'), (by kernel_rfl), .box (by kernel_rfl)⟩ .nil) (by kernel_rfl) (by kernel_rfl)
 intro k hk
 have d1 := dot_bd (by decide) hn.1 hw hh k
 have d2 := mul_bd (hw.gi (by decide) k) (hh.gi hn.1 k)
 have e1 : (k : Int) * (4096 * n) ≤ 8 * (4096 * n) := Int.mul_le_mul_of_nonneg_right (by omega) (by omega)
 refine aw_seq_k fun K hK => wR 2 ?_; refine aX hTT 1 [] True.intro ?_; refine aops_nil (xt_n (hK _ ?_)); clear hK K; refine aw_seq_k fun K hK => ?_
 refine w_cond (t := decide ((↑k : Int) < (↑(List.length w) : Int))) (by kernel_rfl) (fun c1 => ?_) (fun c1 => ?_)
 ·
  simp at c1
  have hj : (((m' : Nat) : Int) + 8 - 1 - (k : Int)).tmod 8 = ((m' + 7 - k) % 8 : Nat) := by
   rw [Int.tmod_eq_emod_of_nonneg (by omega)]
   omega
  have hi : (m' + (7 - (m' + 7 - k) % 8)) % 8 = k := by omega
  have hlt : (m' + 7 - k) % 8 < 8 := by omega
  rw [show gi hx k = gi hx ((m' + (7 - (m' + 7 - k) % 8)) % 8) by rw [hi]] at d2
  have hd : dot w hx (k + 1) = dot w hx k + gi w k * gi hx ((m' + (7 - (m' + 7 - k) % 8)) % 8) := by rw [hi]; rfl
  clear hi
  generalize (m' + 7 - k) % 8 = j at hj hlt hd d2
  have hj8 : j = 0 ∨ j = 1 ∨ j = 2 ∨ j = 3 ∨ j = 4 ∨ j = 5 ∨ j = 6 ∨ j = 7 := by omega
  refine aw_skip ?_
  refine xt_n (hK _ ?_); clear hK K; refine aw_seq_k fun K hK => ?_
  refine aw_block ?_
  refine aw_seq_k fun K hK => wR 3 ?_; refine aX hTT 5 [(1, .c ((0 : Int) ≤ (↑k : Int) ∧ (↑k : Int) < (↑(List.length w) : Int)))] ⟨(by omega), True.intro⟩ ?_; refine aops_nil (xt_n (hK _ ?_)); clear hK K; refine wD 4 ?_
  refine aops_n hTT (M := []) (n := 15) [pv 15 (V.i (dot w hx k)), pv 16 (V.i (gi w k)), pv 17 (V.ref 500 9), pv 18 (V.ref 500 9), pv 19 (V.ref 500 9), pv 20 (V.ref 500 17), pc 21 ((17 : Nat) ≤ (21 : Nat)) (V.i (↑m' : Int)), pc 22 ((-9223372036854775808 : Int) ≤ (↑m' : Int) + (8 : Int) ∧ (↑m' : Int) + (8 : Int) ≤ (9223372036854775807 : Int)) (V.i ((↑m' : Int) + (8 : Int))), pc 23 ((-9223372036854775808 : Int) ≤ (↑m' : Int) + (8 : Int) - (1 : Int) ∧ (↑m' : Int) + (8 : Int) - (1 : Int) ≤ (9223372036854775807 : Int)) (V.i ((↑m' : Int) + (8 : Int) - (1 : Int))), pv 24 (V.i (↑k : Int)), pc 25 ((-9223372036854775808 : Int) ≤ (↑m' : Int) + (8 : Int) - (1 : Int) - (↑k : Int) ∧ (↑m' : Int) + (8 : Int) - (1 : Int) - (↑k : Int) ≤ (9223372036854775807 : Int)) (V.i ((↑m' : Int) + (8 : Int) - (1 : Int) - (↑k : Int))), pc 26 ((8 : Int) ≠ (0 : Int)) (V.i (Int.tmod ((↑m' : Int) + (8 : Int) - (1 : Int) - (↑k : Int)) (8 : Int))), pv 27 (V.ref 500 9), pv 28 (V.ref 500 9), pc 29 ((0 : Int) ≤ Int.tmod ((↑m' : Int) + (8 : Int) - (1 : Int) - (↑k : Int)) (8 : Int) ∧ Int.tmod ((↑m' : Int) + (8 : Int) - (1 : Int) - (↑k : Int)) (8 : Int) < (↑(8 : Nat) : Int)) (V.ref 500 ((9 : Nat) + Int.toNat (Int.tmod ((↑m' : Int) + (8 : Int) - (1 : Int) - (↑k : Int)) (8 : Int)) * (1 : Nat)))] (by kernel_rfl) (by kernel_rfl) ⟨(by omega), (by omega), (by omega), (by omega), (by omega), (by omega), True.intro⟩ ?_
  rcases hj8 with rfl | rfl | rfl | rfl | rfl | rfl | rfl | rfl
  ·
   simp only [Nat.reduceSub] at d2 hd
   skip
   rw [hj]
   refine aops_n hTT (M := []) (n := 4) [pc 30 ((9 : Nat) + (0 : Nat) * (1 : Nat) ≤ (21 : Nat)) (V.i (gi hx ((m' + (7 : Nat)) % (8 : Nat)))), pc 31 ((-9223372036854775808 : Int) ≤ gi w k * gi hx ((m' + (7 : Nat)) % (8 : Nat)) ∧ gi w k * gi hx ((m' + (7 : Nat)) % (8 : Nat)) ≤ (9223372036854775807 : Int)) (V.i (gi w k * gi hx ((m' + (7 : Nat)) % (8 : Nat)))), pc 32 ((-9223372036854775808 : Int) ≤ dot w hx k + gi w k * gi hx ((m' + (7 : Nat)) % (8 : Nat)) ∧ dot w hx k + gi w k * gi hx ((m' + (7 : Nat)) % (8 : Nat)) ≤ (9223372036854775807 : Int)) (V.i (dot w hx k + gi w k * gi hx ((m' + (7 : Nat)) % (8 : Nat)))), pv 5 (V.i (dot w hx k + gi w k * gi hx ((m' + (7 : Nat)) % (8 : Nat))))] (by kernel_rfl) (by kernel_rfl) ⟨(by omega), (by omega), (by omega), True.intro⟩ ?_
   refine aops_nil ⟨by kernel_rfl, ?_⟩; refine xb_n ?_; refine xt_n (hK _ ?_); clear hK K; refine wR 5 ?_; refine aX hTT 2 [(0, .i ((↑k : Int) + (1 : Int)))] ⟨(by omega), True.intro⟩ ?_; refine aops_nil ?_; refine xt_n ?_
   refine ⟨k + 1, by omega, ?_, by omega⟩
   rw [hd]
   refine le_ren (sl := [(yyFA318 c hy hx m m')]) [] (.cons (by kernel_rfl) (.cons (by kernel_rfl) (.cons (by kernel_rfl) (.cons (by kernel_rfl) (.cons (by kernel_rfl) .nil))))) (.cons ⟨(yyFA319 c hy hx m m'), (by kernel_rfl), .box (by kernel_rfl)⟩ .nil) (by kernel_rfl) (by kernel_rfl)
  ·
   simp only [Nat.reduceSub] at d2 hd
   skip
   rw [hj]
   refine aX hTT 4 [(0, .c ((9 : Nat) + (1 : Nat) * (1 : Nat) ≤ (21 : Nat))), (1, .i (gi w k * gi hx ((m' + (6 : Nat)) % (8 : Nat)))), (2, .i (dot w hx k + gi w k * gi hx ((m' + (6 : Nat)) % (8 : Nat))))] ⟨(by omega), (by omega), (by omega), True.intro⟩ ?_; refine aops_nil ⟨by kernel_rfl, ?_⟩; refine xb_n ?_; refine xt_n (hK _ ?_); clear hK K; refine wR 5 ?_; refine aX hTT 2 [(0, .i ((↑k : Int) + (1 : Int)))] ⟨(by omega), True.intro⟩ ?_; refine aops_nil ?_; refine xt_n ?_
   refine ⟨k + 1, by omega, ?_, by omega⟩
   rw [hd]
   refine le_ren (sl := [(yyFA318 c hy hx m m')]) [] (.cons (by kernel_rfl) (.cons (by kernel_rfl) (.cons (by kernel_rfl) (.cons (by kernel_rfl) (.cons (by kernel_rfl) .nil))))) (.cons ⟨(yyFA319 c hy hx m m'), (by kernel_rfl), .box (by kernel_rfl)⟩ .nil) (by kernel_rfl) (by kernel_rfl)
  ·
   simp only [Nat.reduceSub] at d2 hd
   skip
   rw [hj]
   refine aX hTT 4 [(0, .c ((9 : Nat) + (2 : Nat) * (1 : Nat) ≤ (21 : Nat))), (1, .i (gi w k * gi hx ((m' + (5 : Nat)) % (8 : Nat)))), (2, .i (dot w hx k + gi w k * gi hx ((m' + (5 : Nat)) % (8 : Nat))))] ⟨(by omega), (by omega), (by omega), True.intro⟩ ?_; refine aops_nil ⟨by kernel_rfl, ?_⟩; refine xb_n ?_; refine xt_n (hK _ ?_); clear hK K; refine wR 5 ?_; refine aX hTT 2 [(0, .i ((↑k : Int) + (1 : Int)))] ⟨(by omega), True.intro⟩ ?_; refine aops_nil ?_; refine xt_n ?_
   refine ⟨k + 1, by omega, ?_, by omega⟩
   rw [hd]
   refine le_ren (sl := [(yyFA318 c hy hx m m')]) [] (.cons (by kernel_rfl) (.cons (by kernel_rfl) (.cons (by kernel_rfl) (.cons (by kernel_rfl) (.cons (by kernel_rfl) .nil))))) (.cons ⟨(yyFA319 c hy hx m m'), (by kernel_rfl), .box (by kernel_rfl)⟩ .nil) (by kernel_rfl) (by kernel_rfl)
  ·
   simp only [Nat.reduceSub] at d2 hd
   skip
   rw [hj]
   refine aX hTT 4 [(0, .c ((9 : Nat) + (3 : Nat) * (1 : Nat) ≤ (21 : Nat))), (1, .i (gi w k * gi hx ((m' + (4 : Nat)) % (8 : Nat)))), (2, .i (dot w hx k + gi w k * gi hx ((m' + (4 : Nat)) % (8 : Nat))))] ⟨(by omega), (by omega), (by omega), True.intro⟩ ?_; refine aops_nil ⟨by kernel_rfl, ?_⟩; refine xb_n ?_; refine xt_n (hK _ ?_); clear hK K; refine wR 5 ?_; refine aX hTT 2 [(0, .i ((↑k : Int) + (1 : Int)))] ⟨(by omega), True.intro⟩ ?_; refine aops_nil ?_; refine xt_n ?_
   refine ⟨k + 1, by omega, ?_, by omega⟩
   rw [hd]
   refine le_ren (sl := [(yyFA318 c hy hx m m')]) [] (.cons (by kernel_rfl) (.cons (by kernel_rfl) (.cons (by kernel_rfl) (.cons (by kernel_rfl) (.cons (by kernel_rfl) .nil))))) (.cons ⟨(yyFA319 c hy hx m m'), (by kernel_rfl), .box (by kernel_rfl)⟩ .nil) (by kernel_rfl) (by kernel_rfl)
  ·
   simp only [Nat.reduceSub] at d2 hd
   skip
   rw [hj]
   refine aX hTT 4 [(0, .c ((9 : Nat) + (4 : Nat) * (1 : Nat) ≤ (21 : Nat))), (1, .i (gi w k * gi hx ((m' + (3 : Nat)) % (8 : Nat)))), (2, .i (dot w hx k + gi w k * gi hx ((m' + (3 : Nat)) % (8 : Nat))))] ⟨(by omega), (by omega), (by omega), True.intro⟩ ?_; refine aops_nil ⟨by kernel_rfl, ?_⟩; refine xb_n ?_; refine xt_n (hK _ ?_); clear hK K; refine wR 5 ?_; refine aX hTT 2 [(0, .i ((↑k : Int) + (1 : Int)))] ⟨(by omega), True.intro⟩ ?_; refine aops_nil ?_; refine xt_n ?_
   refine ⟨k + 1, by omega, ?_, by omega⟩
   rw [hd]
   refine le_ren (sl := [(yyFA318 c hy hx m m')]) [] (.cons (by kernel_rfl) (.cons (by kernel_rfl) (.cons (by kernel_rfl) (.cons (by kernel_rfl) (.cons (by kernel_rfl) .nil))))) (.cons ⟨(yyFA319 c hy hx m m'), (by kernel_rfl), .box (by kernel_rfl)⟩ .nil) (by kernel_rfl) (by kernel_rfl)
  ·
   simp only [Nat.reduceSub] at d2 hd
   skip
   rw [hj]
   refine aX hTT 4 [(0, .c ((9 : Nat) + (5 : Nat) * (1 : Nat) ≤ (21 : Nat))), (1, .i (gi w k * gi hx ((m' + (2 : Nat)) % (8 : Nat)))), (2, .i (dot w hx k + gi w k * gi hx ((m' + (2 : Nat)) % (8 : Nat))))] ⟨(by omega), (by omega), (by omega), True.intro⟩ ?_; refine aops_nil ⟨by kernel_rfl, ?_⟩; refine xb_n ?_; refine xt_n (hK _ ?_); clear hK K; refine wR 5 ?_; refine aX hTT 2 [(0, .i ((↑k : Int) + (1 : Int)))] ⟨(by omega), True.intro⟩ ?_; refine aops_nil ?_; refine xt_n ?_
   refine ⟨k + 1, by omega, ?_, by omega⟩
   rw [hd]
   refine le_ren (sl := [(yyFA318 c hy hx m m')]) [] (.cons (by kernel_rfl) (.cons (by kernel_rfl) (.cons (by kernel_rfl) (.cons (by kernel_rfl) (.cons (by kernel_rfl) .nil))))) (.cons ⟨(yyFA319 c hy hx m m'), (by kernel_rfl), .box (by kernel_rfl)⟩ .nil) (by kernel_rfl) (by kernel_rfl)
  ·
   simp only [Nat.reduceSub] at d2 hd
   skip
   rw [hj]
   refine aX hTT 4 [(0, .c ((9 : Nat) + (6 : Nat) * (1 : Nat) ≤ (21 : Nat))), (1, .i (gi w k * gi hx ((m' + (1 : Nat)) % (8 : Nat)))), (2, .i (dot w hx k + gi w k * gi hx ((m' + (1 : Nat)) % (8 : Nat))))] ⟨(by omega), (by omega), (by omega), True.intro⟩ ?_; refine aops_nil ⟨by kernel_rfl, ?_⟩; refine xb_n ?_; refine xt_n (hK _ ?_); clear hK K; refine wR 5 ?_; refine aX hTT 2 [(0, .i ((↑k : Int) + (1 : Int)))] ⟨(by omega), True.intro⟩ ?_; refine aops_nil ?_; refine xt_n ?_
   refine ⟨k + 1, by omega, ?_, by omega⟩
   rw [hd]
   refine le_ren (sl := [(yyFA318 c hy hx m m')]) [] (.cons (by kernel_rfl) (.cons (by kernel_rfl) (.cons (by kernel_rfl) (.cons (by kernel_rfl) (.cons (by kernel_rfl) .nil))))) (.cons ⟨(yyFA319 c hy hx m m'), (by kernel_rfl), .box (by kernel_rfl)⟩ .nil) (by kernel_rfl) (by kernel_rfl)
  ·
   simp only [Nat.reduceSub, Nat.add_zero] at d2 hd
   skip
   rw [hj]
   refine aX hTT 4 [(0, .c ((9 : Nat) + (7 : Nat) * (1 : Nat) ≤ (21 : Nat))), (1, .i (gi w k * gi hx (m' % (8 : Nat)))), (2, .i (dot w hx k + gi w k * gi hx (m' % (8 : Nat))))] ⟨(by omega), (by omega), (by omega), True.intro⟩ ?_; refine aops_nil ⟨by kernel_rfl, ?_⟩; refine xb_n ?_; refine xt_n (hK _ ?_); clear hK K; refine wR 5 ?_; refine aX hTT 2 [(0, .i ((↑k : Int) + (1 : Int)))] ⟨(by omega), True.intro⟩ ?_; refine aops_nil ?_; refine xt_n ?_
   refine ⟨k + 1, by omega, ?_, by omega⟩
   rw [hd]
   refine le_ren (sl := [(yyFA318 c hy hx m m')]) [] (.cons (by kernel_rfl) (.cons (by kernel_rfl) (.cons (by kernel_rfl) (.cons (by kernel_rfl) (.cons (by kernel_rfl) .nil))))) (.cons ⟨(yyFA319 c hy hx m m'), (by kernel_rfl), .box (by kernel_rfl)⟩ .nil) (by kernel_rfl) (by kernel_rfl)
 ·
  simp at c1
  obtain rfl : k = w.length := by omega
  refine aw_exit ?_
  refine xt_x ?_; refine xt_x ?_
  refine xb_same ?_
  refine xt_n ?_; clear hK K; refine hK _ ?_; clear hK K; refine aw_seq_k fun K hK => wR 3 ?_; refine aX hTT 2 [] True.intro ?_; refine aops_nil (xt_n (hK _ ?_)); clear hK K
  refine aw_ret ?_
  refine retM (v' := V.i (dot w hx (List.length w))) [] [(4, V.i (dot w hx (List.length w)))] (.inr rfl) (.cons (by kernel_rfl) .nil) (.cons ⟨(yyFA319 c hy hx m m'), (by kernel_rfl), .box (by kernel_rfl)⟩ .nil) (by kernel_rfl) (by kernel_rfl) (by kernel_rfl) (by kernel_rfl) (by kernel_rfl) (by kernel_rfl) (by kernel_rfl)
set_option maxRecDepth 100000 in
theorem weighO_ac (c : Cv) (hy hx : List Int) (m m' : Nat) (w : List Int) (n : Int) (hm : m < 8) (hw : AllLe 4096 w) (hl : w.length ≤ 8) (hn : 0 ≤ n ∧ n ≤ 131072) (hh : AllLe n hy) : AM Tryz.prog 187 [.ref 500 0, V.ints w] [StO c hy hx m m'] (.i (dot w hy w.length)) [some (StO c hy hx m m')] [] := by
 refine am_intro hTT hMX (fn := Tryz.f187) (N := _) ⟨Tryz.func187, rfl, Tryz.ntmps187, by kernel_rfl⟩ (by simp) rfl (by simp) (by simp) fun C hF => ?_
 refine aw_seq_k fun K hK => wR 2 ?_; refine aX hTT 1 [] True.intro ?_; refine aops_nil (xt_n (hK _ ?_)); clear hK K; refine aw_seq_k fun K hK => wR 3 ?_; refine aX hTT 1 [] True.intro ?_; refine aops_nil (xt_n (hK _ ?_)); clear hK K; refine aw_seq_k fun K hK => ?_; refine aw_seq_k fun K hK => wR 4 ?_; refine aX hTT 3 [] True.intro ?_; refine aops_nil (xt_n (hK _ ?_)); clear hK K
 refine aw_block ?_
 refine w_loop (ι := Nat) (fun k => [(0, .ref 500 0), (5, .i (dot w hy k)), (8, V.ints w), (9, .i w.length), (10, .i k)]) (fun _ => [(500, StO c hy hx m m')]) (fun k => k ≤ w.length) (fun k => w.length - k) 0 (Nat.zero_le _) ?_ ?_
 ·
  refine le_ren (sl := [(yyFA318 c hy hx m m')]) [] (.cons (by kernel_rfl) (.cons (by kernel_rfl) (.cons (by kernel_rfl) (.cons (by kernel_rfl) (.cons (by kernel_rfl) .nil))))) (.cons ⟨(yyFA319 c hy hx m m'), (by kernel_rfl), .box (by kernel_rfl)⟩ .nil) (by kernel_rfl) (by kernel_rfl)
 intro k hk
 have d1 := dot_bd (by decide) hn.1 hw hh k
 have d2 := mul_bd (hw.gi (by decide) k) (hh.gi hn.1 k)
 have e1 : (k : Int) * (4096 * n) ≤ 8 * (4096 * n) := Int.mul_le_mul_of_nonneg_right (by omega) (by omega)
 refine aw_seq_k fun K hK => wR 2 ?_; refine aX hTT 1 [] True.intro ?_; refine aops_nil (xt_n (hK _ ?_)); clear hK K; refine aw_seq_k fun K hK => ?_
 refine w_cond (t := decide ((↑k : Int) < (↑(List.length w) : Int))) (by kernel_rfl) (fun c1 => ?_) (fun c1 => ?_)
 ·
  simp at c1
  have hj : (((m : Nat) : Int) + 8 - 1 - (k : Int)).tmod 8 = ((m + 7 - k) % 8 : Nat) := by
   rw [Int.tmod_eq_emod_of_nonneg (by omega)]
   omega
  have hi : (m + (7 - (m + 7 - k) % 8)) % 8 = k := by omega
  have hlt : (m + 7 - k) % 8 < 8 := by omega
  rw [show gi hy k = gi hy ((m + (7 - (m + 7 - k) % 8)) % 8) by rw [hi]] at d2
  have hd : dot w hy (k + 1) = dot w hy k + gi w k * gi hy ((m + (7 - (m + 7 - k) % 8)) % 8) := by rw [hi]; rfl
  clear hi
  generalize (m + 7 - k) % 8 = j at hj hlt hd d2
  have hj8 : j = 0 ∨ j = 1 ∨ j = 2 ∨ j = 3 ∨ j = 4 ∨ j = 5 ∨ j = 6 ∨ j = 7 := by omega
  refine aw_skip ?_
  refine xt_n (hK _ ?_); clear hK K; refine aw_seq_k fun K hK => ?_
  refine aw_block ?_
  refine aw_seq_k fun K hK => wR 3 ?_; refine aX hTT 5 [(1, .c ((0 : Int) ≤ (↑k : Int) ∧ (↑k : Int) < (↑(List.length w) : Int)))] ⟨(by omega), True.intro⟩ ?_; refine aops_nil (xt_n (hK _ ?_)); clear hK K; refine wD 4 ?_
  refine aops_n hTT (M := []) (n := 15) [pv 15 (V.i (dot w hy k)), pv 16 (V.i (gi w k)), pv 17 (V.ref 500 0), pv 18 (V.ref 500 0), pv 19 (V.ref 500 0), pv 20 (V.ref 500 8), pc 21 ((8 : Nat) ≤ (21 : Nat)) (V.i (↑m : Int)), pc 22 ((-9223372036854775808 : Int) ≤ (↑m : Int) + (8 : Int) ∧ (↑m : Int) + (8 : Int) ≤ (9223372036854775807 : Int)) (V.i ((↑m : Int) + (8 : Int))), pc 23 ((-9223372036854775808 : Int) ≤ (↑m : Int) + (8 : Int) - (1 : Int) ∧ (↑m : Int) + (8 : Int) - (1 : Int) ≤ (9223372036854775807 : Int)) (V.i ((↑m : Int) + (8 : Int) - (1 : Int))), pv 24 (V.i (↑k : Int)), pc 25 ((-9223372036854775808 : Int) ≤ (↑m : Int) + (8 : Int) - (1 : Int) - (↑k : Int) ∧ (↑m : Int) + (8 : Int) - (1 : Int) - (↑k : Int) ≤ (9223372036854775807 : Int)) (V.i ((↑m : Int) + (8 : Int) - (1 : Int) - (↑k : Int))), pc 26 ((8 : Int) ≠ (0 : Int)) (V.i (Int.tmod ((↑m : Int) + (8 : Int) - (1 : Int) - (↑k : Int)) (8 : Int))), pv 27 (V.ref 500 0), pv 28 (V.ref 500 0), pc 29 ((0 : Int) ≤ Int.tmod ((↑m : Int) + (8 : Int) - (1 : Int) - (↑k : Int)) (8 : Int) ∧ Int.tmod ((↑m : Int) + (8 : Int) - (1 : Int) - (↑k : Int)) (8 : Int) < (↑(8 : Nat) : Int)) (V.ref 500 ((0 : Nat) + Int.toNat (Int.tmod ((↑m : Int) + (8 : Int) - (1 : Int) - (↑k : Int)) (8 : Int)) * (1 : Nat)))] (by kernel_rfl) (by kernel_rfl) ⟨(by omega), (by omega), (by omega), (by omega), (by omega), (by omega), True.intro⟩ ?_
  rcases hj8 with rfl | rfl | rfl | rfl | rfl | rfl | rfl | rfl
  ·
   simp only [Nat.reduceSub] at d2 hd
   skip
   rw [hj]
   refine aops_n hTT (M := []) (n := 4) [pc 30 ((0 : Nat) + (0 : Nat) * (1 : Nat) ≤ (21 : Nat)) (V.i (gi hy ((m + (7 : Nat)) % (8 : Nat)))), pc 31 ((-9223372036854775808 : Int) ≤ gi w k * gi hy ((m + (7 : Nat)) % (8 : Nat)) ∧ gi w k * gi hy ((m + (7 : Nat)) % (8 : Nat)) ≤ (9223372036854775807 : Int)) (V.i (gi w k * gi hy ((m + (7 : Nat)) % (8 : Nat)))), pc 32 ((-9223372036854775808 : Int) ≤ dot w hy k + gi w k * gi hy ((m + (7 : Nat)) % (8 : Nat)) ∧ dot w hy k + gi w k * gi hy ((m + (7 : Nat)) % (8 : Nat)) ≤ (9223372036854775807 : Int)) (V.i (dot w hy k + gi w k * gi hy ((m + (7 : Nat)) % (8 : Nat)))), pv 5 (V.i (dot w hy k + gi w k * gi hy ((m + (7 : Nat)) % (8 : Nat))))] (by kernel_rfl) (by kernel_rfl) ⟨(by omega), (by omega), (by omega), True.intro⟩ ?_
   refine aops_nil ⟨by kernel_rfl, ?_⟩; refine xb_n ?_; refine xt_n (hK _ ?_); clear hK K; refine wR 5 ?_; refine aX hTT 2 [(0, .i ((↑k : Int) + (1 : Int)))] ⟨(by omega), True.intro⟩ ?_; refine aops_nil ?_; refine xt_n ?_
   refine ⟨k + 1, by omega, ?_, by omega⟩
   rw [hd]
   refine le_ren (sl := [(yyFA318 c hy hx m m')]) [] (.cons (by kernel_rfl) (.cons (by kernel_rfl) (.cons (by kernel_rfl) (.cons (by kernel_rfl) (.cons (by kernel_rfl) .nil))))) (.cons ⟨(yyFA319 c hy hx m m'), (by kernel_rfl), .box (by kernel_rfl)⟩ .nil) (by kernel_rfl) (by kernel_rfl)
  ·
   simp only [Nat.reduceSub] at d2 hd
   skip
   rw [hj]
   refine aX hTT 4 [(0, .c ((0 : Nat) + (1 : Nat) * (1 : Nat) ≤ (21 : Nat))), (1, .i (gi w k * gi hy ((m + (6 : Nat)) % (8 : Nat)))), (2, .i (dot w hy k + gi w k * gi hy ((m + (6 : Nat)) % (8 : Nat))))] ⟨(by omega), (by omega), (by omega), True.intro⟩ ?_; refine aops_nil ⟨by kernel_rfl, ?_⟩; refine xb_n ?_; refine xt_n (hK _ ?_); clear hK K; refine wR 5 ?_; refine aX hTT 2 [(0, .i ((↑k : Int) + (1 : Int)))] ⟨(by omega), True.intro⟩ ?_; refine aops_nil ?_; refine xt_n ?_
   refine ⟨k + 1, by omega, ?_, by omega⟩
   rw [hd]
   refine le_ren (sl := [(yyFA318 c hy hx m m')]) [] (.cons (by kernel_rfl) (.cons (by kernel_rfl) (.cons (by kernel_rfl) (.cons (by kernel_rfl) (.cons (by kernel_rfl) .nil))))) (.cons ⟨(yyFA319 c hy hx m m'), (by kernel_rfl), .box (by kernel_rfl)⟩ .nil) (by kernel_rfl) (by kernel_rfl)
  ·
   simp only [Nat.reduceSub] at d2 hd
   skip
   rw [hj]
   refine aX hTT 4 [(0, .c ((0 : Nat) + (2 : Nat) * (1 : Nat) ≤ (21 : Nat))), (1, .i (gi w k * gi hy ((m + (5 : Nat)) % (8 : Nat)))), (2, .i (dot w hy k + gi w k * gi hy ((m + (5 : Nat)) % (8 : Nat))))] ⟨(by omega), (by omega), (by omega), True.intro⟩ ?_; refine aops_nil ⟨by kernel_rfl, ?_⟩; refine xb_n ?_; refine xt_n (hK _ ?_); clear hK K; refine wR 5 ?_; refine aX hTT 2 [(0, .i ((↑k : Int) + (1 : Int)))] ⟨(by omega), True.intro⟩ ?_; refine aops_nil ?_; refine xt_n ?_
   refine ⟨k + 1, by omega, ?_, by omega⟩
   rw [hd]
   refine le_ren (sl := [(yyFA318 c hy hx m m')]) [] (.cons (by kernel_rfl) (.cons (by kernel_rfl) (.cons (by kernel_rfl) (.cons (by kernel_rfl) (.cons (by kernel_rfl) .nil))))) (.cons ⟨(yyFA319 c hy hx m m'), (by kernel_rfl), .box (by kernel_rfl)⟩ .nil) (by kernel_rfl) (by kernel_rfl)
  ·
   simp only [Nat.reduceSub] at d2 hd
   skip
   rw [hj]
   refine aX hTT 4 [(0, .c ((0 : Nat) + (3 : Nat) * (1 : Nat) ≤ (21 : Nat))), (1, .i (gi w k * gi hy ((m + (4 : Nat)) % (8 : Nat)))), (2, .i (dot w hy k + gi w k * gi hy ((m + (4 : Nat)) % (8 : Nat))))] ⟨(by omega), (by omega), (by omega), True.intro⟩ ?_; refine aops_nil ⟨by kernel_rfl, ?_⟩; refine xb_n ?_; refine xt_n (hK _ ?_); clear hK K; refine wR 5 ?_; refine aX hTT 2 [(0, .i ((↑k : Int) + (1 : Int)))] ⟨(by omega), True.intro⟩ ?_; refine aops_nil ?_; refine xt_n ?_
   refine ⟨k + 1, by omega, ?_, by omega⟩
   rw [hd]
   refine le_ren (sl := [(yyFA318 c hy hx m m')]) [] (.cons (by kernel_rfl) (.cons (by kernel_rfl) (.cons (by kernel_rfl) (.cons (by kernel_rfl) (.cons (by kernel_rfl) .nil))))) (.cons ⟨(yyFA319 c hy hx m m'), (by kernel_rfl), .box (by kernel_rfl)⟩ .nil) (by kernel_rfl) (by kernel_rfl)
  ·
   simp only [Nat.reduceSub] at d2 hd
   skip
   rw [hj]
   refine aX hTT 4 [(0, .c ((0 : Nat) + (4 : Nat) * (1 : Nat) ≤ (21 : Nat))), (1, .i (gi w k * gi hy ((m + (3 : Nat)) % (8 : Nat)))), (2, .i (dot w hy k + gi w k * gi hy ((m + (3 : Nat)) % (8 : Nat))))] ⟨(by omega), (by omega), (by omega), True.intro⟩ ?_; refine aops_nil ⟨by kernel_rfl, ?_⟩; refine xb_n ?_; refine xt_n (hK _ ?_); clear hK K; refine wR 5 ?_; refine aX hTT 2 [(0, .i ((↑k : Int) + (1 : Int)))] ⟨(by omega), True.intro⟩ ?_; refine aops_nil ?_; refine xt_n ?_
   refine ⟨k + 1, by omega, ?_, by omega⟩
   rw [hd]
   refine le_ren (sl := [(yyFA318 c hy hx m m')]) [] (.cons (by kernel_rfl) (.cons (by kernel_rfl) (.cons (by kernel_rfl) (.cons (by kernel_rfl) (.cons (by kernel_rfl) .nil))))) (.cons ⟨(yyFA319 c hy hx m m'), (by kernel_rfl), .box (by kernel_rfl)⟩ .nil) (by kernel_rfl) (by kernel_rfl)
  ·
   simp only [Nat.reduceSub] at d2 hd
   skip
   rw [hj]
   refine aX hTT 4 [(0, .c ((0 : Nat) + (5 : Nat) * (1 : Nat) ≤ (21 : Nat))), (1, .i (gi w k * gi hy ((m + (2 : Nat)) % (8 : Nat)))), (2, .i (dot w hy k + gi w k * gi hy ((m + (2 : Nat)) % (8 : Nat))))] ⟨(by omega), (by omega), (by omega), True.intro⟩ ?_; refine aops_nil ⟨by kernel_rfl, ?_⟩; refine xb_n ?_; refine xt_n (hK _ ?_); clear hK K; refine wR 5 ?_; refine aX hTT 2 [(0, .i ((↑k : Int) + (1 : Int)))] ⟨(by omega), True.intro⟩ ?_; refine aops_nil ?_; refine xt_n ?_
   refine ⟨k + 1, by omega, ?_, by omega⟩
   rw [hd]
   refine le_ren (sl := [(yyFA318 c hy hx m m')]) [] (.cons (by kernel_rfl) (.cons (by kernel_rfl) (.cons (by kernel_rfl) (.cons (by kernel_rfl) (.cons (by kernel_rfl) .nil))))) (.cons ⟨(yyFA319 c hy hx m m'), (by kernel_rfl), .box (by kernel_rfl)⟩ .nil) (by kernel_rfl) (by kernel_rfl)
  ·
   simp only [Nat.reduceSub] at d2 hd
   skip
   rw [hj]
   refine aX hTT 4 [(0, .c ((0 : Nat) + (6 : Nat) * (1 : Nat) ≤ (21 : Nat))), (1, .i (gi w k * gi hy ((m + (1 : Nat)) % (8 : Nat)))), (2, .i (dot w hy k + gi w k * gi hy ((m + (1 : Nat)) % (8 : Nat))))] ⟨(by omega), (by omega), (by omega), True.intro⟩ ?_; refine aops_nil ⟨by kernel_rfl, ?_⟩; refine xb_n ?_; refine xt_n (hK _ ?_); clear hK K; refine wR 5 ?_; refine aX hTT 2 [(0, .i ((↑k : Int) + (1 : Int)))] ⟨(by omega), True.intro⟩ ?_; refine aops_nil ?_; refine xt_n ?_
   refine ⟨k + 1, by omega, ?_, by omega⟩
   rw [hd]
   refine le_ren (sl := [(yyFA318 c hy hx m m')]) [] (.cons (by kernel_rfl) (.cons (by kernel_rfl) (.cons (by kernel_rfl) (.cons (by kernel_rfl) (.cons (by kernel_rfl) .nil))))) (.cons ⟨(yyFA319 c hy hx m m'), (by kernel_rfl), .box (by kernel_rfl)⟩ .nil) (by kernel_rfl) (by kernel_rfl)
  ·
   simp only [Nat.reduceSub, Nat.add_zero] at d2 hd
   skip
   rw [hj]
   refine aX hTT 4 [(0, .c ((0 : Nat) + (7 : Nat) * (1 : Nat) ≤ (21 : Nat))), (1, .i (gi w k * gi hy (m % (8 : Nat)))), (2, .i (dot w hy k + gi w k * gi hy (m % (8 : Nat))))] ⟨(by omega), (by omega), (by omega), True.intro⟩ ?_; refine aops_nil ⟨by kernel_rfl, ?_⟩; refine xb_n ?_; refine xt_n (hK _ ?_); clear hK K; refine wR 5 ?_; refine aX hTT 2 [(0, .i ((↑k : Int) + (1 : Int)))] ⟨(by omega), True.intro⟩ ?_; refine aops_nil ?_; refine xt_n ?_
   refine ⟨k + 1, by omega, ?_, by omega⟩
   rw [hd]
   refine le_ren (sl := [(yyFA318 c hy hx m m')]) [] (.cons (by kernel_rfl) (.cons (by kernel_rfl) (.cons (by kernel_rfl) (.cons (by kernel_rfl) (.cons (by kernel_rfl) .nil))))) (.cons ⟨(yyFA319 c hy hx m m'), (by kernel_rfl), .box (by kernel_rfl)⟩ .nil) (by kernel_rfl) (by kernel_rfl)
 ·
  simp at c1
  obtain rfl : k = w.length := by omega
  refine aw_exit ?_
  refine xt_x ?_; refine xt_x ?_
  refine xb_same ?_
  refine xt_n ?_; clear hK K; refine hK _ ?_; clear hK K; refine aw_seq_k fun K hK => wR 3 ?_; refine aX hTT 2 [] True.intro ?_; refine aops_nil (xt_n (hK _ ?_)); clear hK K
  refine aw_ret ?_
  refine retM (v' := V.i (dot w hy (List.length w))) [] [(4, V.i (dot w hy (List.length w)))] (.inr rfl) (.cons (by kernel_rfl) .nil) (.cons ⟨(yyFA319 c hy hx m m'), (by kernel_rfl), .box (by kernel_rfl)⟩ .nil) (by kernel_rfl) (by kernel_rfl) (by kernel_rfl) (by kernel_rfl) (by kernel_rfl) (by kernel_rfl) (by kernel_rfl)
end Go.Proofs.YtepkjobndmmejaaGreatDoor
