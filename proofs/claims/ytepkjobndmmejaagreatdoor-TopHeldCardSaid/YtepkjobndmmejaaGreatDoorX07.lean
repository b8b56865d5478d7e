/-
  Several texts in one: The contracts of package play, and of its reference, for values without addresses. No condition. .. Where a tip leaves its groove: the walk of play.Jump. No condition but the sizes of slices.
-/
import Derived.Test.YtepkjobndmmejaaGreatDoorX06
import Derived.Test.YtepkjobndmmejaaGreatDoorAbs42
import Derived.Test.YtepkjobndmmejaaGreatDoorMD
import Derived.Test.YtepkjobndmmejaaGreatDoorX02
namespace Go.Proofs.YtepkjobndmmejaaGreatDoor
open Go.Ab Go.RowKit Go.Dw Go.Shelf
theorem open_tl {w : World} {L : Nat → Prop} {t : List Int} {l : List Pt} {vs : Array Value} (hL : ∀ b, L b → b < w.heap.size) (h : RV w L ρ0 [.agg [V.ints t], V.pts l] vs.toList) :
    ∃ A c B d, vs = #[.agg #[.slice A t.length c], .slice B l.length d] ∧ IntsAt w A t.length t ∧ PtsAt w B l.length l := by
  obtain ⟨vs⟩ := vs
  obtain ⟨x1, e1, q1⟩ := h.get (i := 0) rfl
  obtain ⟨x2, e2, q2⟩ := h.get (i := 1) rfl
  obtain ⟨xs, rfl, hx⟩ := q1.agg_inv
  obtain ⟨xs⟩ := xs
  obtain ⟨y, e3, q3, _⟩ := hx.get (i := 0) rfl
  obtain ⟨A, c, rfl, _, ha⟩ := R_ints_inv q3 hL
  obtain ⟨B, d, rfl, _, hb⟩ := R_pts_inv q2 hL
  have hn := h.1
  have hm := hx.1
  refine ⟨A, c, B, d, ?_, ha, hb⟩
  match vs, hn, xs, hm with
  | [a, b], _, [x], _ => simp at e1 e2 e3; subst e1 e2 e3; rfl
theorem ac_of_flat {P : Program} {f : FuncId} {args : List V} {x : Value} (he : ∀ (args : Array Value) (w : World), (callFunc f args).run P w = .ok (.enter f args) w)
    (h : ∀ (L : Nat → Prop) (w : World) (vs : Array Value), (∀ b, L b → b < w.heap.size) → RV w L ρ0 args vs.toList → Calls P f vs w fun e w' => e = .returned x ∧ Below w.heap.size w w') : AC P f args (.c x) [] := by
  refine ac_of_calls he fun L w vs hL hvs => (h L w vs hL hvs).mono ?_
  rintro e w' ⟨rfl, hb⟩
  exact ⟨_, rfl, hb, fun _ => False, fun _ h => h.elim, .c _ _⟩
theorem ac_of_pts {P : Program} {f : FuncId} {args : List V} {e0 : TypeId} {l : List Pt} {n : Nat} {k : Int} (he : ∀ (args : Array Value) (w : World), (callFunc f args).run P w = .ok (.enter f args) w)
    (h : ∀ (L : Nat → Prop) (w : World) (vs : Array Value), (∀ b, L b → b < w.heap.size) → RV w L ρ0 args vs.toList → Calls P f vs w fun e w' => ∃ v, e = .returned (.tuple #[v, .int .i64 k]) ∧ w'.ownsRow w.heap.size e0 2 v n (l.flatMap encP) ∧ Below w.heap.size w w') : AC P f args (.tup [V.pts l, .i k]) [] := by
  refine ac_of_calls he fun L w vs hL hvs => (h L w vs hL hvs).mono ?_
  rintro e w' ⟨v, rfl, ho, hb⟩
  obtain ⟨N, hN, hr⟩ := own_R_pts ho
  exact ⟨_, rfl, hb, N, hN, .tup' (.cons ((hr ρ0).ext ⟨fun b hb => ⟨.inr hb, rfl⟩, fun _ _ h => h⟩) (.cons (.c _ _) .nil))⟩
section
variable (t : List Int) (l : List Pt) (ht : t.length ≤ 4611686018427387904) (hl : l.length ≤ 4611686018427387904)
include ht hl
theorem Read_ac : AC Tryz.prog 27 [.agg [V.ints t], V.pts l] (.tup [V.pts (wallsR t l), .i (checkBoth t l)]) [] := by
  refine ac_of_pts (e0 := 81) (n := (wallsR t l).length) (enters_of Tryz.func27 (by kernel_rfl) rfl) fun L w vs hL hvs => ?_
  obtain ⟨A, c, B, d, rfl, ha, hb⟩ := open_tl hL hvs
  exact Read_calls A _ c t B _ d l w ha hb ht hl
end
end Go.Proofs.YtepkjobndmmejaaGreatDoor

namespace Go.Proofs.YtepkjobndmmejaaGreatDoor
open Go.Ab Go.RowKit Go.Dw Go.Shelf
end Go.Proofs.YtepkjobndmmejaaGreatDoor

namespace Go.Proofs.YtepkjobndmmejaaGreatDoor
open Go.Ab Go.RowKit Go.Dw Go.Shelf
end Go.Proofs.YtepkjobndmmejaaGreatDoor

namespace Go.Proofs.YtepkjobndmmejaaGreatDoor
open Go.Ab Go.RowKit Go.Dw Go.Shelf
end Go.Proofs.YtepkjobndmmejaaGreatDoor

namespace Go.Proofs.YtepkjobndmmejaaGreatDoor
open Go.Ab Go.RowKit Go.Dw Go.Shelf
theorem checkPts_ac (l : List Pt) (hl : l.length ≤ 4611686018427387904) : AC Tryz.prog 47 [V.pts l] (.i (checkPts l)) [] := by
  refine ac_of_flat (enters_of Tryz.func47 (by kernel_rfl) rfl) fun L w vs hL hvs => ?_
  obtain ⟨vs⟩ := vs
  obtain ⟨x1, e1, q1⟩ := hvs.get (i := 0) rfl
  obtain ⟨A, c, rfl, _, ha⟩ := R_pts_inv q1 hL
  have hn := hvs.1
  have hvs' : vs = [.slice A l.length c] := by
    match vs, hn with
    | [a], _ => simp at e1; subst e1; rfl
  subst hvs'
  exact checkPts_calls A _ c l w ha hl
end Go.Proofs.YtepkjobndmmejaaGreatDoor

namespace Go.Proofs.YtepkjobndmmejaaGreatDoor
open Go.Ab Go.RowKit Go.Dw Go.Shelf
theorem Balance_ac (l : List Pt) (hl : l.length ≤ 4611686018427387904) : AC Tryz.prog 23 [V.pts l] (.tup [.agg [.i (balArm l).1, .i (balArm l).2], .i (checkPts l)]) [] := by
  refine ac_of_calls (enters_of Tryz.func23 (by kernel_rfl) rfl) fun L w vs hL hvs => ?_
  obtain ⟨vs⟩ := vs
  obtain ⟨x1, e1, q1⟩ := hvs.get (i := 0) rfl
  obtain ⟨A, c, rfl, _, ha⟩ := R_pts_inv q1 hL
  have hn := hvs.1
  have hvs' : vs = [.slice A l.length c] := by
    match vs, hn with
    | [a], _ => simp at e1; subst e1; rfl
  subst hvs'
  refine (balance_calls A _ c l w ha hl).mono ?_
  rintro e w' ⟨rfl, hb⟩
  exact ⟨_, rfl, hb, fun _ => False, fun _ h => h.elim, .tup' (.cons (.agg' (.cons (.c _ _) rfl (.cons (.c _ _) rfl .nil))) (.cons (.c _ _) .nil))⟩
end Go.Proofs.YtepkjobndmmejaaGreatDoor

namespace Go.Proofs.YtepkjobndmmejaaGreatDoor
open Go.Ab Go.RowKit Go.Dw Go.Shelf
theorem appRow_lt {n i : Nat} {r r' : Nat → List V} (h : i < n) : appRow n r r' i = r i := by simp [appRow, h]
theorem appRow_at {n : Nat} {r r' : Nat → List V} : appRow n r r' n = r' 0 := by simp [appRow]
def armB (h s : Int) : Bool := decide (0 ≤ h) && decide (h ≤ 67108864) && decide (-67108864 ≤ s) && decide (s ≤ 67108864)
theorem armB_iff {h s : Int} : armB h s = true ↔ 0 ≤ h ∧ h ≤ 67108864 ∧ -67108864 ≤ s ∧ s ≤ 67108864 := by simp [armB]; omega
theorem bend_bd {l : List Pt} (hl : Bd l) {i : Nat} (h0 : 0 < i) (h1 : i + 1 < l.length) : -33554432 ≤ bendAt l i ∧ bendAt l i ≤ 33554432 := by
  have a := (forall_gp.1 hl) (i - 1) (by omega)
  have b := (forall_gp.1 hl) i (by omega)
  have c := (forall_gp.1 hl) (i + 1) h1
  unfold bendAt; omega
def outB (h s b : Int) : Bool := decide (h < b - s) || decide (h < -(b - s))
def jumpK (h s : Int) (l : List Pt) : Option Nat := (List.range (l.length - 2)).find? fun k => outB h s (bendAt l (k + 1))
def jumpI (h s : Int) (l : List Pt) : Int × Int × Int :=
  if armB h s then (if checkPts l = 0 then (match jumpK h s l with
    | some k => ((k : Int) + 1, if h < bendAt l (k + 1) - s then 1 else -1, 0)
    | none => (0, 0, 5)) else (0, 0, checkPts l)) else (0, 0, 2)
theorem jumpI_arm {h s : Int} {l : List Pt} (ha : armB h s = false) : jumpI h s l = (0, 0, 2) := by rw [jumpI, ha]; rfl
theorem jumpI_pts {h s : Int} {l : List Pt} (ha : armB h s = true) (hc : ¬ checkPts l = 0) : jumpI h s l = (0, 0, checkPts l) := by rw [jumpI, if_pos ha, if_neg hc]
theorem jumpI_some {h s : Int} {l : List Pt} {k : Nat} (ha : armB h s = true) (hc : checkPts l = 0) (hk : k < l.length - 2) (ho : outB h s (bendAt l (k + 1)) = true) (hb : ∀ j, j < k → outB h s (bendAt l (j + 1)) = false) :
    jumpI h s l = ((k : Int) + 1, if h < bendAt l (k + 1) - s then 1 else -1, 0) := by
  have : jumpK h s l = some k := find_first hk ho hb
  rw [jumpI, if_pos ha, if_pos hc, this]
theorem jumpI_none {h s : Int} {l : List Pt} (ha : armB h s = true) (hc : checkPts l = 0) (hb : ∀ j, j < l.length - 2 → outB h s (bendAt l (j + 1)) = false) : jumpI h s l = (0, 0, 5) := by
  have : jumpK h s l = none := find_none hb
  rw [jumpI, if_pos ha, if_pos hc, this]
end Go.Proofs.YtepkjobndmmejaaGreatDoor

namespace Go.Proofs.YtepkjobndmmejaaGreatDoor
open Go.Ab Go.RowKit Go.Dw Go.Shelf
set_option maxRecDepth 100000 in
theorem bends_ac (l : List Pt) (hl : l.length ≤ 4096) (hb : Bd l) : AC Tryz.prog 49 [V.pts l] (.sl 1 (l.length - 2) fun k => [.i (bendAt l (k + 1))]) [] := by
 refine acI hTT hMX Tryz.func49 Tryz.ntmps49 fun C hC hF => ?_
 refine aw_seq_k fun K hK => wR 2 ?_; refine aX hTT 1 [] True.intro ?_; refine aops_nil (xt_n (hK _ ?_)); clear hK K; refine aw_seq_k fun K hK => wR 3 ?_; refine aX hTT 1 [] True.intro ?_; refine aops_nil (xt_n (hK _ ?_)); clear hK K; refine aw_seq_k fun K hK => ?_; refine aw_seq_k fun K hK => wR 4 ?_; refine aX hTT 1 [] True.intro ?_; refine aops_nil (xt_n (hK _ ?_)); clear hK K
 refine aw_block ?_
 refine w_le (le_open 3 2 1 (fun k => [.i (bendAt l (k + 1))]) (by kernel_rfl) rfl) ?_
 refine w_loop (fun k : Nat => [(0, V.pts l), (3, .own 3), (4, .i ((k : Int) + 1))]) (fun k => [(3, .row 2 1 k fun k => [.i (bendAt l (k + 1))])]) (fun k => k ≤ l.length - 2) (fun k => l.length - k) 0 (Nat.zero_le _) ?_ ?_
 ·
  refine le_ren (sl := [(3, Ob.row 2 1 0 fun (k : Nat) => [V.i (bendAt l (k + (1 : Nat)))])]) [(3, 400003)] (.cons (by kernel_rfl) (.cons (by kernel_rfl) (.cons (by kernel_rfl) .nil))) (.cons ⟨Ob.row 2 1 0 fun (k : Nat) => [V.i (bendAt l (k + (1 : Nat)))], (by kernel_rfl), .row (by kernel_rfl) (fun _ _ => rfl)⟩ .nil) (by kernel_rfl) (by kernel_rfl)
 intro k hk
 refine aw_seq_k fun K hK => ?_; refine aw_seq_k fun K hK => wR 2 ?_; refine aX hTT 5 [(1, .i ((↑k : Int) + (1 : Int) + (1 : Int)))] ⟨(by omega), True.intro⟩ ?_; refine aops_nil (xt_n (hK _ ?_)); clear hK K
 refine w_cond (t := decide ((↑k : Int) + (1 : Int) + (1 : Int) < (↑(List.length l) : Int))) (by kernel_rfl) (fun h => ?_) (fun h => ?_)
 ·
  simp at h
  have e0 : ((k : Int) + 1 - 1).toNat = k := by omega
  have h0 := gp_bd hb ((k : Int) + 1 - 1).toNat
  have h1 := gp_bd hb (k + 1)
  have h2 := gp_bd hb (k + 1 + 1)
  refine aw_skip ?_
  refine xt_n (hK _ ?_); clear hK K; refine aw_seq_k fun K hK => ?_
  refine aw_block ?_
  refine aw_seq_k fun K hK => wD 3 ?_; refine aX hTT 20 [(2, .i ((↑k : Int) + (1 : Int) - (1 : Int))), (3, .c ((0 : Int) ≤ (↑k : Int) + (1 : Int) - (1 : Int) ∧ (↑k : Int) + (1 : Int) - (1 : Int) < (↑(List.length l) : Int))), (7, .c ((0 : Int) ≤ (↑k : Int) + (1 : Int) ∧ (↑k : Int) + (1 : Int) < (↑(List.length l) : Int))), (11, .i ((↑k : Int) + (1 : Int) + (1 : Int))), (12, .c ((0 : Int) ≤ (↑k : Int) + (1 : Int) + (1 : Int) ∧ (↑k : Int) + (1 : Int) + (1 : Int) < (↑(List.length l) : Int))), (14, .r (pn 5 (V.ref 200005 0) (200005 : Nat) (Ob.box 81 [V.i 0, V.i 0]))), (15, .r (pn 6 (V.ref 200006 0) (200006 : Nat) (Ob.box 81 [V.i 0, V.i 0]))), (16, .r (pn 7 (V.ref 200007 0) (200007 : Nat) (Ob.box 81 [V.i 0, V.i 0]))), (17, .r (pw ((0 : Nat) + (2 : Nat) ≤ (2 : Nat)) (200005 : Nat) (Ob.box 81 [V.i (Prod.fst (gp l (Int.toNat ((↑k : Int) + (1 : Int) - (1 : Int))))), V.i (Prod.snd (gp l (Int.toNat ((↑k : Int) + (1 : Int) - (1 : Int)))))]))), (18, .r (pw ((0 : Nat) + (2 : Nat) ≤ (2 : Nat)) (200006 : Nat) (Ob.box 81 [V.i (Prod.fst (gp l (k + (1 : Nat)))), V.i (Prod.snd (gp l (k + (1 : Nat))))]))), (19, .r (pw ((0 : Nat) + (2 : Nat) ≤ (2 : Nat)) (200007 : Nat) (Ob.box 81 [V.i (Prod.fst (gp l (k + (1 : Nat) + (1 : Nat)))), V.i (Prod.snd (gp l (k + (1 : Nat) + (1 : Nat))))])))] ⟨(by omega), (by omega), (by omega), (by omega), (by omega), (by omega), (by omega), (by omega), True.intro⟩ ?_; refine aops_nil ⟨by kernel_rfl, ?_⟩; refine xt_n (hK _ ?_); clear hK K; refine wR 4 ?_; refine aX hTT 22 [(2, .c ((0 : Nat) ≤ (2 : Nat))), (4, .c ((1 : Nat) ≤ (2 : Nat))), (5, .i (Prod.fst (gp l (Int.toNat ((↑k : Int) + (1 : Int) - (1 : Int)))) + Prod.snd (gp l (Int.toNat ((↑k : Int) + (1 : Int) - (1 : Int)))))), (7, .c ((0 : Nat) ≤ (2 : Nat))), (8, .i (Prod.fst (gp l (Int.toNat ((↑k : Int) + (1 : Int) - (1 : Int)))) + Prod.snd (gp l (Int.toNat ((↑k : Int) + (1 : Int) - (1 : Int)))) + Prod.fst (gp l (k + (1 : Nat) + (1 : Nat))))), (10, .c ((1 : Nat) ≤ (2 : Nat))), (11, .i (Prod.fst (gp l (Int.toNat ((↑k : Int) + (1 : Int) - (1 : Int)))) + Prod.snd (gp l (Int.toNat ((↑k : Int) + (1 : Int) - (1 : Int)))) + Prod.fst (gp l (k + (1 : Nat) + (1 : Nat))) + Prod.snd (gp l (k + (1 : Nat) + (1 : Nat))))), (13, .c ((0 : Nat) ≤ (2 : Nat))), (15, .c ((1 : Nat) ≤ (2 : Nat))), (16, .i (Prod.fst (gp l (k + (1 : Nat))) + Prod.snd (gp l (k + (1 : Nat))))), (17, .i ((2 : Int) * (Prod.fst (gp l (k + (1 : Nat))) + Prod.snd (gp l (k + (1 : Nat)))))), (18, .i (Prod.fst (gp l (Int.toNat ((↑k : Int) + (1 : Int) - (1 : Int)))) + Prod.snd (gp l (Int.toNat ((↑k : Int) + (1 : Int) - (1 : Int)))) + Prod.fst (gp l (k + (1 : Nat) + (1 : Nat))) + Prod.snd (gp l (k + (1 : Nat) + (1 : Nat))) - (2 : Int) * (Prod.fst (gp l (k + (1 : Nat))) + Prod.snd (gp l (k + (1 : Nat)))))), (20, .r (PR.mk (some (49 : Nat)) (some (k + (1 : Nat) ≤ (1099511627776 : Nat))) (V.own 300049) [((3 : Nat), none), ((300049 : Nat), some (Ob.row 2 1 (k + (1 : Nat)) (appRow k (fun (k : Nat) => [V.i (bendAt l (k + (1 : Nat)))]) fun (i : Nat) => List.take (1 : Nat) (List.drop (i * (1 : Nat)) [V.i (Prod.fst (gp l (Int.toNat ((↑k : Int) + (1 : Int) - (1 : Int)))) + Prod.snd (gp l (Int.toNat ((↑k : Int) + (1 : Int) - (1 : Int)))) + Prod.fst (gp l (k + (1 : Nat) + (1 : Nat))) + Prod.snd (gp l (k + (1 : Nat) + (1 : Nat))) - (2 : Int) * (Prod.fst (gp l (k + (1 : Nat))) + Prod.snd (gp l (k + (1 : Nat)))))]))))] false))] ⟨(by omega), (by omega), (by omega), (by omega), (by omega), (by omega), (by omega), (by omega), (by omega), (by omega), (by omega), (by omega), (by omega), True.intro⟩ ?_; refine aops_nil ?_; refine xb_n ?_; refine xt_n (hK _ ?_); clear hK K; refine wR 5 ?_; refine aX hTT 3 [(1, .i ((↑k : Int) + (1 : Int) + (1 : Int)))] ⟨(by omega), True.intro⟩ ?_; refine aops_nil ?_; refine xt_n ?_
  refine ⟨k + 1, by omega, ?_, by omega⟩
  refine le_ren (tl := [(0, V.sl 2 (List.length l) fun (k : Nat) => [V.i (Prod.fst (gp l k)), V.i (Prod.snd (gp l k))]), (3, V.own 3), (4, V.i ((↑(k + (1 : Nat)) : Int) + (1 : Int)))]) (sl := [(3, Ob.row 2 1 (k + (1 : Nat)) fun (k : Nat) => [V.i (bendAt l (k + (1 : Nat)))])]) [(3, 300049)] (.cons (by kernel_rfl) (.cons (by kernel_rfl) (.cons (by kernel_rfl) .nil))) (.cons ⟨Ob.row 2 1 (k + (1 : Nat)) (appRow k (fun (k : Nat) => [V.i (bendAt l (k + (1 : Nat)))]) fun (i : Nat) => List.take (1 : Nat) (List.drop (i * (1 : Nat)) [V.i (Prod.fst (gp l (Int.toNat ((↑k : Int) + (1 : Int) - (1 : Int)))) + Prod.snd (gp l (Int.toNat ((↑k : Int) + (1 : Int) - (1 : Int)))) + Prod.fst (gp l (k + (1 : Nat) + (1 : Nat))) + Prod.snd (gp l (k + (1 : Nat) + (1 : Nat))) - (2 : Int) * (Prod.fst (gp l (k + (1 : Nat))) + Prod.snd (gp l (k + (1 : Nat)))))])), (by kernel_rfl), .row (by kernel_rfl) ?_⟩ .nil) (by kernel_rfl) (by kernel_rfl)
  intro i hi
  by_cases hik : i < k
  ·
   rw [appRow_lt hik]; rfl
  ·
   obtain rfl : i = k := by omega
   rw [appRow_at, e0]
   rfl
 simp at h
 obtain rfl : k = l.length - 2 := by omega
 refine aw_exit ?_
 refine xt_x ?_; refine xt_x ?_
 refine xb_same ?_
 refine xt_n ?_; clear hK K; refine hK _ ?_; clear hK K; refine aw_seq_k fun K hK => wR 3 ?_; refine aX hTT 2 [] True.intro ?_; refine aops_nil (xt_n (hK _ ?_)); clear hK K
 refine aw_ret ?_
 refine ret_of_le (le_shut 2 3 (e := (2 : Nat)) (sz := (1 : Nat)) (n := List.length l - (2 : Nat)) (n' := (l.length - 2)) (row := fun (k : Nat) => [V.i (bendAt l (k + (1 : Nat)))]) (row' := (fun k => [.i (bendAt l (k + 1))])) (by kernel_rfl) (by kernel_rfl) (fun _ _ => rfl) ?_ ?_) ?_
 ·
  rfl
 ·
  exact fun _ _ => rfl
 refine rP (V.sl 1 (List.length l - (2 : Nat)) fun (k : Nat) => [V.i (bendAt l (k + (1 : Nat)))])
theorem arm_test {h s : Int} (hr : -9223372036854775808 ≤ s ∧ s ≤ 9223372036854775807) : (decide (h < 0) || decide (67108864 < h) || decide (67108864 < max s (IntKind.i64.wrap (0 - s))) || decide (s < -67108864)) = !armB h s := by
 by_cases hm : s = -9223372036854775808
 ·
  subst hm
  have e : IntKind.i64.wrap (0 - -9223372036854775808) = -9223372036854775808 := by decide
  rw [e]
  simp [armB]
 ·
  have e : IntKind.i64.wrap (0 - s) = -s := by rw [IntWalk.i64_in _ (by omega)]; omega
  rw [e, Bool.eq_iff_iff]
  simp [armB]
  omega
set_option maxRecDepth 100000 in
theorem Jump_ac (h s : Int) (l : List Pt) (hl : l.length ≤ 4611686018427387904) (hr : -9223372036854775808 ≤ s ∧ s ≤ 9223372036854775807) : AC Tryz.prog 22 [.agg [.i h, .i s], V.pts l] (.tup [.i (jumpI h s l).1, .i (jumpI h s l).2.1, .i (jumpI h s l).2.2]) [] := by
 refine acI hTT hMX Tryz.func22 Tryz.ntmps22 fun C hC hF => ?_
 refine aw_seq_k fun K hK => wR 2 ?_; refine aX hTT 4 [] True.intro ?_; refine aops_nil (xt_n (hK _ ?_)); clear hK K; refine aw_seq_k fun K hK => ?_; refine aw_seq_k fun K hK => wR 3 ?_
 refine aops_n hTT (M := []) (n := 22) [pv 11 (V.ptr [V.i h, V.i s]), pv 12 (V.i h), pv 13 (V.b (decide (h < (0 : Int)))), pv 14 (V.b (decide (h < (0 : Int)))), pc 15 ((True ∧ True) ∧ ((decide (h < (0 : Int)) == false) = true → True)) (V.gd (decide (h < (0 : Int)) == false) (V.ptr [V.i h, V.i s])), pc 16 ((((decide (h < (0 : Int)) == false) = true → (decide (h < (0 : Int)) == false) = true) ∧ True) ∧ ((decide (h < (0 : Int)) == false) = true → True)) (V.gd (decide (h < (0 : Int)) == false) (V.i h)), pc 17 ((((decide (h < (0 : Int)) == false) = true → (decide (h < (0 : Int)) == false) = true) ∧ True ∧ True) ∧ ((decide (h < (0 : Int)) == false) = true → True)) (V.gd (decide (h < (0 : Int)) == false) (V.b (decide ((67108864 : Int) < h)))), pc 18 (True ∧ (decide (h < (0 : Int)) = false → (decide (h < (0 : Int)) == false) = true)) (V.b (decide (h < (0 : Int)) || decide ((67108864 : Int) < h))), pv 19 (V.b (decide (h < (0 : Int)) || decide ((67108864 : Int) < h))), pc 20 ((True ∧ True) ∧ (((decide (h < (0 : Int)) || decide ((67108864 : Int) < h)) == false) = true → True)) (V.gd ((decide (h < (0 : Int)) || decide ((67108864 : Int) < h)) == false) (V.ptr [V.i s])), pc 21 (((((decide (h < (0 : Int)) || decide ((67108864 : Int) < h)) == false) = true → ((decide (h < (0 : Int)) || decide ((67108864 : Int) < h)) == false) = true) ∧ True) ∧ (((decide (h < (0 : Int)) || decide ((67108864 : Int) < h)) == false) = true → True)) (V.gd ((decide (h < (0 : Int)) || decide ((67108864 : Int) < h)) == false) (V.i s)), pc 22 ((True ∧ True) ∧ (((decide (h < (0 : Int)) || decide ((67108864 : Int) < h)) == false) = true → True)) (V.gd ((decide (h < (0 : Int)) || decide ((67108864 : Int) < h)) == false) (V.ptr [V.i s])), pc 23 (((((decide (h < (0 : Int)) || decide ((67108864 : Int) < h)) == false) = true → ((decide (h < (0 : Int)) || decide ((67108864 : Int) < h)) == false) = true) ∧ True) ∧ (((decide (h < (0 : Int)) || decide ((67108864 : Int) < h)) == false) = true → True)) (V.gd ((decide (h < (0 : Int)) || decide ((67108864 : Int) < h)) == false) (V.i s)), pcw 24 (((((decide (h < (0 : Int)) || decide ((67108864 : Int) < h)) == false) = true → ((decide (h < (0 : Int)) || decide ((67108864 : Int) < h)) == false) = true) ∧ True) ∧ (((decide (h < (0 : Int)) || decide ((67108864 : Int) < h)) == false) = true → True)) (V.gd ((decide (h < (0 : Int)) || decide ((67108864 : Int) < h)) == false) (V.i (IntKind.wrap IntKind.i64 ((0 : Int) - s)))), pc 25 (((((decide (h < (0 : Int)) || decide ((67108864 : Int) < h)) == false) = true → ((decide (h < (0 : Int)) || decide ((67108864 : Int) < h)) == false) = true) ∧ (((decide (h < (0 : Int)) || decide ((67108864 : Int) < h)) == false) = true → ((decide (h < (0 : Int)) || decide ((67108864 : Int) < h)) == false) = true) ∧ True) ∧ (((decide (h < (0 : Int)) || decide ((67108864 : Int) < h)) == false) = true → True)) (V.gd ((decide (h < (0 : Int)) || decide ((67108864 : Int) < h)) == false) (V.i (max s (IntKind.wrap IntKind.i64 ((0 : Int) - s))))), pc 26 (((((decide (h < (0 : Int)) || decide ((67108864 : Int) < h)) == false) = true → ((decide (h < (0 : Int)) || decide ((67108864 : Int) < h)) == false) = true) ∧ True ∧ True) ∧ (((decide (h < (0 : Int)) || decide ((67108864 : Int) < h)) == false) = true → True)) (V.gd ((decide (h < (0 : Int)) || decide ((67108864 : Int) < h)) == false) (V.b (decide ((67108864 : Int) < max s (IntKind.wrap IntKind.i64 ((0 : Int) - s)))))), pc 27 (True ∧ ((decide (h < (0 : Int)) || decide ((67108864 : Int) < h)) = false → ((decide (h < (0 : Int)) || decide ((67108864 : Int) < h)) == false) = true)) (V.b (decide (h < (0 : Int)) || decide ((67108864 : Int) < h) || decide ((67108864 : Int) < max s (IntKind.wrap IntKind.i64 ((0 : Int) - s))))), pv 28 (V.b (decide (h < (0 : Int)) || decide ((67108864 : Int) < h) || decide ((67108864 : Int) < max s (IntKind.wrap IntKind.i64 ((0 : Int) - s))))), pc 29 ((True ∧ True) ∧ (((decide (h < (0 : Int)) || decide ((67108864 : Int) < h) || decide ((67108864 : Int) < max s (IntKind.wrap IntKind.i64 ((0 : Int) - s)))) == false) = true → True)) (V.gd ((decide (h < (0 : Int)) || decide ((67108864 : Int) < h) || decide ((67108864 : Int) < max s (IntKind.wrap IntKind.i64 ((0 : Int) - s)))) == false) (V.ptr [V.i s])), pc 30 (((((decide (h < (0 : Int)) || decide ((67108864 : Int) < h) || decide ((67108864 : Int) < max s (IntKind.wrap IntKind.i64 ((0 : Int) - s)))) == false) = true → ((decide (h < (0 : Int)) || decide ((67108864 : Int) < h) || decide ((67108864 : Int) < max s (IntKind.wrap IntKind.i64 ((0 : Int) - s)))) == false) = true) ∧ True) ∧ (((decide (h < (0 : Int)) || decide ((67108864 : Int) < h) || decide ((67108864 : Int) < max s (IntKind.wrap IntKind.i64 ((0 : Int) - s)))) == false) = true → True)) (V.gd ((decide (h < (0 : Int)) || decide ((67108864 : Int) < h) || decide ((67108864 : Int) < max s (IntKind.wrap IntKind.i64 ((0 : Int) - s)))) == false) (V.i s)), pc 31 (((((decide (h < (0 : Int)) || decide ((67108864 : Int) < h) || decide ((67108864 : Int) < max s (IntKind.wrap IntKind.i64 ((0 : Int) - s)))) == false) = true → ((decide (h < (0 : Int)) || decide ((67108864 : Int) < h) || decide ((67108864 : Int) < max s (IntKind.wrap IntKind.i64 ((0 : Int) - s)))) == false) = true) ∧ True ∧ True) ∧ (((decide (h < (0 : Int)) || decide ((67108864 : Int) < h) || decide ((67108864 : Int) < max s (IntKind.wrap IntKind.i64 ((0 : Int) - s)))) == false) = true → True)) (V.gd ((decide (h < (0 : Int)) || decide ((67108864 : Int) < h) || decide ((67108864 : Int) < max s (IntKind.wrap IntKind.i64 ((0 : Int) - s)))) == false) (V.b (decide (s < (-67108864 : Int))))), pc 32 (True ∧ ((decide (h < (0 : Int)) || decide ((67108864 : Int) < h) || decide ((67108864 : Int) < max s (IntKind.wrap IntKind.i64 ((0 : Int) - s)))) = false → ((decide (h < (0 : Int)) || decide ((67108864 : Int) < h) || decide ((67108864 : Int) < max s (IntKind.wrap IntKind.i64 ((0 : Int) - s)))) == false) = true)) (V.b (decide (h < (0 : Int)) || decide ((67108864 : Int) < h) || decide ((67108864 : Int) < max s (IntKind.wrap IntKind.i64 ((0 : Int) - s))) || decide (s < (-67108864 : Int))))] (by kernel_rfl) (by kernel_rfl) ⟨⟨⟨True.intro, True.intro⟩, (fun _ => True.intro)⟩, ⟨⟨(by (exact fun h => h)), True.intro⟩, (fun _ => True.intro)⟩, ⟨⟨(by (exact fun h => h)), ⟨True.intro, True.intro⟩⟩, (fun _ => True.intro)⟩, ⟨True.intro, (by (intro h; rw [h]; rfl))⟩, ⟨⟨True.intro, True.intro⟩, (fun _ => True.intro)⟩, ⟨⟨(by (exact fun h => h)), True.intro⟩, (fun _ => True.intro)⟩, ⟨⟨True.intro, True.intro⟩, (fun _ => True.intro)⟩, ⟨⟨(by (exact fun h => h)), True.intro⟩, (fun _ => True.intro)⟩, ⟨⟨(by (exact fun h => h)), True.intro⟩, (fun _ => True.intro)⟩, ⟨⟨(by (exact fun h => h)), ⟨(by (exact fun h => h)), True.intro⟩⟩, (fun _ => True.intro)⟩, ⟨⟨(by (exact fun h => h)), ⟨True.intro, True.intro⟩⟩, (fun _ => True.intro)⟩, ⟨True.intro, (by (intro h; rw [h]; rfl))⟩, ⟨⟨True.intro, True.intro⟩, (fun _ => True.intro)⟩, ⟨⟨(by (exact fun h => h)), True.intro⟩, (fun _ => True.intro)⟩, ⟨⟨(by (exact fun h => h)), ⟨True.intro, True.intro⟩⟩, (fun _ => True.intro)⟩, ⟨True.intro, (by (intro h; rw [h]; rfl))⟩, True.intro⟩ ?_
 refine aops_nil (xt_n (hK _ ?_)); clear hK K
 rw [arm_test hr]
 refine w_cond (t := !armB h s) (by kernel_rfl) (fun h1 => ?_) (fun h1 => ?_)
 ·
  refine aw_seq_k fun K hK => ?_
  refine wR 4 ?_; refine aX hTT 3 [] True.intro ?_; refine aops_nil (xt_n (hK _ ?_)); clear hK K
  refine aw_ret ?_
  refine xt_r ?_
  rw [jumpI_arm (by simpa using h1)]
  refine rP (V.tup [V.i 0, V.i 0, V.i 2])
 simp at h1
 refine aw_skip ?_
 refine xt_n (hK _ ?_); clear hK K; refine aw_seq_k fun K hK => ?_; refine aw_seq_k fun K hK => wR 4 ?_; refine aX hTT 1 [] True.intro ?_
 refine eC (checkPts_ac l hl) ?_
 refine aX hTT 1 [] True.intro ?_; refine aops_nil (xt_n (hK _ ?_)); clear hK K; refine aw_seq_k fun K hK => wR 5 ?_; refine aX hTT 2 [] True.intro ?_; refine aops_nil (xt_n (hK _ ?_)); clear hK K
 refine w_cond (t := !decide (checkPts l = (0 : Int))) (by kernel_rfl) (fun h2 => ?_) (fun h2 => ?_)
 ·
  simp at h2
  refine aw_seq_k fun K hK => wR 6 ?_; refine aX hTT 4 [] True.intro ?_; refine aops_nil (xt_n (hK _ ?_)); clear hK K
  refine aw_ret ?_
  refine xt_r ?_
  rw [jumpI_pts h1 h2]
  refine rP (V.tup [V.i 0, V.i 0, V.i (checkPts l)])
 simp at h2
 obtain ⟨m4, m5⟩ := checkPts_ok h2
 obtain ⟨a1, a2, a3, a4⟩ := armB_iff.1 h1
 refine aw_skip ?_
 refine xt_n (hK _ ?_); clear hK K; refine aw_seq_k fun K hK => ?_; refine aw_seq_k fun K hK => wR 6 ?_; refine aX hTT 1 [] True.intro ?_
 refine eC (bends_ac l m4 m5) ?_
 refine aX hTT 2 [] True.intro ?_; refine aops_nil (xt_n (hK _ ?_)); clear hK K
 refine aw_block ?_
 refine w_loop (fun k : Nat => [(2, .ptr [V.i h, V.i s]), (39, .sl 1 (l.length - 2) fun k => [.i (bendAt l (k + 1))]), (40, .i ((l.length - 2 : Nat) : Int)), (41, .i k)]) (fun _ => []) (fun k => k ≤ l.length - 2 ∧ ∀ j, j < k → outB h s (bendAt l (j + 1)) = false) (fun k => l.length - k) 0 ⟨Nat.zero_le _, fun j hj => by omega⟩ ?_ ?_
 ·
  refine le_ren [] (.cons (by kernel_rfl) (.cons (by kernel_rfl) (.cons (by kernel_rfl) (.cons (by kernel_rfl) .nil)))) .nil (by kernel_rfl) (by kernel_rfl)
 rintro k ⟨hk, hb⟩
 refine aw_seq_k fun K hK => wR 2 ?_; refine aX hTT 1 [] True.intro ?_; refine aops_nil (xt_n (hK _ ?_)); clear hK K; refine aw_seq_k fun K hK => ?_
 refine w_cond (t := decide ((↑k : Int) < (↑(List.length l - (2 : Nat)) : Int))) (by kernel_rfl) (fun hkl => ?_) (fun hkl => ?_)
 ·
  simp at hkl
  have b0 := bend_bd m5 (i := k + 1) (by omega) (by omega)
  refine aw_skip ?_
  refine xt_n (hK _ ?_); clear hK K; refine aw_seq_k fun K hK => ?_
  refine aw_block ?_
  refine aw_seq_k fun K hK => wR 3 ?_; refine aX hTT 5 [(1, .c ((0 : Int) ≤ (↑k : Int) ∧ (↑k : Int) < (↑(List.length l - (2 : Nat)) : Int)))] ⟨(by omega), True.intro⟩ ?_; refine aops_nil (xt_n (hK _ ?_)); clear hK K; refine aw_seq_k fun K hK => wR 4 ?_; refine aX hTT 5 [(3, .i (bendAt l (k + (1 : Nat)) - s))] ⟨(by omega), True.intro⟩ ?_; refine aops_nil (xt_n (hK _ ?_)); clear hK K
  refine aw_block ?_
  refine aw_seq_k fun K hK => wR 5 ?_; refine aX hTT 5 [] True.intro ?_; refine aops_nil (xt_n (hK _ ?_)); clear hK K
  refine w_cond (t := decide (h < bendAt l (k + (1 : Nat)) - s)) (by kernel_rfl) (fun h3 => ?_) (fun h3 => ?_)
  ·
   simp at h3
   refine aw_seq_k fun K hK => wR 6 ?_; refine aX hTT 5 [(1, .i ((↑k : Int) + (1 : Int)))] ⟨(by omega), True.intro⟩ ?_; refine aops_nil (xt_n (hK _ ?_)); clear hK K
   refine aw_ret ?_
   refine xb_r ?_
   refine xb_r ?_
   refine xt_r ?_; refine xt_r ?_
   refine xb_r ?_
   refine xt_r ?_
   rw [jumpI_some h1 h2 (by omega) (by simp [outB]; omega) hb, if_pos h3]
   refine rP (V.tup [V.i ((↑k : Int) + (1 : Int)), V.i 1, V.i 0])
  simp at h3
  refine aw_seq_k fun K hK => wR 6 ?_; refine aX hTT 6 [(3, .i (-h))] ⟨(by omega), True.intro⟩ ?_; refine aops_nil (xt_n (hK _ ?_)); clear hK K
  refine w_cond (t := decide (bendAt l (k + (1 : Nat)) - s < -h)) (by kernel_rfl) (fun h4 => ?_) (fun h4 => ?_)
  ·
   simp at h4
   refine aw_seq_k fun K hK => wR 7 ?_; refine aX hTT 5 [(1, .i ((↑k : Int) + (1 : Int)))] ⟨(by omega), True.intro⟩ ?_; refine aops_nil (xt_n (hK _ ?_)); clear hK K
   refine aw_ret ?_
   refine xb_r ?_
   refine xb_r ?_
   refine xt_r ?_; refine xt_r ?_
   refine xb_r ?_
   refine xt_r ?_
   rw [jumpI_some h1 h2 (by omega) (by simp [outB]; omega) hb, if_neg (by omega)]
   refine rP (V.tup [V.i ((↑k : Int) + (1 : Int)), V.i (-1), V.i 0])
  simp at h4
  refine aw_skip ?_
  refine xb_n ?_; refine xb_n ?_; refine xt_n (hK _ ?_); clear hK K; refine wR 7 ?_; refine aX hTT 2 [(0, .i ((↑k : Int) + (1 : Int)))] ⟨(by omega), True.intro⟩ ?_; refine aops_nil ?_; refine xt_n ?_
  refine ⟨k + 1, ⟨by omega, fun j hj => ?_⟩, ?_, by omega⟩
  ·
   by_cases he : j = k
   ·
    subst he; simp [outB]; omega
   ·
    exact hb j (by omega)
  ·
   refine le_ren [] (.cons (by kernel_rfl) (.cons (by kernel_rfl) (.cons (by kernel_rfl) (.cons (by kernel_rfl) .nil)))) .nil (by kernel_rfl) (by kernel_rfl)
 simp at hkl
 refine aw_exit ?_
 refine xt_x ?_; refine xt_x ?_
 refine xb_same ?_
 refine xt_n ?_; clear hK K; refine hK _ ?_; clear hK K; refine aw_seq_k fun K hK => wR 3 ?_; refine aX hTT 3 [] True.intro ?_; refine aops_nil (xt_n (hK _ ?_)); clear hK K
 refine aw_ret ?_
 rw [jumpI_none h1 h2 fun j hj => hb j (by omega)]
 refine rP (V.tup [V.i 0, V.i 0, V.i 5])
end Go.Proofs.YtepkjobndmmejaaGreatDoor
