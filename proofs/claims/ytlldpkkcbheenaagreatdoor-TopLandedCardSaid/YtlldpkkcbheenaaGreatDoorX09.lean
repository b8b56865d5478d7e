/-
  Several texts in one: The document's 'Sweep' is the program's. No condition but the sizes of slices. .. Drops on a cut: the plain law. Conditions: told in each theorem.
-/
import Derived.Test.YtlldpkkcbheenaaGreatDoorX08
import Derived.Test.YtlldpkkcbheenaaGreatDoorMD
import Derived.Test.YtlldpkkcbheenaaGreatDoorAbs42
namespace Go.Proofs.YtlldpkkcbheenaaGreatDoor
open Go.RowKit Go.Dw
end Go.Proofs.YtlldpkkcbheenaaGreatDoor

namespace Go.Proofs.YtlldpkkcbheenaaGreatDoor
open Go.Ab Go.RowKit Go.Dw Go.Shelf
theorem open_tl {w : World} {L : Nat → Prop} {t : List Int} {l : List Pt} {vs : Array Value} (hL : ∀ b, L b → b < w.heap.size) (h : RV w L ρ0 [.agg [V.ints t], V.pts l] vs.toList) :
  ∃ A c B d, vs = #[.agg #[.slice A t.length c], .slice B l.length d] ∧ IntsAt w A t.length t ∧ PtsAt w B l.length l := by
 obtain ⟨vs⟩ := vs
 obtain ⟨x1, e1, q1⟩ := h.get (i := 0) rfl
 obtain ⟨x2, e2, q2⟩ := h.get (i := 1) rfl
 obtain ⟨xs, rfl, hx⟩ := q1.agg_inv
 obtain ⟨xs⟩ := xs
 obtain ⟨y, e3, q3, _⟩ := hx.get (i := 0) rfl
 obtain ⟨A, c, rfl, _, ha⟩ := R_ints_inv q3 hL
 obtain ⟨B, d, rfl, _, hb⟩ := R_pts_inv q2 hL
 have hn := h.1
 have hm := hx.1
 refine ⟨A, c, B, d, ?_, ha, hb⟩
 match vs, hn, xs, hm with
 | [a, b], _, [x], _ => simp at e1 e2 e3; subst e1 e2 e3; rfl
theorem ac_of_flat {P : Program} {f : FuncId} {args : List V} {x : Value} (he : ∀ (args : Array Value) (w : World), (callFunc f args).run P w = .ok (.enter f args) w)
  (h : ∀ (L : Nat → Prop) (w : World) (vs : Array Value), (∀ b, L b → b < w.heap.size) → RV w L ρ0 args vs.toList → Calls P f vs w fun e w' => e = .returned x ∧ Below w.heap.size w w') : AC P f args (.c x) [] := by
 refine ac_of_calls he fun L w vs hL hvs => (h L w vs hL hvs).mono ?_
 rintro e w' ⟨rfl, hb⟩
 exact ⟨_, rfl, hb, fun _ => False, fun _ h => h.elim, .c _ _⟩
theorem ac_of_pts {P : Program} {f : FuncId} {args : List V} {e0 : TypeId} {l : List Pt} {n : Nat} {k : Int} (he : ∀ (args : Array Value) (w : World), (callFunc f args).run P w = .ok (.enter f args) w)
  (h : ∀ (L : Nat → Prop) (w : World) (vs : Array Value), (∀ b, L b → b < w.heap.size) → RV w L ρ0 args vs.toList → Calls P f vs w fun e w' => ∃ v, e = .returned (.tuple #[v, .int .i64 k]) ∧ w'.ownsRow w.heap.size e0 2 v n (l.flatMap encP) ∧ Below w.heap.size w w') : AC P f args (.tup [V.pts l, .i k]) [] := by
 refine ac_of_calls he fun L w vs hL hvs => (h L w vs hL hvs).mono ?_
 rintro e w' ⟨v, rfl, ho, hb⟩
 obtain ⟨N, hN, hr⟩ := own_R_pts ho
 exact ⟨_, rfl, hb, N, hN, .tup' (.cons ((hr ρ0).ext ⟨fun b hb => ⟨.inr hb, rfl⟩, fun _ _ h => h⟩) (.cons (.c _ _) .nil))⟩
section
variable (t : List Int) (l : List Pt) (ht : t.length ≤ 4611686018427387904) (hl : l.length ≤ 4611686018427387904)
include ht hl
theorem Read_ac : AC Tryz.prog 30 [.agg [V.ints t], V.pts l] (.tup [V.pts (wallsR t l), .i (checkBoth t l)]) [] := by
 refine ac_of_pts (e0 := 35) (n := (wallsR t l).length) (enters_of Tryz.func30 kR rfl) fun L w vs hL hvs => ?_
 obtain ⟨A, c, B, d, rfl, ha, hb⟩ := open_tl hL hvs
 exact Read_calls A _ c t B _ d l w ha hb ht hl
end
end Go.Proofs.YtlldpkkcbheenaaGreatDoor

namespace Go.Proofs.YtlldpkkcbheenaaGreatDoor
open Go.Ab Go.RowKit Go.Dw Go.Shelf
end Go.Proofs.YtlldpkkcbheenaaGreatDoor

namespace Go.Proofs.YtlldpkkcbheenaaGreatDoor
open Go.Ab Go.RowKit Go.Dw Go.Shelf
end Go.Proofs.YtlldpkkcbheenaaGreatDoor

namespace Go.Proofs.YtlldpkkcbheenaaGreatDoor
open Go.Ab Go.RowKit Go.Dw Go.Shelf
theorem AC.args {P : Program} {f : FuncId} {args args' : List V} {v : V} {obs : List Ob} (h : AC P f args v obs) (hc : ∀ (w : World) (L : Nat → Prop) (vs : List Value), RV w L ρ0 args' vs → RV w L ρ0 args vs) : AC P f args' v obs :=
 ⟨h.1, fun L w vs hL hgl hv => h.2 L w vs hL hgl (hc w L _ hv)⟩
end Go.Proofs.YtlldpkkcbheenaaGreatDoor

namespace Go.Proofs.YtlldpkkcbheenaaGreatDoor
open Go.Ab Go.RowKit Go.Dw Go.Shelf
theorem checkPts_ac (l : List Pt) (hl : l.length ≤ 4611686018427387904) : AC Tryz.prog 53 [V.pts l] (.i (checkPts l)) [] := by
 refine ac_of_flat (enters_of Tryz.func53 kR rfl) fun L w vs hL hvs => ?_
 obtain ⟨vs⟩ := vs
 obtain ⟨x1, e1, q1⟩ := hvs.get (i := 0) rfl
 obtain ⟨A, c, rfl, _, ha⟩ := R_pts_inv q1 hL
 have hn := hvs.1
 have hvs' : vs = [.slice A l.length c] := by
  match vs, hn with
  | [a], _ => simp at e1; subst e1; rfl
 subst hvs'
 exact checkPts_calls A _ c l w ha hl
def radB (r : Int) : Bool := decide (r < -16777216) || decide (16777216 < r)
set_option maxRecDepth 100000 in
theorem drop1_ac (r : Int) : AC Tryz.prog 55 [.i r] (.b (radB r)) [] := by
 refine acI hTT hMX Tryz.func55 Tryz.ntmps55 fun C hC hF => ?_
 refine sK fun K hK => wR 2 ?_; refine aX hTT 1 [] tI ?_; refine nK hK ?_; clear hK K; refine sK fun K hK => wR 3 ?_; refine aX hTT 7 [(3, .c (gA (decide (r < (-16777216 : Int)) == false) True)), (4, .c (gD (decide (r < (-16777216 : Int)) == false) True)), (5, .c (True ∧ (decide (r < (-16777216 : Int)) = false → (decide (r < (-16777216 : Int)) == false) = true)))] ⟨⟨⟨tI, tI⟩, (fun _ => tI)⟩, ⟨⟨(by (exact fun h => h)), ⟨tI, tI⟩⟩, (fun _ => tI)⟩, ⟨tI, (by (intro h; rw [h]; rfl))⟩, tI⟩ ?_; refine nK hK ?_; clear hK K
 refine aw_ret ?_
 refine ret_pure (.inr rfl) rfl rfl rfl
set_option maxRecDepth 100000 in
theorem indexFunc_ac (l : List Int) (hl : l.length ≤ 65536) (hb : ∀ k, k < l.length → radB (gi l k) = false) : AC Tryz.prog 119 [V.ints l, .fn (.func 55) [] []] (.i (-1)) [] := by
 refine acI hTT hMX Tryz.func119 Tryz.ntmps119 fun C hC hF => ?_
 refine sK fun K hK => wR 2 ?_; refine aX hTT 1 [] tI ?_; refine nK hK ?_; clear hK K; refine sK fun K hK => ?_; refine sK fun K hK => wR 3 ?_; refine aX hTT 3 [] tI ?_; refine nK hK ?_; clear hK K
 refine aw_block ?_
 refine w_loop (fun k : Nat => [(0, V.ints l), (1, .fn (.func 55) [] []), (7, .i l.length), (8, .i k)]) (fun _ => []) (fun k => k ≤ l.length) (fun k => l.length - k) 0 (Nat.zero_le _) ?_ ?_
 ·
  exact le_ren [] (.cons rfl (.cons rfl (.cons rfl (.cons rfl .nil)))) .nil rfl rfl
 intro k hk
 refine sK fun K hK => wR 2 ?_; refine aX hTT 1 [] tI ?_; refine nK hK ?_; clear hK K; refine sK fun K hK => ?_
 refine w_cond rfl (fun h => ?_) (fun h => ?_)
 ·
  simp at h
  refine aw_skip ?_
  refine xt_n (hK _ ?_); clear hK K; refine sK fun K hK => ?_
  refine aw_block ?_
  refine sK fun K hK => wR 3 ?_; refine aX hTT 2 [] tI ?_; refine nK hK ?_; clear hK K; refine sK fun K hK => wR 4 ?_; refine aX hTT 5 [(3, .c ((0 : Int) ≤ (↑k : Int) ∧ (↑k : Int) < (↑(List.length l) : Int)))] ⟨oM, tI⟩ ?_
  refine e_call (drop1_ac (gi l k)) rfl rfl rfl rfl rfl ?_
  refine nK hK ?_; clear hK K
  refine w_cond rfl (fun h2 => ?_) (fun h2 => ?_)
  ·
   exfalso
   have := hb k oM
   rw [this] at h2
   cases h2
  refine aw_skip ?_
  refine xb_n ?_; refine xt_n (hK _ ?_); clear hK K; refine wR 5 ?_; refine aX hTT 2 [(0, .i ((↑k : Int) + 1))] ⟨oM, tI⟩ ?_; refine aops_nil ?_; refine xt_n ?_
  refine ⟨k + 1, by omega, le_ren [] (.cons rfl (.cons rfl (.cons rfl (.cons rfl .nil)))) .nil rfl rfl, by omega⟩
 ·
  simp at h
  refine aw_exit ?_
  refine xt_x ?_; refine xt_x ?_
  refine xb_same ?_
  refine xt_n ?_; clear hK K; refine hK _ ?_; clear hK K; refine sK fun K hK => wR 3 ?_; refine aX hTT 1 [] tI ?_; refine nK hK ?_; clear hK K
  refine aw_ret ?_
  refine ret_pure (.inr rfl) rfl rfl rfl
set_option maxRecDepth 100000 in
theorem containsFunc_ac (l : List Int) (hl : l.length ≤ 65536) (hb : ∀ k, k < l.length → radB (gi l k) = false) : AC Tryz.prog 54 [V.ints l, .fn (.func 55) [] []] (.b false) [] := by
 refine acI hTT hMX Tryz.func54 Tryz.ntmps54 fun C hC hF => ?_
 refine sK fun K hK => wR 2 ?_; refine aX hTT 1 [] tI ?_; refine nK hK ?_; clear hK K; refine sK fun K hK => wR 3 ?_; refine aX hTT 2 [] tI ?_
 refine e_call (indexFunc_ac l hl hb) rfl rfl rfl rfl rfl ?_
 refine aX hTT 2 [] tI ?_; refine nK hK ?_; clear hK K
 refine aw_ret ?_
 refine ret_pure (.inr rfl) rfl rfl rfl
def dropIn (l : List Pt) (radii : List Int) (x : Int) (i : Nat) : Bool := decide (gi radii i + (gp l i).1 ≤ x) && decide (x ≤ gi radii i + (gp l i).2)
def dropL (l : List Pt) (radii : List Int) (per angle : Nat) (x : Int) : Option Nat := (List.range l.length).find? fun i => decide (i % per = angle) && dropIn l radii x i
def dropI (l : List Pt) (radii : List Int) (per angle : Nat) (x : Int) : Int × Int := match dropL l radii per angle x with
 | some i => ((i : Int), 0)
 | none => (0, 5)
theorem mod_between {per angle i e : Nat} (hi : i % per = angle) (hp : 0 < per) (h0 : 0 < e) (h1 : e < per) : (i + e) % per ≠ angle := by
 have ha : angle < per := by rw [← hi]; exact Nat.mod_lt _ hp
 have e1 : (i + e) % per = (angle + e) % per := by rw [← hi, Nat.mod_add_mod]
 rw [e1]
 by_cases h : angle + e < per
 ·
  rw [Nat.mod_eq_of_lt h]; omega
 ·
  rw [Nat.mod_eq_sub_mod oM, Nat.mod_eq_of_lt oM]; omega
theorem dropI_some {l : List Pt} {radii : List Int} {per angle : Nat} {x : Int} {i : Nat} (hi : i < l.length) (hm : i % per = angle) (hd : dropIn l radii x i = true) (h : ∀ j, j < i → (decide (j % per = angle) && dropIn l radii x j) = false) : dropI l radii per angle x = ((i : Int), 0) := by
 have : dropL l radii per angle x = some i := find_first hi (by simp [hm, hd]) h
 rw [dropI, this]
theorem dropI_none {l : List Pt} {radii : List Int} {per angle : Nat} {x : Int} (h : ∀ j, j < l.length → (decide (j % per = angle) && dropIn l radii x j) = false) : dropI l radii per angle x = (0, 5) := by
 have : dropL l radii per angle x = none := find_none h
 rw [dropI, this]
abbrev yyPAb70 (l : List Pt) : V := V.sl 2 (List.length l) fun (k : Nat) => [V.i (Prod.fst (gp l k)), V.i (Prod.snd (gp l k))]
set_option maxRecDepth 100000 in
theorem Drop_ac (l : List Pt) (radii : List Int) (per angle : Nat) (x : Int) (h0 : checkPts l = 0) (hr : radii.length = l.length) (hb : ∀ k, k < radii.length → radB (gi radii k) = false) (hp : 1 ≤ per ∧ per ≤ 65536) (ha : angle < per) :
  AC Tryz.prog 15 [V.pts l, V.ints radii, .i per, .i angle, .i x] (.tup [.i (dropI l radii per angle x).1, .i (dropI l radii per angle x).2]) [] := by
 obtain ⟨m4, m5⟩ := checkPts_ok h0
 refine acI hTT hMX Tryz.func15 Tryz.ntmps15 fun C hC hF => ?_
 refine sK fun K hK => wR 2 ?_
 refine aops_n hTT (M := []) (n := 2) [pv 10 (V.i 0), pv 11 (V.i 0)] kR kR tI ?_
 refine nK hK ?_; clear hK K; refine sK fun K hK => ?_; refine sK fun K hK => wR 3 ?_
 refine aops_n hTT (M := []) (n := 1) [pv 15 ((yyPAb70 l))] kR kR tI ?_
 refine e_call (checkPts_ac l oM) rfl rfl rfl rfl rfl ?_
 refine aops_n hTT (M := []) (n := 1) [pv 12 (V.i (checkPts l))] kR kR tI ?_
 refine nK hK ?_; clear hK K; refine sK fun K hK => wR 4 ?_
 refine aops_n hTT (M := []) (n := 2) [pv 17 (V.i (checkPts l)), pv 18 (V.b !decide (checkPts l = 0))] kR kR tI ?_
 refine nK hK ?_; clear hK K
 refine w_cond rfl (fun h => ?_) (fun h => ?_)
 ·
  simp [h0] at h
 refine aw_skip ?_
 refine xt_n (hK _ ?_); clear hK K; refine sK fun K hK => ?_
 refine aw_block ?_
 refine sK fun K hK => wR 5 ?_
 refine aops_n hTT (M := []) (n := 6) [pv 21 (V.sl 1 (List.length radii) fun (k : Nat) => [V.i (gi radii k)]), pv 22 (V.i (↑(List.length radii) : Int)), pv 23 ((yyPAb70 l)), pv 24 (V.i (↑(List.length l) : Int)), pv 25 (V.b !decide ((↑(List.length radii) : Int) = (↑(List.length l) : Int))), pv 20 (V.b !decide ((↑(List.length radii) : Int) = (↑(List.length l) : Int)))] kR kR tI ?_
 refine nK hK ?_; clear hK K
 refine w_cond rfl (fun h => ?_) (fun h => ?_)
 ·
  simp [hr] at h
 refine sK fun K hK => wR 6 ?_
 refine aops_n hTT (M := []) (n := 1) [pv 27 (V.sl 1 (List.length radii) fun (k : Nat) => [V.i (gi radii k)])] kR kR tI ?_
 refine e_call (containsFunc_ac radii oM hb) rfl rfl rfl rfl rfl ?_
 refine aops_n hTT (M := []) (n := 1) [pv 26 (V.b false)] kR kR tI ?_
 refine nK hK ?_; clear hK K; refine w_false (t := false) kR rfl ?_; refine sK fun K hK => wR 7 ?_
 refine aops_n hTT (M := []) (n := 16) [pv 30 (V.i (↑per : Int)), pv 31 (V.b (decide ((↑per : Int) < 1))), pv 32 (V.b (decide ((↑per : Int) < 1))), pc 33 ((True ∧ True) ∧ ((decide ((↑per : Int) < 1) == false) = true → True)) (V.gd (decide ((↑per : Int) < 1) == false) (V.i (↑per : Int))), pc 34 ((((decide ((↑per : Int) < 1) == false) = true → (decide ((↑per : Int) < 1) == false) = true) ∧ True ∧ True) ∧ ((decide ((↑per : Int) < 1) == false) = true → True)) (V.gd (decide ((↑per : Int) < 1) == false) (V.b (decide ((65536 : Int) < (↑per : Int))))), pc 35 (True ∧ (decide ((↑per : Int) < 1) = false → (decide ((↑per : Int) < 1) == false) = true)) (V.b (decide ((↑per : Int) < 1) || decide ((65536 : Int) < (↑per : Int)))), pv 36 (V.b (decide ((↑per : Int) < 1) || decide ((65536 : Int) < (↑per : Int)))), pc 37 ((True ∧ True) ∧ (((decide ((↑per : Int) < 1) || decide ((65536 : Int) < (↑per : Int))) == false) = true → True)) (V.gd ((decide ((↑per : Int) < 1) || decide ((65536 : Int) < (↑per : Int))) == false) (V.i (↑angle : Int))), pc 38 (((((decide ((↑per : Int) < 1) || decide ((65536 : Int) < (↑per : Int))) == false) = true → ((decide ((↑per : Int) < 1) || decide ((65536 : Int) < (↑per : Int))) == false) = true) ∧ True ∧ True) ∧ (((decide ((↑per : Int) < 1) || decide ((65536 : Int) < (↑per : Int))) == false) = true → True)) (V.gd ((decide ((↑per : Int) < 1) || decide ((65536 : Int) < (↑per : Int))) == false) (V.b (decide ((↑angle : Int) < 0)))), pc 39 (True ∧ ((decide ((↑per : Int) < 1) || decide ((65536 : Int) < (↑per : Int))) = false → ((decide ((↑per : Int) < 1) || decide ((65536 : Int) < (↑per : Int))) == false) = true)) (V.b (decide ((↑per : Int) < 1) || decide ((65536 : Int) < (↑per : Int)) || decide ((↑angle : Int) < 0))), pv 40 (V.b (decide ((↑per : Int) < 1) || decide ((65536 : Int) < (↑per : Int)) || decide ((↑angle : Int) < 0))), pc 41 ((True ∧ True) ∧ (((decide ((↑per : Int) < 1) || decide ((65536 : Int) < (↑per : Int)) || decide ((↑angle : Int) < 0)) == false) = true → True)) (V.gd ((decide ((↑per : Int) < 1) || decide ((65536 : Int) < (↑per : Int)) || decide ((↑angle : Int) < 0)) == false) (V.i (↑angle : Int))), pc 42 ((True ∧ True) ∧ (((decide ((↑per : Int) < 1) || decide ((65536 : Int) < (↑per : Int)) || decide ((↑angle : Int) < 0)) == false) = true → True)) (V.gd ((decide ((↑per : Int) < 1) || decide ((65536 : Int) < (↑per : Int)) || decide ((↑angle : Int) < 0)) == false) (V.i (↑per : Int))), pc 43 (((((decide ((↑per : Int) < 1) || decide ((65536 : Int) < (↑per : Int)) || decide ((↑angle : Int) < 0)) == false) = true → ((decide ((↑per : Int) < 1) || decide ((65536 : Int) < (↑per : Int)) || decide ((↑angle : Int) < 0)) == false) = true) ∧ (((decide ((↑per : Int) < 1) || decide ((65536 : Int) < (↑per : Int)) || decide ((↑angle : Int) < 0)) == false) = true → ((decide ((↑per : Int) < 1) || decide ((65536 : Int) < (↑per : Int)) || decide ((↑angle : Int) < 0)) == false) = true) ∧ True) ∧ (((decide ((↑per : Int) < 1) || decide ((65536 : Int) < (↑per : Int)) || decide ((↑angle : Int) < 0)) == false) = true → True)) (V.gd ((decide ((↑per : Int) < 1) || decide ((65536 : Int) < (↑per : Int)) || decide ((↑angle : Int) < 0)) == false) (V.b (decide ((↑per : Int) ≤ (↑angle : Int))))), pc 44 (True ∧ ((decide ((↑per : Int) < 1) || decide ((65536 : Int) < (↑per : Int)) || decide ((↑angle : Int) < 0)) = false → ((decide ((↑per : Int) < 1) || decide ((65536 : Int) < (↑per : Int)) || decide ((↑angle : Int) < 0)) == false) = true)) (V.b (decide ((↑per : Int) < 1) || decide ((65536 : Int) < (↑per : Int)) || decide ((↑angle : Int) < 0) || decide ((↑per : Int) ≤ (↑angle : Int)))), pv 29 (V.b (decide ((↑per : Int) < 1) || decide ((65536 : Int) < (↑per : Int)) || decide ((↑angle : Int) < 0) || decide ((↑per : Int) ≤ (↑angle : Int))))] kR kR ⟨⟨⟨tI, tI⟩, (fun _ => tI)⟩, ⟨⟨(by (exact fun h => h)), ⟨tI, tI⟩⟩, (fun _ => tI)⟩, ⟨tI, (by (intro h; rw [h]; rfl))⟩, ⟨⟨tI, tI⟩, (fun _ => tI)⟩, ⟨⟨(by (exact fun h => h)), ⟨tI, tI⟩⟩, (fun _ => tI)⟩, ⟨tI, (by (intro h; rw [h]; rfl))⟩, ⟨⟨tI, tI⟩, (fun _ => tI)⟩, ⟨⟨tI, tI⟩, (fun _ => tI)⟩, ⟨⟨(by (exact fun h => h)), ⟨(by (exact fun h => h)), tI⟩⟩, (fun _ => tI)⟩, ⟨tI, (by (intro h; rw [h]; rfl))⟩, tI⟩ ?_
 refine nK hK ?_; clear hK K
 refine w_cond rfl (fun h => ?_) (fun h => ?_)
 ·
  simp at h; omega
 refine aw_skip ?_
 refine xb_n ?_; refine xt_n (hK _ ?_); clear hK K; refine sK fun K hK => ?_; refine sK fun K hK => wR 8 ?_
 refine aops_n hTT (M := []) (n := 2) [pv 45 (V.i (↑angle : Int)), pv 13 (V.i (↑angle : Int))] kR kR tI ?_
 refine nK hK ?_; clear hK K
 refine aw_block ?_
 refine w_loop (fun i : Nat => [(0, V.pts l), (1, V.ints radii), (2, .i per), (4, .i x), (13, .i i)]) (fun _ => []) (fun i => i % per = angle ∧ ∀ j, j < i → (decide (j % per = angle) && dropIn l radii x j) = false) (fun i => l.length - i) angle ⟨Nat.mod_eq_of_lt ha, fun j hj => by simp [Nat.mod_eq_of_lt (show j < per by omega)]; omega⟩ ?_ ?_
 ·
  exact le_ren [] (.cons rfl (.cons rfl (.cons rfl (.cons rfl (.cons rfl .nil))))) .nil rfl rfl
 rintro i ⟨hi, hbad⟩
 refine sK fun K hK => ?_; refine sK fun K hK => wR 2 ?_
 refine aops_n hTT (M := []) (n := 4) [pv 46 (V.i (↑i : Int)), pv 47 ((yyPAb70 l)), pv 48 (V.i (↑(List.length l) : Int)), pv 49 (V.b (decide ((↑i : Int) < (↑(List.length l) : Int))))] kR kR tI ?_
 refine nK hK ?_; clear hK K
 refine w_cond rfl (fun h => ?_) (fun h => ?_)
 ·
  simp at h
  have b0 := gp_bd m5 i
  have b1 : -16777216 ≤ gi radii i ∧ gi radii i ≤ 16777216 := by
   have := hb i oM
   simp [radB] at this
   simpa using this
  have hri : i < radii.length := by omega
  refine aw_skip ?_
  refine xt_n (hK _ ?_); clear hK K; refine sK fun K hK => ?_
  refine aw_block ?_
  refine sK fun K hK => wR 3 ?_
  refine aops_n hTT (M := []) (n := 5) [pv 53 (V.sl 1 (List.length radii) fun (k : Nat) => [V.i (gi radii k)]), pv 54 (V.i (↑i : Int)), pc 55 ((0 : Int) ≤ (↑i : Int) ∧ (↑i : Int) < (↑(List.length radii) : Int)) (V.ptr [V.i (gi radii i)]), pv 56 (V.i (gi radii i)), pv 14 (V.i (gi radii i))] kR kR ⟨oM, tI⟩ ?_
  refine nK hK ?_; clear hK K; refine sK fun K hK => wR 4 ?_
  refine aops_n hTT (M := []) (n := 20) [pv 57 (V.i x), pv 58 (V.i (gi radii i)), pv 59 ((yyPAb70 l)), pv 60 (V.i (↑i : Int)), pc 61 ((0 : Int) ≤ (↑i : Int) ∧ (↑i : Int) < (↑(List.length l) : Int)) (V.ptr [V.i (Prod.fst (gp l i)), V.i (Prod.snd (gp l i))]), pv 62 (V.ptr [V.i (Prod.fst (gp l i)), V.i (Prod.snd (gp l i))]), pv 63 (V.i (Prod.fst (gp l i))), pc 64 ((-9223372036854775808 : Int) ≤ gi radii i + Prod.fst (gp l i) ∧ gi radii i + Prod.fst (gp l i) ≤ 9223372036854775807) (V.i (gi radii i + Prod.fst (gp l i))), pv 65 (V.b (decide (gi radii i + Prod.fst (gp l i) ≤ x))), pv 66 (V.b (decide (gi radii i + Prod.fst (gp l i) ≤ x))), pc 67 ((True ∧ True) ∧ ((decide (gi radii i + Prod.fst (gp l i) ≤ x) == true) = true → True)) (V.gd (decide (gi radii i + Prod.fst (gp l i) ≤ x) == true) (V.i x)), pc 68 ((True ∧ True) ∧ ((decide (gi radii i + Prod.fst (gp l i) ≤ x) == true) = true → True)) (V.gd (decide (gi radii i + Prod.fst (gp l i) ≤ x) == true) (V.i (gi radii i))), pc 69 ((True ∧ True) ∧ ((decide (gi radii i + Prod.fst (gp l i) ≤ x) == true) = true → True)) (V.gd (decide (gi radii i + Prod.fst (gp l i) ≤ x) == true) ((yyPAb70 l))), pc 70 ((True ∧ True) ∧ ((decide (gi radii i + Prod.fst (gp l i) ≤ x) == true) = true → True)) (V.gd (decide (gi radii i + Prod.fst (gp l i) ≤ x) == true) (V.i (↑i : Int))), pc 71 ((((decide (gi radii i + Prod.fst (gp l i) ≤ x) == true) = true → (decide (gi radii i + Prod.fst (gp l i) ≤ x) == true) = true) ∧ ((decide (gi radii i + Prod.fst (gp l i) ≤ x) == true) = true → (decide (gi radii i + Prod.fst (gp l i) ≤ x) == true) = true) ∧ True) ∧ ((decide (gi radii i + Prod.fst (gp l i) ≤ x) == true) = true → (0 : Int) ≤ (↑i : Int) ∧ (↑i : Int) < (↑(List.length l) : Int))) (V.gd (decide (gi radii i + Prod.fst (gp l i) ≤ x) == true) (V.ptr [V.i (Prod.fst (gp l i)), V.i (Prod.snd (gp l i))])), pc 72 ((((decide (gi radii i + Prod.fst (gp l i) ≤ x) == true) = true → (decide (gi radii i + Prod.fst (gp l i) ≤ x) == true) = true) ∧ True) ∧ ((decide (gi radii i + Prod.fst (gp l i) ≤ x) == true) = true → True)) (V.gd (decide (gi radii i + Prod.fst (gp l i) ≤ x) == true) (V.ptr [V.i (Prod.snd (gp l i))])), pc 73 ((((decide (gi radii i + Prod.fst (gp l i) ≤ x) == true) = true → (decide (gi radii i + Prod.fst (gp l i) ≤ x) == true) = true) ∧ True) ∧ ((decide (gi radii i + Prod.fst (gp l i) ≤ x) == true) = true → True)) (V.gd (decide (gi radii i + Prod.fst (gp l i) ≤ x) == true) (V.i (Prod.snd (gp l i)))), pc 74 ((((decide (gi radii i + Prod.fst (gp l i) ≤ x) == true) = true → (decide (gi radii i + Prod.fst (gp l i) ≤ x) == true) = true) ∧ ((decide (gi radii i + Prod.fst (gp l i) ≤ x) == true) = true → (decide (gi radii i + Prod.fst (gp l i) ≤ x) == true) = true) ∧ True) ∧ ((decide (gi radii i + Prod.fst (gp l i) ≤ x) == true) = true → (-9223372036854775808 : Int) ≤ gi radii i + Prod.snd (gp l i) ∧ gi radii i + Prod.snd (gp l i) ≤ 9223372036854775807)) (V.gd (decide (gi radii i + Prod.fst (gp l i) ≤ x) == true) (V.i (gi radii i + Prod.snd (gp l i)))), pc 75 ((((decide (gi radii i + Prod.fst (gp l i) ≤ x) == true) = true → (decide (gi radii i + Prod.fst (gp l i) ≤ x) == true) = true) ∧ ((decide (gi radii i + Prod.fst (gp l i) ≤ x) == true) = true → (decide (gi radii i + Prod.fst (gp l i) ≤ x) == true) = true) ∧ True) ∧ ((decide (gi radii i + Prod.fst (gp l i) ≤ x) == true) = true → True)) (V.gd (decide (gi radii i + Prod.fst (gp l i) ≤ x) == true) (V.b (decide (x ≤ gi radii i + Prod.snd (gp l i))))), pc 76 ((decide (gi radii i + Prod.fst (gp l i) ≤ x) = true → (decide (gi radii i + Prod.fst (gp l i) ≤ x) == true) = true) ∧ True) (V.b (decide (gi radii i + Prod.fst (gp l i) ≤ x) && decide (x ≤ gi radii i + Prod.snd (gp l i))))] kR kR ⟨oM, oM, ⟨⟨tI, tI⟩, (fun _ => tI)⟩, ⟨⟨tI, tI⟩, (fun _ => tI)⟩, ⟨⟨tI, tI⟩, (fun _ => tI)⟩, ⟨⟨tI, tI⟩, (fun _ => tI)⟩, ⟨⟨(by (exact fun h => h)), ⟨(by (exact fun h => h)), tI⟩⟩, (by (intro hg; simp at hg; omega))⟩, ⟨⟨(by (exact fun h => h)), tI⟩, (fun _ => tI)⟩, ⟨⟨(by (exact fun h => h)), tI⟩, (fun _ => tI)⟩, ⟨⟨(by (exact fun h => h)), ⟨(by (exact fun h => h)), tI⟩⟩, (by (intro hg; simp at hg; omega))⟩, ⟨⟨(by (exact fun h => h)), ⟨(by (exact fun h => h)), tI⟩⟩, (fun _ => tI)⟩, ⟨(by (intro h; rw [h]; rfl)), tI⟩, tI⟩ ?_
  refine nK hK ?_; clear hK K
  refine w_cond rfl (fun h2 => ?_) (fun h2 => ?_)
  ·
   refine sK fun K hK => wR 5 ?_
   refine aops_n hTT (M := []) (n := 3) [pv 77 (V.i (↑i : Int)), pv 10 (V.i (↑i : Int)), pv 11 (V.i 0)] kR kR tI ?_
   refine nK hK ?_; clear hK K
   refine aw_ret ?_
   refine xb_r ?_
   refine xt_r ?_; refine xt_r ?_
   refine xb_r ?_
   refine xt_r ?_
   rw [dropI_some h hi h2 hbad]
   refine ret_pure (.inr rfl) rfl rfl rfl
  ·
   refine aw_skip ?_
   refine xb_n ?_; refine xt_n (hK _ ?_); clear hK K; refine wR 5 ?_
   refine aops_n hTT (M := []) (n := 4) [pv 50 (V.i (↑i : Int)), pv 51 (V.i (↑per : Int)), pc 52 ((-9223372036854775808 : Int) ≤ (↑i : Int) + (↑per : Int) ∧ (↑i : Int) + (↑per : Int) ≤ 9223372036854775807) (V.i ((↑i : Int) + (↑per : Int))), pv 13 (V.i ((↑i : Int) + (↑per : Int)))] kR kR ⟨oM, tI⟩ ?_
   refine aops_nil ?_; refine xt_n ?_
   refine ⟨i + per, ⟨by simpa using hi, fun j hj => ?_⟩, le_ren [] (.cons rfl (.cons rfl (.cons rfl (.cons rfl (.cons rfl .nil))))) .nil rfl rfl, by omega⟩
   by_cases h3 : j < i
   ·
    exact hbad j h3
   ·
    by_cases h4 : j = i
    ·
     subst h4
     have : dropIn l radii x j = false := h2
     simp [this]
    ·
     have := mod_between (e := j - i) hi oM oM oM
     rw [show i + (j - i) = j by omega] at this
     simp [this]
 ·
  simp at h
  refine aw_exit ?_
  refine xt_x ?_; refine xt_x ?_
  refine xb_same ?_
  refine xt_n ?_; clear hK K; refine hK _ ?_; clear hK K; refine sK fun K hK => wR 3 ?_
  refine aops_n hTT (M := []) (n := 2) [pv 10 (V.i 0), pv 11 (V.i 5)] kR kR tI ?_
  refine nK hK ?_; clear hK K
  refine aw_ret ?_
  rw [dropI_none fun j hj => hbad j oM]
  refine ret_pure (.inr rfl) rfl rfl rfl
end Go.Proofs.YtlldpkkcbheenaaGreatDoor

namespace Go.Proofs.YtlldpkkcbheenaaGreatDoor
open Go.Ab Go.RowKit Go.Dw Go.Shelf
def landAt (lands : List Int) (i : Nat) : Int := if i < lands.length then 1 + gi lands i else 1
def radAt (l : List Pt) (lands : List Int) (n : Nat) (i : Nat) : Int :=
 if _h : 0 < n ∧ n ≤ i then radAt l lands n (i - n) + (gp l (i - n)).1 - (gp l i).2 - landAt lands i else 4194304
termination_by i
decreasing_by omega
theorem radAt_far {l : List Pt} {lands : List Int} {n i : Nat} (h0 : 0 < n) (h : n ≤ i) : radAt l lands n i = radAt l lands n (i - n) + (gp l (i - n)).1 - (gp l i).2 - landAt lands i := by
 rw [radAt, dif_pos ⟨h0, h⟩]
theorem landAt_pos {lands : List Int} (h : ∀ x ∈ lands, 0 ≤ x) (i : Nat) : 1 ≤ landAt lands i := by
 unfold landAt
 split
 ·
  have := h _ (gi_mem (by assumption)); omega
 ·
  exact Int.le_refl _
def WideL (l : List Pt) : Prop := ∀ i, i < l.length → (gp l i).1 ≤ (gp l i).2
theorem chain {l : List Pt} {lands : List Int} {n : Nat} (h0 : 0 < n) (hl : ∀ x ∈ lands, 0 ≤ x) (hw : WideL l) (k : Nat) : ∀ m, k + (m + 1) * n < l.length →
  radAt l lands n (k + (m + 1) * n) + (gp l (k + (m + 1) * n)).2 + 1 ≤ radAt l lands n k + (gp l k).1
 | 0, h => by
  have := radAt_far (l := l) (lands := lands) h0 (show n ≤ k + (0 + 1) * n by omega)
  rw [show k + (0 + 1) * n - n = k by omega] at this
  have := landAt_pos hl (k + (0 + 1) * n)
  omega
 | m + 1, h => by
  have e : k + (m + 1 + 1) * n = (k + (m + 1) * n) + n := by rw [Nat.add_mul (m + 1) 1 n]; omega
  rw [e] at h ⊢
  have ih := chain h0 hl hw k m oM
  have := radAt_far (l := l) (lands := lands) h0 (show n ≤ (k + (m + 1) * n) + n by omega)
  rw [Nat.add_sub_cancel] at this
  have := landAt_pos hl ((k + (m + 1) * n) + n)
  have := hw (k + (m + 1) * n) oM
  omega
theorem turns {n i j : Nat} (hj : j < i) (h : j % n = i % n) : ∃ m, i = j + (m + 1) * n := by
 have hd : n ∣ i - j := Nat.dvd_of_mod_eq_zero (Nat.sub_mod_eq_zero_of_mod_eq h.symm)
 obtain ⟨q, hq⟩ := hd
 cases q with
 | zero => simp at hq; omega
 | succ q => exact ⟨q, by rw [Nat.mul_comm] at hq; omega⟩
theorem farther {l : List Pt} {lands : List Int} {n : Nat} (h0 : 0 < n) (hl : ∀ x ∈ lands, 0 ≤ x) (hw : WideL l) {i j : Nat} (hj : j < i) (hi : i < l.length) (h : j % n = i % n) :
  radAt l lands n i + (gp l i).2 + 1 ≤ radAt l lands n j + (gp l j).1 := by
 obtain ⟨m, rfl⟩ := turns hj h
 exact chain h0 hl hw j m hi
end Go.Proofs.YtlldpkkcbheenaaGreatDoor

namespace Go.Proofs.YtlldpkkcbheenaaGreatDoor
open Go.Ab Go.RowKit Go.Dw Go.Shelf
def TurnsOk (l : List Pt) (o : List Int) (n : Nat) : Prop := ∀ k, k < l.length → n ≤ k → gi o k + (gp l k).2 + 1 ≤ gi o (k - n) + (gp l (k - n)).1
theorem turns_chain {l : List Pt} {o : List Int} {n : Nat} (h0 : 0 < n) (hw : WideL l) (hL : TurnsOk l o n) (i : Nat) : ∀ m, i + (m + 1) * n < l.length → gi o (i + (m + 1) * n) + (gp l (i + (m + 1) * n)).2 + 1 ≤ gi o i + (gp l i).1
 | 0, h => by
  have := hL (i + (0 + 1) * n) h oM
  rwa [show i + (0 + 1) * n - n = i by omega] at this
 | m + 1, h => by
  have e : i + (m + 1 + 1) * n - n = i + (m + 1) * n := by rw [Nat.add_mul (m + 1) 1 n]; omega
  have hlt : i + (m + 1) * n < l.length := by omega
  have h1 := hL (i + (m + 1 + 1) * n) h (by rw [Nat.add_mul (m + 1) 1 n]; omega)
  rw [e] at h1
  have h2 := turns_chain h0 hw hL i m hlt
  have h3 := hw (i + (m + 1) * n) hlt
  omega
theorem turns_far {l : List Pt} {o : List Int} {n i j : Nat} (h0 : 0 < n) (hw : WideL l) (hL : TurnsOk l o n) (hi : i < l.length) (hj : j < i) (h : j % n = i % n) : gi o i + (gp l i).2 + 1 ≤ gi o j + (gp l j).1 := by
 obtain ⟨m, rfl⟩ := turns hj h
 exact turns_chain h0 hw hL j m hi
theorem landed_in {l : List Pt} {o : List Int} {n i : Nat} {x : Int} (h0 : 0 < n) (hw : WideL l) (hL : TurnsOk l o n) (hi : i < l.length) (h1 : gi o i + (gp l i).1 ≤ x) (h2 : x ≤ gi o i + (gp l i).2) : dropI l o n (i % n) x = ((i : Int), 0) := by
 refine dropI_some hi rfl (by simp [dropIn, h1, h2]) fun j hj => ?_
 by_cases hm : j % n = i % n
 ·
  have := turns_far h0 hw hL hi hj hm
  have h3 : ¬ gi o j + (gp l j).1 ≤ x := by omega
  simp [dropIn, h3]
 ·
  simp [hm]
theorem landed_no {l : List Pt} {o : List Int} {n i : Nat} {x : Int} (h0 : 0 < n) (hw : WideL l) (hL : TurnsOk l o n) (hi : i < l.length) (hn : n ≤ i) (h1 : gi o i + (gp l i).2 < x) (h2 : x < gi o (i - n) + (gp l (i - n)).1) : dropI l o n (i % n) x = (0, 5) := by
 have : dropL l o n (i % n) x = none := find_none fun j hj => by
  by_cases hm : j % n = i % n
  ·
   have key : ¬ (gi o j + (gp l j).1 ≤ x ∧ x ≤ gi o j + (gp l j).2) := by
    rintro ⟨q1, q2⟩
    rcases Nat.lt_trichotomy j i with hji | rfl | hij
    ·
     obtain ⟨m, hm2⟩ := turns hji hm
     have hle : j ≤ i - n := by rw [hm2, Nat.add_mul]; omega
     rcases Nat.lt_or_eq_of_le hle with hlt | rfl
     ·
      have h3 := turns_far h0 hw hL (i := i - n) oM hlt (by
       rw [hm]
       have : (i - n + n) % n = (i - n) % n := Nat.add_mod_right _ _
       rwa [Nat.sub_add_cancel hn] at this)
      have h4 := hw (i - n) oM
      omega
     ·
      omega
    ·
     omega
    ·
     have h3 := turns_far h0 hw hL hj hij hm.symm
     have h4 := hw i hi
     omega
   by_cases ha : gi o j + (gp l j).1 ≤ x
   ·
    have hb : ¬ x ≤ gi o j + (gp l j).2 := fun hb => key ⟨ha, hb⟩
    simp [dropIn, hb]
   ·
    simp [dropIn, ha]
  ·
   simp [hm]
 rw [dropI, this]
end Go.Proofs.YtlldpkkcbheenaaGreatDoor
