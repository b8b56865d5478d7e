/-
  Several texts in one: The contracts of package play, and of its reference, for values without addresses. No condition. .. Which cutters are valid: the walks of both copies. No condition.
-/
import Derived.Test.YtplnhbenmgclfaaGreatDoorX05
import Derived.Test.YtplnhbenmgclfaaGreatDoorMD
import Derived.Test.YtplnhbenmgclfaaGreatDoorAbs42
import Derived.Test.YtplnhbenmgclfaaGreatDoorMC
namespace Go.Proofs.YtplnhbenmgclfaaGreatDoor
open Go.Ab Go.RowKit Go.Dw Go.Shelf
theorem open_tl {w : World} {L : Nat → Prop} {t : List Int} {l : List Pt} {vs : Array Value} (hL : ∀ b, L b → b < w.heap.size) (h : RV w L ρ0 [.agg [V.ints t], V.pts l] vs.toList) :
  ∃ A c B d, vs = #[.agg #[.slice A t.length c], .slice B l.length d] ∧ IntsAt w A t.length t ∧ PtsAt w B l.length l := by
 obtain ⟨vs⟩ := vs
 obtain ⟨x1, e1, q1⟩ := h.get (i := 0) rfl
 obtain ⟨x2, e2, q2⟩ := h.get (i := 1) rfl
 obtain ⟨xs, rfl, hx⟩ := q1.agg_inv
 obtain ⟨xs⟩ := xs
 obtain ⟨y, e3, q3, _⟩ := hx.get (i := 0) rfl
 obtain ⟨A, c, rfl, _, ha⟩ := R_ints_inv q3 hL
 obtain ⟨B, d, rfl, _, hb⟩ := R_pts_inv q2 hL
 have hn := h.1
 have hm := hx.1
 refine ⟨A, c, B, d, ?_, ha, hb⟩
 match vs, hn, xs, hm with
 | [a, b], _, [x], _ => simp at e1 e2 e3; subst e1 e2 e3; rfl
theorem ac_of_flat {P : Program} {f : FuncId} {args : List V} {x : Value} (he : ∀ (args : Array Value) (w : World), (callFunc f args).run P w = .ok (.enter f args) w)
  (h : ∀ (L : Nat → Prop) (w : World) (vs : Array Value), (∀ b, L b → b < w.heap.size) → RV w L ρ0 args vs.toList → Calls P f vs w fun e w' => e = .returned x ∧ Below w.heap.size w w') : AC P f args (.c x) [] := by
 refine ac_of_calls he fun L w vs hL hvs => (h L w vs hL hvs).mono ?_
 rintro e w' ⟨rfl, hb⟩
 exact ⟨_, rfl, hb, fun _ => False, fun _ h => h.elim, .c _ _⟩
theorem ac_of_pts {P : Program} {f : FuncId} {args : List V} {e0 : TypeId} {l : List Pt} {n : Nat} {k : Int} (he : ∀ (args : Array Value) (w : World), (callFunc f args).run P w = .ok (.enter f args) w)
  (h : ∀ (L : Nat → Prop) (w : World) (vs : Array Value), (∀ b, L b → b < w.heap.size) → RV w L ρ0 args vs.toList → Calls P f vs w fun e w' => ∃ v, e = .returned (.tuple #[v, .int .i64 k]) ∧ w'.ownsRow w.heap.size e0 2 v n (l.flatMap encP) ∧ Below w.heap.size w w') : AC P f args (.tup [V.pts l, .i k]) [] := by
 refine ac_of_calls he fun L w vs hL hvs => (h L w vs hL hvs).mono ?_
 rintro e w' ⟨v, rfl, ho, hb⟩
 obtain ⟨N, hN, hr⟩ := own_R_pts ho
 exact ⟨_, rfl, hb, N, hN, .tup' (.cons ((hr ρ0).ext ⟨fun b hb => ⟨.inr hb, rfl⟩, fun _ _ h => h⟩) (.cons (.c _ _) .nil))⟩
section
variable (t : List Int) (l : List Pt) (ht : t.length ≤ 4611686018427387904) (hl : l.length ≤ 4611686018427387904)
include ht hl
theorem check_ac : AC Tryz.prog 80 [.agg [V.ints t], V.pts l] (.i (checkBoth t l)) [] := by
 refine ac_of_flat (enters_of Tryz.func80 kR rfl) fun L w vs hL hvs => ?_
 obtain ⟨A, c, B, d, rfl, ha, hb⟩ := open_tl hL hvs
 exact check_calls A _ c t B _ d l w ha ht hb hl
theorem Read_ac : AC Tryz.prog 76 [.agg [V.ints t], V.pts l] (.tup [V.pts (wallsR t l), .i (checkBoth t l)]) [] := by
 refine ac_of_pts (e0 := 53) (n := (wallsR t l).length) (enters_of Tryz.func76 kR rfl) fun L w vs hL hvs => ?_
 obtain ⟨A, c, B, d, rfl, ha, hb⟩ := open_tl hL hvs
 exact Read_calls A _ c t B _ d l w ha hb ht hl
end
end Go.Proofs.YtplnhbenmgclfaaGreatDoor

namespace Go.Proofs.YtplnhbenmgclfaaGreatDoor
open Go.Ab Go.RowKit Go.Dw Go.Shelf
end Go.Proofs.YtplnhbenmgclfaaGreatDoor

namespace Go.Proofs.YtplnhbenmgclfaaGreatDoor
open Go.Ab Go.RowKit Go.Dw Go.Shelf
end Go.Proofs.YtplnhbenmgclfaaGreatDoor

namespace Go.Proofs.YtplnhbenmgclfaaGreatDoor
open Go.Ab Go.RowKit Go.Dw Go.Shelf
theorem AC.args {P : Program} {f : FuncId} {args args' : List V} {v : V} {obs : List Ob} (h : AC P f args v obs) (hc : ∀ (w : World) (L : Nat → Prop) (vs : List Value), RV w L ρ0 args' vs → RV w L ρ0 args vs) : AC P f args' v obs :=
 ⟨h.1, fun L w vs hL hgl hv => h.2 L w vs hL hgl (hc w L _ hv)⟩
end Go.Proofs.YtplnhbenmgclfaaGreatDoor

namespace Go.Proofs.YtplnhbenmgclfaaGreatDoor
open Go.Ab Go.RowKit Go.Dw Go.Shelf
theorem open_t {w : World} {L : Nat → Prop} {t : List Int} {vs : Array Value} (hL : ∀ b, L b → b < w.heap.size) (h : RV w L ρ0 [.agg [V.ints t]] vs.toList) :
  ∃ A c, vs = #[.agg #[.slice A t.length c]] ∧ IntsAt w A t.length t := by
 obtain ⟨vs⟩ := vs
 obtain ⟨x1, e1, q1⟩ := h.get (i := 0) rfl
 obtain ⟨xs, rfl, hx⟩ := q1.agg_inv
 obtain ⟨xs⟩ := xs
 obtain ⟨y, e3, q3, _⟩ := hx.get (i := 0) rfl
 obtain ⟨A, c, rfl, _, ha⟩ := R_ints_inv q3 hL
 have hn := h.1
 have hm := hx.1
 refine ⟨A, c, ?_, ha⟩
 match vs, hn, xs, hm with
 | [a], _, [x], _ => simp at e1 e3; subst e1 e3; rfl
theorem ac_of_row {P : Program} {f : FuncId} {args : List V} {e0 : TypeId} {l : List Pt} {n : Nat} (he : ∀ (args : Array Value) (w : World), (callFunc f args).run P w = .ok (.enter f args) w)
  (h : ∀ (L : Nat → Prop) (w : World) (vs : Array Value), (∀ b, L b → b < w.heap.size) → RV w L ρ0 args vs.toList → Calls P f vs w fun e w' => ∃ v, e = .returned v ∧ w'.ownsRow w.heap.size e0 2 v n (l.flatMap encP) ∧ Below w.heap.size w w') : AC P f args (V.pts l) [] := by
 refine ac_of_calls he fun L w vs hL hvs => (h L w vs hL hvs).mono ?_
 rintro e w' ⟨v, rfl, ho, hb⟩
 obtain ⟨N, hN, hr⟩ := own_R_pts ho
 exact ⟨_, rfl, hb, N, hN, (hr ρ0).ext ⟨fun b hb => ⟨.inr hb, rfl⟩, fun _ _ h => h⟩⟩
theorem checkTip_ac (t : List Int) (ht : t.length ≤ 4611686018427387904) : AC Tryz.prog 79 [.agg [V.ints t]] (.i (checkTip t)) [] := by
 refine ac_of_flat (enters_of Tryz.func79 kR rfl) fun L w vs hL hvs => ?_
 obtain ⟨A, c, rfl, ha⟩ := open_t hL hvs
 exact checkTip_calls A _ c t w ha ht
theorem refCheckTip_ac (t : List Int) (ht : t.length ≤ 4611686018427387904) : AC Tryz.prog 30 [.agg [V.ints t]] (.i (checkTip t)) [] := by
 refine ac_of_flat (enters_of Tryz.func30 kR rfl) fun L w vs hL hvs => ?_
 obtain ⟨A, c, rfl, ha⟩ := open_t hL hvs
 exact refCheckTip_calls A _ c t w ha ht
theorem read_ac (t : List Int) (l : List Pt) (h0 : checkBoth t l = 0) : AC Tryz.prog 82 [.agg [V.ints t], V.pts l] (V.pts (readP t l)) [] := by
 refine ac_of_row (e0 := 53) (n := (readP t l).length) (enters_of Tryz.func82 kR rfl) fun L w vs hL hvs => ?_
 obtain ⟨A, c, B, d, rfl, ha, hb⟩ := open_tl hL hvs
 exact read_calls A _ c t B _ d l w ha hb h0
def wowI (off r per : Int) : Int × Int :=
 if off < 0 ∨ 4194304 < off ∨ r < 0 ∨ 4194304 < r ∨ per < 1 ∨ 65536 < per then (0, 3)
 else if r = 0 then (0, 9)
 else if 256 < (off * 113 * per + 710 * r - 1).tdiv (710 * r) then (0, 14)
 else ((off * 113 * per + 710 * r - 1).tdiv (710 * r), 0)
theorem wow_bound {off per : Int} (h : 0 ≤ off ∧ off ≤ 4194304) (k : 1 ≤ per ∧ per ≤ 65536) : 0 ≤ off * 113 * per ∧ off * 113 * per ≤ 31061975629824 := by
 have h1 : off * 113 * per ≤ (4194304 * 113) * 65536 := Int.mul_le_mul oM k.2 oM oM
 have h2 : 0 ≤ off * 113 * per := Int.mul_nonneg oM oM
 omega
theorem wow_range {off r per : Int} (h : (decide (off < 0) || decide (4194304 < off) || decide (r < 0) || decide (4194304 < r) || decide (per < 1) || decide (65536 < per)) = true) : wowI off r per = (0, 3) := by
 simp at h
 rw [wowI, if_pos oM]
theorem wow_zero {off r per : Int} (h : (decide (off < 0) || decide (4194304 < off) || decide (r < 0) || decide (4194304 < r) || decide (per < 1) || decide (65536 < per)) = false) (h2 : decide (r = 0) = true) : wowI off r per = (0, 9) := by
 simp at h h2
 rw [wowI, if_neg oM, if_pos h2]
theorem wow_limit {off r per : Int} (h : (decide (off < 0) || decide (4194304 < off) || decide (r < 0) || decide (4194304 < r) || decide (per < 1) || decide (65536 < per)) = false) (h2 : decide (r = 0) = false) (h3 : decide (256 < (off * 113 * per + 710 * r - 1).tdiv (710 * r)) = true) : wowI off r per = (0, 14) := by
 simp at h h2 h3
 rw [wowI, if_neg oM, if_neg h2, if_pos h3]
theorem wow_good {off r per : Int} (h : (decide (off < 0) || decide (4194304 < off) || decide (r < 0) || decide (4194304 < r) || decide (per < 1) || decide (65536 < per)) = false) (h2 : decide (r = 0) = false) (h3 : decide (256 < (off * 113 * per + 710 * r - 1).tdiv (710 * r)) = false) : wowI off r per = ((off * 113 * per + 710 * r - 1).tdiv (710 * r), 0) := by
 simp at h h2 h3
 rw [wowI, if_neg oM, if_neg h2, if_neg oM]
set_option maxRecDepth 100000 in
theorem wow_ac (off r per : Int) : AC Tryz.prog 32 [.i off, .i r, .i per] (.tup [.i (wowI off r per).1, .i (wowI off r per).2]) [] := by
 refine acI hTT hMX Tryz.func32 Tryz.ntmps32 fun C hC hF => ?_
 refine sK fun K hK => wR 2 ?_; refine aX hTT 2 [] tI ?_; refine nK hK ?_; clear hK K; refine sK fun K hK => ?_
 refine aw_block ?_
 refine sK fun K hK => wR 3 ?_; refine aX hTT 23 [(3, .c (gA (decide (off < 0) == false) True)), (4, .c (gD (decide (off < 0) == false) True)), (5, .c (True ∧ (decide (off < 0) = false → (decide (off < 0) == false) = true))), (7, .c (gA ((decide (off < 0) || decide ((4194304 : Int) < off)) == false) True)), (8, .c (gD ((decide (off < 0) || decide ((4194304 : Int) < off)) == false) True)), (9, .c (True ∧ ((decide (off < 0) || decide ((4194304 : Int) < off)) = false → ((decide (off < 0) || decide ((4194304 : Int) < off)) == false) = true))), (11, .c (gA ((decide (off < 0) || decide ((4194304 : Int) < off) || decide (r < 0)) == false) True)), (12, .c (gD ((decide (off < 0) || decide ((4194304 : Int) < off) || decide (r < 0)) == false) True)), (13, .c (True ∧ ((decide (off < 0) || decide ((4194304 : Int) < off) || decide (r < 0)) = false → ((decide (off < 0) || decide ((4194304 : Int) < off) || decide (r < 0)) == false) = true))), (15, .c (gA ((decide (off < 0) || decide ((4194304 : Int) < off) || decide (r < 0) || decide ((4194304 : Int) < r)) == false) True)), (16, .c (gD ((decide (off < 0) || decide ((4194304 : Int) < off) || decide (r < 0) || decide ((4194304 : Int) < r)) == false) True)), (17, .c (True ∧ ((decide (off < 0) || decide ((4194304 : Int) < off) || decide (r < 0) || decide ((4194304 : Int) < r)) = false → ((decide (off < 0) || decide ((4194304 : Int) < off) || decide (r < 0) || decide ((4194304 : Int) < r)) == false) = true))), (19, .c (gA ((decide (off < 0) || decide ((4194304 : Int) < off) || decide (r < 0) || decide ((4194304 : Int) < r) || decide (per < 1)) == false) True)), (20, .c (gD ((decide (off < 0) || decide ((4194304 : Int) < off) || decide (r < 0) || decide ((4194304 : Int) < r) || decide (per < 1)) == false) True)), (21, .c (True ∧ ((decide (off < 0) || decide ((4194304 : Int) < off) || decide (r < 0) || decide ((4194304 : Int) < r) || decide (per < 1)) = false → ((decide (off < 0) || decide ((4194304 : Int) < off) || decide (r < 0) || decide ((4194304 : Int) < r) || decide (per < 1)) == false) = true)))] ⟨⟨⟨tI, tI⟩, (fun _ => tI)⟩, ⟨⟨(by (exact fun h => h)), ⟨tI, tI⟩⟩, (fun _ => tI)⟩, ⟨tI, (by (intro h; rw [h]; rfl))⟩, ⟨⟨tI, tI⟩, (fun _ => tI)⟩, ⟨⟨(by (exact fun h => h)), ⟨tI, tI⟩⟩, (fun _ => tI)⟩, ⟨tI, (by (intro h; rw [h]; rfl))⟩, ⟨⟨tI, tI⟩, (fun _ => tI)⟩, ⟨⟨(by (exact fun h => h)), ⟨tI, tI⟩⟩, (fun _ => tI)⟩, ⟨tI, (by (intro h; rw [h]; rfl))⟩, ⟨⟨tI, tI⟩, (fun _ => tI)⟩, ⟨⟨(by (exact fun h => h)), ⟨tI, tI⟩⟩, (fun _ => tI)⟩, ⟨tI, (by (intro h; rw [h]; rfl))⟩, ⟨⟨tI, tI⟩, (fun _ => tI)⟩, ⟨⟨(by (exact fun h => h)), ⟨tI, tI⟩⟩, (fun _ => tI)⟩, ⟨tI, (by (intro h; rw [h]; rfl))⟩, tI⟩ ?_; refine nK hK ?_; clear hK K
 refine w_cond (t := decide (off < 0) || decide ((4194304 : Int) < off) || decide (r < 0) || decide ((4194304 : Int) < r) || decide (per < 1) || decide ((65536 : Int) < per)) kR (fun h => ?_) (fun h => ?_)
 ·
  rw [wow_range h]
  refine sK fun K hK => wR 4 ?_; refine aX hTT 2 [] tI ?_; refine nK hK ?_; clear hK K
  refine aw_ret ?_
  refine xb_r ?_
  refine xt_r ?_
  refine rP (V.tup [V.i 0, V.i 3])
 refine sK fun K hK => wR 4 ?_; refine aX hTT 3 [] tI ?_; refine nK hK ?_; clear hK K
 refine w_cond (t := decide (r = 0)) kR (fun h2 => ?_) (fun h2 => ?_)
 ·
  rw [wow_zero h h2]
  refine sK fun K hK => wR 5 ?_; refine aX hTT 2 [] tI ?_; refine nK hK ?_; clear hK K
  refine aw_ret ?_
  refine xb_r ?_
  refine xt_r ?_
  refine rP (V.tup [V.i 0, V.i 9])
 have g := h
 have g2 := h2
 simp at g g2
 have b := wow_bound (off := off) (per := per) oM oM
 refine aw_skip ?_
 refine xb_n ?_; refine xt_n (hK _ ?_); clear hK K; refine sK fun K hK => wR 5 ?_; refine aX hTT 3 [(1, .i ((710 : Int) * r))] ⟨oM, tI⟩ ?_; refine nK hK ?_; clear hK K; refine sK fun K hK => wR 6 ?_; refine aX hTT 10 [(1, .i (off * 113)), (3, .i (off * 113 * per)), (5, .i (off * 113 * per + 710 * r)), (6, .i (off * 113 * per + 710 * r - 1)), (8, .c ((0 : Int) < (710 : Int) * r ∧ (-9223372036854775808 : Int) ≤ off * 113 * per + 710 * r - 1 ∧ off * 113 * per + 710 * r - 1 ≤ (9223372036854775807 : Int)))] ⟨oM, oM, oM, oM, ⟨oM, oM⟩, tI⟩ ?_; refine nK hK ?_; clear hK K; refine sK fun K hK => ?_; refine sK fun K hK => wR 7 ?_; refine aX hTT 2 [] tI ?_; refine nK hK ?_; clear hK K
 refine w_cond (t := decide ((256 : Int) < Int.tdiv (off * 113 * per + 710 * r - 1) ((710 : Int) * r))) kR (fun h3 => ?_) (fun h3 => ?_)
 ·
  rw [wow_limit h h2 h3]
  refine sK fun K hK => wR 8 ?_; refine aX hTT 2 [] tI ?_; refine nK hK ?_; clear hK K
  refine aw_ret ?_
  refine xt_r ?_
  refine rP (V.tup [V.i 0, V.i 14])
 refine aw_skip ?_
 refine xt_n (hK _ ?_); clear hK K; refine sK fun K hK => wR 8 ?_; refine aX hTT 3 [] tI ?_; refine nK hK ?_; clear hK K
 refine aw_ret ?_
 rw [wow_good h h2 h3]
 refine rP (V.tup [V.i (Int.tdiv (off * 113 * per + 710 * r - 1) ((710 : Int) * r)), V.i 0])
def bluntB (a b : List Int) : Bool := decide (b.length ≤ a.length) && (List.range b.length).all fun k => decide (gi a k ≤ gi b k)
theorem blunt_short {a b : List Int} (h : a.length < b.length) : bluntB a b = false := by simp [bluntB]; omega
theorem blunt_bad {a b : List Int} {k : Nat} (hk : k < b.length) (h : gi b k < gi a k) : bluntB a b = false := by
 simp only [bluntB, Bool.and_eq_false_iff]
 right
 rw [List.all_eq_false]
 exact ⟨k, by simpa using hk, by simp; omega⟩
theorem blunt_good {a b : List Int} (h : b.length ≤ a.length) (hk : ∀ k, k < b.length → gi a k ≤ gi b k) : bluntB a b = true := by
 simp [bluntB, h]
 exact hk
theorem bluntB_iff {a b : List Int} : bluntB a b = true ↔ b.length ≤ a.length ∧ ∀ k, k < b.length → gi a k ≤ gi b k := by simp [bluntB]
set_option maxRecDepth 100000 in
theorem blunter_ac (a b : List Int) (ha : a.length ≤ 64) (hb : b.length ≤ 64) : AC Tryz.prog 81 [.agg [V.ints a], .agg [V.ints b]] (.b (bluntB a b)) [] := by
 refine acI hTT hMX Tryz.func81 Tryz.ntmps81 fun C hC hF => ?_
 refine sK fun K hK => wR 2 ?_; refine aX hTT 3 [] tI ?_; refine nK hK ?_; clear hK K; refine sK fun K hK => ?_; refine sK fun K hK => wR 3 ?_; refine aX hTT 7 [] tI ?_; refine nK hK ?_; clear hK K
 refine w_cond (t := decide ((↑(List.length a) : Int) < (↑(List.length b) : Int))) kR (fun h => ?_) (fun h => ?_)
 ·
  rw [blunt_short (by simpa using h)]
  refine sK fun K hK => wR 4 ?_; refine aX hTT 1 [] tI ?_; refine nK hK ?_; clear hK K
  refine aw_ret ?_
  refine xt_r ?_
  refine rP (V.b false)
 simp at h
 refine aw_skip ?_
 refine xt_n (hK _ ?_); clear hK K; refine sK fun K hK => ?_; refine sK fun K hK => wR 4 ?_; refine aX hTT 4 [] tI ?_; refine nK hK ?_; clear hK K
 refine aw_block ?_
 refine w_loop (fun k : Nat => [(2, .ptr [V.ints a]), (15, V.ints b), (16, .i b.length), (17, .i k)]) (fun _ => []) (fun k => k ≤ b.length ∧ ∀ j, j < k → gi a j ≤ gi b j) (fun k => b.length - k) 0 ⟨Nat.zero_le _, fun j hj => by omega⟩ ?_ ?_
 ·
  refine le_ren [] (.cons kR (.cons kR (.cons kR (.cons kR .nil)))) .nil kR kR
 rintro k ⟨hk, hg⟩
 refine sK fun K hK => wR 2 ?_; refine aX hTT 1 [] tI ?_; refine nK hK ?_; clear hK K; refine sK fun K hK => ?_
 refine w_cond (t := decide ((↑k : Int) < (↑(List.length b) : Int))) kR (fun hl => ?_) (fun hl => ?_)
 ·
  simp at hl
  refine aw_skip ?_
  refine xt_n (hK _ ?_); clear hK K; refine sK fun K hK => ?_
  refine aw_block ?_
  refine sK fun K hK => wR 3 ?_; refine aX hTT 5 [(1, .c ((0 : Int) ≤ (↑k : Int) ∧ (↑k : Int) < (↑(List.length b) : Int)))] ⟨oM, tI⟩ ?_; refine nK hK ?_; clear hK K; refine sK fun K hK => wR 4 ?_; refine aX hTT 7 [(4, .c ((0 : Int) ≤ (↑k : Int) ∧ (↑k : Int) < (↑(List.length a) : Int)))] ⟨oM, tI⟩ ?_; refine nK hK ?_; clear hK K
  refine w_cond (t := decide (gi b k < gi a k)) kR (fun hc => ?_) (fun hc => ?_)
  ·
   simp at hc
   refine sK fun K hK => wR 5 ?_; refine aX hTT 1 [] tI ?_; refine nK hK ?_; clear hK K
   refine aw_ret ?_
   refine xb_r ?_
   refine xt_r ?_; refine xt_r ?_
   refine xb_r ?_
   refine xt_r ?_
   rw [blunt_bad hl hc]
   refine rP (V.b false)
  simp at hc
  refine aw_skip ?_
  refine xb_n ?_; refine xt_n (hK _ ?_); clear hK K; refine wR 5 ?_; refine aX hTT 2 [(0, .i ((↑k : Int) + 1))] ⟨oM, tI⟩ ?_; refine aops_nil ?_; refine xt_n ?_
  refine ⟨k + 1, ⟨by omega, fun j hj => ?_⟩, ?_, by omega⟩
  ·
   by_cases he : j = k
   ·
    subst he; exact hc
   ·
    exact hg j oM
  ·
   refine le_ren [] (.cons kR (.cons kR (.cons kR (.cons kR .nil)))) .nil kR kR
 simp at hl
 refine aw_exit ?_
 refine xt_x ?_; refine xt_x ?_
 refine xb_same ?_
 refine xt_n ?_; clear hK K; refine hK _ ?_; clear hK K; refine sK fun K hK => wR 3 ?_; refine aX hTT 1 [] tI ?_; refine nK hK ?_; clear hK K
 refine aw_ret ?_
 rw [blunt_good h fun k hk => hg k oM]
 refine rP (V.b true)
end Go.Proofs.YtplnhbenmgclfaaGreatDoor

namespace Go.Proofs.YtplnhbenmgclfaaGreatDoor
open Go.Ab Go.RowKit Go.Dw Go.Shelf
abbrev Hd := Int × Int × Int × Int
def hs (a b : List Pt) (h : Hd) (u : Nat) : Hd := (min h.1 (gp b u).1, max h.2.1 (gp a u).1, min h.2.2.1 (gp a u).2, max h.2.2.2 (gp b u).2)
def hear0 (a b : List Pt) (t : Nat) : Hd := ((gp b t).1, (gp a t).1, (gp a t).2, (gp b t).2)
def hearN (a b : List Pt) (t lo j : Nat) : Hd := (List.range j).foldl (fun h i => hs a b h (lo + i)) (hear0 a b t)
def hearK (a b : List Pt) (t r k : Nat) : Hd := ((List.range k).filter fun u => decide (dist u t < r)).foldl (hs a b) (hear0 a b t)
theorem hearN_succ (a b : List Pt) (t lo j : Nat) : hearN a b t lo (j + 1) = hs a b (hearN a b t lo j) (lo + j) := by simp [hearN, List.range_succ]
theorem hearK_succ (a b : List Pt) (t r k : Nat) : hearK a b t r (k + 1) = if dist k t < r then hs a b (hearK a b t r k) k else hearK a b t r k := by
  unfold hearK
  rw [List.range_succ, List.filter_append, List.foldl_append]
  by_cases h : dist k t < r <;> simp [h]
theorem near_filter (t r : Nat) : ∀ n, t < n → 0 < r → ((List.range n).filter fun u => decide (dist u t < r)) = (List.range (nearN t n r)).map (nearLo t r + ·) := by
  have key : ∀ n, ((List.range n).filter fun u => decide (dist u t < r)) = (List.range (min n (t + r) - nearLo t r)).map (nearLo t r + ·) := by
    intro n
    induction n with
    | zero => simp
    | succ n ih =>
      rw [List.range_succ, List.filter_append, ih]
      by_cases h : dist n t < r
      · have e : min (n + 1) (t + r) - nearLo t r = (min n (t + r) - nearLo t r) + 1 := by unfold dist nearLo at *; omega
        rw [e, List.range_succ, List.map_append]
        have e2 : nearLo t r + (min n (t + r) - nearLo t r) = n := by unfold dist nearLo at *; omega
        simp [h, e2]
      · have e : min (n + 1) (t + r) - nearLo t r = min n (t + r) - nearLo t r := by unfold dist nearLo at *; omega
        rw [e]
        simp [h]
  intro n _ _
  rw [key n]
  rfl
theorem hearK_all {a b : List Pt} {t r n : Nat} (ht : t < n) (hr : 0 < r) : hearK a b t r n = hearN a b t (nearLo t r) (nearN t n r) := by
  unfold hearK hearN
  rw [near_filter t r n ht hr, List.foldl_map]
def hearAt (a b : List Pt) (n r t : Nat) : Hd := hearK a b t r n
def vhd (h : Hd) : List V := [.i h.1, .i h.2.1, .i h.2.2.1, .i h.2.2.2]
def hearE (s t : List Int) (l : List Pt) (wow : Int) : Int :=
  if checkTip s = 0 then (if checkBoth t l = 0 then (if bluntB s t then (if wow < 0 ∨ 256 < wow then 3 else 0) else 20) else checkBoth t l) else checkTip s
def hearNn (s t : List Int) (l : List Pt) (wow : Int) : Nat := if hearE s t l wow = 0 then l.length else 0
theorem hearE_1 {s t : List Int} {l : List Pt} {wow : Int} (h : ¬ checkTip s = 0) : hearE s t l wow = checkTip s := by rw [hearE, if_neg h]
theorem hearE_2 {s t : List Int} {l : List Pt} {wow : Int} (h : checkTip s = 0) (h2 : ¬ checkBoth t l = 0) : hearE s t l wow = checkBoth t l := by rw [hearE, if_pos h, if_neg h2]
theorem hearE_3 {s t : List Int} {l : List Pt} {wow : Int} (h : checkTip s = 0) (h2 : checkBoth t l = 0) (h3 : bluntB s t = false) : hearE s t l wow = 20 := by rw [hearE, if_pos h, if_pos h2, if_neg (by simp [h3])]
theorem hearE_4 {s t : List Int} {l : List Pt} {wow : Int} (h : checkTip s = 0) (h2 : checkBoth t l = 0) (h3 : bluntB s t = true) (h4 : (decide (wow < 0) || decide (256 < wow)) = true) : hearE s t l wow = 3 := by
  rw [hearE, if_pos h, if_pos h2, if_pos h3, if_pos (by simpa using h4)]
theorem hearE_5 {s t : List Int} {l : List Pt} {wow : Int} (h : checkTip s = 0) (h2 : checkBoth t l = 0) (h3 : bluntB s t = true) (h4 : 0 ≤ wow ∧ wow ≤ 256) : hearE s t l wow = 0 := by
  rw [hearE, if_pos h, if_pos h2, if_pos h3, if_neg oM]
theorem hearNn_no {s t : List Int} {l : List Pt} {wow : Int} (h : ¬ hearE s t l wow = 0) : hearNn s t l wow = 0 := by rw [hearNn, if_neg h]
def hearV (s t : List Int) (l : List Pt) (wow : Int) : V := .tup [.sl 4 (hearNn s t l wow) fun k => vhd (hearAt (readP s l) (readP t l) l.length (wow.toNat + 1) k), .i (hearE s t l wow)]
theorem appRow_lt {n i : Nat} {r r' : Nat → List V} (h : i < n) : appRow n r r' i = r i := by simp [appRow, h]
theorem appRow_at {n : Nat} {r r' : Nat → List V} : appRow n r r' n = r' 0 := by simp [appRow]
set_option maxRecDepth 100000 in
theorem Hear_ac (s t : List Int) (l : List Pt) (wow : Int) (hs' : s.length ≤ 4611686018427387904) (ht : t.length ≤ 4611686018427387904) (hl : l.length ≤ 4611686018427387904) :
    AC Tryz.prog 33 [.agg [V.ints s], .agg [V.ints t], V.pts l, .i wow] (hearV s t l wow) [] := by
  refine ac_intro hTT hMX (fn := Tryz.f33) (N := _) ⟨Tryz.func33, rfl, Tryz.ntmps33, kR⟩ (by simp) fun C hC hF => ?_
  refine sK fun K hK => ?_
  refine w_region (n' := 2) kR kR ?_
  refine aops_n hTT (M := []) (n := 4) [pv (4 : Nat) (V.ptr [V.sl (1 : Nat) (List.length s) fun (k : Nat) => [V.i (gi s k)]]), pv (5 : Nat) (V.ptr [V.sl (1 : Nat) (List.length t) fun (k : Nat) => [V.i (gi t k)]]), pv (8 : Nat) V.nil, pv (9 : Nat) (V.i (0 : Int))] kR kR tI ?_
  refine aops_nil ?_
  refine xt_n ?_
  refine hK _ ?_
  clear hK K
  refine sK fun K hK => ?_
  refine sK fun K hK => ?_
  refine w_region (n' := 3) kR kR ?_
  refine aops_n hTT (M := []) (n := 1) [pv (18 : Nat) (V.agg [V.sl (1 : Nat) (List.length s) fun (k : Nat) => [V.i (gi s k)]])] kR kR tI ?_
  refine e_call (first := []) (caps := []) (checkTip_ac s hs') kR kR kR kR kR ?_
  refine aops_n hTT (M := []) (n := 1) [pv (10 : Nat) (V.i (checkTip s))] kR kR tI ?_
  refine aops_nil ?_
  refine xt_n ?_
  refine hK _ ?_
  clear hK K
  refine sK fun K hK => ?_
  refine w_region (n' := 4) kR kR ?_
  refine aops_n hTT (M := []) (n := 2) [pv (20 : Nat) (V.i (checkTip s)), pv (21 : Nat) (V.b !decide (checkTip s = 0))] kR kR tI ?_
  refine aops_nil ?_
  refine xt_n ?_
  refine hK _ ?_
  clear hK K
  refine w_cond (t := !decide (checkTip s = 0)) kR (fun h1 => ?_) (fun h1 => ?_)
  · simp at h1
    refine sK fun K hK => ?_
    refine w_region (n' := 5) kR kR ?_
    refine aops_n hTT (M := []) (n := 3) [pv (22 : Nat) (V.i (checkTip s)), pv (8 : Nat) V.nil, pv (9 : Nat) (V.i (checkTip s))] kR kR tI ?_
    refine aops_nil ?_
    refine xt_n ?_
    refine hK _ ?_
    clear hK K
    refine aw_ret ?_
    refine xt_r ?_
    refine ret_of_le (le_nil 8 (sz := 4) (hearNn s t l wow) (fun k => vhd (hearAt (readP s l) (readP t l) l.length (wow.toNat + 1) k)) kR ?_) ?_
    · exact hearNn_no (by rw [hearE_1 h1]; exact h1)
    refine ret_pure (v' := V.tup [V.sl (4 : Nat) (hearNn s t l wow) fun (k : Nat) => vhd (hearAt (readP s l) (readP t l) (List.length l) (Int.toNat wow + 1) k), V.i (checkTip s)]) (.inr rfl) kR ?_ kR
    rw [hearV, hearE_1 h1]
  simp at h1
  refine aw_skip ?_
  refine xt_n ?_
  refine hK _ ?_
  clear hK K
  refine sK fun K hK => ?_
  refine sK fun K hK => ?_
  refine w_region (n' := 5) kR kR ?_
  refine aops_n hTT (M := []) (n := 2) [pv (23 : Nat) (V.agg [V.sl (1 : Nat) (List.length t) fun (k : Nat) => [V.i (gi t k)]]), pv (24 : Nat) (V.sl (2 : Nat) (List.length l) fun (k : Nat) => [V.i (Prod.fst (gp l k)), V.i (Prod.snd (gp l k))])] kR kR tI ?_
  refine e_call (first := []) (caps := []) (check_ac t l ht hl) kR kR kR kR kR ?_
  refine aops_n hTT (M := []) (n := 1) [pv (11 : Nat) (V.i (checkBoth t l))] kR kR tI ?_
  refine aops_nil ?_
  refine xt_n ?_
  refine hK _ ?_
  clear hK K
  refine sK fun K hK => ?_
  refine w_region (n' := 6) kR kR ?_
  refine aops_n hTT (M := []) (n := 2) [pv (26 : Nat) (V.i (checkBoth t l)), pv (27 : Nat) (V.b !decide (checkBoth t l = 0))] kR kR tI ?_
  refine aops_nil ?_
  refine xt_n ?_
  refine hK _ ?_
  clear hK K
  refine w_cond (t := !decide (checkBoth t l = 0)) kR (fun h2 => ?_) (fun h2 => ?_)
  · simp at h2
    refine sK fun K hK => ?_
    refine w_region (n' := 7) kR kR ?_
    refine aops_n hTT (M := []) (n := 3) [pv (28 : Nat) (V.i (checkBoth t l)), pv (8 : Nat) V.nil, pv (9 : Nat) (V.i (checkBoth t l))] kR kR tI ?_
    refine aops_nil ?_
    refine xt_n ?_
    refine hK _ ?_
    clear hK K
    refine aw_ret ?_
    refine xt_r ?_
    refine ret_of_le (le_nil 8 (sz := 4) (hearNn s t l wow) (fun k => vhd (hearAt (readP s l) (readP t l) l.length (wow.toNat + 1) k)) kR ?_) ?_
    · exact hearNn_no (by rw [hearE_2 h1 h2]; exact h2)
    refine ret_pure (v' := V.tup [V.sl (4 : Nat) (hearNn s t l wow) fun (k : Nat) => vhd (hearAt (readP s l) (readP t l) (List.length l) (Int.toNat wow + 1) k), V.i (checkBoth t l)]) (.inr rfl) kR ?_ kR
    rw [hearV, hearE_2 h1 h2]
  simp at h2
  refine aw_skip ?_
  refine xt_n ?_
  refine hK _ ?_
  clear hK K
  refine sK fun K hK => ?_
  refine sK fun K hK => ?_
  refine w_region (n' := 7) kR kR ?_
  refine aops_n hTT (M := []) (n := 2) [pv (29 : Nat) (V.agg [V.sl (1 : Nat) (List.length s) fun (k : Nat) => [V.i (gi s k)]]), pv (30 : Nat) (V.agg [V.sl (1 : Nat) (List.length t) fun (k : Nat) => [V.i (gi t k)]])] kR kR tI ?_
  obtain ⟨k1, k2⟩ := checkBoth_ok h2
  obtain ⟨_, m2, _, _, m3⟩ := checkTip_ok k1
  obtain ⟨_, q2, _, _, q3⟩ := checkTip_ok h1
  obtain ⟨m4, m5⟩ := checkPts_ok k2
  refine e_call (first := []) (caps := []) (blunter_ac s t q2 m2) kR kR kR kR kR ?_
  refine aops_n hTT (M := []) (n := 1) [pv (32 : Nat) (V.b !bluntB s t)] kR kR tI ?_
  refine aops_nil ?_
  refine xt_n ?_
  refine hK _ ?_
  clear hK K
  refine w_cond (t := !bluntB s t) kR (fun h3 => ?_) (fun h3 => ?_)
  · simp at h3
    refine sK fun K hK => ?_
    refine w_region (n' := 8) kR kR ?_
    refine aops_n hTT (M := []) (n := 2) [pv (8 : Nat) V.nil, pv (9 : Nat) (V.i (20 : Int))] kR kR tI ?_
    refine aops_nil ?_
    refine xt_n ?_
    refine hK _ ?_
    clear hK K
    refine aw_ret ?_
    refine xt_r ?_
    refine ret_of_le (le_nil 8 (sz := 4) (hearNn s t l wow) (fun k => vhd (hearAt (readP s l) (readP t l) l.length (wow.toNat + 1) k)) kR ?_) ?_
    · exact hearNn_no (by rw [hearE_3 h1 h2 h3]; decide)
    refine ret_pure (v' := V.tup [V.sl (4 : Nat) (hearNn s t l wow) fun (k : Nat) => vhd (hearAt (readP s l) (readP t l) (List.length l) (Int.toNat wow + 1) k), V.i (20 : Int)]) (.inr rfl) kR ?_ kR
    rw [hearV, hearE_3 h1 h2 h3]
  simp at h3
  refine aw_skip ?_
  refine xt_n ?_
  refine hK _ ?_
  clear hK K
  refine sK fun K hK => ?_
  refine sK fun K hK => ?_
  refine w_region (n' := 8) kR kR ?_
  refine aops_n hTT (M := []) (n := 6) [pv (33 : Nat) (V.i wow), pv (34 : Nat) (V.b (decide (wow < 0))), pv (35 : Nat) (V.b (decide (wow < 0))), pc (36 : Nat) ((True ∧ True) ∧ ((decide (wow < 0) == false) = true → True)) (V.gd (decide (wow < 0) == false) (V.i wow)), pc (37 : Nat) ((((decide (wow < 0) == false) = true → (decide (wow < 0) == false) = true) ∧ True ∧ True) ∧ ((decide (wow < 0) == false) = true → True)) (V.gd (decide (wow < 0) == false) (V.b (decide ((256 : Int) < wow)))), pc (38 : Nat) (True ∧ (decide (wow < 0) = false → (decide (wow < 0) == false) = true)) (V.b (decide (wow < 0) || decide ((256 : Int) < wow)))] kR kR ⟨⟨⟨tI, tI⟩, (fun _ => tI)⟩, ⟨⟨(by (exact fun h => h)), ⟨tI, tI⟩⟩, (fun _ => tI)⟩, ⟨tI, (by (intro h; rw [h]; rfl))⟩, tI⟩ ?_
  refine aops_nil ?_
  refine xt_n ?_
  refine hK _ ?_
  clear hK K
  refine w_cond (t := decide (wow < 0) || decide ((256 : Int) < wow)) kR (fun h4 => ?_) (fun h4 => ?_)
  · refine sK fun K hK => ?_
    refine w_region (n' := 9) kR kR ?_
    refine aops_n hTT (M := []) (n := 2) [pv (8 : Nat) V.nil, pv (9 : Nat) (V.i (3 : Int))] kR kR tI ?_
    refine aops_nil ?_
    refine xt_n ?_
    refine hK _ ?_
    clear hK K
    refine aw_ret ?_
    refine xt_r ?_
    refine ret_of_le (le_nil 8 (sz := 4) (hearNn s t l wow) (fun k => vhd (hearAt (readP s l) (readP t l) l.length (wow.toNat + 1) k)) kR ?_) ?_
    · exact hearNn_no (by rw [hearE_4 h1 h2 h3 h4]; decide)
    refine ret_pure (v' := V.tup [V.sl (4 : Nat) (hearNn s t l wow) fun (k : Nat) => vhd (hearAt (readP s l) (readP t l) (List.length l) (Int.toNat wow + 1) k), V.i (3 : Int)]) (.inr rfl) kR ?_ kR
    rw [hearV, hearE_4 h1 h2 h3 h4]
  simp at h4
  refine aw_skip ?_
  refine xt_n ?_
  refine hK _ ?_
  clear hK K
  refine sK fun K hK => ?_
  refine w_regionD (n' := 9) kR kR ?_
  refine aops_n hTT (M := []) (n := 2) [pv (39 : Nat) (V.agg [V.sl (1 : Nat) (List.length s) fun (k : Nat) => [V.i (gi s k)]]), pv (40 : Nat) (V.sl (2 : Nat) (List.length l) fun (k : Nat) => [V.i (Prod.fst (gp l k)), V.i (Prod.snd (gp l k))])] kR kR tI ?_
  refine e_call (first := []) (caps := []) (read_ac s l (checkBoth_of h1 k2)) kR kR kR kR kR ?_
  refine aops_n hTT (M := []) (n := 2) [pv (42 : Nat) (V.agg [V.sl (1 : Nat) (List.length t) fun (k : Nat) => [V.i (gi t k)]]), pv (43 : Nat) (V.sl (2 : Nat) (List.length l) fun (k : Nat) => [V.i (Prod.fst (gp l k)), V.i (Prod.snd (gp l k))])] kR kR tI ?_
  refine e_call (first := []) (caps := []) (read_ac t l h2) kR kR kR kR kR ?_
  refine aops_n hTT (M := []) (n := 4) [pn (12 : Nat) (V.ref (800012 : Nat) (0 : Nat)) (800012 : Nat) (Ob.box (28 : Nat) [V.nil]), pn (13 : Nat) (V.ref (800013 : Nat) (0 : Nat)) (800013 : Nat) (Ob.box (28 : Nat) [V.nil]), pw ((0 : Nat) + (1 : Nat) ≤ (1 : Nat)) (800012 : Nat) (Ob.box (28 : Nat) [V.sl (2 : Nat) (List.length (readP s l)) fun (k : Nat) => [V.i (Prod.fst (gp (readP s l) k)), V.i (Prod.snd (gp (readP s l) k))]]), pw ((0 : Nat) + (1 : Nat) ≤ (1 : Nat)) (800013 : Nat) (Ob.box (28 : Nat) [V.sl (2 : Nat) (List.length (readP t l)) fun (k : Nat) => [V.i (Prod.fst (gp (readP t l) k)), V.i (Prod.snd (gp (readP t l) k))]])] kR kR ⟨oM, oM, tI⟩ ?_
  refine aops_nil ⟨kR, ?_⟩
  refine xt_n ?_
  refine hK _ ?_
  clear hK K
  refine sK fun K hK => ?_
  refine w_region (n' := 10) kR kR ?_
  refine aops_n hTT (M := []) (n := 1) [pv (14 : Nat) V.nil] kR kR tI ?_
  refine aops_nil ?_
  refine xt_n ?_
  refine hK _ ?_
  clear hK K
  refine sK fun K hK => ?_
  refine sK fun K hK => ?_
  refine w_region (n' := 11) kR kR ?_
  refine aops_n hTT (M := []) (n := 3) [pv (45 : Nat) (V.sl (2 : Nat) (List.length l) fun (k : Nat) => [V.i (Prod.fst (gp l k)), V.i (Prod.snd (gp l k))]), pv (46 : Nat) (V.i (↑(List.length l) : Int)), pv (47 : Nat) (V.i (0 : Int))] kR kR tI ?_
  refine aops_nil ?_
  refine xt_n ?_
  refine hK _ ?_
  clear hK K
  refine aw_block ?_
  obtain ⟨wn, rfl⟩ : ∃ n : Nat, wow = (n : Int) := ⟨wow.toNat, by omega⟩
  obtain ⟨a, ha⟩ : ∃ a, a = readP s l := ⟨_, rfl⟩
  obtain ⟨b, hb⟩ : ∃ b, b = readP t l := ⟨_, rfl⟩
  have la : a.length = l.length := by rw [ha]; exact readP_length _ _
  have lb : b.length = l.length := by rw [hb]; exact readP_length _ _
  rw [← ha, ← hb]
  refine w_le (le_freezeBox (t := (28 : Nat)) (cs := [V.sl (2 : Nat) (List.length a) fun (k : Nat) => [V.i (Prod.fst (gp a k)), V.i (Prod.snd (gp a k))]]) 800012 kR kR) ?_
  refine w_le (le_freezeBox (t := (28 : Nat)) (cs := [V.sl (2 : Nat) (List.length b) fun (k : Nat) => [V.i (Prod.fst (gp b k)), V.i (Prod.snd (gp b k))]]) 800013 kR kR) ?_
  refine w_le (le_open 14 100 4 (fun k => vhd (hearAt a b l.length (wn + 1) k)) kR rfl) ?_
  refine w_loop (fun k : Nat => [(2, V.pts l), (3, .i wn), (12, .ptr [V.pts a]), (13, .ptr [V.pts b]), (14, .own 14), (46, .i l.length), (47, .i k)]) (fun k => [(14, .row 100 4 k fun k => vhd (hearAt a b l.length (wn + 1) k))])
    (fun k => k ≤ l.length) (fun k => l.length - k) 0 (Nat.zero_le _) ?_ ?_
  · refine le_ren (sl := [(14, Ob.row (100 : Nat) (4 : Nat) (0 : Nat) fun (k : Nat) => vhd (hearAt a b (List.length l) (wn + 1) k))]) [(14, 1100014)] (.cons kR (.cons kR (.cons kR (.cons kR (.cons kR (.cons kR (.cons kR .nil))))))) (.cons ⟨Ob.row (100 : Nat) (4 : Nat) (0 : Nat) fun (k : Nat) => vhd (hearAt a b (List.length l) (wn + 1) k), kR, .row kR (fun _ _ => rfl)⟩ .nil) kR kR
  intro k hk
  refine sK fun K hK => ?_
  refine w_region (n' := 2) kR kR ?_
  refine aops_n hTT (M := []) (n := 1) [pv (48 : Nat) (V.b (decide ((↑k : Int) < (↑(List.length l) : Int))))] kR kR tI ?_
  refine aops_nil ?_
  refine xt_n ?_
  refine hK _ ?_
  clear hK K
  refine sK fun K hK => ?_
  refine w_cond (t := decide ((↑k : Int) < (↑(List.length l) : Int))) kR (fun hkl => ?_) (fun hkl => ?_)
  · simp at hkl
    have hka : k < a.length := by omega
    have hkb : k < b.length := by omega
    refine aw_skip ?_
    refine xt_n ?_
    refine hK _ ?_
    clear hK K
    refine sK fun K hK => ?_
    refine aw_block ?_
    refine sK fun K hK => ?_
    refine w_region (n' := 3) kR kR ?_
    refine aops_n hTT (M := []) (n := 2) [pv (49 : Nat) (V.i (↑k : Int)), pv (15 : Nat) (V.i (↑k : Int))] kR kR tI ?_
    refine aops_nil ?_
    refine xt_n ?_
    refine hK _ ?_
    clear hK K
    refine sK fun K hK => ?_
    refine w_regionD (n' := 4) kR kR ?_
    refine aops_n hTT (M := []) (n := 25) [pv (50 : Nat) (V.sl (2 : Nat) (List.length b) fun (k : Nat) => [V.i (Prod.fst (gp b k)), V.i (Prod.snd (gp b k))]), pv (51 : Nat) (V.i (↑k : Int)), pc (52 : Nat) ((0 : Int) ≤ (↑k : Int) ∧ (↑k : Int) < (↑(List.length b) : Int)) (V.ptr [V.i (Prod.fst (gp b k)), V.i (Prod.snd (gp b k))]), pv (53 : Nat) (V.ptr [V.i (Prod.fst (gp b k)), V.i (Prod.snd (gp b k))]), pv (54 : Nat) (V.i (Prod.fst (gp b k))), pv (55 : Nat) (V.sl (2 : Nat) (List.length a) fun (k : Nat) => [V.i (Prod.fst (gp a k)), V.i (Prod.snd (gp a k))]), pv (56 : Nat) (V.i (↑k : Int)), pc (57 : Nat) ((0 : Int) ≤ (↑k : Int) ∧ (↑k : Int) < (↑(List.length a) : Int)) (V.ptr [V.i (Prod.fst (gp a k)), V.i (Prod.snd (gp a k))]), pv (58 : Nat) (V.ptr [V.i (Prod.fst (gp a k)), V.i (Prod.snd (gp a k))]), pv (59 : Nat) (V.i (Prod.fst (gp a k))), pv (60 : Nat) (V.agg [V.i (Prod.fst (gp b k)), V.i (Prod.fst (gp a k))]), pv (61 : Nat) (V.sl (2 : Nat) (List.length a) fun (k : Nat) => [V.i (Prod.fst (gp a k)), V.i (Prod.snd (gp a k))]), pv (62 : Nat) (V.i (↑k : Int)), pc (63 : Nat) ((0 : Int) ≤ (↑k : Int) ∧ (↑k : Int) < (↑(List.length a) : Int)) (V.ptr [V.i (Prod.fst (gp a k)), V.i (Prod.snd (gp a k))]), pv (64 : Nat) (V.ptr [V.i (Prod.snd (gp a k))]), pv (65 : Nat) (V.i (Prod.snd (gp a k))), pv (66 : Nat) (V.sl (2 : Nat) (List.length b) fun (k : Nat) => [V.i (Prod.fst (gp b k)), V.i (Prod.snd (gp b k))]), pv (67 : Nat) (V.i (↑k : Int)), pc (68 : Nat) ((0 : Int) ≤ (↑k : Int) ∧ (↑k : Int) < (↑(List.length b) : Int)) (V.ptr [V.i (Prod.fst (gp b k)), V.i (Prod.snd (gp b k))]), pv (69 : Nat) (V.ptr [V.i (Prod.snd (gp b k))]), pv (70 : Nat) (V.i (Prod.snd (gp b k))), pv (71 : Nat) (V.agg [V.i (Prod.snd (gp a k)), V.i (Prod.snd (gp b k))]), pv (72 : Nat) (V.agg [V.i (Prod.fst (gp b k)), V.i (Prod.fst (gp a k)), V.i (Prod.snd (gp a k)), V.i (Prod.snd (gp b k))]), pn (16 : Nat) (V.ref (300016 : Nat) (0 : Nat)) (300016 : Nat) (Ob.box (100 : Nat) [V.i (0 : Int), V.i (0 : Int), V.i (0 : Int), V.i (0 : Int)]), pw ((0 : Nat) + (4 : Nat) ≤ (4 : Nat)) (300016 : Nat) (Ob.box (100 : Nat) [V.i (Prod.fst (gp b k)), V.i (Prod.fst (gp a k)), V.i (Prod.snd (gp a k)), V.i (Prod.snd (gp b k))])] kR kR ⟨oM, oM, oM, oM, oM, tI⟩ ?_
    refine aops_nil ⟨kR, ?_⟩
    refine xt_n ?_
    refine hK _ ?_
    clear hK K
    refine sK fun K hK => ?_
    refine sK fun K hK => ?_
    refine w_region (n' := 5) kR kR ?_
    refine aops_n hTT (M := []) (n := 5) [pv (73 : Nat) (V.i (↑k : Int)), pv (74 : Nat) (V.sl (2 : Nat) (List.length l) fun (k : Nat) => [V.i (Prod.fst (gp l k)), V.i (Prod.snd (gp l k))]), pv (75 : Nat) (V.i (↑(List.length l) : Int)), pv (76 : Nat) (V.i (↑wn : Int)), pc (77 : Nat) ((-9223372036854775808 : Int) ≤ (↑wn : Int) + 1 ∧ (↑wn : Int) + 1 ≤ (9223372036854775807 : Int)) (V.i ((↑wn : Int) + 1))] kR kR ⟨oM, tI⟩ ?_
    refine e_call (first := []) (caps := []) (near_ac k l.length ((wn : Int) + 1)) kR kR kR kR kR ?_
    refine aops_nil ?_
    refine xt_n ?_
    refine hK _ ?_
    clear hK K
    refine aw_block ?_
    refine w_range (caps := [V.ptr [V.i (↑k : Int)], V.ptr [V.i ((↑wn : Int) + 1)], V.ptr [V.i (↑(List.length l) : Int)]]) hF hC ((near_aiter k l.length (wn + 1) oM oM oM)) kR kR ?_ kR [514, 516] [(514, 14), (516, 300016)] [(2, V.pts l), (3, .i wn), (12, .ptr [V.pts a]), (13, .ptr [V.pts b]), (14, .own 514), (16, .ref 516 0), (46, .i l.length), (47, .i k)] (fun _ => True) (fun j => [.row 100 4 k fun k => vhd (hearAt a b l.length (wn + 1) k), .box 100 (vhd (hearN a b k (nearLo k (wn + 1)) j))]) (fun _ _ _ => False) ?_ kR kR kR (.cons kR (.cons kR (.cons kR (.cons kR (.cons kR (.cons kR (.cons kR (.cons kR .nil)))))))) (.cons ⟨Ob.row (100 : Nat) (4 : Nat) k fun (k : Nat) => vhd (hearAt a b (List.length l) (wn + 1) k), kR, .row kR (fun _ _ => rfl)⟩ (.cons ⟨Ob.box (100 : Nat) [V.i (Prod.fst (gp b k)), V.i (Prod.fst (gp a k)), V.i (Prod.snd (gp a k)), V.i (Prod.snd (gp b k))], kR, .box kR⟩ .nil)) kR ?_ ?_ ?_ ?_ ?_
    · intro x hx
      simp only [nearV, List.mem_map] at hx
      obtain ⟨j, _, rfl⟩ := hx
      rfl
    · trivial
    · intro j o ho
      simp at ho
      rcases ho with rfl | rfl
      · exact fun _ _ => rfl
      · rfl
    · intro _ _ _ h
      exact h.elim
    · rintro C' ⟨lx, hF'⟩ j x hx _
      obtain ⟨hj, rfl⟩ := nearV_get hx
      have hu : nearLo k (wn + 1) + j < l.length := by unfold nearN at hj; omega
      have hua : nearLo k (wn + 1) + j < a.length := by omega
      have hub : nearLo k (wn + 1) + j < b.length := by omega
      refine w_region (n' := 2) kR kR ?_
      refine aops_n hTT (M := []) (n := 1) [pv (17 : Nat) (V.i ((↑(nearLo k (wn + 1)) : Int) + (↑j : Int)))] kR kR tI ?_
      refine aops_nil ?_
      refine xt_n ?_
      refine aw_block ?_
      refine sK fun K hK => ?_
      refine w_regionD (n' := 3) kR kR ?_
      refine aops_n hTT (M := []) (n := 24) [pv (81 : Nat) (V.ref (516 : Nat) (0 : Nat)), pv (82 : Nat) (V.ref (516 : Nat) (0 : Nat)), pc (83 : Nat) ((0 : Nat) ≤ (4 : Nat)) (V.i (Prod.fst (hearN a b k (nearLo k (wn + 1)) j))), pv (84 : Nat) (V.sl (2 : Nat) (List.length b) fun (k : Nat) => [V.i (Prod.fst (gp b k)), V.i (Prod.snd (gp b k))]), pv (85 : Nat) (V.i ((↑(nearLo k (wn + 1)) : Int) + (↑j : Int))), pc (86 : Nat) ((0 : Int) ≤ (↑(nearLo k (wn + 1)) : Int) + (↑j : Int) ∧ (↑(nearLo k (wn + 1)) : Int) + (↑j : Int) < (↑(List.length b) : Int)) (V.ptr [V.i (Prod.fst (gp b (nearLo k (wn + 1) + j))), V.i (Prod.snd (gp b (nearLo k (wn + 1) + j)))]), pv (87 : Nat) (V.ptr [V.i (Prod.fst (gp b (nearLo k (wn + 1) + j))), V.i (Prod.snd (gp b (nearLo k (wn + 1) + j)))]), pv (88 : Nat) (V.i (Prod.fst (gp b (nearLo k (wn + 1) + j)))), pv (89 : Nat) (V.i (min (Prod.fst (hearN a b k (nearLo k (wn + 1)) j)) (Prod.fst (gp b (nearLo k (wn + 1) + j))))), pv (90 : Nat) (V.ref (516 : Nat) (0 : Nat)), pv (91 : Nat) (V.ref (516 : Nat) (1 : Nat)), pc (92 : Nat) ((1 : Nat) ≤ (4 : Nat)) (V.i (Prod.fst (Prod.snd (hearN a b k (nearLo k (wn + 1)) j)))), pv (93 : Nat) (V.sl (2 : Nat) (List.length a) fun (k : Nat) => [V.i (Prod.fst (gp a k)), V.i (Prod.snd (gp a k))]), pv (94 : Nat) (V.i ((↑(nearLo k (wn + 1)) : Int) + (↑j : Int))), pc (95 : Nat) ((0 : Int) ≤ (↑(nearLo k (wn + 1)) : Int) + (↑j : Int) ∧ (↑(nearLo k (wn + 1)) : Int) + (↑j : Int) < (↑(List.length a) : Int)) (V.ptr [V.i (Prod.fst (gp a (nearLo k (wn + 1) + j))), V.i (Prod.snd (gp a (nearLo k (wn + 1) + j)))]), pv (96 : Nat) (V.ptr [V.i (Prod.fst (gp a (nearLo k (wn + 1) + j))), V.i (Prod.snd (gp a (nearLo k (wn + 1) + j)))]), pv (97 : Nat) (V.i (Prod.fst (gp a (nearLo k (wn + 1) + j)))), pv (98 : Nat) (V.i (max (Prod.fst (Prod.snd (hearN a b k (nearLo k (wn + 1)) j))) (Prod.fst (gp a (nearLo k (wn + 1) + j))))), pv (99 : Nat) (V.ref (516 : Nat) (0 : Nat)), pv (100 : Nat) (V.ref (516 : Nat) (0 : Nat)), pw ((0 : Nat) + (1 : Nat) ≤ (4 : Nat)) (516 : Nat) (Ob.box (100 : Nat) [V.i (min (Prod.fst (hearN a b k (nearLo k (wn + 1)) j)) (Prod.fst (gp b (nearLo k (wn + 1) + j)))), V.i (Prod.fst (Prod.snd (hearN a b k (nearLo k (wn + 1)) j))), V.i (Prod.fst (Prod.snd (Prod.snd (hearN a b k (nearLo k (wn + 1)) j)))), V.i (Prod.snd (Prod.snd (Prod.snd (hearN a b k (nearLo k (wn + 1)) j))))]), pv (101 : Nat) (V.ref (516 : Nat) (0 : Nat)), pv (102 : Nat) (V.ref (516 : Nat) (1 : Nat)), pw ((1 : Nat) + (1 : Nat) ≤ (4 : Nat)) (516 : Nat) (Ob.box (100 : Nat) [V.i (min (Prod.fst (hearN a b k (nearLo k (wn + 1)) j)) (Prod.fst (gp b (nearLo k (wn + 1) + j)))), V.i (max (Prod.fst (Prod.snd (hearN a b k (nearLo k (wn + 1)) j))) (Prod.fst (gp a (nearLo k (wn + 1) + j)))), V.i (Prod.fst (Prod.snd (Prod.snd (hearN a b k (nearLo k (wn + 1)) j)))), V.i (Prod.snd (Prod.snd (Prod.snd (hearN a b k (nearLo k (wn + 1)) j))))])] kR kR ⟨oM, oM, oM, oM, oM, oM, tI⟩ ?_
      refine aops_nil ⟨kR, ?_⟩
      refine xt_n ?_
      refine hK _ ?_
      clear hK K
      refine w_regionD (n' := 4) kR kR ?_
      refine aops_n hTT (M := []) (n := 24) [pv (103 : Nat) (V.ref (516 : Nat) (2 : Nat)), pv (104 : Nat) (V.ref (516 : Nat) (2 : Nat)), pc (105 : Nat) ((2 : Nat) ≤ (4 : Nat)) (V.i (Prod.fst (Prod.snd (Prod.snd (hearN a b k (nearLo k (wn + 1)) j))))), pv (106 : Nat) (V.sl (2 : Nat) (List.length a) fun (k : Nat) => [V.i (Prod.fst (gp a k)), V.i (Prod.snd (gp a k))]), pv (107 : Nat) (V.i ((↑(nearLo k (wn + 1)) : Int) + (↑j : Int))), pc (108 : Nat) ((0 : Int) ≤ (↑(nearLo k (wn + 1)) : Int) + (↑j : Int) ∧ (↑(nearLo k (wn + 1)) : Int) + (↑j : Int) < (↑(List.length a) : Int)) (V.ptr [V.i (Prod.fst (gp a (nearLo k (wn + 1) + j))), V.i (Prod.snd (gp a (nearLo k (wn + 1) + j)))]), pv (109 : Nat) (V.ptr [V.i (Prod.snd (gp a (nearLo k (wn + 1) + j)))]), pv (110 : Nat) (V.i (Prod.snd (gp a (nearLo k (wn + 1) + j)))), pv (111 : Nat) (V.i (min (Prod.fst (Prod.snd (Prod.snd (hearN a b k (nearLo k (wn + 1)) j)))) (Prod.snd (gp a (nearLo k (wn + 1) + j))))), pv (112 : Nat) (V.ref (516 : Nat) (2 : Nat)), pv (113 : Nat) (V.ref (516 : Nat) (3 : Nat)), pc (114 : Nat) ((3 : Nat) ≤ (4 : Nat)) (V.i (Prod.snd (Prod.snd (Prod.snd (hearN a b k (nearLo k (wn + 1)) j))))), pv (115 : Nat) (V.sl (2 : Nat) (List.length b) fun (k : Nat) => [V.i (Prod.fst (gp b k)), V.i (Prod.snd (gp b k))]), pv (116 : Nat) (V.i ((↑(nearLo k (wn + 1)) : Int) + (↑j : Int))), pc (117 : Nat) ((0 : Int) ≤ (↑(nearLo k (wn + 1)) : Int) + (↑j : Int) ∧ (↑(nearLo k (wn + 1)) : Int) + (↑j : Int) < (↑(List.length b) : Int)) (V.ptr [V.i (Prod.fst (gp b (nearLo k (wn + 1) + j))), V.i (Prod.snd (gp b (nearLo k (wn + 1) + j)))]), pv (118 : Nat) (V.ptr [V.i (Prod.snd (gp b (nearLo k (wn + 1) + j)))]), pv (119 : Nat) (V.i (Prod.snd (gp b (nearLo k (wn + 1) + j)))), pv (120 : Nat) (V.i (max (Prod.snd (Prod.snd (Prod.snd (hearN a b k (nearLo k (wn + 1)) j)))) (Prod.snd (gp b (nearLo k (wn + 1) + j))))), pv (121 : Nat) (V.ref (516 : Nat) (2 : Nat)), pv (122 : Nat) (V.ref (516 : Nat) (2 : Nat)), pw ((2 : Nat) + (1 : Nat) ≤ (4 : Nat)) (516 : Nat) (Ob.box (100 : Nat) [V.i (min (Prod.fst (hearN a b k (nearLo k (wn + 1)) j)) (Prod.fst (gp b (nearLo k (wn + 1) + j)))), V.i (max (Prod.fst (Prod.snd (hearN a b k (nearLo k (wn + 1)) j))) (Prod.fst (gp a (nearLo k (wn + 1) + j)))), V.i (min (Prod.fst (Prod.snd (Prod.snd (hearN a b k (nearLo k (wn + 1)) j)))) (Prod.snd (gp a (nearLo k (wn + 1) + j)))), V.i (Prod.snd (Prod.snd (Prod.snd (hearN a b k (nearLo k (wn + 1)) j))))]), pv (123 : Nat) (V.ref (516 : Nat) (2 : Nat)), pv (124 : Nat) (V.ref (516 : Nat) (3 : Nat)), pw ((3 : Nat) + (1 : Nat) ≤ (4 : Nat)) (516 : Nat) (Ob.box (100 : Nat) [V.i (min (Prod.fst (hearN a b k (nearLo k (wn + 1)) j)) (Prod.fst (gp b (nearLo k (wn + 1) + j)))), V.i (max (Prod.fst (Prod.snd (hearN a b k (nearLo k (wn + 1)) j))) (Prod.fst (gp a (nearLo k (wn + 1) + j)))), V.i (min (Prod.fst (Prod.snd (Prod.snd (hearN a b k (nearLo k (wn + 1)) j)))) (Prod.snd (gp a (nearLo k (wn + 1) + j)))), V.i (max (Prod.snd (Prod.snd (Prod.snd (hearN a b k (nearLo k (wn + 1)) j)))) (Prod.snd (gp b (nearLo k (wn + 1) + j))))])] kR kR ⟨oM, oM, oM, oM, oM, oM, tI⟩ ?_
      refine aops_nil ⟨kR, ?_⟩
      refine xb_n ?_
      refine ⟨trivial, ?_⟩
      refine le_ren (sl := [(514, Ob.row (100 : Nat) (4 : Nat) k fun (k : Nat) => vhd (hearAt a b (List.length l) (wn + 1) k)), (516, Ob.box (100 : Nat) [V.i (Prod.fst (hearN a b k (nearLo k (wn + 1)) (j + 1))), V.i (Prod.fst (Prod.snd (hearN a b k (nearLo k (wn + 1)) (j + 1)))), V.i (Prod.fst (Prod.snd (Prod.snd (hearN a b k (nearLo k (wn + 1)) (j + 1))))), V.i (Prod.snd (Prod.snd (Prod.snd (hearN a b k (nearLo k (wn + 1)) (j + 1)))))])]) [] .nil (.cons ⟨Ob.row (100 : Nat) (4 : Nat) k fun (k : Nat) => vhd (hearAt a b (List.length l) (wn + 1) k), kR, .row kR (fun _ _ => rfl)⟩ (.cons ⟨Ob.box (100 : Nat) [V.i (min (Prod.fst (hearN a b k (nearLo k (wn + 1)) j)) (Prod.fst (gp b (nearLo k (wn + 1) + j)))), V.i (max (Prod.fst (Prod.snd (hearN a b k (nearLo k (wn + 1)) j))) (Prod.fst (gp a (nearLo k (wn + 1) + j)))), V.i (min (Prod.fst (Prod.snd (Prod.snd (hearN a b k (nearLo k (wn + 1)) j)))) (Prod.snd (gp a (nearLo k (wn + 1) + j)))), V.i (max (Prod.snd (Prod.snd (Prod.snd (hearN a b k (nearLo k (wn + 1)) j)))) (Prod.snd (gp b (nearLo k (wn + 1) + j))))], kR, .box ?_⟩ .nil)) kR kR
      rw [hearN_succ]
      rfl
    · intro _
      refine xb_n ?_
      refine xt_n ?_
      refine hK _ ?_
      clear hK K
      refine w_region (n' := 2) kR kR ?_
      refine aops_n hTT (M := []) (n := 5) [pv (125 : Nat) (V.own (514 : Nat)), pc (126 : Nat) ((0 : Nat) ≤ (4 : Nat)) (V.agg [V.i (Prod.fst (hearN a b k (nearLo k (wn + 1)) (List.length (nearV k (List.length l) (wn + 1))))), V.i (Prod.fst (Prod.snd (hearN a b k (nearLo k (wn + 1)) (List.length (nearV k (List.length l) (wn + 1)))))), V.i (Prod.fst (Prod.snd (Prod.snd (hearN a b k (nearLo k (wn + 1)) (List.length (nearV k (List.length l) (wn + 1))))))), V.i (Prod.snd (Prod.snd (Prod.snd (hearN a b k (nearLo k (wn + 1)) (List.length (nearV k (List.length l) (wn + 1)))))))]), pv (127 : Nat) (V.sl (4 : Nat) (1 : Nat) fun (i : Nat) => List.take (4 : Nat) (List.drop (i * 4) [V.i (Prod.fst (hearN a b k (nearLo k (wn + 1)) (List.length (nearV k (List.length l) (wn + 1))))), V.i (Prod.fst (Prod.snd (hearN a b k (nearLo k (wn + 1)) (List.length (nearV k (List.length l) (wn + 1)))))), V.i (Prod.fst (Prod.snd (Prod.snd (hearN a b k (nearLo k (wn + 1)) (List.length (nearV k (List.length l) (wn + 1))))))), V.i (Prod.snd (Prod.snd (Prod.snd (hearN a b k (nearLo k (wn + 1)) (List.length (nearV k (List.length l) (wn + 1)))))))])), PR.mk (some (128 : Nat)) (some (k + 1 ≤ (1099511627776 : Nat))) (V.own (100128 : Nat)) [((514 : Nat), none), ((100128 : Nat), some (Ob.row (100 : Nat) (4 : Nat) (k + 1) (appRow k (fun (k : Nat) => vhd (hearAt a b (List.length l) (wn + 1) k)) fun (i : Nat) => List.take (4 : Nat) (List.drop (i * 4) [V.i (Prod.fst (hearN a b k (nearLo k (wn + 1)) (List.length (nearV k (List.length l) (wn + 1))))), V.i (Prod.fst (Prod.snd (hearN a b k (nearLo k (wn + 1)) (List.length (nearV k (List.length l) (wn + 1)))))), V.i (Prod.fst (Prod.snd (Prod.snd (hearN a b k (nearLo k (wn + 1)) (List.length (nearV k (List.length l) (wn + 1))))))), V.i (Prod.snd (Prod.snd (Prod.snd (hearN a b k (nearLo k (wn + 1)) (List.length (nearV k (List.length l) (wn + 1)))))))]))))] false, pv (14 : Nat) (V.own (100128 : Nat))] kR kR ⟨oM, oM, tI⟩ ?_
      refine aops_nil ?_
      refine xb_n ?_
      refine xt_n ?_
      refine hK _ ?_
      clear hK K
      refine w_region (n' := 3) kR kR ?_
      refine aops_n hTT (M := []) (n := 2) [pc (129 : Nat) ((-9223372036854775808 : Int) ≤ (↑k : Int) + 1 ∧ (↑k : Int) + 1 ≤ (9223372036854775807 : Int)) (V.i ((↑k : Int) + 1)), pv (47 : Nat) (V.i ((↑k : Int) + 1))] kR kR ⟨oM, tI⟩ ?_
      refine aops_nil ?_
      refine xt_n ?_
      refine ⟨k + 1, by omega, ?_, by omega⟩
      refine le_ren (tl := [(2, V.sl (2 : Nat) (List.length l) fun (k : Nat) => [V.i (Prod.fst (gp l k)), V.i (Prod.snd (gp l k))]), (3, V.i (↑wn : Int)), (12, V.ptr [V.sl (2 : Nat) (List.length a) fun (k : Nat) => [V.i (Prod.fst (gp a k)), V.i (Prod.snd (gp a k))]]), (13, V.ptr [V.sl (2 : Nat) (List.length b) fun (k : Nat) => [V.i (Prod.fst (gp b k)), V.i (Prod.snd (gp b k))]]), (14, V.own (14 : Nat)), (46, V.i (↑(List.length l) : Int)), (47, V.i (↑(k + 1) : Int))]) (sl := [(14, Ob.row (100 : Nat) (4 : Nat) (k + 1) fun (k : Nat) => vhd (hearAt a b (List.length l) (wn + 1) k))]) [(14, 100128)] (.cons kR (.cons kR (.cons kR (.cons kR (.cons kR (.cons kR (.cons kR .nil))))))) (.cons ⟨Ob.row (100 : Nat) (4 : Nat) (k + 1) (appRow k (fun (k : Nat) => vhd (hearAt a b (List.length l) (wn + 1) k)) fun (i : Nat) => List.take (4 : Nat) (List.drop (i * 4) [V.i (Prod.fst (hearN a b k (nearLo k (wn + 1)) (List.length (nearV k (List.length l) (wn + 1))))), V.i (Prod.fst (Prod.snd (hearN a b k (nearLo k (wn + 1)) (List.length (nearV k (List.length l) (wn + 1)))))), V.i (Prod.fst (Prod.snd (Prod.snd (hearN a b k (nearLo k (wn + 1)) (List.length (nearV k (List.length l) (wn + 1))))))), V.i (Prod.snd (Prod.snd (Prod.snd (hearN a b k (nearLo k (wn + 1)) (List.length (nearV k (List.length l) (wn + 1)))))))])), kR, .row kR ?_⟩ .nil) kR kR
      intro i hi
      have hln : (nearV k l.length (wn + 1)).length = nearN k l.length (wn + 1) := by simp [nearV]
      rw [hln]
      by_cases hik : i < k
      · rw [appRow_lt hik]; rfl
      · obtain rfl : i = k := by omega
        rw [appRow_at]
        simp only [hearAt, hearK_all hkl (Nat.succ_pos wn)]
        rfl
    · intro _ _ _ _ h
      exact h.elim
  simp at hkl
  obtain rfl : k = l.length := by omega
  refine aw_exit ?_
  refine xt_x ?_
  refine xt_x ?_
  refine xb_same ?_
  refine xt_n ?_
  clear hK K
  refine hK _ ?_
  clear hK K
  refine sK fun K hK => ?_
  refine w_region (n' := 3) kR kR ?_
  refine aops_n hTT (M := []) (n := 3) [pv (130 : Nat) (V.own (14 : Nat)), pv (8 : Nat) (V.own (14 : Nat)), pv (9 : Nat) (V.i (0 : Int))] kR kR tI ?_
  refine aops_nil ?_
  refine xt_n ?_
  refine hK _ ?_
  clear hK K
  refine aw_ret ?_
  have h5 := hearE_5 h1 h2 h3 h4
  have h6 : hearNn s t l wn = l.length := by rw [hearNn, if_pos h5]
  refine ret_of_le (le_shut 8 14 (e := (100 : Nat)) (sz := (4 : Nat)) (n := List.length l) (n' := (hearNn s t l wn)) (row := fun (k : Nat) => vhd (hearAt a b (List.length l) (wn + 1) k)) (row' := (fun k => vhd (hearAt (readP s l) (readP t l) l.length ((wn : Int).toNat + 1) k))) kR kR (fun _ _ => rfl) ?_ ?_) ?_
  · exact h6.symm
  · intro i _
    rw [ha, hb]
    rfl
  refine ret_pure (v' := V.tup [V.sl (4 : Nat) (hearNn s t l (↑wn : Int)) fun (k : Nat) => vhd (hearAt (readP s l) (readP t l) (List.length l) (wn + 1) k), V.i (0 : Int)]) (.inr rfl) kR ?_ kR
  rw [hearV, h5]
  rfl
end Go.Proofs.YtplnhbenmgclfaaGreatDoor

namespace Go.Proofs.YtplnhbenmgclfaaGreatDoor
open Go.Ab Go.RowKit Go.Dw Go.Shelf
theorem hearK_spec (a b : List Pt) (t r : Nat) : ∀ k,
  (∀ x, x ≤ (hearK a b t r k).1 ↔ x ≤ (gp b t).1 ∧ ∀ u, u < k → dist u t < r → x ≤ (gp b u).1) ∧
  (∀ x, (hearK a b t r k).2.1 ≤ x ↔ (gp a t).1 ≤ x ∧ ∀ u, u < k → dist u t < r → (gp a u).1 ≤ x) ∧
  (∀ x, x ≤ (hearK a b t r k).2.2.1 ↔ x ≤ (gp a t).2 ∧ ∀ u, u < k → dist u t < r → x ≤ (gp a u).2) ∧
  (∀ x, (hearK a b t r k).2.2.2 ≤ x ↔ (gp b t).2 ≤ x ∧ ∀ u, u < k → dist u t < r → (gp b u).2 ≤ x)
 | 0 => by simp [hearK, hear0]
 | k + 1 => by
  obtain ⟨h1, h2, h3, h4⟩ := hearK_spec a b t r k
  have up : ∀ (p : Nat → Prop), (∀ u, u < k + 1 → dist u t < r → p u) ↔ (∀ u, u < k → dist u t < r → p u) ∧ (dist k t < r → p k) := fun p => by
   constructor
   ·
    exact fun h => ⟨fun u hu => h u oM, h k oM⟩
   ·
    rintro ⟨h, h'⟩ u hu hd
    by_cases he : u = k
    ·
     subst he; exact h' hd
    ·
     exact h u oM hd
  rw [hearK_succ]
  by_cases hd : dist k t < r
  ·
   rw [if_pos hd]
   refine ⟨fun x => ?_, fun x => ?_, fun x => ?_, fun x => ?_⟩
   ·
    rw [up, show (hs a b (hearK a b t r k) k).1 = min (hearK a b t r k).1 (gp b k).1 from rfl, Int.le_min, h1]
    simp [hd, and_assoc]
   ·
    rw [up, show (hs a b (hearK a b t r k) k).2.1 = max (hearK a b t r k).2.1 (gp a k).1 from rfl, Int.max_le, h2]
    simp [hd, and_assoc]
   ·
    rw [up, show (hs a b (hearK a b t r k) k).2.2.1 = min (hearK a b t r k).2.2.1 (gp a k).2 from rfl, Int.le_min, h3]
    simp [hd, and_assoc]
   ·
    rw [up, show (hs a b (hearK a b t r k) k).2.2.2 = max (hearK a b t r k).2.2.2 (gp b k).2 from rfl, Int.max_le, h4]
    simp [hd, and_assoc]
  ·
   rw [if_neg hd]
   refine ⟨fun x => ?_, fun x => ?_, fun x => ?_, fun x => ?_⟩
   ·
    rw [up, h1]; simp [hd]
   ·
    rw [up, h2]; simp [hd]
   ·
    rw [up, h3]; simp [hd]
   ·
    rw [up, h4]; simp [hd]
section
variable {a b : List Pt} {t r n : Nat}
theorem hear_wider {r' : Nat} (hr : r ≤ r') : (hearAt a b n r' t).1 ≤ (hearAt a b n r t).1 ∧ (hearAt a b n r t).2.1 ≤ (hearAt a b n r' t).2.1 ∧ (hearAt a b n r' t).2.2.1 ≤ (hearAt a b n r t).2.2.1 ∧ (hearAt a b n r t).2.2.2 ≤ (hearAt a b n r' t).2.2.2 := by
 obtain ⟨h1, h2, h3, h4⟩ := hearK_spec a b t r n
 obtain ⟨g1, g2, g3, g4⟩ := hearK_spec a b t r' n
 refine ⟨(h1 _).2 ?_, (h2 _).2 ?_, (h3 _).2 ?_, (h4 _).2 ?_⟩
 ·
  have := (g1 _).1 (Int.le_refl (hearK a b t r' n).1); exact ⟨this.1, fun u hu hd => this.2 u hu oM⟩
 ·
  have := (g2 _).1 (Int.le_refl (hearK a b t r' n).2.1); exact ⟨this.1, fun u hu hd => this.2 u hu oM⟩
 ·
  have := (g3 _).1 (Int.le_refl (hearK a b t r' n).2.2.1); exact ⟨this.1, fun u hu hd => this.2 u hu oM⟩
 ·
  have := (g4 _).1 (Int.le_refl (hearK a b t r' n).2.2.2); exact ⟨this.1, fun u hu hd => this.2 u hu oM⟩
end
end Go.Proofs.YtplnhbenmgclfaaGreatDoor

namespace Go.Proofs.YtplnhbenmgclfaaGreatDoor
open Go.Ab Go.RowKit Go.Dw Go.Shelf
def betB (x lo hi : Int) : Bool := decide (lo ≤ x) && decide (x ≤ hi)
set_option maxRecDepth 100000 in
theorem between_ac (x lo hi : Int) : AC Tryz.prog 87 [.i x, .i lo, .i hi] (.b (betB x lo hi)) [] := by
 refine acI hTT hMX Tryz.func87 Tryz.ntmps87 fun C hC hF => ?_
 refine sK fun K hK => wR 2 ?_; refine aX hTT 1 [] tI ?_; refine nK hK ?_; clear hK K; refine sK fun K hK => wR 3 ?_; refine aX hTT 9 [(4, .c (gA (decide (lo ≤ x) == true) True)), (5, .c (gA (decide (lo ≤ x) == true) True)), (6, .c (gC (decide (lo ≤ x) == true) True)), (7, .c ((decide (lo ≤ x) = true → (decide (lo ≤ x) == true) = true) ∧ True))] ⟨⟨⟨tI, tI⟩, (fun _ => tI)⟩, ⟨⟨tI, tI⟩, (fun _ => tI)⟩, ⟨⟨(by (exact fun h => h)), ⟨(by (exact fun h => h)), tI⟩⟩, (fun _ => tI)⟩, ⟨(by (intro h; rw [h]; rfl)), tI⟩, tI⟩ ?_; refine nK hK ?_; clear hK K
 refine aw_ret ?_
 refine rP (V.b (decide (lo ≤ x) && decide (x ≤ hi)))
set_option maxRecDepth 100000 in
theorem within3_ac (x lo hi : Int) : AC Tryz.prog 37 [.i x, .i lo, .i hi] (.b (betB x lo hi)) [] := by
 refine acI hTT hMX Tryz.func37 Tryz.ntmps37 fun C hC hF => ?_
 refine sK fun K hK => wR 2 ?_; refine aX hTT 1 [] tI ?_; refine nK hK ?_; clear hK K; refine sK fun K hK => wR 3 ?_; refine aX hTT 9 [(4, .c (gA (decide (lo ≤ x) == true) True)), (5, .c (gA (decide (lo ≤ x) == true) True)), (6, .c (gC (decide (lo ≤ x) == true) True)), (7, .c ((decide (lo ≤ x) = true → (decide (lo ≤ x) == true) = true) ∧ True))] ⟨⟨⟨tI, tI⟩, (fun _ => tI)⟩, ⟨⟨tI, tI⟩, (fun _ => tI)⟩, ⟨⟨(by (exact fun h => h)), ⟨(by (exact fun h => h)), tI⟩⟩, (fun _ => tI)⟩, ⟨(by (intro h; rw [h]; rfl)), tI⟩, tI⟩ ?_; refine nK hK ?_; clear hK K
 refine aw_ret ?_
 refine rP (V.b (decide (lo ≤ x) && decide (x ≤ hi)))
structure Cut where
 half : Int
 gain : Int
 thin : Int
 wide : Int
 slope : Int
 jerk : Int
 sty : Int
def Cut.v (c : Cut) : V := .agg [.i c.half, .i c.gain, .i c.thin, .i c.wide, .i c.slope, .i c.jerk, .i c.sty]
def bnd (c : Cut) : Nat → Int × Int × Int
 | 0 => (c.half, 1, 4096)
 | 1 => (c.gain, 0, 100000)
 | 2 => (c.thin, 0, c.wide)
 | 3 => (c.wide, 0, 1048576)
 | 4 => (c.slope, 0, 10000)
 | 5 => (c.jerk, 0, 1048576)
 | _ => (c.sty, 0, 1024)
def bndB (c : Cut) (j : Nat) : Bool := betB (bnd c j).1 (bnd c j).2.1 (bnd c j).2.2
def cutE (c : Cut) : Int := if (List.range 7).all (bndB c) then 0 else 2
theorem cutE_bad {c : Cut} {j : Nat} (hj : j < 7) (h : bndB c j = false) : cutE c = 2 := by
 rw [cutE, if_neg]
 simp only [Bool.not_eq_true, List.all_eq_false]
 exact ⟨j, by simpa using hj, by simp [h]⟩
theorem cutE_good {c : Cut} (h : ∀ j, j < 7 → bndB c j = true) : cutE c = 0 := by
 rw [cutE, if_pos]
 rw [List.all_eq_true]
 exact fun j hj => h j (by simpa using hj)
theorem cutE_cases (c : Cut) : cutE c = 0 ∨ cutE c = 2 := by unfold cutE; split <;> simp
theorem cutE_ok {c : Cut} : cutE c = 0 ↔ (1 ≤ c.half ∧ c.half ≤ 4096) ∧ (0 ≤ c.gain ∧ c.gain ≤ 100000) ∧ (0 ≤ c.thin ∧ c.thin ≤ c.wide) ∧ (0 ≤ c.wide ∧ c.wide ≤ 1048576) ∧ (0 ≤ c.slope ∧ c.slope ≤ 10000) ∧ (0 ≤ c.jerk ∧ c.jerk ≤ 1048576) ∧ (0 ≤ c.sty ∧ c.sty ≤ 1024) := by
 unfold cutE
 simp [List.range_succ, bndB, bnd, betB]
 omega
abbrev qPAb170 : Prop := (0 : Int) ≤ (0 : Int) ∧ (0 : Int) < (↑(3 : Nat) : Int)
theorem qPAb170_ : qPAb170 := oM
abbrev qPAb171 : Prop := (0 : Nat) ≤ (3 : Nat)
theorem qPAb171_ : qPAb171 := oM
abbrev qPAb172 : Prop := (0 : Int) ≤ (1 : Int) ∧ (1 : Int) < (↑(3 : Nat) : Int)
theorem qPAb172_ : qPAb172 := oM
abbrev qPAb173 : Prop := (1 : Nat) ≤ (3 : Nat)
theorem qPAb173_ : qPAb173 := oM
abbrev qPAb174 : Prop := (0 : Int) ≤ (2 : Int) ∧ (2 : Int) < (↑(3 : Nat) : Int)
theorem qPAb174_ : qPAb174 := oM
abbrev qPAb175 : Prop := (2 : Nat) ≤ (3 : Nat)
theorem qPAb175_ : qPAb175 := oM
abbrev yyPAb170 := (pn 4 (V.ref 200004 0) (200004 : Nat) (Ob.box 196 [V.i 0, V.i 0, V.i 0]))
set_option maxRecDepth 100000 in
theorem cutCheck_ac (c : Cut) : AC Tryz.prog 38 [c.v] (.i (cutE c)) [] := by
 refine acI hTT hMX Tryz.func38 Tryz.ntmps38 fun C hC hF => ?_
 refine sK fun K hK => wR 2 ?_; refine aX hTT 2 [] tI ?_; refine nK hK ?_; clear hK K; refine sK fun K hK => ?_; refine sK fun K hK => wR 3 ?_; refine aX hTT 25 [] tI ?_; refine nK hK ?_; clear hK K
 refine aw_block ?_
 refine w_loop (fun k : Nat => [(28, .agg [.i c.half, .i 1, .i 4096, .i c.gain, .i 0, .i 100000, .i c.thin, .i 0, .i c.wide, .i c.wide, .i 0, .i 1048576, .i c.slope, .i 0, .i 10000, .i c.jerk, .i 0, .i 1048576, .i c.sty, .i 0, .i 1024]), (29, .i k)]) (fun _ => [])
  (fun k => k ≤ 7 ∧ ∀ j, j < k → bndB c j = true) (fun k => 7 - k) 0 ⟨by decide, fun j hj => by omega⟩ ?_ ?_
 ·
  refine le_ren [] (.cons kR (.cons kR .nil)) .nil kR kR
 rintro k ⟨hk, hb⟩
 have h7 : k = 0 ∨ k = 1 ∨ k = 2 ∨ k = 3 ∨ k = 4 ∨ k = 5 ∨ k = 6 ∨ k = 7 := by omega
 rcases h7 with rfl | rfl | rfl | rfl | rfl | rfl | rfl | rfl
 ·
  refine sK fun K hK => ?_
  refine wR 2 ?_; refine aX hTT 1 [] tI ?_; refine nK hK ?_; clear hK K; refine sK fun K hK => ?_; refine w_true (t := true) kR rfl ?_
  refine aw_skip ?_
  refine xt_n (hK _ ?_); clear hK K; refine sK fun K hK => ?_
  refine aw_block ?_
  refine sK fun K hK => wR 3 ?_; refine aX hTT 3 [(0, .c ((0 : Int) ≤ (↑(0 : Nat) : Int) ∧ (↑(0 : Nat) : Int) < (↑(7 : Nat) : Int))), (1, .r yyPAb170), (2, .r (pw ((0 : Nat) + (3 : Nat) ≤ (3 : Nat)) (200004 : Nat) (Ob.box 196 [V.i (Cut.half c), V.i 1, V.i 4096])))] ⟨oM, oM, tI⟩ ?_; refine nK hK ?_; clear hK K; refine sK fun K hK => wR 4 ?_; refine aX hTT 6 [(0, .c qPAb170), (1, .c qPAb171), (2, .c qPAb172), (3, .c qPAb173), (4, .c qPAb174), (5, .c qPAb175)] ⟨qPAb170_, qPAb171_, qPAb172_, qPAb173_, qPAb174_, qPAb175_, tI⟩ ?_
  refine eC (between_ac (bnd c 0).1 (bnd c 0).2.1 (bnd c 0).2.2) ?_
  refine aX hTT 1 [] tI ?_; refine nK hK ?_; clear hK K
  refine w_cond (t := !betB (Prod.fst (bnd c (0 : Nat))) (Prod.fst (Prod.snd (bnd c (0 : Nat)))) (Prod.snd (Prod.snd (bnd c (0 : Nat))))) kR (fun h2 => ?_) (fun h2 => ?_)
  ·
   refine sK fun K hK => ?_
   refine wR 5 ?_; refine aX hTT 1 [] tI ?_; refine nK hK ?_; clear hK K
   refine aw_ret ?_
   refine xb_r ?_
   refine xt_r ?_; refine xt_r ?_
   refine xb_r ?_
   refine xt_r ?_
   rw [cutE_bad (j := 0) (by decide) (by simpa [bndB] using h2)]
   refine rP (V.i 2)
  refine aw_skip ?_
  refine xb_n ?_; refine xt_n (hK _ ?_); clear hK K; refine wR 5 ?_; refine aX hTT 2 [(0, .i ((↑(0 : Nat) : Int) + 1))] ⟨oM, tI⟩ ?_; refine aops_nil ?_; refine xt_n ?_
  refine ⟨1, ⟨by decide, fun i hi => ?_⟩, ?_, by decide⟩
  ·
   by_cases he : i = 0
   ·
    subst he; simpa [bndB] using h2
   ·
    exact hb i oM
  ·
   refine le_ren [] (.cons kR (.cons kR .nil)) .nil kR kR
 ·
  refine sK fun K hK => ?_
  refine wR 2 ?_; refine aX hTT 1 [] tI ?_; refine nK hK ?_; clear hK K; refine sK fun K hK => ?_; refine w_true (t := true) kR rfl ?_
  refine aw_skip ?_
  refine xt_n (hK _ ?_); clear hK K; refine sK fun K hK => ?_
  refine aw_block ?_
  refine sK fun K hK => wR 3 ?_; refine aX hTT 3 [(0, .c ((0 : Int) ≤ (↑(1 : Nat) : Int) ∧ (↑(1 : Nat) : Int) < (↑(7 : Nat) : Int))), (1, .r yyPAb170), (2, .r (pw ((0 : Nat) + (3 : Nat) ≤ (3 : Nat)) (200004 : Nat) (Ob.box 196 [V.i (Cut.gain c), V.i 0, V.i 100000])))] ⟨oM, oM, tI⟩ ?_; refine nK hK ?_; clear hK K; refine sK fun K hK => wR 4 ?_; refine aX hTT 6 [(0, .c qPAb170), (1, .c qPAb171), (2, .c qPAb172), (3, .c qPAb173), (4, .c qPAb174), (5, .c qPAb175)] ⟨qPAb170_, qPAb171_, qPAb172_, qPAb173_, qPAb174_, qPAb175_, tI⟩ ?_
  refine eC (between_ac (bnd c 1).1 (bnd c 1).2.1 (bnd c 1).2.2) ?_
  refine aX hTT 1 [] tI ?_; refine nK hK ?_; clear hK K
  refine w_cond (t := !betB (Prod.fst (bnd c (1 : Nat))) (Prod.fst (Prod.snd (bnd c (1 : Nat)))) (Prod.snd (Prod.snd (bnd c (1 : Nat))))) kR (fun h2 => ?_) (fun h2 => ?_)
  ·
   refine sK fun K hK => ?_
   refine wR 5 ?_; refine aX hTT 1 [] tI ?_; refine nK hK ?_; clear hK K
   refine aw_ret ?_
   refine xb_r ?_
   refine xt_r ?_; refine xt_r ?_
   refine xb_r ?_
   refine xt_r ?_
   rw [cutE_bad (j := 1) (by decide) (by simpa [bndB] using h2)]
   refine rP (V.i 2)
  refine aw_skip ?_
  refine xb_n ?_; refine xt_n (hK _ ?_); clear hK K; refine wR 5 ?_; refine aX hTT 2 [(0, .i ((↑(1 : Nat) : Int) + 1))] ⟨oM, tI⟩ ?_; refine aops_nil ?_; refine xt_n ?_
  refine ⟨2, ⟨by decide, fun i hi => ?_⟩, ?_, by decide⟩
  ·
   by_cases he : i = 1
   ·
    subst he; simpa [bndB] using h2
   ·
    exact hb i oM
  ·
   refine le_ren [] (.cons kR (.cons kR .nil)) .nil kR kR
 ·
  refine sK fun K hK => ?_
  refine wR 2 ?_; refine aX hTT 1 [] tI ?_; refine nK hK ?_; clear hK K; refine sK fun K hK => ?_; refine w_true (t := true) kR rfl ?_
  refine aw_skip ?_
  refine xt_n (hK _ ?_); clear hK K; refine sK fun K hK => ?_
  refine aw_block ?_
  refine sK fun K hK => wR 3 ?_; refine aX hTT 3 [(0, .c ((0 : Int) ≤ (↑(2 : Nat) : Int) ∧ (↑(2 : Nat) : Int) < (↑(7 : Nat) : Int))), (1, .r yyPAb170), (2, .r (pw ((0 : Nat) + (3 : Nat) ≤ (3 : Nat)) (200004 : Nat) (Ob.box 196 [V.i (Cut.thin c), V.i 0, V.i (Cut.wide c)])))] ⟨oM, oM, tI⟩ ?_; refine nK hK ?_; clear hK K; refine sK fun K hK => wR 4 ?_; refine aX hTT 6 [(0, .c qPAb170), (1, .c qPAb171), (2, .c qPAb172), (3, .c qPAb173), (4, .c qPAb174), (5, .c qPAb175)] ⟨qPAb170_, qPAb171_, qPAb172_, qPAb173_, qPAb174_, qPAb175_, tI⟩ ?_
  refine eC (between_ac (bnd c 2).1 (bnd c 2).2.1 (bnd c 2).2.2) ?_
  refine aX hTT 1 [] tI ?_; refine nK hK ?_; clear hK K
  refine w_cond (t := !betB (Prod.fst (bnd c (2 : Nat))) (Prod.fst (Prod.snd (bnd c (2 : Nat)))) (Prod.snd (Prod.snd (bnd c (2 : Nat))))) kR (fun h2 => ?_) (fun h2 => ?_)
  ·
   refine sK fun K hK => ?_
   refine wR 5 ?_; refine aX hTT 1 [] tI ?_; refine nK hK ?_; clear hK K
   refine aw_ret ?_
   refine xb_r ?_
   refine xt_r ?_; refine xt_r ?_
   refine xb_r ?_
   refine xt_r ?_
   rw [cutE_bad (j := 2) (by decide) (by simpa [bndB] using h2)]
   refine rP (V.i 2)
  refine aw_skip ?_
  refine xb_n ?_; refine xt_n (hK _ ?_); clear hK K; refine wR 5 ?_; refine aX hTT 2 [(0, .i ((↑(2 : Nat) : Int) + 1))] ⟨oM, tI⟩ ?_; refine aops_nil ?_; refine xt_n ?_
  refine ⟨3, ⟨by decide, fun i hi => ?_⟩, ?_, by decide⟩
  ·
   by_cases he : i = 2
   ·
    subst he; simpa [bndB] using h2
   ·
    exact hb i oM
  ·
   refine le_ren [] (.cons kR (.cons kR .nil)) .nil kR kR
 ·
  refine sK fun K hK => ?_
  refine wR 2 ?_; refine aX hTT 1 [] tI ?_; refine nK hK ?_; clear hK K; refine sK fun K hK => ?_; refine w_true (t := true) kR rfl ?_
  refine aw_skip ?_
  refine xt_n (hK _ ?_); clear hK K; refine sK fun K hK => ?_
  refine aw_block ?_
  refine sK fun K hK => wR 3 ?_; refine aX hTT 3 [(0, .c ((0 : Int) ≤ (↑(3 : Nat) : Int) ∧ (↑(3 : Nat) : Int) < (↑(7 : Nat) : Int))), (1, .r yyPAb170), (2, .r (pw ((0 : Nat) + (3 : Nat) ≤ (3 : Nat)) (200004 : Nat) (Ob.box 196 [V.i (Cut.wide c), V.i 0, V.i 1048576])))] ⟨oM, oM, tI⟩ ?_; refine nK hK ?_; clear hK K; refine sK fun K hK => wR 4 ?_; refine aX hTT 6 [(0, .c qPAb170), (1, .c qPAb171), (2, .c qPAb172), (3, .c qPAb173), (4, .c qPAb174), (5, .c qPAb175)] ⟨qPAb170_, qPAb171_, qPAb172_, qPAb173_, qPAb174_, qPAb175_, tI⟩ ?_
  refine eC (between_ac (bnd c 3).1 (bnd c 3).2.1 (bnd c 3).2.2) ?_
  refine aX hTT 1 [] tI ?_; refine nK hK ?_; clear hK K
  refine w_cond (t := !betB (Prod.fst (bnd c (3 : Nat))) (Prod.fst (Prod.snd (bnd c (3 : Nat)))) (Prod.snd (Prod.snd (bnd c (3 : Nat))))) kR (fun h2 => ?_) (fun h2 => ?_)
  ·
   refine sK fun K hK => ?_
   refine wR 5 ?_; refine aX hTT 1 [] tI ?_; refine nK hK ?_; clear hK K
   refine aw_ret ?_
   refine xb_r ?_
   refine xt_r ?_; refine xt_r ?_
   refine xb_r ?_
   refine xt_r ?_
   rw [cutE_bad (j := 3) (by decide) (by simpa [bndB] using h2)]
   refine rP (V.i 2)
  refine aw_skip ?_
  refine xb_n ?_; refine xt_n (hK _ ?_); clear hK K; refine wR 5 ?_; refine aX hTT 2 [(0, .i ((↑(3 : Nat) : Int) + 1))] ⟨oM, tI⟩ ?_; refine aops_nil ?_; refine xt_n ?_
  refine ⟨4, ⟨by decide, fun i hi => ?_⟩, ?_, by decide⟩
  ·
   by_cases he : i = 3
   ·
    subst he; simpa [bndB] using h2
   ·
    exact hb i oM
  ·
   refine le_ren [] (.cons kR (.cons kR .nil)) .nil kR kR
 ·
  refine sK fun K hK => ?_
  refine wR 2 ?_; refine aX hTT 1 [] tI ?_; refine nK hK ?_; clear hK K; refine sK fun K hK => ?_; refine w_true (t := true) kR rfl ?_
  refine aw_skip ?_
  refine xt_n (hK _ ?_); clear hK K; refine sK fun K hK => ?_
  refine aw_block ?_
  refine sK fun K hK => wR 3 ?_; refine aX hTT 3 [(0, .c ((0 : Int) ≤ (↑(4 : Nat) : Int) ∧ (↑(4 : Nat) : Int) < (↑(7 : Nat) : Int))), (1, .r yyPAb170), (2, .r (pw ((0 : Nat) + (3 : Nat) ≤ (3 : Nat)) (200004 : Nat) (Ob.box 196 [V.i (Cut.slope c), V.i 0, V.i 10000])))] ⟨oM, oM, tI⟩ ?_; refine nK hK ?_; clear hK K; refine sK fun K hK => wR 4 ?_; refine aX hTT 6 [(0, .c qPAb170), (1, .c qPAb171), (2, .c qPAb172), (3, .c qPAb173), (4, .c qPAb174), (5, .c qPAb175)] ⟨qPAb170_, qPAb171_, qPAb172_, qPAb173_, qPAb174_, qPAb175_, tI⟩ ?_
  refine eC (between_ac (bnd c 4).1 (bnd c 4).2.1 (bnd c 4).2.2) ?_
  refine aX hTT 1 [] tI ?_; refine nK hK ?_; clear hK K
  refine w_cond (t := !betB (Prod.fst (bnd c (4 : Nat))) (Prod.fst (Prod.snd (bnd c (4 : Nat)))) (Prod.snd (Prod.snd (bnd c (4 : Nat))))) kR (fun h2 => ?_) (fun h2 => ?_)
  ·
   refine sK fun K hK => ?_
   refine wR 5 ?_; refine aX hTT 1 [] tI ?_; refine nK hK ?_; clear hK K
   refine aw_ret ?_
   refine xb_r ?_
   refine xt_r ?_; refine xt_r ?_
   refine xb_r ?_
   refine xt_r ?_
   rw [cutE_bad (j := 4) (by decide) (by simpa [bndB] using h2)]
   refine rP (V.i 2)
  refine aw_skip ?_
  refine xb_n ?_; refine xt_n (hK _ ?_); clear hK K; refine wR 5 ?_; refine aX hTT 2 [(0, .i ((↑(4 : Nat) : Int) + 1))] ⟨oM, tI⟩ ?_; refine aops_nil ?_; refine xt_n ?_
  refine ⟨5, ⟨by decide, fun i hi => ?_⟩, ?_, by decide⟩
  ·
   by_cases he : i = 4
   ·
    subst he; simpa [bndB] using h2
   ·
    exact hb i oM
  ·
   refine le_ren [] (.cons kR (.cons kR .nil)) .nil kR kR
 ·
  refine sK fun K hK => ?_
  refine wR 2 ?_; refine aX hTT 1 [] tI ?_; refine nK hK ?_; clear hK K; refine sK fun K hK => ?_; refine w_true (t := true) kR rfl ?_
  refine aw_skip ?_
  refine xt_n (hK _ ?_); clear hK K; refine sK fun K hK => ?_
  refine aw_block ?_
  refine sK fun K hK => wR 3 ?_; refine aX hTT 3 [(0, .c ((0 : Int) ≤ (↑(5 : Nat) : Int) ∧ (↑(5 : Nat) : Int) < (↑(7 : Nat) : Int))), (1, .r yyPAb170), (2, .r (pw ((0 : Nat) + (3 : Nat) ≤ (3 : Nat)) (200004 : Nat) (Ob.box 196 [V.i (Cut.jerk c), V.i 0, V.i 1048576])))] ⟨oM, oM, tI⟩ ?_; refine nK hK ?_; clear hK K; refine sK fun K hK => wR 4 ?_; refine aX hTT 6 [(0, .c qPAb170), (1, .c qPAb171), (2, .c qPAb172), (3, .c qPAb173), (4, .c qPAb174), (5, .c qPAb175)] ⟨qPAb170_, qPAb171_, qPAb172_, qPAb173_, qPAb174_, qPAb175_, tI⟩ ?_
  refine eC (between_ac (bnd c 5).1 (bnd c 5).2.1 (bnd c 5).2.2) ?_
  refine aX hTT 1 [] tI ?_; refine nK hK ?_; clear hK K
  refine w_cond (t := !betB (Prod.fst (bnd c (5 : Nat))) (Prod.fst (Prod.snd (bnd c (5 : Nat)))) (Prod.snd (Prod.snd (bnd c (5 : Nat))))) kR (fun h2 => ?_) (fun h2 => ?_)
  ·
   refine sK fun K hK => ?_
   refine wR 5 ?_; refine aX hTT 1 [] tI ?_; refine nK hK ?_; clear hK K
   refine aw_ret ?_
   refine xb_r ?_
   refine xt_r ?_; refine xt_r ?_
   refine xb_r ?_
   refine xt_r ?_
   rw [cutE_bad (j := 5) (by decide) (by simpa [bndB] using h2)]
   refine rP (V.i 2)
  refine aw_skip ?_
  refine xb_n ?_; refine xt_n (hK _ ?_); clear hK K; refine wR 5 ?_; refine aX hTT 2 [(0, .i ((↑(5 : Nat) : Int) + 1))] ⟨oM, tI⟩ ?_; refine aops_nil ?_; refine xt_n ?_
  refine ⟨6, ⟨by decide, fun i hi => ?_⟩, ?_, by decide⟩
  ·
   by_cases he : i = 5
   ·
    subst he; simpa [bndB] using h2
   ·
    exact hb i oM
  ·
   refine le_ren [] (.cons kR (.cons kR .nil)) .nil kR kR
 ·
  refine sK fun K hK => ?_
  refine wR 2 ?_; refine aX hTT 1 [] tI ?_; refine nK hK ?_; clear hK K; refine sK fun K hK => ?_; refine w_true (t := true) kR rfl ?_
  refine aw_skip ?_
  refine xt_n (hK _ ?_); clear hK K; refine sK fun K hK => ?_
  refine aw_block ?_
  refine sK fun K hK => wR 3 ?_; refine aX hTT 3 [(0, .c ((0 : Int) ≤ (↑(6 : Nat) : Int) ∧ (↑(6 : Nat) : Int) < (↑(7 : Nat) : Int))), (1, .r yyPAb170), (2, .r (pw ((0 : Nat) + (3 : Nat) ≤ (3 : Nat)) (200004 : Nat) (Ob.box 196 [V.i (Cut.sty c), V.i 0, V.i 1024])))] ⟨oM, oM, tI⟩ ?_; refine nK hK ?_; clear hK K; refine sK fun K hK => wR 4 ?_; refine aX hTT 6 [(0, .c qPAb170), (1, .c qPAb171), (2, .c qPAb172), (3, .c qPAb173), (4, .c qPAb174), (5, .c qPAb175)] ⟨qPAb170_, qPAb171_, qPAb172_, qPAb173_, qPAb174_, qPAb175_, tI⟩ ?_
  refine eC (between_ac (bnd c 6).1 (bnd c 6).2.1 (bnd c 6).2.2) ?_
  refine aX hTT 1 [] tI ?_; refine nK hK ?_; clear hK K
  refine w_cond (t := !betB (Prod.fst (bnd c (6 : Nat))) (Prod.fst (Prod.snd (bnd c (6 : Nat)))) (Prod.snd (Prod.snd (bnd c (6 : Nat))))) kR (fun h2 => ?_) (fun h2 => ?_)
  ·
   refine sK fun K hK => ?_
   refine wR 5 ?_; refine aX hTT 1 [] tI ?_; refine nK hK ?_; clear hK K
   refine aw_ret ?_
   refine xb_r ?_
   refine xt_r ?_; refine xt_r ?_
   refine xb_r ?_
   refine xt_r ?_
   rw [cutE_bad (j := 6) (by decide) (by simpa [bndB] using h2)]
   refine rP (V.i 2)
  refine aw_skip ?_
  refine xb_n ?_; refine xt_n (hK _ ?_); clear hK K; refine wR 5 ?_; refine aX hTT 2 [(0, .i ((↑(6 : Nat) : Int) + 1))] ⟨oM, tI⟩ ?_; refine aops_nil ?_; refine xt_n ?_
  refine ⟨7, ⟨by decide, fun i hi => ?_⟩, ?_, by decide⟩
  ·
   by_cases he : i = 6
   ·
    subst he; simpa [bndB] using h2
   ·
    exact hb i oM
  ·
   refine le_ren [] (.cons kR (.cons kR .nil)) .nil kR kR
 ·
  refine sK fun K hK => ?_
  refine wR 2 ?_; refine aX hTT 1 [] tI ?_; refine nK hK ?_; clear hK K; refine sK fun K hK => ?_; refine w_false (t := false) kR rfl ?_
  refine aw_exit ?_
  refine xt_x ?_; refine xt_x ?_
  refine xb_same ?_
  refine xt_n ?_; clear hK K; refine hK _ ?_; clear hK K; refine sK fun K hK => wR 3 ?_; refine aX hTT 1 [] tI ?_; refine nK hK ?_; clear hK K
  refine aw_ret ?_
  rw [cutE_good hb]
  refine rP (V.i 0)
theorem cut3 (c : Cut) : cutE c = if (!(betB c.half 1 4096) || !(betB c.gain 0 100000) || !(betB c.thin 0 1048576) || !(betB c.wide 0 1048576) || decide (c.wide < c.thin) || !(betB c.slope 0 10000) || !(betB c.jerk 0 1048576) || !(betB c.sty 0 1024)) = true then 2 else 0 := by
 rcases cutE_cases c with h | h
 ·
  rw [h, if_neg]
  have := cutE_ok.1 h
  simp [betB]
  omega
 ·
  rw [h, if_pos]
  have : ¬ cutE c = 0 := by rw [h]; decide
  rw [cutE_ok] at this
  simp [betB]
  omega
set_option maxRecDepth 100000 in
theorem refCheck_ac (c : Cut) : AC Tryz.prog 11 [c.v] (.i (cutE c)) [] := by
 refine acI hTT hMX Tryz.func11 Tryz.ntmps11 fun C hC hF => ?_
 refine sK fun K hK => wR 2 ?_; refine aX hTT 2 [] tI ?_; refine nK hK ?_; clear hK K; refine sK fun K hK => ?_; refine sK fun K hK => wR 3 ?_; refine aX hTT 2 [] tI ?_
 refine eC (within3_ac c.half 1 4096) ?_
 refine aX hTT 4 [(2, .c (gA ((!betB (Cut.half c) (1 : Int) (4096 : Int)) == false) True)), (3, .c (gB ((!betB (Cut.half c) (1 : Int) (4096 : Int)) == false) True))] ⟨⟨⟨tI, tI⟩, (fun _ => tI)⟩, ⟨⟨(by (exact fun h => h)), tI⟩, (fun _ => tI)⟩, tI⟩ ?_
 refine eG 1 (g := (!betB (Cut.half c) (1 : Int) (4096 : Int)) == false) (fun _ => within3_ac c.gain 0 100000) ?_
 refine aX hTT 5 [(0, .c (gB ((!betB (Cut.half c) (1 : Int) (4096 : Int)) == false) True)), (1, .c (True ∧ ((!betB (Cut.half c) (1 : Int) (4096 : Int)) = false → ((!betB (Cut.half c) (1 : Int) (4096 : Int)) == false) = true))), (3, .c (gA ((!betB (Cut.half c) (1 : Int) (4096 : Int) || !betB (Cut.gain c) (0 : Int) (100000 : Int)) == false) True)), (4, .c (gB ((!betB (Cut.half c) (1 : Int) (4096 : Int) || !betB (Cut.gain c) (0 : Int) (100000 : Int)) == false) True))] ⟨⟨⟨(by (exact fun h => h)), tI⟩, (fun _ => tI)⟩, ⟨tI, (by (intro h; rw [h]; rfl))⟩, ⟨⟨tI, tI⟩, (fun _ => tI)⟩, ⟨⟨(by (exact fun h => h)), tI⟩, (fun _ => tI)⟩, tI⟩ ?_
 refine eG 1 (g := (!betB (Cut.half c) (1 : Int) (4096 : Int) || !betB (Cut.gain c) (0 : Int) (100000 : Int)) == false) (fun _ => within3_ac c.thin 0 1048576) ?_
 refine aops_n hTT (M := []) (n := 5) [pc (17 : Nat) (((((!betB (Cut.half c) (1 : Int) (4096 : Int) || !betB (Cut.gain c) (0 : Int) (100000 : Int)) == false) = true → ((!betB (Cut.half c) (1 : Int) (4096 : Int) || !betB (Cut.gain c) (0 : Int) (100000 : Int)) == false) = true) ∧ True) ∧ (((!betB (Cut.half c) (1 : Int) (4096 : Int) || !betB (Cut.gain c) (0 : Int) (100000 : Int)) == false) = true → True)) (V.gd ((!betB (Cut.half c) (1 : Int) (4096 : Int) || !betB (Cut.gain c) (0 : Int) (100000 : Int)) == false) (V.b !betB (Cut.thin c) (0 : Int) (1048576 : Int))), pc (18 : Nat) (True ∧ ((!betB (Cut.half c) (1 : Int) (4096 : Int) || !betB (Cut.gain c) (0 : Int) (100000 : Int)) = false → ((!betB (Cut.half c) (1 : Int) (4096 : Int) || !betB (Cut.gain c) (0 : Int) (100000 : Int)) == false) = true)) (V.b (!betB (Cut.half c) (1 : Int) (4096 : Int) || !betB (Cut.gain c) (0 : Int) (100000 : Int) || !betB (Cut.thin c) (0 : Int) (1048576 : Int))), pv (19 : Nat) (V.b (!betB (Cut.half c) (1 : Int) (4096 : Int) || !betB (Cut.gain c) (0 : Int) (100000 : Int) || !betB (Cut.thin c) (0 : Int) (1048576 : Int))), pc (20 : Nat) ((True ∧ True) ∧ (((!betB (Cut.half c) (1 : Int) (4096 : Int) || !betB (Cut.gain c) (0 : Int) (100000 : Int) || !betB (Cut.thin c) (0 : Int) (1048576 : Int)) == false) = true → True)) (V.gd ((!betB (Cut.half c) (1 : Int) (4096 : Int) || !betB (Cut.gain c) (0 : Int) (100000 : Int) || !betB (Cut.thin c) (0 : Int) (1048576 : Int)) == false) (V.ptr [V.i (Cut.wide c), V.i (Cut.slope c), V.i (Cut.jerk c), V.i (Cut.sty c)])), pc (21 : Nat) (((((!betB (Cut.half c) (1 : Int) (4096 : Int) || !betB (Cut.gain c) (0 : Int) (100000 : Int) || !betB (Cut.thin c) (0 : Int) (1048576 : Int)) == false) = true → ((!betB (Cut.half c) (1 : Int) (4096 : Int) || !betB (Cut.gain c) (0 : Int) (100000 : Int) || !betB (Cut.thin c) (0 : Int) (1048576 : Int)) == false) = true) ∧ True) ∧ (((!betB (Cut.half c) (1 : Int) (4096 : Int) || !betB (Cut.gain c) (0 : Int) (100000 : Int) || !betB (Cut.thin c) (0 : Int) (1048576 : Int)) == false) = true → True)) (V.gd ((!betB (Cut.half c) (1 : Int) (4096 : Int) || !betB (Cut.gain c) (0 : Int) (100000 : Int) || !betB (Cut.thin c) (0 : Int) (1048576 : Int)) == false) (V.i (Cut.wide c)))] kR kR ⟨⟨⟨(by (exact fun h => h)), tI⟩, (fun _ => tI)⟩, ⟨tI, (by (intro h; rw [h]; rfl))⟩, ⟨⟨tI, tI⟩, (fun _ => tI)⟩, ⟨⟨(by (exact fun h => h)), tI⟩, (fun _ => tI)⟩, tI⟩ ?_
 refine eG 1 (g := (!betB (Cut.half c) (1 : Int) (4096 : Int) || !betB (Cut.gain c) (0 : Int) (100000 : Int) || !betB (Cut.thin c) (0 : Int) (1048576 : Int)) == false) (fun _ => within3_ac c.wide 0 1048576) ?_
 refine aops_n hTT (M := []) (n := 12) [pc (23 : Nat) (((((!betB (Cut.half c) (1 : Int) (4096 : Int) || !betB (Cut.gain c) (0 : Int) (100000 : Int) || !betB (Cut.thin c) (0 : Int) (1048576 : Int)) == false) = true → ((!betB (Cut.half c) (1 : Int) (4096 : Int) || !betB (Cut.gain c) (0 : Int) (100000 : Int) || !betB (Cut.thin c) (0 : Int) (1048576 : Int)) == false) = true) ∧ True) ∧ (((!betB (Cut.half c) (1 : Int) (4096 : Int) || !betB (Cut.gain c) (0 : Int) (100000 : Int) || !betB (Cut.thin c) (0 : Int) (1048576 : Int)) == false) = true → True)) (V.gd ((!betB (Cut.half c) (1 : Int) (4096 : Int) || !betB (Cut.gain c) (0 : Int) (100000 : Int) || !betB (Cut.thin c) (0 : Int) (1048576 : Int)) == false) (V.b !betB (Cut.wide c) (0 : Int) (1048576 : Int))), pc (24 : Nat) (True ∧ ((!betB (Cut.half c) (1 : Int) (4096 : Int) || !betB (Cut.gain c) (0 : Int) (100000 : Int) || !betB (Cut.thin c) (0 : Int) (1048576 : Int)) = false → ((!betB (Cut.half c) (1 : Int) (4096 : Int) || !betB (Cut.gain c) (0 : Int) (100000 : Int) || !betB (Cut.thin c) (0 : Int) (1048576 : Int)) == false) = true)) (V.b (!betB (Cut.half c) (1 : Int) (4096 : Int) || !betB (Cut.gain c) (0 : Int) (100000 : Int) || !betB (Cut.thin c) (0 : Int) (1048576 : Int) || !betB (Cut.wide c) (0 : Int) (1048576 : Int))), pv (25 : Nat) (V.b (!betB (Cut.half c) (1 : Int) (4096 : Int) || !betB (Cut.gain c) (0 : Int) (100000 : Int) || !betB (Cut.thin c) (0 : Int) (1048576 : Int) || !betB (Cut.wide c) (0 : Int) (1048576 : Int))), pc (26 : Nat) ((True ∧ True) ∧ (((!betB (Cut.half c) (1 : Int) (4096 : Int) || !betB (Cut.gain c) (0 : Int) (100000 : Int) || !betB (Cut.thin c) (0 : Int) (1048576 : Int) || !betB (Cut.wide c) (0 : Int) (1048576 : Int)) == false) = true → True)) (V.gd ((!betB (Cut.half c) (1 : Int) (4096 : Int) || !betB (Cut.gain c) (0 : Int) (100000 : Int) || !betB (Cut.thin c) (0 : Int) (1048576 : Int) || !betB (Cut.wide c) (0 : Int) (1048576 : Int)) == false) (V.ptr [V.i (Cut.thin c), V.i (Cut.wide c), V.i (Cut.slope c), V.i (Cut.jerk c), V.i (Cut.sty c)])), pc (27 : Nat) (((((!betB (Cut.half c) (1 : Int) (4096 : Int) || !betB (Cut.gain c) (0 : Int) (100000 : Int) || !betB (Cut.thin c) (0 : Int) (1048576 : Int) || !betB (Cut.wide c) (0 : Int) (1048576 : Int)) == false) = true → ((!betB (Cut.half c) (1 : Int) (4096 : Int) || !betB (Cut.gain c) (0 : Int) (100000 : Int) || !betB (Cut.thin c) (0 : Int) (1048576 : Int) || !betB (Cut.wide c) (0 : Int) (1048576 : Int)) == false) = true) ∧ True) ∧ (((!betB (Cut.half c) (1 : Int) (4096 : Int) || !betB (Cut.gain c) (0 : Int) (100000 : Int) || !betB (Cut.thin c) (0 : Int) (1048576 : Int) || !betB (Cut.wide c) (0 : Int) (1048576 : Int)) == false) = true → True)) (V.gd ((!betB (Cut.half c) (1 : Int) (4096 : Int) || !betB (Cut.gain c) (0 : Int) (100000 : Int) || !betB (Cut.thin c) (0 : Int) (1048576 : Int) || !betB (Cut.wide c) (0 : Int) (1048576 : Int)) == false) (V.i (Cut.thin c))), pc (28 : Nat) ((True ∧ True) ∧ (((!betB (Cut.half c) (1 : Int) (4096 : Int) || !betB (Cut.gain c) (0 : Int) (100000 : Int) || !betB (Cut.thin c) (0 : Int) (1048576 : Int) || !betB (Cut.wide c) (0 : Int) (1048576 : Int)) == false) = true → True)) (V.gd ((!betB (Cut.half c) (1 : Int) (4096 : Int) || !betB (Cut.gain c) (0 : Int) (100000 : Int) || !betB (Cut.thin c) (0 : Int) (1048576 : Int) || !betB (Cut.wide c) (0 : Int) (1048576 : Int)) == false) (V.ptr [V.i (Cut.wide c), V.i (Cut.slope c), V.i (Cut.jerk c), V.i (Cut.sty c)])), pc (29 : Nat) (((((!betB (Cut.half c) (1 : Int) (4096 : Int) || !betB (Cut.gain c) (0 : Int) (100000 : Int) || !betB (Cut.thin c) (0 : Int) (1048576 : Int) || !betB (Cut.wide c) (0 : Int) (1048576 : Int)) == false) = true → ((!betB (Cut.half c) (1 : Int) (4096 : Int) || !betB (Cut.gain c) (0 : Int) (100000 : Int) || !betB (Cut.thin c) (0 : Int) (1048576 : Int) || !betB (Cut.wide c) (0 : Int) (1048576 : Int)) == false) = true) ∧ True) ∧ (((!betB (Cut.half c) (1 : Int) (4096 : Int) || !betB (Cut.gain c) (0 : Int) (100000 : Int) || !betB (Cut.thin c) (0 : Int) (1048576 : Int) || !betB (Cut.wide c) (0 : Int) (1048576 : Int)) == false) = true → True)) (V.gd ((!betB (Cut.half c) (1 : Int) (4096 : Int) || !betB (Cut.gain c) (0 : Int) (100000 : Int) || !betB (Cut.thin c) (0 : Int) (1048576 : Int) || !betB (Cut.wide c) (0 : Int) (1048576 : Int)) == false) (V.i (Cut.wide c))), pc (30 : Nat) (((((!betB (Cut.half c) (1 : Int) (4096 : Int) || !betB (Cut.gain c) (0 : Int) (100000 : Int) || !betB (Cut.thin c) (0 : Int) (1048576 : Int) || !betB (Cut.wide c) (0 : Int) (1048576 : Int)) == false) = true → ((!betB (Cut.half c) (1 : Int) (4096 : Int) || !betB (Cut.gain c) (0 : Int) (100000 : Int) || !betB (Cut.thin c) (0 : Int) (1048576 : Int) || !betB (Cut.wide c) (0 : Int) (1048576 : Int)) == false) = true) ∧ (((!betB (Cut.half c) (1 : Int) (4096 : Int) || !betB (Cut.gain c) (0 : Int) (100000 : Int) || !betB (Cut.thin c) (0 : Int) (1048576 : Int) || !betB (Cut.wide c) (0 : Int) (1048576 : Int)) == false) = true → ((!betB (Cut.half c) (1 : Int) (4096 : Int) || !betB (Cut.gain c) (0 : Int) (100000 : Int) || !betB (Cut.thin c) (0 : Int) (1048576 : Int) || !betB (Cut.wide c) (0 : Int) (1048576 : Int)) == false) = true) ∧ True) ∧ (((!betB (Cut.half c) (1 : Int) (4096 : Int) || !betB (Cut.gain c) (0 : Int) (100000 : Int) || !betB (Cut.thin c) (0 : Int) (1048576 : Int) || !betB (Cut.wide c) (0 : Int) (1048576 : Int)) == false) = true → True)) (V.gd ((!betB (Cut.half c) (1 : Int) (4096 : Int) || !betB (Cut.gain c) (0 : Int) (100000 : Int) || !betB (Cut.thin c) (0 : Int) (1048576 : Int) || !betB (Cut.wide c) (0 : Int) (1048576 : Int)) == false) (V.b (decide (Cut.wide c < Cut.thin c)))), pc (31 : Nat) (True ∧ ((!betB (Cut.half c) (1 : Int) (4096 : Int) || !betB (Cut.gain c) (0 : Int) (100000 : Int) || !betB (Cut.thin c) (0 : Int) (1048576 : Int) || !betB (Cut.wide c) (0 : Int) (1048576 : Int)) = false → ((!betB (Cut.half c) (1 : Int) (4096 : Int) || !betB (Cut.gain c) (0 : Int) (100000 : Int) || !betB (Cut.thin c) (0 : Int) (1048576 : Int) || !betB (Cut.wide c) (0 : Int) (1048576 : Int)) == false) = true)) (V.b (!betB (Cut.half c) (1 : Int) (4096 : Int) || !betB (Cut.gain c) (0 : Int) (100000 : Int) || !betB (Cut.thin c) (0 : Int) (1048576 : Int) || !betB (Cut.wide c) (0 : Int) (1048576 : Int) || decide (Cut.wide c < Cut.thin c))), pv (32 : Nat) (V.b (!betB (Cut.half c) (1 : Int) (4096 : Int) || !betB (Cut.gain c) (0 : Int) (100000 : Int) || !betB (Cut.thin c) (0 : Int) (1048576 : Int) || !betB (Cut.wide c) (0 : Int) (1048576 : Int) || decide (Cut.wide c < Cut.thin c))), pc (33 : Nat) ((True ∧ True) ∧ (((!betB (Cut.half c) (1 : Int) (4096 : Int) || !betB (Cut.gain c) (0 : Int) (100000 : Int) || !betB (Cut.thin c) (0 : Int) (1048576 : Int) || !betB (Cut.wide c) (0 : Int) (1048576 : Int) || decide (Cut.wide c < Cut.thin c)) == false) = true → True)) (V.gd ((!betB (Cut.half c) (1 : Int) (4096 : Int) || !betB (Cut.gain c) (0 : Int) (100000 : Int) || !betB (Cut.thin c) (0 : Int) (1048576 : Int) || !betB (Cut.wide c) (0 : Int) (1048576 : Int) || decide (Cut.wide c < Cut.thin c)) == false) (V.ptr [V.i (Cut.slope c), V.i (Cut.jerk c), V.i (Cut.sty c)])), pc (34 : Nat) (((((!betB (Cut.half c) (1 : Int) (4096 : Int) || !betB (Cut.gain c) (0 : Int) (100000 : Int) || !betB (Cut.thin c) (0 : Int) (1048576 : Int) || !betB (Cut.wide c) (0 : Int) (1048576 : Int) || decide (Cut.wide c < Cut.thin c)) == false) = true → ((!betB (Cut.half c) (1 : Int) (4096 : Int) || !betB (Cut.gain c) (0 : Int) (100000 : Int) || !betB (Cut.thin c) (0 : Int) (1048576 : Int) || !betB (Cut.wide c) (0 : Int) (1048576 : Int) || decide (Cut.wide c < Cut.thin c)) == false) = true) ∧ True) ∧ (((!betB (Cut.half c) (1 : Int) (4096 : Int) || !betB (Cut.gain c) (0 : Int) (100000 : Int) || !betB (Cut.thin c) (0 : Int) (1048576 : Int) || !betB (Cut.wide c) (0 : Int) (1048576 : Int) || decide (Cut.wide c < Cut.thin c)) == false) = true → True)) (V.gd ((!betB (Cut.half c) (1 : Int) (4096 : Int) || !betB (Cut.gain c) (0 : Int) (100000 : Int) || !betB (Cut.thin c) (0 : Int) (1048576 : Int) || !betB (Cut.wide c) (0 : Int) (1048576 : Int) || decide (Cut.wide c < Cut.thin c)) == false) (V.i (Cut.slope c)))] kR kR ⟨⟨⟨(by (exact fun h => h)), tI⟩, (fun _ => tI)⟩, ⟨tI, (by (intro h; rw [h]; rfl))⟩, ⟨⟨tI, tI⟩, (fun _ => tI)⟩, ⟨⟨(by (exact fun h => h)), tI⟩, (fun _ => tI)⟩, ⟨⟨tI, tI⟩, (fun _ => tI)⟩, ⟨⟨(by (exact fun h => h)), tI⟩, (fun _ => tI)⟩, ⟨⟨(by (exact fun h => h)), ⟨(by (exact fun h => h)), tI⟩⟩, (fun _ => tI)⟩, ⟨tI, (by (intro h; rw [h]; rfl))⟩, ⟨⟨tI, tI⟩, (fun _ => tI)⟩, ⟨⟨(by (exact fun h => h)), tI⟩, (fun _ => tI)⟩, tI⟩ ?_
 refine eG 1 (g := (!betB (Cut.half c) (1 : Int) (4096 : Int) || !betB (Cut.gain c) (0 : Int) (100000 : Int) || !betB (Cut.thin c) (0 : Int) (1048576 : Int) || !betB (Cut.wide c) (0 : Int) (1048576 : Int) || decide (Cut.wide c < Cut.thin c)) == false) (fun _ => within3_ac c.slope 0 10000) ?_
 refine aX hTT 5 [(0, .c (gB ((!betB (Cut.half c) (1 : Int) (4096 : Int) || !betB (Cut.gain c) (0 : Int) (100000 : Int) || !betB (Cut.thin c) (0 : Int) (1048576 : Int) || !betB (Cut.wide c) (0 : Int) (1048576 : Int) || decide (Cut.wide c < Cut.thin c)) == false) True)), (1, .c (True ∧ ((!betB (Cut.half c) (1 : Int) (4096 : Int) || !betB (Cut.gain c) (0 : Int) (100000 : Int) || !betB (Cut.thin c) (0 : Int) (1048576 : Int) || !betB (Cut.wide c) (0 : Int) (1048576 : Int) || decide (Cut.wide c < Cut.thin c)) = false → ((!betB (Cut.half c) (1 : Int) (4096 : Int) || !betB (Cut.gain c) (0 : Int) (100000 : Int) || !betB (Cut.thin c) (0 : Int) (1048576 : Int) || !betB (Cut.wide c) (0 : Int) (1048576 : Int) || decide (Cut.wide c < Cut.thin c)) == false) = true))), (3, .c (gA ((!betB (Cut.half c) (1 : Int) (4096 : Int) || !betB (Cut.gain c) (0 : Int) (100000 : Int) || !betB (Cut.thin c) (0 : Int) (1048576 : Int) || !betB (Cut.wide c) (0 : Int) (1048576 : Int) || decide (Cut.wide c < Cut.thin c) || !betB (Cut.slope c) (0 : Int) (10000 : Int)) == false) True)), (4, .c (gB ((!betB (Cut.half c) (1 : Int) (4096 : Int) || !betB (Cut.gain c) (0 : Int) (100000 : Int) || !betB (Cut.thin c) (0 : Int) (1048576 : Int) || !betB (Cut.wide c) (0 : Int) (1048576 : Int) || decide (Cut.wide c < Cut.thin c) || !betB (Cut.slope c) (0 : Int) (10000 : Int)) == false) True))] ⟨⟨⟨(by (exact fun h => h)), tI⟩, (fun _ => tI)⟩, ⟨tI, (by (intro h; rw [h]; rfl))⟩, ⟨⟨tI, tI⟩, (fun _ => tI)⟩, ⟨⟨(by (exact fun h => h)), tI⟩, (fun _ => tI)⟩, tI⟩ ?_
 refine eG 1 (g := (!betB (Cut.half c) (1 : Int) (4096 : Int) || !betB (Cut.gain c) (0 : Int) (100000 : Int) || !betB (Cut.thin c) (0 : Int) (1048576 : Int) || !betB (Cut.wide c) (0 : Int) (1048576 : Int) || decide (Cut.wide c < Cut.thin c) || !betB (Cut.slope c) (0 : Int) (10000 : Int)) == false) (fun _ => within3_ac c.jerk 0 1048576) ?_
 refine aX hTT 5 [(0, .c (gB ((!betB (Cut.half c) (1 : Int) (4096 : Int) || !betB (Cut.gain c) (0 : Int) (100000 : Int) || !betB (Cut.thin c) (0 : Int) (1048576 : Int) || !betB (Cut.wide c) (0 : Int) (1048576 : Int) || decide (Cut.wide c < Cut.thin c) || !betB (Cut.slope c) (0 : Int) (10000 : Int)) == false) True)), (1, .c (True ∧ ((!betB (Cut.half c) (1 : Int) (4096 : Int) || !betB (Cut.gain c) (0 : Int) (100000 : Int) || !betB (Cut.thin c) (0 : Int) (1048576 : Int) || !betB (Cut.wide c) (0 : Int) (1048576 : Int) || decide (Cut.wide c < Cut.thin c) || !betB (Cut.slope c) (0 : Int) (10000 : Int)) = false → ((!betB (Cut.half c) (1 : Int) (4096 : Int) || !betB (Cut.gain c) (0 : Int) (100000 : Int) || !betB (Cut.thin c) (0 : Int) (1048576 : Int) || !betB (Cut.wide c) (0 : Int) (1048576 : Int) || decide (Cut.wide c < Cut.thin c) || !betB (Cut.slope c) (0 : Int) (10000 : Int)) == false) = true))), (3, .c (gA ((!betB (Cut.half c) (1 : Int) (4096 : Int) || !betB (Cut.gain c) (0 : Int) (100000 : Int) || !betB (Cut.thin c) (0 : Int) (1048576 : Int) || !betB (Cut.wide c) (0 : Int) (1048576 : Int) || decide (Cut.wide c < Cut.thin c) || !betB (Cut.slope c) (0 : Int) (10000 : Int) || !betB (Cut.jerk c) (0 : Int) (1048576 : Int)) == false) True)), (4, .c (gB ((!betB (Cut.half c) (1 : Int) (4096 : Int) || !betB (Cut.gain c) (0 : Int) (100000 : Int) || !betB (Cut.thin c) (0 : Int) (1048576 : Int) || !betB (Cut.wide c) (0 : Int) (1048576 : Int) || decide (Cut.wide c < Cut.thin c) || !betB (Cut.slope c) (0 : Int) (10000 : Int) || !betB (Cut.jerk c) (0 : Int) (1048576 : Int)) == false) True))] ⟨⟨⟨(by (exact fun h => h)), tI⟩, (fun _ => tI)⟩, ⟨tI, (by (intro h; rw [h]; rfl))⟩, ⟨⟨tI, tI⟩, (fun _ => tI)⟩, ⟨⟨(by (exact fun h => h)), tI⟩, (fun _ => tI)⟩, tI⟩ ?_
 refine eG 1 (g := (!betB (Cut.half c) (1 : Int) (4096 : Int) || !betB (Cut.gain c) (0 : Int) (100000 : Int) || !betB (Cut.thin c) (0 : Int) (1048576 : Int) || !betB (Cut.wide c) (0 : Int) (1048576 : Int) || decide (Cut.wide c < Cut.thin c) || !betB (Cut.slope c) (0 : Int) (10000 : Int) || !betB (Cut.jerk c) (0 : Int) (1048576 : Int)) == false) (fun _ => within3_ac c.sty 0 1024) ?_
 refine aops_n hTT (M := []) (n := 2) [pc (48 : Nat) (((((!betB (Cut.half c) (1 : Int) (4096 : Int) || !betB (Cut.gain c) (0 : Int) (100000 : Int) || !betB (Cut.thin c) (0 : Int) (1048576 : Int) || !betB (Cut.wide c) (0 : Int) (1048576 : Int) || decide (Cut.wide c < Cut.thin c) || !betB (Cut.slope c) (0 : Int) (10000 : Int) || !betB (Cut.jerk c) (0 : Int) (1048576 : Int)) == false) = true → ((!betB (Cut.half c) (1 : Int) (4096 : Int) || !betB (Cut.gain c) (0 : Int) (100000 : Int) || !betB (Cut.thin c) (0 : Int) (1048576 : Int) || !betB (Cut.wide c) (0 : Int) (1048576 : Int) || decide (Cut.wide c < Cut.thin c) || !betB (Cut.slope c) (0 : Int) (10000 : Int) || !betB (Cut.jerk c) (0 : Int) (1048576 : Int)) == false) = true) ∧ True) ∧ (((!betB (Cut.half c) (1 : Int) (4096 : Int) || !betB (Cut.gain c) (0 : Int) (100000 : Int) || !betB (Cut.thin c) (0 : Int) (1048576 : Int) || !betB (Cut.wide c) (0 : Int) (1048576 : Int) || decide (Cut.wide c < Cut.thin c) || !betB (Cut.slope c) (0 : Int) (10000 : Int) || !betB (Cut.jerk c) (0 : Int) (1048576 : Int)) == false) = true → True)) (V.gd ((!betB (Cut.half c) (1 : Int) (4096 : Int) || !betB (Cut.gain c) (0 : Int) (100000 : Int) || !betB (Cut.thin c) (0 : Int) (1048576 : Int) || !betB (Cut.wide c) (0 : Int) (1048576 : Int) || decide (Cut.wide c < Cut.thin c) || !betB (Cut.slope c) (0 : Int) (10000 : Int) || !betB (Cut.jerk c) (0 : Int) (1048576 : Int)) == false) (V.b !betB (Cut.sty c) (0 : Int) (1024 : Int))), pc (49 : Nat) (True ∧ ((!betB (Cut.half c) (1 : Int) (4096 : Int) || !betB (Cut.gain c) (0 : Int) (100000 : Int) || !betB (Cut.thin c) (0 : Int) (1048576 : Int) || !betB (Cut.wide c) (0 : Int) (1048576 : Int) || decide (Cut.wide c < Cut.thin c) || !betB (Cut.slope c) (0 : Int) (10000 : Int) || !betB (Cut.jerk c) (0 : Int) (1048576 : Int)) = false → ((!betB (Cut.half c) (1 : Int) (4096 : Int) || !betB (Cut.gain c) (0 : Int) (100000 : Int) || !betB (Cut.thin c) (0 : Int) (1048576 : Int) || !betB (Cut.wide c) (0 : Int) (1048576 : Int) || decide (Cut.wide c < Cut.thin c) || !betB (Cut.slope c) (0 : Int) (10000 : Int) || !betB (Cut.jerk c) (0 : Int) (1048576 : Int)) == false) = true)) (V.b (!betB (Cut.half c) (1 : Int) (4096 : Int) || !betB (Cut.gain c) (0 : Int) (100000 : Int) || !betB (Cut.thin c) (0 : Int) (1048576 : Int) || !betB (Cut.wide c) (0 : Int) (1048576 : Int) || decide (Cut.wide c < Cut.thin c) || !betB (Cut.slope c) (0 : Int) (10000 : Int) || !betB (Cut.jerk c) (0 : Int) (1048576 : Int) || !betB (Cut.sty c) (0 : Int) (1024 : Int)))] kR kR ⟨⟨⟨(by (exact fun h => h)), tI⟩, (fun _ => tI)⟩, ⟨tI, (by (intro h; rw [h]; rfl))⟩, tI⟩ ?_
 refine nK hK ?_; clear hK K
 refine w_cond (t := !betB (Cut.half c) (1 : Int) (4096 : Int) || !betB (Cut.gain c) (0 : Int) (100000 : Int) || !betB (Cut.thin c) (0 : Int) (1048576 : Int) || !betB (Cut.wide c) (0 : Int) (1048576 : Int) || decide (Cut.wide c < Cut.thin c) || !betB (Cut.slope c) (0 : Int) (10000 : Int) || !betB (Cut.jerk c) (0 : Int) (1048576 : Int) || !betB (Cut.sty c) (0 : Int) (1024 : Int)) kR (fun h => ?_) (fun h => ?_)
 ·
  refine sK fun K hK => ?_
  refine wR 4 ?_
  refine aops_n hTT (M := []) (n := 1) [pv (2 : Nat) (V.i (2 : Int))] kR kR tI ?_
  refine nK hK ?_; clear hK K
  refine aw_ret ?_
  refine xt_r ?_
  rw [cut3, if_pos h]
  refine rP (V.i (2 : Int))
 refine aw_skip ?_
 refine xt_n (hK _ ?_); clear hK K; refine sK fun K hK => wR 4 ?_; refine aX hTT 1 [] tI ?_; refine nK hK ?_; clear hK K
 refine aw_ret ?_
 rw [cut3, if_neg (by rw [h]; decide)]
 refine rP (V.i (0 : Int))
end Go.Proofs.YtplnhbenmgclfaaGreatDoor
