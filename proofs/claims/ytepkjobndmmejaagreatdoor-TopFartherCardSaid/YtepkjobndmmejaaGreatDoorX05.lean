/-
  Several texts in one: Plain laws of reading and sweeping: the two walks of a tip are an adjunction. No program in sight. No condition. .. The samples of extents: Channels in both copies. Conditions: told in each theorem.
-/
import Derived.Test.YtepkjobndmmejaaGreatDoorX04
import Derived.Test.YtepkjobndmmejaaGreatDoorAbs42
namespace Go.Proofs.YtepkjobndmmejaaGreatDoor
open Go.RowKit Go.Dw
def LeL (a b : List Int) : Prop := a.length = b.length ∧ ∀ k, k < a.length → gi a k ≤ gi b k
theorem LeL.refl (a : List Int) : LeL a a := ⟨rfl, fun _ _ => Int.le_refl _⟩
theorem LeL.trans {a b c : List Int} (h : LeL a b) (k : LeL b c) : LeL a c := ⟨h.1.trans k.1, fun i hi => Int.le_trans (h.2 i hi) (k.2 i (by rw [← h.1]; exact hi))⟩
theorem checkBoth_of {t : List Int} {l : List Pt} (h : checkTip t = 0) (k : checkPts l = 0) : checkBoth t l = 0 := by rw [checkBoth, if_pos h]; exact k
end Go.Proofs.YtepkjobndmmejaaGreatDoor

namespace Go.Proofs.YtepkjobndmmejaaGreatDoor
open Go.RowKit Go.Dw
end Go.Proofs.YtepkjobndmmejaaGreatDoor

namespace Go.Proofs.YtepkjobndmmejaaGreatDoor
open Go.RowKit Go.Dw
end Go.Proofs.YtepkjobndmmejaaGreatDoor

namespace Go.Proofs.YtepkjobndmmejaaGreatDoor
open Go.RowKit Go.Dw
end Go.Proofs.YtepkjobndmmejaaGreatDoor

namespace Go.Proofs.YtepkjobndmmejaaGreatDoor
open Go.RowKit Go.Dw
end Go.Proofs.YtepkjobndmmejaaGreatDoor

namespace Go.Proofs.YtepkjobndmmejaaGreatDoor
open Go.Ab Go.RowKit Go.Dw Go.Shelf
theorem open_tl {w : World} {L : Nat → Prop} {t : List Int} {l : List Pt} {vs : Array Value} (hL : ∀ b, L b → b < w.heap.size) (h : RV w L ρ0 [.agg [V.ints t], V.pts l] vs.toList) :
  ∃ A c B d, vs = #[.agg #[.slice A t.length c], .slice B l.length d] ∧ IntsAt w A t.length t ∧ PtsAt w B l.length l := by
 obtain ⟨vs⟩ := vs
 obtain ⟨x1, e1, q1⟩ := h.get (i := 0) rfl
 obtain ⟨x2, e2, q2⟩ := h.get (i := 1) rfl
 obtain ⟨xs, rfl, hx⟩ := q1.agg_inv
 obtain ⟨xs⟩ := xs
 obtain ⟨y, e3, q3, _⟩ := hx.get (i := 0) rfl
 obtain ⟨A, c, rfl, _, ha⟩ := R_ints_inv q3 hL
 obtain ⟨B, d, rfl, _, hb⟩ := R_pts_inv q2 hL
 have hn := h.1
 have hm := hx.1
 refine ⟨A, c, B, d, ?_, ha, hb⟩
 match vs, hn, xs, hm with
 | [a, b], _, [x], _ => simp at e1 e2 e3; subst e1 e2 e3; rfl
theorem ac_of_flat {P : Program} {f : FuncId} {args : List V} {x : Value} (he : ∀ (args : Array Value) (w : World), (callFunc f args).run P w = .ok (.enter f args) w)
  (h : ∀ (L : Nat → Prop) (w : World) (vs : Array Value), (∀ b, L b → b < w.heap.size) → RV w L ρ0 args vs.toList → Calls P f vs w fun e w' => e = .returned x ∧ Below w.heap.size w w') : AC P f args (.c x) [] := by
 refine ac_of_calls he fun L w vs hL hvs => (h L w vs hL hvs).mono ?_
 rintro e w' ⟨rfl, hb⟩
 exact ⟨_, rfl, hb, fun _ => False, fun _ h => h.elim, .c _ _⟩
theorem ac_of_pts {P : Program} {f : FuncId} {args : List V} {e0 : TypeId} {l : List Pt} {n : Nat} {k : Int} (he : ∀ (args : Array Value) (w : World), (callFunc f args).run P w = .ok (.enter f args) w)
  (h : ∀ (L : Nat → Prop) (w : World) (vs : Array Value), (∀ b, L b → b < w.heap.size) → RV w L ρ0 args vs.toList → Calls P f vs w fun e w' => ∃ v, e = .returned (.tuple #[v, .int .i64 k]) ∧ w'.ownsRow w.heap.size e0 2 v n (l.flatMap encP) ∧ Below w.heap.size w w') : AC P f args (.tup [V.pts l, .i k]) [] := by
 refine ac_of_calls he fun L w vs hL hvs => (h L w vs hL hvs).mono ?_
 rintro e w' ⟨v, rfl, ho, hb⟩
 obtain ⟨N, hN, hr⟩ := own_R_pts ho
 exact ⟨_, rfl, hb, N, hN, .tup' (.cons ((hr ρ0).ext ⟨fun b hb => ⟨.inr hb, rfl⟩, fun _ _ h => h⟩) (.cons (.c _ _) .nil))⟩
section
variable (t : List Int) (l : List Pt) (ht : t.length ≤ 4611686018427387904) (hl : l.length ≤ 4611686018427387904)
include ht hl
theorem check_ac : AC Tryz.prog 37 [.agg [V.ints t], V.pts l] (.i (checkBoth t l)) [] := by
 refine ac_of_flat (enters_of Tryz.func37 kR rfl) fun L w vs hL hvs => ?_
 obtain ⟨A, c, B, d, rfl, ha, hb⟩ := open_tl hL hvs
 exact check_calls A _ c t B _ d l w ha ht hb hl
theorem Read_ac : AC Tryz.prog 27 [.agg [V.ints t], V.pts l] (.tup [V.pts (wallsR t l), .i (checkBoth t l)]) [] := by
 refine ac_of_pts (e0 := 81) (n := (wallsR t l).length) (enters_of Tryz.func27 kR rfl) fun L w vs hL hvs => ?_
 obtain ⟨A, c, B, d, rfl, ha, hb⟩ := open_tl hL hvs
 exact Read_calls A _ c t B _ d l w ha hb ht hl
end
end Go.Proofs.YtepkjobndmmejaaGreatDoor

namespace Go.Proofs.YtepkjobndmmejaaGreatDoor
open Go.Ab Go.RowKit Go.Dw Go.Shelf
def missO (t : List Int) (l : List Pt) : Int × Int × Int := if checkBoth t l = 0 then missI t l else (0, 0, checkBoth t l)
set_option maxRecDepth 100000 in
theorem Miss_ac (t : List Int) (l : List Pt) (ht : t.length ≤ 4611686018427387904) (hl : l.length ≤ 4611686018427387904) : AC Tryz.prog 19 [.agg [V.ints t], V.pts l] (.tup [.i (missO t l).1, .i (missO t l).2.1, .i (missO t l).2.2]) [] := by
 refine acI hTT hMX Tryz.func19 Tryz.ntmps19 fun C hC hF => ?_
 refine sK fun K hK => wR 2 ?_; refine aX hTT 4 [] tI ?_; refine nK hK ?_; clear hK K; refine sK fun K hK => ?_; refine sK fun K hK => wR 3 ?_; refine aX hTT 2 [] tI ?_
 refine e_call (check_ac t l ht hl) rfl rfl rfl rfl rfl ?_
 refine aX hTT 1 [] tI ?_; refine nK hK ?_; clear hK K; refine sK fun K hK => wR 4 ?_; refine aX hTT 2 [] tI ?_; refine nK hK ?_; clear hK K
 refine w_cond rfl (fun h => ?_) (fun h => ?_)
 ·
  simp at h
  refine sK fun K hK => wR 5 ?_; refine aX hTT 4 [] tI ?_; refine nK hK ?_; clear hK K
  refine aw_ret ?_
  refine xt_r ?_
  rw [missO, if_neg h]
  refine ret_pure (.inr rfl) rfl rfl rfl
 ·
  simp at h
  refine aw_skip ?_
  refine xt_n (hK _ ?_); clear hK K; refine sK fun K hK => wR 5 ?_; refine aX hTT 2 [] tI ?_
  refine e_call (miss_ac t l h) rfl rfl rfl rfl rfl ?_
  refine aX hTT 6 [] tI ?_; refine nK hK ?_; clear hK K
  refine aw_ret ?_
  rw [missO, if_pos h]
  refine ret_pure (.inr rfl) rfl rfl rfl
end Go.Proofs.YtepkjobndmmejaaGreatDoor

namespace Go.Proofs.YtepkjobndmmejaaGreatDoor
open Go.Ab Go.RowKit Go.Dw Go.Shelf
theorem tdiv_mono {a b m : Int} (hm : 0 < m) (h : a ≤ b) : a.tdiv m ≤ b.tdiv m := by
  by_cases ha : 0 ≤ a
  · rw [Int.tdiv_eq_ediv_of_nonneg ha, Int.tdiv_eq_ediv_of_nonneg oM]
    exact Int.ediv_le_ediv hm h
  · by_cases hb : 0 ≤ b
    · have := (tdiv_bd a hm).2 oM
      have := (tdiv_bd b hm).1 hb
      omega
    · have e1 : a.tdiv m = -((-a) / m) := by
        have := Int.neg_tdiv (a := -a) (b := m)
        rw [Int.neg_neg] at this
        rw [this, Int.tdiv_eq_ediv_of_nonneg oM]
      have e2 : b.tdiv m = -((-b) / m) := by
        have := Int.neg_tdiv (a := -b) (b := m)
        rw [Int.neg_neg] at this
        rw [this, Int.tdiv_eq_ediv_of_nonneg oM]
      have := Int.ediv_le_ediv hm (show -b ≤ -a by omega)
      omega
structure Fs where
  F : Int
  G : Int
def isB (s : Fs) : Bool := decide (s.F ≤ s.G - 1)
def fo (s : Fs) (x : Int) : Bool := decide (s.F < x) && isB s
end Go.Proofs.YtepkjobndmmejaaGreatDoor
