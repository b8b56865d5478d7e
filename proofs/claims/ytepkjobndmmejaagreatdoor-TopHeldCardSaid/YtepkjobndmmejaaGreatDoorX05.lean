/-
  Several texts in one: The document's 'read': what it computes. No condition but the sizes of slices, and their bounds. .. Where a tip lands: the walk of play.Drop. Conditions: a valid groove, radii in range, a valid turn.
-/
import Derived.Test.YtepkjobndmmejaaGreatDoorX04
import Derived.Test.YtepkjobndmmejaaGreatDoorAbs42
import Derived.Test.YtepkjobndmmejaaGreatDoorMD
namespace Go.Proofs.YtepkjobndmmejaaGreatDoor
open Go.RowKit Go.Dw
end Go.Proofs.YtepkjobndmmejaaGreatDoor

namespace Go.Proofs.YtepkjobndmmejaaGreatDoor
open Go.RowKit Go.Dw
end Go.Proofs.YtepkjobndmmejaaGreatDoor

namespace Go.Proofs.YtepkjobndmmejaaGreatDoor
open Go.RowKit Go.Dw
end Go.Proofs.YtepkjobndmmejaaGreatDoor

namespace Go.Proofs.YtepkjobndmmejaaGreatDoor
open Go.Ab Go.RowKit Go.Dw Go.Shelf
theorem open_tl {w : World} {L : Nat → Prop} {t : List Int} {l : List Pt} {vs : Array Value} (hL : ∀ b, L b → b < w.heap.size) (h : RV w L ρ0 [.agg [V.ints t], V.pts l] vs.toList) :
    ∃ A c B d, vs = #[.agg #[.slice A t.length c], .slice B l.length d] ∧ IntsAt w A t.length t ∧ PtsAt w B l.length l := by
  obtain ⟨vs⟩ := vs
  obtain ⟨x1, e1, q1⟩ := h.get (i := 0) rfl
  obtain ⟨x2, e2, q2⟩ := h.get (i := 1) rfl
  obtain ⟨xs, rfl, hx⟩ := q1.agg_inv
  obtain ⟨xs⟩ := xs
  obtain ⟨y, e3, q3, _⟩ := hx.get (i := 0) rfl
  obtain ⟨A, c, rfl, _, ha⟩ := R_ints_inv q3 hL
  obtain ⟨B, d, rfl, _, hb⟩ := R_pts_inv q2 hL
  have hn := h.1
  have hm := hx.1
  refine ⟨A, c, B, d, ?_, ha, hb⟩
  match vs, hn, xs, hm with
  | [a, b], _, [x], _ => simp at e1 e2 e3; subst e1 e2 e3; rfl
theorem ac_of_flat {P : Program} {f : FuncId} {args : List V} {x : Value} (he : ∀ (args : Array Value) (w : World), (callFunc f args).run P w = .ok (.enter f args) w)
    (h : ∀ (L : Nat → Prop) (w : World) (vs : Array Value), (∀ b, L b → b < w.heap.size) → RV w L ρ0 args vs.toList → Calls P f vs w fun e w' => e = .returned x ∧ Below w.heap.size w w') : AC P f args (.c x) [] := by
  refine ac_of_calls he fun L w vs hL hvs => (h L w vs hL hvs).mono ?_
  rintro e w' ⟨rfl, hb⟩
  exact ⟨_, rfl, hb, fun _ => False, fun _ h => h.elim, .c _ _⟩
theorem ac_of_pts {P : Program} {f : FuncId} {args : List V} {e0 : TypeId} {l : List Pt} {n : Nat} {k : Int} (he : ∀ (args : Array Value) (w : World), (callFunc f args).run P w = .ok (.enter f args) w)
    (h : ∀ (L : Nat → Prop) (w : World) (vs : Array Value), (∀ b, L b → b < w.heap.size) → RV w L ρ0 args vs.toList → Calls P f vs w fun e w' => ∃ v, e = .returned (.tuple #[v, .int .i64 k]) ∧ w'.ownsRow w.heap.size e0 2 v n (l.flatMap encP) ∧ Below w.heap.size w w') : AC P f args (.tup [V.pts l, .i k]) [] := by
  refine ac_of_calls he fun L w vs hL hvs => (h L w vs hL hvs).mono ?_
  rintro e w' ⟨v, rfl, ho, hb⟩
  obtain ⟨N, hN, hr⟩ := own_R_pts ho
  exact ⟨_, rfl, hb, N, hN, .tup' (.cons ((hr ρ0).ext ⟨fun b hb => ⟨.inr hb, rfl⟩, fun _ _ h => h⟩) (.cons (.c _ _) .nil))⟩
section
variable (t : List Int) (l : List Pt) (ht : t.length ≤ 4611686018427387904) (hl : l.length ≤ 4611686018427387904)
include ht hl
theorem Read_ac : AC Tryz.prog 27 [.agg [V.ints t], V.pts l] (.tup [V.pts (wallsR t l), .i (checkBoth t l)]) [] := by
  refine ac_of_pts (e0 := 81) (n := (wallsR t l).length) (enters_of Tryz.func27 (by kernel_rfl) rfl) fun L w vs hL hvs => ?_
  obtain ⟨A, c, B, d, rfl, ha, hb⟩ := open_tl hL hvs
  exact Read_calls A _ c t B _ d l w ha hb ht hl
end
end Go.Proofs.YtepkjobndmmejaaGreatDoor

namespace Go.Proofs.YtepkjobndmmejaaGreatDoor
open Go.Ab Go.RowKit Go.Dw Go.Shelf
end Go.Proofs.YtepkjobndmmejaaGreatDoor

namespace Go.Proofs.YtepkjobndmmejaaGreatDoor
open Go.Ab Go.RowKit Go.Dw Go.Shelf
end Go.Proofs.YtepkjobndmmejaaGreatDoor

namespace Go.Proofs.YtepkjobndmmejaaGreatDoor
open Go.Ab Go.RowKit Go.Dw Go.Shelf
end Go.Proofs.YtepkjobndmmejaaGreatDoor

namespace Go.Proofs.YtepkjobndmmejaaGreatDoor
open Go.Ab Go.RowKit Go.Dw Go.Shelf
theorem checkPts_ac (l : List Pt) (hl : l.length ≤ 4611686018427387904) : AC Tryz.prog 47 [V.pts l] (.i (checkPts l)) [] := by
  refine ac_of_flat (enters_of Tryz.func47 (by kernel_rfl) rfl) fun L w vs hL hvs => ?_
  obtain ⟨vs⟩ := vs
  obtain ⟨x1, e1, q1⟩ := hvs.get (i := 0) rfl
  obtain ⟨A, c, rfl, _, ha⟩ := R_pts_inv q1 hL
  have hn := hvs.1
  have hvs' : vs = [.slice A l.length c] := by
    match vs, hn with
    | [a], _ => simp at e1; subst e1; rfl
  subst hvs'
  exact checkPts_calls A _ c l w ha hl
end Go.Proofs.YtepkjobndmmejaaGreatDoor
