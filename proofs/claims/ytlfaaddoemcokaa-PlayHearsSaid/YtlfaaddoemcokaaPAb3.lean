/-
  The contracts of package play, and of its reference, for values without addresses. No condition.
-/
import Derived.Test.YtlfaaddoemcokaaPAb2
import Derived.Test.YtlfaaddoemcokaaPlayN
import Derived.Test.YtlfaaddoemcokaaPlayS
namespace Go.Proofs.Ytlfaaddoemcokaa
open Go.Ab Go.RowKit Go.Dw Go.Shelf

def big : Nat := 4611686018427387904
theorem open_tl {w : World} {L : Nat → Prop} {t : List Int} {l : List Pt} {vs : Array Value} (hL : ∀ b, L b → b < w.heap.size) (h : RV w L ρ0 [.agg [V.ints t], V.pts l] vs.toList) :
    ∃ A c B d, vs = #[.agg #[.slice A t.length c], .slice B l.length d] ∧ IntsAt w A t.length t ∧ PtsAt w B l.length l := by
  obtain ⟨vs⟩ := vs
  obtain ⟨x1, e1, q1⟩ := h.get (i := 0) rfl
  obtain ⟨x2, e2, q2⟩ := h.get (i := 1) rfl
  obtain ⟨xs, rfl, hx⟩ := q1.agg_inv
  obtain ⟨xs⟩ := xs
  obtain ⟨y, e3, q3, _⟩ := hx.get (i := 0) rfl
  obtain ⟨A, c, rfl, _, ha⟩ := R_ints_inv q3 hL
  obtain ⟨B, d, rfl, _, hb⟩ := R_pts_inv q2 hL
  have hn := h.1
  have hm := hx.1
  refine ⟨A, c, B, d, ?_, ha, hb⟩
  match vs, hn, xs, hm with
  | [a, b], _, [x], _ => simp at e1 e2 e3; subst e1 e2 e3; rfl
theorem open_pp {w : World} {L : Nat → Prop} {k l : List Pt} {vs : Array Value} (hL : ∀ b, L b → b < w.heap.size) (h : RV w L ρ0 [V.pts k, V.pts l] vs.toList) :
    ∃ A c B d, vs = #[.slice A k.length c, .slice B l.length d] ∧ PtsAt w A k.length k ∧ PtsAt w B l.length l := by
  obtain ⟨vs⟩ := vs
  obtain ⟨x1, e1, q1⟩ := h.get (i := 0) rfl
  obtain ⟨x2, e2, q2⟩ := h.get (i := 1) rfl
  obtain ⟨A, c, rfl, _, ha⟩ := R_pts_inv q1 hL
  obtain ⟨B, d, rfl, _, hb⟩ := R_pts_inv q2 hL
  have hn := h.1
  refine ⟨A, c, B, d, ?_, ha, hb⟩
  match vs, hn with
  | [a, b], _ => simp at e1 e2; subst e1 e2; rfl
/-- a contract whose answer is a number or a bool -/
theorem ac_of_flat {P : Program} {f : FuncId} {args : List V} {x : Value} (he : ∀ (args : Array Value) (w : World), (callFunc f args).run P w = .ok (.enter f args) w)
    (h : ∀ (L : Nat → Prop) (w : World) (vs : Array Value), (∀ b, L b → b < w.heap.size) → RV w L ρ0 args vs.toList → Calls P f vs w fun e w' => e = .returned x ∧ Below w.heap.size w w') : AC P f args (.c x) [] := by
  refine ac_of_calls he fun L w vs hL hvs => (h L w vs hL hvs).mono ?_
  rintro e w' ⟨rfl, hb⟩
  exact ⟨_, rfl, hb, fun _ => False, fun _ h => h.elim, .c _ _⟩
/-- a contract whose answer is points and an error -/
theorem ac_of_pts {P : Program} {f : FuncId} {args : List V} {e0 : TypeId} {l : List Pt} {n : Nat} {k : Int} (he : ∀ (args : Array Value) (w : World), (callFunc f args).run P w = .ok (.enter f args) w)
    (h : ∀ (L : Nat → Prop) (w : World) (vs : Array Value), (∀ b, L b → b < w.heap.size) → RV w L ρ0 args vs.toList → Calls P f vs w fun e w' => ∃ v, e = .returned (.tuple #[v, .int .i64 k]) ∧ w'.ownsRow w.heap.size e0 2 v n (l.flatMap encP) ∧ Below w.heap.size w w') : AC P f args (.tup [V.pts l, .i k]) [] := by
  refine ac_of_calls he fun L w vs hL hvs => (h L w vs hL hvs).mono ?_
  rintro e w' ⟨v, rfl, ho, hb⟩
  obtain ⟨N, hN, hr⟩ := own_R_pts ho
  exact ⟨_, rfl, hb, N, hN, .tup' (.cons ((hr ρ0).ext ⟨fun b hb => ⟨.inr hb, rfl⟩, fun _ _ h => h⟩) (.cons (.c _ _) .nil))⟩

section
variable (t : List Int) (l : List Pt) (ht : t.length ≤ 4611686018427387904) (hl : l.length ≤ 4611686018427387904)
include ht hl
theorem check_ac : AC Try.prog 58 [.agg [V.ints t], V.pts l] (.i (checkBoth t l)) [] := by
  refine ac_of_flat (enters_of Try.func58 (by kernel_rfl) rfl) fun L w vs hL hvs => ?_
  obtain ⟨A, c, B, d, rfl, ha, hb⟩ := open_tl hL hvs
  exact check_calls A _ c t B _ d l w ha ht hb hl
theorem both_ac : AC Try.prog 68 [.agg [V.ints t], V.pts l] (.i (checkBoth t l)) [] := by
  refine ac_of_flat (enters_of Try.func68 (by kernel_rfl) rfl) fun L w vs hL hvs => ?_
  obtain ⟨A, c, B, d, rfl, ha, hb⟩ := open_tl hL hvs
  exact both_ref_calls A _ c t B _ d l w ha ht hb hl
theorem Read_ac : AC Try.prog 21 [.agg [V.ints t], V.pts l] (.tup [V.pts (wallsR t l), .i (checkBoth t l)]) [] := by
  refine ac_of_pts (e0 := 29) (n := (wallsR t l).length) (enters_of Try.func21 (by kernel_rfl) rfl) fun L w vs hL hvs => ?_
  obtain ⟨A, c, B, d, rfl, ha, hb⟩ := open_tl hL hvs
  exact Read_calls A _ c t B _ d l w ha hb ht hl
theorem Sweep_ac : AC Try.prog 24 [.agg [V.ints t], V.pts l] (.tup [V.pts (wallsS t l), .i (checkBoth t l)]) [] := by
  refine ac_of_pts (e0 := 29) (n := (wallsS t l).length) (enters_of Try.func24 (by kernel_rfl) rfl) fun L w vs hL hvs => ?_
  obtain ⟨A, c, B, d, rfl, ha, hb⟩ := open_tl hL hvs
  exact Sweep_calls A _ c t B _ d l w ha hb ht hl
theorem refRead_ac : AC Try.prog 33 [.agg [V.ints t], V.pts l] (.tup [V.pts (wallsR t l), .i (checkBoth t l)]) [] := by
  refine ac_of_pts (e0 := 29) (n := (wallsR t l).length) (enters_of Try.func33 (by kernel_rfl) rfl) fun L w vs hL hvs => ?_
  obtain ⟨A, c, B, d, rfl, ha, hb⟩ := open_tl hL hvs
  exact refRead_calls A _ c t B _ d l w ha hb ht hl
theorem refSweep_ac : AC Try.prog 34 [.agg [V.ints t], V.pts l] (.tup [V.pts (wallsS t l), .i (checkBoth t l)]) [] := by
  refine ac_of_pts (e0 := 29) (n := (wallsS t l).length) (enters_of Try.func34 (by kernel_rfl) rfl) fun L w vs hL hvs => ?_
  obtain ⟨A, c, B, d, rfl, ha, hb⟩ := open_tl hL hvs
  exact refSweep_calls A _ c t B _ d l w ha hb ht hl
end
theorem same_ac (a b : List Pt) (ha : a.length ≤ 4611686018427387904) (hb : b.length ≤ 4611686018427387904) : AC Try.prog 27 [V.pts a, V.pts b] (.b (decide (a = b))) [] := by
  refine ac_of_flat (enters_of Try.func27 (by kernel_rfl) rfl) fun L w vs hL hvs => ?_
  obtain ⟨A, c, B, d, rfl, h1, h2⟩ := open_pp hL hvs
  exact same_calls A B _ c _ d a b w h1 h2 ha hb
theorem works_ac : AC Try.prog 20 [] (.b true) [] := by
  refine ac_of_flat (enters_of Try.func20 (by kernel_rfl) rfl) fun L w vs hL hvs => ?_
  obtain rfl : vs = #[] := by have := hvs.1; simpa using this.symm
  exact works_calls w
end Go.Proofs.Ytlfaaddoemcokaa
