/-
  More contracts of package play and of its laws' helpers, for values without addresses. No condition.
-/
import Derived.Test.YtlfaaddoemcokaaPAb5
import Derived.Test.YtlfaaddoemcokaaAbs19
namespace Go.Proofs.Ytlfaaddoemcokaa
open Go.Ab Go.RowKit Go.Dw Go.Shelf

theorem R_slEq {w : World} {L : Nat → Prop} {ρ : Nat → Option Value} {sz n : Nat} {row row' : Nat → List V} {x : Value} (h : R w L ρ (.sl sz n row) x) (he : ∀ i, i < n → row i = row' i) : R w L ρ (.sl sz n row') x := by
  obtain ⟨A, c, rfl, h'⟩ := h.sl_inv
  refine .sl' h.sl_cap fun hn => ?_
  obtain ⟨b, o, hA, hb, hlen, hc⟩ := h' hn
  exact ⟨b, o, hA, hb, fun i hi => by rw [← he i hi]; exact hlen i hi, fun i j u hi hu => hc i j u hi (by rw [he i hi]; exact hu)⟩
theorem AC.args {P : Program} {f : FuncId} {args args' : List V} {v : V} {obs : List Ob} (h : AC P f args v obs) (hc : ∀ (w : World) (L : Nat → Prop) (vs : List Value), RV w L ρ0 args' vs → RV w L ρ0 args vs) : AC P f args' v obs :=
  ⟨h.1, fun L w vs hL hv => h.2 L w vs hL (hc w L _ hv)⟩
theorem RV_map {w : World} {L : Nat → Prop} {ρ : Nat → Option Value} {us us' : List V} {xs : List Value} (h : RV w L ρ us xs) (hl : us.length = us'.length) (hc : ∀ (i : Nat) u u' x, us[i]? = some u → us'[i]? = some u' → R w L ρ u x → R w L ρ u' x) : RV w L ρ us' xs := by
  refine ⟨by rw [← hl]; exact h.1, fun i u' x hu' hx => ?_⟩
  have hi : i < us.length := by have := (List.getElem?_eq_some_iff.1 hu').1; omega
  exact hc i us[i] u' x (List.getElem?_eq_getElem hi) hu' (h.2 i _ x (List.getElem?_eq_getElem hi) hx)
theorem same_take_ac (a b : List Pt) (i : Nat) (ha : i ≤ a.length) (hb : i ≤ b.length) (hi : i ≤ 4611686018427387904) (he : ∀ j, j < i → gp a j = gp b j) :
    AC Try.prog 27 [.sl 2 i fun k => [.i (gp a k).1, .i (gp a k).2], .sl 2 i fun k => [.i (gp b k).1, .i (gp b k).2]] (.b true) [] := by
  have hla : (a.take i).length = i := by simp; omega
  have hlb : (b.take i).length = i := by simp; omega
  have hg : ∀ (l : List Pt) (k : Nat), k < i → gp (l.take i) k = gp l k := fun l k hk => by simp [gp, List.getD_eq_getElem?_getD, List.getElem?_take, hk]
  have heq : a.take i = b.take i := list_ext_gp (by rw [hla, hlb]) fun k hk => by rw [hla] at hk; rw [hg a k hk, hg b k hk]; exact he k hk
  have := same_ac (a.take i) (b.take i) (by omega) (by omega)
  rw [decide_eq_true heq] at this
  refine AC.args this fun w L vs hv => RV_map hv rfl ?_
  intro j u u' x hu hu' hr
  have conv : ∀ l : List Pt, (l.take i).length = i → R w L ρ0 (.sl 2 i fun k => [.i (gp l k).1, .i (gp l k).2]) x → R w L ρ0 (V.pts (l.take i)) x := fun l hl h => by
    unfold V.pts
    rw [hl]
    exact R_slEq h fun k hk => by rw [hg l k hk]
  match j, hu, hu' with
  | 0, hu, hu' => simp at hu hu'; subst hu hu'; exact conv a hla hr
  | 1, hu, hu' => simp at hu hu'; subst hu hu'; exact conv b hlb hr
  | j + 2, hu, _ => simp at hu
theorem valid_ac (t : List Int) (l : List Pt) (most : Int) (ht : t.length ≤ 4611686018427387904) (hl : l.length ≤ 4611686018427387904) : AC Try.prog 19 [.agg [V.ints t], V.pts l, .i most] (.b (validB t l most)) [] := by
  refine ac_of_flat (enters_of Try.func19 (by kernel_rfl) rfl) fun L w vs hL hvs => ?_
  obtain ⟨vs⟩ := vs
  obtain ⟨x1, e1, q1⟩ := hvs.get (i := 0) rfl
  obtain ⟨x2, e2, q2⟩ := hvs.get (i := 1) rfl
  obtain ⟨x3, e3, q3⟩ := hvs.get (i := 2) rfl
  obtain ⟨xs, rfl, hx⟩ := q1.agg_inv
  obtain ⟨xs⟩ := xs
  obtain ⟨y, e4, q4, _⟩ := hx.get (i := 0) rfl
  obtain ⟨A, c, rfl, _, ha⟩ := R_ints_inv q4 hL
  obtain ⟨B, d, rfl, _, hb⟩ := R_pts_inv q2 hL
  have hn := hvs.1
  have hm := hx.1
  obtain rfl := q3.c_inv
  have hvs' : vs = [.agg #[.slice A t.length c], .slice B l.length d, .int .i64 most] := by
    match vs, hn, xs, hm with
    | [a, b, c], _, [x], _ => simp at e1 e2 e3 e4; subst e1 e2 e3 e4; rfl
  subst hvs'
  exact valid_calls A _ c t B _ d l most w ha hb ht hl
theorem sharper_ac (t bs : List Int) (less : Int) (hm : bs.length ≤ 4611686018427387904) (hck : checkTip t = 0) (hbb : ∀ x ∈ bs, 0 ≤ x ∧ x ≤ 255) (hle : 0 ≤ less ∧ less ≤ 255) :
    AC Try.prog 26 [.agg [V.ints t], V.nums .u8 bs, .c (.int .u8 less)] (.agg [V.ints (sharpL t bs less)]) [] := by
  refine ac_of_calls (enters_of Try.func26 (by kernel_rfl) rfl) fun L w vs hL hvs => ?_
  obtain ⟨vs⟩ := vs
  obtain ⟨x1, e1, q1⟩ := hvs.get (i := 0) rfl
  obtain ⟨x2, e2, q2⟩ := hvs.get (i := 1) rfl
  obtain ⟨x3, e3, q3⟩ := hvs.get (i := 2) rfl
  obtain ⟨xs, rfl, hx⟩ := q1.agg_inv
  obtain ⟨xs⟩ := xs
  obtain ⟨y, e4, q4, _⟩ := hx.get (i := 0) rfl
  obtain ⟨A, c, rfl, _, ha⟩ := R_ints_inv q4 hL
  obtain ⟨B, d, rfl, _, hb⟩ := R_nums_inv q2 hL
  have hn := hvs.1
  have hxm := hx.1
  obtain rfl := q3.c_inv
  have hvs' : vs = [.agg #[.slice A t.length c], .slice B bs.length d, .int .u8 less] := by
    match vs, hn, xs, hxm with
    | [a, b, c], _, [x], _ => simp at e1 e2 e3 e4; subst e1 e2 e3 e4; rfl
  subst hvs'
  refine (sharper_calls A B _ c _ d t bs less w ha hb hm hck hbb hle).mono ?_
  rintro e w' ⟨v, rfl, ho, hb'⟩
  obtain ⟨N, hN, hr⟩ := own_R_ints ho
  have hone : v.oneCell' = true := by
    obtain ⟨A', c', rfl⟩ := own_form ho
    rfl
  exact ⟨_, rfl, hb', N, hN, .agg' (.cons ((hr ρ0).ext ⟨fun b hb => ⟨.inr hb, rfl⟩, fun _ _ h => h⟩) hone .nil)⟩
/-- a tip of one element 0, as a literal makes it -/
theorem zero_ac (f : FuncId) (l : List Pt) {v : V} (h : AC Try.prog f [.agg [V.ints [0]], V.pts l] v []) : AC Try.prog f [.agg [.sl 1 1 fun i => ([V.c (.int .i64 0)].drop (i * 1)).take 1], V.pts l] v [] := by
  refine AC.args h fun w L vs hv => RV_map hv rfl ?_
  intro j u u' x hu hu' hr
  match j, hu, hu' with
  | 0, hu, hu' =>
    simp at hu hu'
    subst hu hu'
    obtain ⟨xs, rfl, hx⟩ := hr.agg_inv
    refine .agg' ⟨hx.1, fun i u y hu hy => ?_⟩
    match i, hu with
    | 0, hu =>
      simp at hu; subst hu
      have := hx.2 0 _ y rfl hy
      refine ⟨R_slEq (n := 1) this.1 fun i hi => ?_, this.2⟩
      obtain rfl : i = 0 := by omega
      rfl
    | i + 1, hu => simp at hu
  | 1, hu, hu' => simp at hu hu'; subst hu hu'; exact hr
  | j + 2, hu, _ => simp at hu
end Go.Proofs.Ytlfaaddoemcokaa
