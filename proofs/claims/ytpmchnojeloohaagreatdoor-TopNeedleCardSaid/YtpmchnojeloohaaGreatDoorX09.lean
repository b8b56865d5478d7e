/-
  Several texts in one: What a tip misses is just what it does not read exactly. No condition. .. The rules of grooves at a point: the walks of the program. Conditions: edges in range, a valid cutter, a radius and a turn in range.
-/
import Derived.Test.YtpmchnojeloohaaGreatDoorX08
import Derived.Test.YtpmchnojeloohaaGreatDoorMD
import Derived.Test.YtpmchnojeloohaaGreatDoorX04
import Derived.Test.YtpmchnojeloohaaGreatDoorX07
import Derived.Test.YtpmchnojeloohaaGreatDoorAbs42
import Derived.Test.YtpmchnojeloohaaGreatDoorX05
namespace Go.Proofs.YtpmchnojeloohaaGreatDoor
open Go.Ab Go.RowKit Go.Dw Go.Shelf
theorem gp_readP {t : List Int} {l : List Pt} {i : Nat} (hi : i < l.length) : gp (readP t l) i = readPt t l i l.length := by
 rw [← readPts_eq, readPts, gp_eq (by simpa using hi)]
 simp
theorem le_out {t : List Int} {l : List Pt} {i : Nat} (hi : i < l.length) {x : Int} : x ≤ (gp (readP t l) i).2 ↔ x ≤ (gp l i).2 ∧ ∀ u, u < l.length → dist u i < t.length → x ≤ (gp l u).2 + gi t (dist u i) := by
 rw [gp_readP hi]; exact le_readPt l.length
theorem in_le {t : List Int} {l : List Pt} {i : Nat} (hi : i < l.length) {x : Int} : (gp (readP t l) i).1 ≤ x ↔ (gp l i).1 ≤ x ∧ ∀ u, u < l.length → dist u i < t.length → (gp l u).1 - gi t (dist u i) ≤ x := by
 rw [gp_readP hi]; exact readPt_le l.length
theorem missB_false {t : List Int} {l : List Pt} {i u : Nat} : missB t l i u = false ↔ (dist u i < t.length → (gp l i).2 ≤ (gp l u).2 + gi t (dist u i) ∧ (gp l u).1 - gi t (dist u i) ≤ (gp l i).1) := by
 simp [missB]
theorem row_none {t : List Int} {l : List Pt} {i : Nat} : missRow t l i = none ↔ ∀ u, u < l.length → missB t l i u = false := by
 constructor
 ·
  intro h u hu
  unfold missRow at h
  rw [List.find?_eq_none] at h
  simpa using h u (by simpa using hu)
 ·
  exact find_none
theorem row_none_iff {t : List Int} {l : List Pt} {i : Nat} (hi : i < l.length) : missRow t l i = none ↔ gp (readP t l) i = gp l i := by
 rw [row_none]
 have a1 : (gp (readP t l) i).2 ≤ (gp l i).2 := ((le_out hi).1 (Int.le_refl _)).1
 have a2 : (gp l i).1 ≤ (gp (readP t l) i).1 := ((in_le hi).1 (Int.le_refl _)).1
 constructor
 ·
  intro h
  have b1 : (gp l i).2 ≤ (gp (readP t l) i).2 := (le_out hi).2 ⟨Int.le_refl _, fun u hu hd => (missB_false.1 (h u hu) hd).1⟩
  have b2 : (gp (readP t l) i).1 ≤ (gp l i).1 := (in_le hi).2 ⟨Int.le_refl _, fun u hu hd => (missB_false.1 (h u hu) hd).2⟩
  exact Prod.ext (Int.le_antisymm b2 a2) (Int.le_antisymm a1 b1)
 ·
  intro h u hu
  refine missB_false.2 fun hd => ⟨((le_out hi).1 (by rw [h]; exact Int.le_refl _)).2 u hu hd, ((in_le hi).1 (by rw [h]; exact Int.le_refl _)).2 u hu hd⟩
theorem findSome_range {β : Type} {f : Nat → Option β} {y : β} : ∀ {n : Nat}, (List.range n).findSome? f = some y → ∃ k, k < n ∧ f k = some y ∧ ∀ j, j < k → f j = none
 | 0, h => by simp at h
 | n + 1, h => by
  rw [List.range_succ, List.findSome?_append] at h
  cases hn : (List.range n).findSome? f with
  | some z =>
   rw [hn] at h
   obtain ⟨k, h1, h2, h3⟩ := findSome_range hn
   simp at h
   exact ⟨k, by omega, by rw [h2, h], h3⟩
  | none =>
   rw [hn] at h
   rw [List.findSome?_eq_none_iff] at hn
   refine ⟨n, by omega, by simpa using h, fun j hj => hn j (by simpa using hj)⟩
theorem missP_none {t : List Int} {l : List Pt} : missP t l = none ↔ ∀ i, i < l.length → missRow t l i = none := by
 unfold missP
 rw [List.findSome?_eq_none_iff]
 simp
theorem exact_none {t : List Int} {l : List Pt} (h : missP t l = none) : readP t l = l ∧ sweepP t l = l := by
 have hr : readP t l = l := list_ext_gp (readP_length t l) fun k hk => by
  rw [readP_length] at hk
  exact (row_none_iff hk).1 (missP_none.1 h k hk)
 refine ⟨hr, pts_ext fun inn => ?_⟩
 have h1 := inside_iff.1 (sweepP_in t l) inn
 have h2 := inside_iff.1 (readP_in_sweepP t l) inn
 rw [hr] at h2
 exact h1.antisymm h2
theorem exact_some {t : List Int} {l : List Pt} {p : Nat × Nat} (h : missP t l = some p) : p.1 < l.length ∧ p.2 < l.length ∧ missB t l p.1 p.2 = true ∧ gp (readP t l) p.1 ≠ gp l p.1 ∧ ∀ j, j < p.1 → gp (readP t l) j = gp l j := by
 obtain ⟨k, h1, h2, h3⟩ := findSome_range h
 cases hr : missRow t l k with
 | none => rw [hr] at h2; cases h2
 | some u =>
  rw [hr] at h2
  simp only [Option.map_some, Option.some.injEq] at h2
  subst h2
  have hr' := hr
  unfold missRow at hr'
  rw [List.find?_range_eq_some] at hr'
  refine ⟨h1, by simpa using hr'.2.1, hr'.1, fun he => ?_, fun j hj => ?_⟩
  ·
   rw [(row_none_iff h1).2 he] at hr; cases hr
  ·
   have := h3 j hj
   have hn : missRow t l j = none := by
    cases hq : missRow t l j with
    | none => rfl
    | some v => rw [hq] at this; cases this
   exact (row_none_iff (by simp at hj; omega)).1 hn
end Go.Proofs.YtpmchnojeloohaaGreatDoor

namespace Go.Proofs.YtpmchnojeloohaaGreatDoor
open Go.Ab Go.RowKit Go.Dw Go.Shelf
theorem AC.args {P : Program} {f : FuncId} {args args' : List V} {v : V} {obs : List Ob} (h : AC P f args v obs) (hc : ∀ (w : World) (L : Nat → Prop) (vs : List Value), RV w L ρ0 args' vs → RV w L ρ0 args vs) : AC P f args' v obs :=
 ⟨h.1, fun L w vs hL hgl hv => h.2 L w vs hL hgl (hc w L _ hv)⟩
end Go.Proofs.YtpmchnojeloohaaGreatDoor

namespace Go.Proofs.YtpmchnojeloohaaGreatDoor
open Go.Ab Go.RowKit Go.Dw Go.Shelf
theorem checkPts_ac (l : List Pt) (hl : l.length ≤ 4611686018427387904) : AC Tryz.prog 38 [V.pts l] (.i (checkPts l)) [] := by
 refine ac_of_flat (enters_of Tryz.func38 kR rfl) fun L w vs hL hvs => ?_
 obtain ⟨vs⟩ := vs
 obtain ⟨x1, e1, q1⟩ := hvs.get (i := 0) rfl
 obtain ⟨A, c, rfl, _, ha⟩ := R_pts_inv q1 hL
 have hn := hvs.1
 have hvs' : vs = [.slice A l.length c] := by
  match vs, hn with
  | [a], _ => simp at e1; subst e1; rfl
 subst hvs'
 exact checkPts_calls A _ c l w ha hl
end Go.Proofs.YtpmchnojeloohaaGreatDoor

namespace Go.Proofs.YtpmchnojeloohaaGreatDoor
open Go.Ab Go.RowKit Go.Dw Go.Shelf
theorem Balance_ac (l : List Pt) (hl : l.length ≤ 4611686018427387904) : AC Tryz.prog 36 [V.pts l] (.tup [.agg [.i (balArm l).1, .i (balArm l).2], .i (checkPts l)]) [] := by
 refine ac_of_calls (enters_of Tryz.func36 kR rfl) fun L w vs hL hvs => ?_
 obtain ⟨vs⟩ := vs
 obtain ⟨x1, e1, q1⟩ := hvs.get (i := 0) rfl
 obtain ⟨A, c, rfl, _, ha⟩ := R_pts_inv q1 hL
 have hn := hvs.1
 have hvs' : vs = [.slice A l.length c] := by
  match vs, hn with
  | [a], _ => simp at e1; subst e1; rfl
 subst hvs'
 refine (balance_calls A _ c l w ha hl).mono ?_
 rintro e w' ⟨rfl, hb⟩
 exact ⟨_, rfl, hb, fun _ => False, fun _ h => h.elim, .tup' (.cons (.agg' (.cons (.c _ _) rfl (.cons (.c _ _) rfl .nil))) (.cons (.c _ _) .nil))⟩
end Go.Proofs.YtpmchnojeloohaaGreatDoor

namespace Go.Proofs.YtpmchnojeloohaaGreatDoor
open Go.Ab Go.RowKit Go.Dw Go.Shelf
end Go.Proofs.YtpmchnojeloohaaGreatDoor

namespace Go.Proofs.YtpmchnojeloohaaGreatDoor
open Go.Ab Go.RowKit Go.Dw Go.Shelf
def best (l : List Pt) (a : Int) : Nat → Int
 | 0 => 0
 | m + 1 => if exactB l a ((m + 1 : Nat) : Int) then ((m + 1 : Nat) : Int) else best l a m
theorem best_spec (l : List Pt) {a : Int} (ha : 1 ≤ a) (m : Nat) : 0 ≤ best l a m ∧ best l a m ≤ m ∧ exactB l a (best l a m) = true ∧ ∀ r : Int, best l a m < r → r ≤ m → exactB l a r = false := by
 induction m with
 | zero => exact ⟨by simp [best], by simp [best], by rw [best]; exact exact_zero ha, fun r h1 h2 => by rw [best] at h1; omega⟩
 | succ m ih =>
  rw [best]
  split
  ·
   rename_i h
   exact ⟨by omega, by omega, h, fun r h1 h2 => by omega⟩
  ·
   rename_i h
   refine ⟨ih.1, by omega, ih.2.2.1, fun r h1 h2 => ?_⟩
   by_cases hr : r = ((m + 1 : Nat) : Int)
   ·
    rw [hr]; simpa using h
   ·
    exact ih.2.2.2 r h1 oM
theorem best_uniq {l : List Pt} {a : Int} (ha : 1 ≤ a) {m : Nat} {r : Int} (h0 : 0 ≤ r) (h1 : r ≤ m) (h2 : exactB l a r = true) (h3 : ∀ r' : Int, r < r' → r' ≤ m → exactB l a r' = false) : r = best l a m := by
 obtain ⟨b0, b1, b2, b3⟩ := best_spec l ha m
 by_cases h4 : r < best l a m
 ·
  rw [h3 _ h4 b1] at b2; cases b2
 ·
  by_cases h5 : best l a m < r
  ·
   rw [b3 _ h5 h1] at h2; cases h2
  ·
   omega
theorem exact_le {l : List Pt} {a r r' : Int} (hr : 0 ≤ r) (ha : 1 ≤ a) (h : r ≤ r') (he : exactB l a r' = true) : exactB l a r = true :=
 exact_down (r' - r).toNat hr ha (by rw [show r + ((r' - r).toNat : Int) = r' by omega]; exact he)
theorem roundE_le {r r' a : Int} (h0 : 0 ≤ r) (h : r ≤ r') (he : roundE r' a = 0) : roundE r a = 0 := by
 obtain ⟨h1, h2, h3, h4, h5⟩ := roundE_ok.1 he
 have := eltN_mono h0 h3 h
 exact roundE_ok.2 ⟨h0, by omega, h3, h4, by omega⟩
def greatE (l : List Pt) (a m : Int) : Int := if checkPts l = 0 then roundE m a else checkPts l
def greatR (l : List Pt) (a m : Int) : Int := if greatE l a m = 0 then best l a m.toNat else 0
theorem great_1 {l : List Pt} {a m : Int} (h : ¬ checkPts l = 0) : greatE l a m = checkPts l ∧ greatR l a m = 0 := by
 have e : greatE l a m = checkPts l := by rw [greatE, if_neg h]
 exact ⟨e, by rw [greatR, e, if_neg h]⟩
theorem great_2 {l : List Pt} {a m : Int} (h : checkPts l = 0) (h2 : ¬ roundE m a = 0) : greatE l a m = roundE m a ∧ greatR l a m = 0 := by
 have e : greatE l a m = roundE m a := by rw [greatE, if_pos h]
 exact ⟨e, by rw [greatR, e, if_neg h2]⟩
theorem great_3 {l : List Pt} {a m : Int} (h : checkPts l = 0) (h2 : roundE m a = 0) : greatE l a m = 0 ∧ greatR l a m = best l a m.toNat := by
 have e : greatE l a m = 0 := by rw [greatE, if_pos h, h2]
 exact ⟨e, by rw [greatR, e, if_pos rfl]⟩
set_option maxRecDepth 100000 in
theorem Greatest_ac (l : List Pt) (a m : Int) (hl : l.length ≤ 4611686018427387904) : AC Tryz.prog 15 [V.pts l, .i a, .i m] (.tup [.i (greatR l a m), .i (greatE l a m)]) [] := by
 refine acI hTT hMX Tryz.func15 Tryz.ntmps15 fun C hC hF => ?_
 refine sX hTT 2 2 [] tI ?_
 refine aw_scope ?_
 refine sK fun K hK => sK fun K hK => wR 3 (aX hTT 1 [] tI ?_)
 refine eC (checkPts_ac l hl) ?_
 refine aX hTT 1 [] tI (nK hK ?_); clear hK K; refine sX hTT 4 2 [] tI ?_
 refine w_cond (t := !decide (checkPts l = 0)) kR (fun c1 => ?_) (fun c1 => ?_)
 ·
  simp at c1
  refine sX hTT 5 3 [] tI ?_
  refine aw_ret ?_
  refine xt_r ?_
  refine xs_r ?_
  rw [(great_1 (a := a) (m := m) c1).1, (great_1 (a := a) (m := m) c1).2]
  refine rP (V.tup [V.i 0, V.i (checkPts l)])
 simp at c1
 by_cases hR : roundE m a = 0
 ·
  obtain ⟨h1, h2, h3, h4, h5⟩ := roundE_ok.1 hR
  refine aw_skip ?_
  refine xt_n (hK _ ?_); clear hK K; refine sK fun K hK => sK fun K hK => wR 5 (aX hTT 2 [] tI ?_)
  refine eC (Round_ok m a false hR) ?_
  refine aX hTT 6 [(3, .r (pn 9 (V.ref 400009 0) (400009 : Nat) (Ob.box 51 [V.nil]))), (4, .r (pw ((0 : Nat) + (1 : Nat) ≤ (1 : Nat)) (400009 : Nat) (Ob.box 51 [V.sl 1 (List.length (eltL m a false)) fun (k : Nat) => [V.i (gi (eltL m a false) k)]])))] ⟨oM, tI⟩ (nK hK ?_); clear hK K; refine sX hTT 6 2 [] tI (w_false (t := false) kR rfl ?_)
  refine aw_skip ?_
  refine xt_n (hK _ ?_); clear hK K; refine sX hTT 7 3 [] tI (sK fun K hK => ?_)
  refine aw_label ?_
  refine xt_n (hK _ ?_); clear hK K; refine sK fun K hK => ?_
  refine aw_block ?_
  refine w_loop (ι := Int × Int) (fun x => [(0, V.pts l), (1, .i a), (11, .i x.1), (12, .i x.2)]) (fun _ => []) (fun x => 0 ≤ x.1 ∧ x.1 ≤ x.2 ∧ x.2 ≤ m ∧ exactB l a x.1 = true ∧ ∀ r, x.2 < r → r ≤ m → exactB l a r = false) (fun x => (x.2 - x.1).toNat) (0, m) ⟨Int.le_refl 0, h1, Int.le_refl _, exact_zero h3, fun r h6 h7 => by simp only at h6; omega⟩ ?_ ?_
  ·
   show Le _ ⟨mkT [(0, V.pts l), (1, .i a), (11, .i 0), (12, .i m)], mkS [], 1⟩
   refine le_ren [] (.cons kR (.cons kR (.cons kR (.cons kR .nil)))) .nil kR kR
  rintro ⟨lo, hi⟩ ⟨g0, g1, g2, g3, g4⟩
  simp only at g0 g1 g2 g3 g4 ⊢
  have hm := tdiv_bd (lo + hi + 1) (m := 2) (by decide)
  have hm1 : (lo + hi + 1).tdiv 2 = (lo + hi + 1) / 2 := Int.tdiv_eq_ediv_of_nonneg oM
  refine aw_block ?_
  refine sK fun K hK => sX hTT 2 3 [] tI ?_
  refine w_cond (t := decide (lo = hi)) kR (fun c3 => ?_) (fun c3 => ?_)
  ·
   simp at c3
   subst c3
   refine aw_exit ?_
   refine xt_x ?_
   refine xb_ne rfl ?_
   refine xt_x ?_
   refine xb_same ?_
   refine xt_n ?_; clear hK K; refine hK _ ?_; clear hK K; refine sX hTT 3 3 [] tI ?_
   refine aw_ret ?_
   refine xs_r ?_
   rw [(great_3 c1 hR).1, (great_3 c1 hR).2, ← best_uniq h3 g0 oM g3 (fun r h6 h7 => g4 r h6 oM)]
   refine rP (V.tup [V.i lo, V.i 0])
  ·
   simp at c3
   have hRk : roundE ((lo + hi + 1).tdiv 2) a = 0 := roundE_le oM oM hR
   obtain ⟨k1, k2, k3, k4, k5⟩ := roundE_ok.1 hRk
   refine aw_skip ?_
   refine xt_n (hK _ ?_); clear hK K; refine sX hTT 3 6 [(2, .i (lo + hi)), (3, .i (lo + hi + 1)), (4, .c ((0 : Int) < (2 : Int) ∧ (-9223372036854775808 : Int) ≤ lo + hi + 1 ∧ lo + hi + 1 ≤ (9223372036854775807 : Int)))] ⟨oM, oM, ⟨oM, oM⟩, tI⟩ (sK fun K hK => wR 4 (aX hTT 2 [] tI ?_))
   refine eC (round_ac ((lo + hi + 1).tdiv 2) a false ⟨k1, k2⟩ ⟨k3, k4⟩ k5) ?_
   refine aX hTT 6 [(3, .r (pn 14 (V.ref 300014 0) (300014 : Nat) (Ob.box 51 [V.nil]))), (4, .r (pw ((0 : Nat) + (1 : Nat) ≤ (1 : Nat)) (300014 : Nat) (Ob.box 51 [V.sl 1 (List.length (eltL (Int.tdiv (lo + hi + 1) (2 : Int)) a false)) fun (k : Nat) => [V.i (gi (eltL (Int.tdiv (lo + hi + 1) (2 : Int)) a false) k)]])))] ⟨oM, tI⟩ (nK hK ?_); clear hK K; refine sK fun K hK => sK fun K hK => wR 5 (aX hTT 2 [(0, .c ((0 : Nat) ≤ (1 : Nat)))] ⟨oM, tI⟩ ?_)
   refine eC (miss_ac (eltL ((lo + hi + 1).tdiv 2) a false) l (checkBoth_of (checkTip_round hRk) c1)) ?_
   refine aX hTT 7 [] tI (nK hK ?_); clear hK K; refine sX hTT 6 2 [] tI ?_
   refine w_cond (t := decide (Prod.snd (Prod.snd (missI (eltL (Int.tdiv (lo + hi + 1) (2 : Int)) a false) l)) = 5)) kR (fun c4 => ?_) (fun c4 => ?_)
   ·
    refine sK fun K hK => ?_
    refine wR 7 (aX hTT 2 [] tI (nK hK ?_)); clear hK K
    refine aw_exit ?_
    refine xt_x ?_
    refine xb_same ?_
    refine xt_n ?_
    refine ⟨((lo + hi + 1).tdiv 2, hi), ⟨by simp only; omega, by simp only; omega, g2, c4, g4⟩, ?_, by simp only; omega⟩
    show Le _ ⟨mkT [(0, V.pts l), (1, .i a), (11, .i ((lo + hi + 1).tdiv 2)), (12, .i hi)], mkS [], 1⟩
    refine le_ren [] (.cons kR (.cons kR (.cons kR (.cons kR .nil)))) .nil kR kR
   ·
    refine aw_skip ?_
    refine xt_n (hK _ ?_); clear hK K; refine wR 7 (aX hTT 3 [(1, .i (Int.tdiv (lo + hi + 1) (2 : Int) - (1 : Int)))] ⟨oM, tI⟩ (aops_nil (xb_n (xt_n ?_))))
    refine ⟨(lo, (lo + hi + 1).tdiv 2 - 1), ⟨g0, by simp only; omega, by simp only; omega, g3, fun r h6 h7 => ?_⟩, ?_, by simp only; omega⟩
    ·
     simp only at h6
     cases hx : exactB l a r with
     | false => rfl
     | true =>
      have := exact_le (r := (lo + hi + 1).tdiv 2) k1 h3 oM hx
      have c5 : exactB l a ((lo + hi + 1).tdiv 2) = false := c4
      rw [c5] at this
      cases this
    ·
     show Le _ ⟨mkT [(0, V.pts l), (1, .i a), (11, .i lo), (12, .i ((lo + hi + 1).tdiv 2 - 1))], mkS [], 1⟩
     refine le_ren [] (.cons kR (.cons kR (.cons kR (.cons kR .nil)))) .nil kR kR
 ·
  refine aw_skip ?_
  refine xt_n (hK _ ?_); clear hK K; refine sK fun K hK => sK fun K hK => wR 5 (aX hTT 2 [] tI ?_)
  refine eC (Round_no m a false hR) ?_
  refine aX hTT 6 [(3, .r (pn 9 (V.ref 400009 0) (400009 : Nat) (Ob.box 51 [V.nil]))), (4, .r (pw ((0 : Nat) + (1 : Nat) ≤ (1 : Nat)) (400009 : Nat) (Ob.box 51 [V.nil])))] ⟨oM, tI⟩ (nK hK ?_); clear hK K; refine sX hTT 6 2 [] tI ?_
  refine w_cond (t := !decide (roundE m a = 0)) kR (fun c2 => ?_) (fun c2 => ?_)
  ·
   refine sK fun K hK => ?_
   refine wR 7 (aX hTT 3 [] tI (nK hK ?_)); clear hK K
   refine aw_ret ?_
   refine xt_r ?_
   refine xs_r ?_
   rw [(great_2 c1 hR).1, (great_2 c1 hR).2]
   refine rP (V.tup [V.i 0, V.i (roundE m a)])
  ·
   simp at c2
   exact (hR c2).elim
end Go.Proofs.YtpmchnojeloohaaGreatDoor

namespace Go.Proofs.YtpmchnojeloohaaGreatDoor
open Go.Ab Go.RowKit Go.Dw Go.Shelf
def Ed (p : Pt) : Prop := (-4194304 ≤ p.1 ∧ p.1 ≤ 4194304) ∧ -4194304 ≤ p.2 ∧ p.2 ≤ 4194304
def EdO : Option Pt → Prop
 | none => True
 | some p => Ed p
end Go.Proofs.YtpmchnojeloohaaGreatDoor

namespace Go.Proofs.YtpmchnojeloohaaGreatDoor
open Go.Ab Go.RowKit Go.Dw Go.Shelf
theorem EdO.some {p : Pt} (h : EdO (some p)) : Ed p := h
end Go.Proofs.YtpmchnojeloohaaGreatDoor
