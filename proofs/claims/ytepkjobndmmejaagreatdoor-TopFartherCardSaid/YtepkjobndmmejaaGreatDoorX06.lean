/-
  Several texts in one: The plain law of round tips: they are valid; one with a greater radius is blunter; what they miss. No condition. .. Contracts for hearing: tips, reads, wows, which tip is blunter. Conditions: told in each theorem.
-/
import Derived.Test.YtepkjobndmmejaaGreatDoorX04
import Derived.Test.YtepkjobndmmejaaGreatDoorX05
import Derived.Test.YtepkjobndmmejaaGreatDoorMD
import Derived.Test.YtepkjobndmmejaaGreatDoorX01
import Derived.Test.YtepkjobndmmejaaGreatDoorAbs42
namespace Go.Proofs.YtepkjobndmmejaaGreatDoor
open Go.Ab Go.RowKit Go.Dw Go.Shelf
def ceilI (n : Int) : Int := rootI n + if rootI n * rootI n = n then 0 else 1
theorem ceilI_spec {n : Int} (h : 0 ≤ n) : 0 ≤ ceilI n ∧ n ≤ ceilI n * ceilI n ∧ ∀ c, 0 ≤ c → n ≤ c * c → ceilI n ≤ c := by
 obtain ⟨a, b, c⟩ := rootI_spec h
 unfold ceilI
 split
 ·
  rename_i he
  refine ⟨by omega, by rw [Int.add_zero]; omega, fun d hd hn => ?_⟩
  rw [Int.add_zero]
  exact root_le a hd (n := n) b (by
   have : d * d < (d + 1) * (d + 1) := by rw [Int.add_mul, Int.mul_add, Int.mul_add]; omega
   omega)
 ·
  rename_i he
  refine ⟨by omega, by omega, fun d hd hn => ?_⟩
  by_cases hc : rootI n + 1 ≤ d
  ·
   exact hc
  ·
   exfalso
   have h1 : d ≤ rootI n := by omega
   have h2 : d * d ≤ rootI n * rootI n := Int.mul_le_mul h1 h1 hd a
   omega
theorem elt_down (r a : Int) (k : Nat) : elt r a false k = r - ceilI (sqI r a k) := by
 unfold elt ceilI
 by_cases h : rootI (sqI r a k) * rootI (sqI r a k) = sqI r a k
 ·
  simp [h]
 ·
  simp [h]
theorem elt_up (r a : Int) (k : Nat) : elt r a true k = r - rootI (sqI r a k) := by simp [elt]
theorem eltN_mul {r a : Int} {k : Nat} (hr : 0 ≤ r) (ha : 1 ≤ a) (h : k < eltN r a) : 0 ≤ (k : Int) * a ∧ (k : Int) * a ≤ r := by
 unfold eltN at h
 have := (tdiv_bd r (m := a) oM).1 hr
 exact mul_le_of_tdiv hr ha oM oM
theorem eltN_mono {r r' a : Int} (hr : 0 ≤ r) (ha : 1 ≤ a) (h : r ≤ r') : eltN r a ≤ eltN r' a := by
 have := tdiv_mono (m := a) oM h
 have := (tdiv_bd r (m := a) oM).1 hr
 unfold eltN
 omega
theorem sqI_nn {r a : Int} {k : Nat} (hr : 0 ≤ r) (ha : 1 ≤ a) (h : k < eltN r a) : 0 ≤ sqI r a k ∧ sqI r a k ≤ r * r := by
 obtain ⟨h1, h2⟩ := eltN_mul hr ha h
 obtain ⟨b1, b2⟩ := sq_le h1 h2
 unfold sqI
 omega
theorem elt_bd {r a : Int} {up : Bool} {k : Nat} (hr : 0 ≤ r) (ha : 1 ≤ a) (h : k < eltN r a) : 0 ≤ elt r a up k ∧ elt r a up k ≤ r := by
 obtain ⟨s1, s2⟩ := sqI_nn hr ha h
 cases up with
 | false =>
  rw [elt_down]
  obtain ⟨c1, c2, c3⟩ := ceilI_spec s1
  have := c3 r hr s2
  omega
 | true =>
  rw [elt_up]
  obtain ⟨c1, c2, c3⟩ := rootI_spec s1
  have := root_le c1 hr (n := r * r) oM (by rw [Int.add_mul, Int.mul_add, Int.mul_add]; omega)
  omega
theorem elt_zero {r a : Int} {up : Bool} (hr : 0 ≤ r) : elt r a up 0 = 0 := by
 have h0 : sqI r a 0 = r * r := by simp [sqI]
 have h1 := Int.mul_nonneg hr hr
 have h2 : rootI (r * r) = r := (root_uniq h1 hr (Int.le_refl _) (by rw [Int.add_mul, Int.mul_add, Int.mul_add]; omega)).symm
 cases up with
 | false => rw [elt_down, h0, ceilI, h2, if_pos rfl]; omega
 | true => rw [elt_up, h0, h2]; omega
theorem sqI_anti {r a : Int} {j k : Nat} (ha : 1 ≤ a) (h : j ≤ k) : sqI r a k ≤ sqI r a j := by
 have h1 : 0 ≤ (j : Int) * a := Int.mul_nonneg oM oM
 have h2 : (j : Int) * a ≤ (k : Int) * a := Int.mul_le_mul_of_nonneg_right oM oM
 obtain ⟨_, b⟩ := sq_le h1 h2
 unfold sqI
 omega
theorem elt_next {r a : Int} {up : Bool} {k : Nat} (hr : 0 ≤ r) (ha : 1 ≤ a) (h : k + 1 < eltN r a) : elt r a up k ≤ elt r a up (k + 1) := by
 have s0 := (sqI_nn (k := k) hr ha oM).1
 have s1 := (sqI_nn (k := k + 1) hr ha h).1
 have s2 := sqI_anti (r := r) (a := a) (j := k) (k := k + 1) ha oM
 cases up with
 | false =>
  rw [elt_down, elt_down]
  obtain ⟨c1, c2, c3⟩ := ceilI_spec s0
  have := (ceilI_spec s1).2.2 _ c1 oM
  omega
 | true =>
  rw [elt_up, elt_up]
  obtain ⟨c1, c2, c3⟩ := rootI_spec s0
  obtain ⟨d1, d2, d3⟩ := rootI_spec s1
  have := root_le d1 c1 (n := sqI r a k) oM c3
  omega
theorem checkTip_round {r a : Int} {up : Bool} (h : roundE r a = 0) : checkTip (eltL r a up) = 0 := by
 obtain ⟨h1, h2, h3, h4, h5⟩ := roundE_ok.1 h
 have hl := eltL_len r a up
 have hp : 0 < eltN r a := by unfold eltN; omega
 refine checkTip_good oM fun k hk => ?_
 have b := elt_bd (up := up) h1 h3 (k := k) oM
 have g := eltL_gi (r := r) (a := a) (up := up) (k := k) oM
 unfold tipBad
 by_cases h0 : k = 0
 ·
  subst h0
  rw [if_pos rfl, g, elt_zero h1]
  rfl
 ·
  have h6 := elt_next (up := up) h1 h3 (k := k - 1) oM
  have g2 := eltL_gi (r := r) (a := a) (up := up) (k := k - 1) oM
  rw [Nat.sub_add_cancel oM] at h6
  rw [if_neg h0, g, g2]
  simp
  omega
theorem elt_step {r a : Int} {k : Nat} (hr : 0 ≤ r) (ha : 1 ≤ a) (h : k < eltN r a) : elt (r + 1) a false k ≤ elt r a false k := by
 have h' : k < eltN (r + 1) a := Nat.lt_of_lt_of_le h (eltN_mono hr ha oM)
 obtain ⟨c1, c2, c3⟩ := ceilI_spec (sqI_nn hr ha h).1
 obtain ⟨d1, d2, d3⟩ := ceilI_spec (sqI_nn oM ha h').1
 obtain ⟨e1, e2⟩ := elt_bd (up := false) oM ha h'
 rw [elt_down] at e1 e2
 rw [elt_down, elt_down]
 have hs : sqI (r + 1) a k = sqI r a k + 2 * r + 1 := by
  unfold sqI
  rw [Int.add_mul, Int.mul_add, Int.mul_add]
  omega
 have s0 := (sqI_nn hr ha h).1
 generalize ceilI (sqI (r + 1) a k) = c at *
 have hc : 1 ≤ c := by
  by_cases hc : 1 ≤ c
  ·
   exact hc
  ·
   obtain rfl : c = 0 := by omega
   omega
 have hq : (c - 1) * (c - 1) = c * c - 2 * c + 1 := by rw [Int.sub_mul, Int.mul_sub, Int.mul_sub]; omega
 have := c3 (c - 1) oM oM
 omega
theorem elt_mono {r a : Int} {k : Nat} (m : Nat) (hr : 0 ≤ r) (ha : 1 ≤ a) (h : k < eltN r a) : elt (r + m) a false k ≤ elt r a false k := by
 induction m with
 | zero => simp
 | succ m ih =>
  have := elt_step (r := r + m) (k := k) oM ha (Nat.lt_of_lt_of_le h (eltN_mono hr ha oM))
  rw [show r + ((m + 1 : Nat) : Int) = r + m + 1 by omega]
  omega
def exactB (l : List Pt) (a r : Int) : Bool := decide ((missI (eltL r a false) l).2.2 = 5)
theorem missI_tag2 (t : List Int) (l : List Pt) : (missP t l = none ∧ (missI t l).2.2 = 5) ∨ (missP t l ≠ none ∧ (missI t l).2.2 = 0) := by
 unfold missI
 cases missP t l with
 | none => exact .inl ⟨rfl, rfl⟩
 | some p => exact .inr ⟨by simp, rfl⟩
theorem missP_nn {t : List Int} {l : List Pt} : missP t l = none ↔ ∀ i, i < l.length → ∀ u, u < l.length → missB t l i u = false := by
 simp [missP, missRow]
theorem exact_iff {l : List Pt} {a r : Int} : exactB l a r = true ↔ ∀ i, i < l.length → ∀ u, u < l.length → missB (eltL r a false) l i u = false := by
 rw [← missP_nn, exactB, decide_eq_true_eq]
 rcases missI_tag2 (eltL r a false) l with ⟨h1, h2⟩ | ⟨h1, h2⟩
 ·
  simp [h1, h2]
 ·
  simp [h1, h2]
theorem exact_down {l : List Pt} {a r : Int} (m : Nat) (hr : 0 ≤ r) (ha : 1 ≤ a) (h : exactB l a (r + m) = true) : exactB l a r = true := by
 rw [exact_iff] at h ⊢
 intro i hi u hu
 have := h i hi u hu
 have hN := eltN_mono (r' := r + m) hr ha oM
 unfold missB at this ⊢
 rw [eltL_len] at this ⊢
 by_cases hd : dist u i < eltN r a
 ·
  have hm := elt_mono m hr ha hd
  rw [eltL_gi hd]
  rw [eltL_gi oM] at this
  simp [hd, show dist u i < eltN (r + m) a by omega] at this ⊢
  omega
 ·
  simp [hd]
theorem exact_zero {l : List Pt} {a : Int} (ha : 1 ≤ a) : exactB l a 0 = true := by
 rw [exact_iff]
 intro i hi u hu
 have hN : eltN 0 a = 1 := by simp [eltN]
 unfold missB
 rw [eltL_len, hN]
 by_cases hd : dist u i < 1
 ·
  have e : u = i := by unfold dist at hd; omega
  subst e
  rw [show dist u u = 0 by omega, eltL_gi oM, elt_zero oM]
  simp
 ·
  simp [hd]
end Go.Proofs.YtepkjobndmmejaaGreatDoor

namespace Go.Proofs.YtepkjobndmmejaaGreatDoor
open Go.Ab Go.RowKit Go.Dw Go.Shelf
end Go.Proofs.YtepkjobndmmejaaGreatDoor

namespace Go.Proofs.YtepkjobndmmejaaGreatDoor
open Go.Ab Go.RowKit Go.Dw Go.Shelf
theorem AC.args {P : Program} {f : FuncId} {args args' : List V} {v : V} {obs : List Ob} (h : AC P f args v obs) (hc : ∀ (w : World) (L : Nat → Prop) (vs : List Value), RV w L ρ0 args' vs → RV w L ρ0 args vs) : AC P f args' v obs :=
 ⟨h.1, fun L w vs hL hgl hv => h.2 L w vs hL hgl (hc w L _ hv)⟩
end Go.Proofs.YtepkjobndmmejaaGreatDoor

namespace Go.Proofs.YtepkjobndmmejaaGreatDoor
open Go.Ab Go.RowKit Go.Dw Go.Shelf
theorem checkPts_ac (l : List Pt) (hl : l.length ≤ 4611686018427387904) : AC Tryz.prog 47 [V.pts l] (.i (checkPts l)) [] := by
 refine ac_of_flat (enters_of Tryz.func47 kR rfl) fun L w vs hL hvs => ?_
 obtain ⟨vs⟩ := vs
 obtain ⟨x1, e1, q1⟩ := hvs.get (i := 0) rfl
 obtain ⟨A, c, rfl, _, ha⟩ := R_pts_inv q1 hL
 have hn := hvs.1
 have hvs' : vs = [.slice A l.length c] := by
  match vs, hn with
  | [a], _ => simp at e1; subst e1; rfl
 subst hvs'
 exact checkPts_calls A _ c l w ha hl
end Go.Proofs.YtepkjobndmmejaaGreatDoor

namespace Go.Proofs.YtepkjobndmmejaaGreatDoor
open Go.Ab Go.RowKit Go.Dw Go.Shelf
theorem Balance_ac (l : List Pt) (hl : l.length ≤ 4611686018427387904) : AC Tryz.prog 23 [V.pts l] (.tup [.agg [.i (balArm l).1, .i (balArm l).2], .i (checkPts l)]) [] := by
 refine ac_of_calls (enters_of Tryz.func23 kR rfl) fun L w vs hL hvs => ?_
 obtain ⟨vs⟩ := vs
 obtain ⟨x1, e1, q1⟩ := hvs.get (i := 0) rfl
 obtain ⟨A, c, rfl, _, ha⟩ := R_pts_inv q1 hL
 have hn := hvs.1
 have hvs' : vs = [.slice A l.length c] := by
  match vs, hn with
  | [a], _ => simp at e1; subst e1; rfl
 subst hvs'
 refine (balance_calls A _ c l w ha hl).mono ?_
 rintro e w' ⟨rfl, hb⟩
 exact ⟨_, rfl, hb, fun _ => False, fun _ h => h.elim, .tup' (.cons (.agg' (.cons (.c _ _) rfl (.cons (.c _ _) rfl .nil))) (.cons (.c _ _) .nil))⟩
end Go.Proofs.YtepkjobndmmejaaGreatDoor

namespace Go.Proofs.YtepkjobndmmejaaGreatDoor
open Go.Ab Go.RowKit Go.Dw Go.Shelf
theorem refCheckPts_ac (l : List Pt) (hl : l.length ≤ 4611686018427387904) : AC Tryz.prog 14 [V.pts l] (.i (checkPts l)) [] := by
 refine ac_of_flat (enters_of Tryz.func14 kR rfl) fun L w vs hL hvs => ?_
 obtain ⟨vs⟩ := vs
 obtain ⟨x1, e1, q1⟩ := hvs.get (i := 0) rfl
 obtain ⟨A, c, rfl, _, ha⟩ := R_pts_inv q1 hL
 have hn := hvs.1
 have hvs' : vs = [.slice A l.length c] := by
  match vs, hn with
  | [a], _ => simp at e1; subst e1; rfl
 subst hvs'
 exact refCheckPts_calls A _ c l w ha hl
end Go.Proofs.YtepkjobndmmejaaGreatDoor

namespace Go.Proofs.YtepkjobndmmejaaGreatDoor
open Go.Ab Go.RowKit Go.Dw Go.Shelf
def best (l : List Pt) (a : Int) : Nat → Int
  | 0 => 0
  | m + 1 => if exactB l a ((m + 1 : Nat) : Int) then ((m + 1 : Nat) : Int) else best l a m
theorem best_spec (l : List Pt) {a : Int} (ha : 1 ≤ a) (m : Nat) : 0 ≤ best l a m ∧ best l a m ≤ m ∧ exactB l a (best l a m) = true ∧ ∀ r : Int, best l a m < r → r ≤ m → exactB l a r = false := by
  induction m with
  | zero => exact ⟨by simp [best], by simp [best], by rw [best]; exact exact_zero ha, fun r h1 h2 => by rw [best] at h1; omega⟩
  | succ m ih =>
    rw [best]
    split
    · rename_i h
      exact ⟨by omega, by omega, h, fun r h1 h2 => by omega⟩
    · rename_i h
      refine ⟨ih.1, by omega, ih.2.2.1, fun r h1 h2 => ?_⟩
      by_cases hr : r = ((m + 1 : Nat) : Int)
      · rw [hr]; simpa using h
      · exact ih.2.2.2 r h1 oM
theorem best_uniq {l : List Pt} {a : Int} (ha : 1 ≤ a) {m : Nat} {r : Int} (h0 : 0 ≤ r) (h1 : r ≤ m) (h2 : exactB l a r = true) (h3 : ∀ r' : Int, r < r' → r' ≤ m → exactB l a r' = false) : r = best l a m := by
  obtain ⟨b0, b1, b2, b3⟩ := best_spec l ha m
  by_cases h4 : r < best l a m
  · rw [h3 _ h4 b1] at b2; cases b2
  · by_cases h5 : best l a m < r
    · rw [b3 _ h5 h1] at h2; cases h2
    · omega
theorem exact_le {l : List Pt} {a r r' : Int} (hr : 0 ≤ r) (ha : 1 ≤ a) (h : r ≤ r') (he : exactB l a r' = true) : exactB l a r = true :=
  exact_down (r' - r).toNat hr ha (by rw [show r + ((r' - r).toNat : Int) = r' by omega]; exact he)
theorem roundE_le {r r' a : Int} (h0 : 0 ≤ r) (h : r ≤ r') (he : roundE r' a = 0) : roundE r a = 0 := by
  obtain ⟨h1, h2, h3, h4, h5⟩ := roundE_ok.1 he
  have := eltN_mono h0 h3 h
  exact roundE_ok.2 ⟨h0, by omega, h3, h4, by omega⟩
def greatE (l : List Pt) (a m : Int) : Int := if checkPts l = 0 then roundE m a else checkPts l
def greatR (l : List Pt) (a m : Int) : Int := if greatE l a m = 0 then best l a m.toNat else 0
theorem great_1 {l : List Pt} {a m : Int} (h : ¬ checkPts l = 0) : greatE l a m = checkPts l ∧ greatR l a m = 0 := by
  have e : greatE l a m = checkPts l := by rw [greatE, if_neg h]
  exact ⟨e, by rw [greatR, e, if_neg h]⟩
theorem great_2 {l : List Pt} {a m : Int} (h : checkPts l = 0) (h2 : ¬ roundE m a = 0) : greatE l a m = roundE m a ∧ greatR l a m = 0 := by
  have e : greatE l a m = roundE m a := by rw [greatE, if_pos h]
  exact ⟨e, by rw [greatR, e, if_neg h2]⟩
theorem great_3 {l : List Pt} {a m : Int} (h : checkPts l = 0) (h2 : roundE m a = 0) : greatE l a m = 0 ∧ greatR l a m = best l a m.toNat := by
  have e : greatE l a m = 0 := by rw [greatE, if_pos h, h2]
  exact ⟨e, by rw [greatR, e, if_pos rfl]⟩
set_option maxRecDepth 100000 in
theorem Greatest_ac (l : List Pt) (a m : Int) (hl : l.length ≤ 4611686018427387904) : AC Tryz.prog 20 [V.pts l, .i a, .i m] (.tup [.i (greatR l a m), .i (greatE l a m)]) [] := by
  refine ac_intro hTT hMX (fn := Tryz.f20) (N := _) ⟨Tryz.func20, rfl, Tryz.ntmps20, kR⟩ (by simp) fun C hC hF => ?_
  refine sK fun K hK => ?_; refine wR 2 ?_; refine aX hTT 2 [] tI ?_; refine aops_nil ?_; refine xt_n ?_; refine hK _ ?_; clear hK K
  refine aw_scope ?_
  refine sK fun K hK => ?_; refine sK fun K hK => ?_; refine wR 3 ?_; refine aX hTT 1 [] tI ?_
  refine eC (checkPts_ac l hl) ?_
  refine aX hTT 1 [] tI ?_; refine aops_nil ?_; refine xt_n ?_; refine hK _ ?_; clear hK K; refine sK fun K hK => ?_; refine wR 4 ?_; refine aX hTT 2 [] tI ?_; refine aops_nil ?_; refine xt_n ?_; refine hK _ ?_; clear hK K
  refine w_cond (t := !decide (checkPts l = 0)) kR (fun c1 => ?_) (fun c1 => ?_)
  · simp at c1
    refine sK fun K hK => ?_; refine wR 5 ?_; refine aX hTT 3 [] tI ?_; refine aops_nil ?_; refine xt_n ?_; refine hK _ ?_; clear hK K
    refine aw_ret ?_
    refine xt_r ?_
    refine xs_r ?_
    rw [(great_1 (a := a) (m := m) c1).1, (great_1 (a := a) (m := m) c1).2]
    refine rP (V.tup [V.i 0, V.i (checkPts l)])
  simp at c1
  by_cases hR : roundE m a = 0
  · obtain ⟨h1, h2, h3, h4, h5⟩ := roundE_ok.1 hR
    refine aw_skip ?_
    refine xt_n ?_; refine hK _ ?_; clear hK K; refine sK fun K hK => ?_; refine sK fun K hK => ?_; refine wR 5 ?_; refine aX hTT 2 [] tI ?_
    refine eC (Round_ok m a false hR) ?_
    refine aX hTT 6 [(3, .r (pn 9 (V.ref 400009 0) (400009 : Nat) (Ob.box 27 [V.nil]))), (4, .r (pw ((0 : Nat) + (1 : Nat) ≤ (1 : Nat)) (400009 : Nat) (Ob.box 27 [V.sl 1 (List.length (eltL m a false)) fun (k : Nat) => [V.i (gi (eltL m a false) k)]])))] ⟨oM, tI⟩ ?_; refine aops_nil ?_; refine xt_n ?_; refine hK _ ?_; clear hK K; refine sK fun K hK => ?_; refine wR 6 ?_; refine aX hTT 2 [] tI ?_; refine aops_nil ?_; refine xt_n ?_; refine hK _ ?_; clear hK K; refine w_false (t := false) kR rfl ?_
    refine aw_skip ?_
    refine xt_n ?_; refine hK _ ?_; clear hK K; refine sK fun K hK => ?_; refine wR 7 ?_; refine aX hTT 3 [] tI ?_; refine aops_nil ?_; refine xt_n ?_; refine hK _ ?_; clear hK K; refine sK fun K hK => ?_
    refine aw_label ?_
    refine xt_n ?_; refine hK _ ?_; clear hK K; refine sK fun K hK => ?_
    refine aw_block ?_
    refine w_loop (ι := Int × Int) (fun x => [(0, V.pts l), (1, .i a), (11, .i x.1), (12, .i x.2)]) (fun _ => []) (fun x => 0 ≤ x.1 ∧ x.1 ≤ x.2 ∧ x.2 ≤ m ∧ exactB l a x.1 = true ∧ ∀ r, x.2 < r → r ≤ m → exactB l a r = false) (fun x => (x.2 - x.1).toNat) (0, m) ⟨Int.le_refl 0, h1, Int.le_refl _, exact_zero h3, fun r h6 h7 => by simp only at h6; omega⟩ ?_ ?_
    · show Le _ ⟨mkT [(0, V.pts l), (1, .i a), (11, .i 0), (12, .i m)], mkS [], 1⟩
      refine le_ren [] (.cons kR (.cons kR (.cons kR (.cons kR .nil)))) .nil kR kR
    rintro ⟨lo, hi⟩ ⟨g0, g1, g2, g3, g4⟩
    simp only at g0 g1 g2 g3 g4 ⊢
    have hm := tdiv_bd (lo + hi + 1) (m := 2) (by decide)
    have hm1 : (lo + hi + 1).tdiv 2 = (lo + hi + 1) / 2 := Int.tdiv_eq_ediv_of_nonneg oM
    refine aw_block ?_
    refine sK fun K hK => ?_; refine sK fun K hK => ?_; refine wR 2 ?_; refine aX hTT 3 [] tI ?_; refine aops_nil ?_; refine xt_n ?_; refine hK _ ?_; clear hK K
    refine w_cond (t := decide (lo = hi)) kR (fun c3 => ?_) (fun c3 => ?_)
    · simp at c3
      subst c3
      refine aw_exit ?_
      refine xt_x ?_
      refine xb_ne rfl ?_
      refine xt_x ?_
      refine xb_same ?_
      refine xt_n ?_; clear hK K; refine hK _ ?_; clear hK K; refine sK fun K hK => ?_; refine wR 3 ?_; refine aX hTT 3 [] tI ?_; refine aops_nil ?_; refine xt_n ?_; refine hK _ ?_; clear hK K
      refine aw_ret ?_
      refine xs_r ?_
      rw [(great_3 c1 hR).1, (great_3 c1 hR).2, ← best_uniq h3 g0 oM g3 (fun r h6 h7 => g4 r h6 oM)]
      refine rP (V.tup [V.i lo, V.i 0])
    · simp at c3
      have hRk : roundE ((lo + hi + 1).tdiv 2) a = 0 := roundE_le oM oM hR
      obtain ⟨k1, k2, k3, k4, k5⟩ := roundE_ok.1 hRk
      refine aw_skip ?_
      refine xt_n ?_; refine hK _ ?_; clear hK K; refine sK fun K hK => ?_; refine wR 3 ?_; refine aX hTT 6 [(2, .i (lo + hi)), (3, .i (lo + hi + 1)), (4, .c ((0 : Int) < (2 : Int) ∧ (-9223372036854775808 : Int) ≤ lo + hi + 1 ∧ lo + hi + 1 ≤ (9223372036854775807 : Int)))] ⟨oM, oM, ⟨oM, oM⟩, tI⟩ ?_; refine aops_nil ?_; refine xt_n ?_; refine hK _ ?_; clear hK K; refine sK fun K hK => ?_; refine wR 4 ?_; refine aX hTT 2 [] tI ?_
      refine eC (round_ac ((lo + hi + 1).tdiv 2) a false ⟨k1, k2⟩ ⟨k3, k4⟩ k5) ?_
      refine aX hTT 6 [(3, .r (pn 14 (V.ref 300014 0) (300014 : Nat) (Ob.box 27 [V.nil]))), (4, .r (pw ((0 : Nat) + (1 : Nat) ≤ (1 : Nat)) (300014 : Nat) (Ob.box 27 [V.sl 1 (List.length (eltL (Int.tdiv (lo + hi + 1) (2 : Int)) a false)) fun (k : Nat) => [V.i (gi (eltL (Int.tdiv (lo + hi + 1) (2 : Int)) a false) k)]])))] ⟨oM, tI⟩ ?_; refine aops_nil ?_; refine xt_n ?_; refine hK _ ?_; clear hK K; refine sK fun K hK => ?_; refine sK fun K hK => ?_; refine wR 5 ?_; refine aX hTT 2 [(0, .c ((0 : Nat) ≤ (1 : Nat)))] ⟨oM, tI⟩ ?_
      refine eC (miss_ac (eltL ((lo + hi + 1).tdiv 2) a false) l (checkBoth_of (checkTip_round hRk) c1)) ?_
      refine aX hTT 7 [] tI ?_; refine aops_nil ?_; refine xt_n ?_; refine hK _ ?_; clear hK K; refine sK fun K hK => ?_; refine wR 6 ?_; refine aX hTT 2 [] tI ?_; refine aops_nil ?_; refine xt_n ?_; refine hK _ ?_; clear hK K
      refine w_cond (t := decide (Prod.snd (Prod.snd (missI (eltL (Int.tdiv (lo + hi + 1) (2 : Int)) a false) l)) = 5)) kR (fun c4 => ?_) (fun c4 => ?_)
      · refine sK fun K hK => ?_
        refine wR 7 ?_; refine aX hTT 2 [] tI ?_; refine aops_nil ?_; refine xt_n ?_; refine hK _ ?_; clear hK K
        refine aw_exit ?_
        refine xt_x ?_
        refine xb_same ?_
        refine xt_n ?_
        refine ⟨((lo + hi + 1).tdiv 2, hi), ⟨by simp only; omega, by simp only; omega, g2, c4, g4⟩, ?_, by simp only; omega⟩
        show Le _ ⟨mkT [(0, V.pts l), (1, .i a), (11, .i ((lo + hi + 1).tdiv 2)), (12, .i hi)], mkS [], 1⟩
        refine le_ren [] (.cons kR (.cons kR (.cons kR (.cons kR .nil)))) .nil kR kR
      · refine aw_skip ?_
        refine xt_n ?_; refine hK _ ?_; clear hK K; refine wR 7 ?_; refine aX hTT 3 [(1, .i (Int.tdiv (lo + hi + 1) (2 : Int) - (1 : Int)))] ⟨oM, tI⟩ ?_; refine aops_nil ?_; refine xb_n ?_; refine xt_n ?_
        refine ⟨(lo, (lo + hi + 1).tdiv 2 - 1), ⟨g0, by simp only; omega, by simp only; omega, g3, fun r h6 h7 => ?_⟩, ?_, by simp only; omega⟩
        · simp only at h6
          cases hx : exactB l a r with
          | false => rfl
          | true =>
            have := exact_le (r := (lo + hi + 1).tdiv 2) k1 h3 oM hx
            have c5 : exactB l a ((lo + hi + 1).tdiv 2) = false := c4
            rw [c5] at this
            cases this
        · show Le _ ⟨mkT [(0, V.pts l), (1, .i a), (11, .i lo), (12, .i ((lo + hi + 1).tdiv 2 - 1))], mkS [], 1⟩
          refine le_ren [] (.cons kR (.cons kR (.cons kR (.cons kR .nil)))) .nil kR kR
  · refine aw_skip ?_
    refine xt_n ?_; refine hK _ ?_; clear hK K; refine sK fun K hK => ?_; refine sK fun K hK => ?_; refine wR 5 ?_; refine aX hTT 2 [] tI ?_
    refine eC (Round_no m a false hR) ?_
    refine aX hTT 6 [(3, .r (pn 9 (V.ref 400009 0) (400009 : Nat) (Ob.box 27 [V.nil]))), (4, .r (pw ((0 : Nat) + (1 : Nat) ≤ (1 : Nat)) (400009 : Nat) (Ob.box 27 [V.nil])))] ⟨oM, tI⟩ ?_; refine aops_nil ?_; refine xt_n ?_; refine hK _ ?_; clear hK K; refine sK fun K hK => ?_; refine wR 6 ?_; refine aX hTT 2 [] tI ?_; refine aops_nil ?_; refine xt_n ?_; refine hK _ ?_; clear hK K
    refine w_cond (t := !decide (roundE m a = 0)) kR (fun c2 => ?_) (fun c2 => ?_)
    · refine sK fun K hK => ?_
      refine wR 7 ?_; refine aX hTT 3 [] tI ?_; refine aops_nil ?_; refine xt_n ?_; refine hK _ ?_; clear hK K
      refine aw_ret ?_
      refine xt_r ?_
      refine xs_r ?_
      rw [(great_2 c1 hR).1, (great_2 c1 hR).2]
      refine rP (V.tup [V.i 0, V.i (roundE m a)])
    · simp at c2
      exact (hR c2).elim
end Go.Proofs.YtepkjobndmmejaaGreatDoor

namespace Go.Proofs.YtepkjobndmmejaaGreatDoor
open Go.Ab Go.RowKit Go.Dw Go.Shelf
def bluntB (a b : List Int) : Bool := decide (b.length ≤ a.length) && (List.range b.length).all fun k => decide (gi a k ≤ gi b k)
theorem blunt_short {a b : List Int} (h : a.length < b.length) : bluntB a b = false := by simp [bluntB]; omega
theorem blunt_bad {a b : List Int} {k : Nat} (hk : k < b.length) (h : gi b k < gi a k) : bluntB a b = false := by
  simp only [bluntB, Bool.and_eq_false_iff]
  right
  rw [List.all_eq_false]
  exact ⟨k, by simpa using hk, by simp; omega⟩
theorem blunt_good {a b : List Int} (h : b.length ≤ a.length) (hk : ∀ k, k < b.length → gi a k ≤ gi b k) : bluntB a b = true := by
  simp [bluntB, h]
  exact hk
theorem bluntB_iff {a b : List Int} : bluntB a b = true ↔ b.length ≤ a.length ∧ ∀ k, k < b.length → gi a k ≤ gi b k := by simp [bluntB]
set_option maxRecDepth 100000 in
theorem refBlunter_ac (a b : List Int) (ha : a.length ≤ 64) (hb : b.length ≤ 64) : AC Tryz.prog 18 [.agg [V.ints a], .agg [V.ints b]] (.b (bluntB a b)) [] := by
  refine ac_intro hTT hMX (fn := Tryz.f18) (N := _) ⟨Tryz.func18, rfl, Tryz.ntmps18, kR⟩ (by simp) fun C hC hF => ?_
  refine sK fun K hK => ?_; refine wR 2 ?_; refine aX hTT 3 [] tI ?_; refine aops_nil ?_; refine xt_n ?_; refine hK _ ?_; clear hK K; refine sK fun K hK => ?_; refine sK fun K hK => ?_; refine wR 3 ?_; refine aX hTT 7 [] tI ?_; refine aops_nil ?_; refine xt_n ?_; refine hK _ ?_; clear hK K
  refine w_cond (t := decide ((↑(List.length a) : Int) < (↑(List.length b) : Int))) kR (fun h => ?_) (fun h => ?_)
  · rw [blunt_short (by simpa using h)]
    refine sK fun K hK => ?_; refine wR 4 ?_; refine aX hTT 1 [] tI ?_; refine aops_nil ?_; refine xt_n ?_; refine hK _ ?_; clear hK K
    refine aw_ret ?_
    refine xt_r ?_
    refine rP (V.b false)
  simp at h
  refine aw_skip ?_
  refine xt_n ?_; refine hK _ ?_; clear hK K; refine sK fun K hK => ?_; refine sK fun K hK => ?_; refine wR 4 ?_; refine aX hTT 1 [] tI ?_; refine aops_nil ?_; refine xt_n ?_; refine hK _ ?_; clear hK K
  refine aw_block ?_
  refine w_loop (fun k : Nat => [(2, .ptr [V.ints a]), (3, .ptr [V.ints b]), (5, .i k)]) (fun _ => []) (fun k => k ≤ b.length ∧ ∀ j, j < k → gi a j ≤ gi b j) (fun k => b.length - k) 0 ⟨Nat.zero_le _, fun j hj => by omega⟩ ?_ ?_
  · refine le_ren [] (.cons kR (.cons kR (.cons kR .nil))) .nil kR kR
  rintro k ⟨hk, hg⟩
  refine sK fun K hK => ?_; refine sK fun K hK => ?_; refine wR 2 ?_; refine aX hTT 5 [] tI ?_; refine aops_nil ?_; refine xt_n ?_; refine hK _ ?_; clear hK K
  refine w_cond (t := decide ((↑k : Int) < (↑(List.length b) : Int))) kR (fun hl => ?_) (fun hl => ?_)
  · simp at hl
    refine aw_skip ?_
    refine xt_n ?_; refine hK _ ?_; clear hK K; refine sK fun K hK => ?_
    refine aw_block ?_
    refine sK fun K hK => ?_; refine wD 3 ?_; refine aX hTT 11 [(3, .c ((0 : Int) ≤ (↑k : Int) ∧ (↑k : Int) < (↑(List.length b) : Int))), (8, .c ((0 : Int) ≤ (↑k : Int) ∧ (↑k : Int) < (↑(List.length a) : Int)))] ⟨oM, oM, tI⟩ ?_; refine aops_nil ⟨kR, ?_⟩; refine xt_n ?_; refine hK _ ?_; clear hK K
    refine w_cond (t := decide (gi b k < gi a k)) kR (fun hc => ?_) (fun hc => ?_)
    · simp at hc
      refine sK fun K hK => ?_; refine wR 4 ?_; refine aX hTT 1 [] tI ?_; refine aops_nil ?_; refine xt_n ?_; refine hK _ ?_; clear hK K
      refine aw_ret ?_
      refine xb_r ?_
      refine xt_r ?_; refine xt_r ?_
      refine xb_r ?_
      refine xt_r ?_
      rw [blunt_bad hl hc]
      refine rP (V.b false)
    simp at hc
    refine aw_skip ?_
    refine xb_n ?_; refine xt_n ?_; refine hK _ ?_; clear hK K; refine wR 4 ?_; refine aX hTT 3 [(1, .i ((↑k : Int) + 1))] ⟨oM, tI⟩ ?_; refine aops_nil ?_; refine xt_n ?_
    refine ⟨k + 1, ⟨by omega, fun j hj => ?_⟩, ?_, by omega⟩
    · by_cases he : j = k
      · subst he; exact hc
      · exact hg j oM
    · refine le_ren [] (.cons kR (.cons kR (.cons kR .nil))) .nil kR kR
  simp at hl
  refine aw_exit ?_
  refine xt_x ?_; refine xt_x ?_
  refine xb_same ?_
  refine xt_n ?_; clear hK K; refine hK _ ?_; clear hK K; refine sK fun K hK => ?_; refine wR 3 ?_; refine aX hTT 1 [] tI ?_; refine aops_nil ?_; refine xt_n ?_; refine hK _ ?_; clear hK K
  refine aw_ret ?_
  rw [blunt_good h fun k hk => hg k oM]
  refine rP (V.b true)
end Go.Proofs.YtepkjobndmmejaaGreatDoor
