/-
  Several texts in one: The contracts of package play, and of its reference, for values without addresses. No condition. .. Which cutters are valid: the walks of both copies. No condition.
-/
import Derived.Test.YtepkjobndmmejaaGreatDoorX04
import Derived.Test.YtepkjobndmmejaaGreatDoorAbs42
import Derived.Test.YtepkjobndmmejaaGreatDoorMD
import Derived.Test.YtepkjobndmmejaaGreatDoorMC
namespace Go.Proofs.YtepkjobndmmejaaGreatDoor
open Go.Ab Go.RowKit Go.Dw Go.Shelf
theorem open_tl {w : World} {L : Nat → Prop} {t : List Int} {l : List Pt} {vs : Array Value} (hL : ∀ b, L b → b < w.heap.size) (h : RV w L ρ0 [.agg [V.ints t], V.pts l] vs.toList) :
  ∃ A c B d, vs = #[.agg #[.slice A t.length c], .slice B l.length d] ∧ IntsAt w A t.length t ∧ PtsAt w B l.length l := by
 obtain ⟨vs⟩ := vs
 obtain ⟨x1, e1, q1⟩ := h.get (i := 0) rfl
 obtain ⟨x2, e2, q2⟩ := h.get (i := 1) rfl
 obtain ⟨xs, rfl, hx⟩ := q1.agg_inv
 obtain ⟨xs⟩ := xs
 obtain ⟨y, e3, q3, _⟩ := hx.get (i := 0) rfl
 obtain ⟨A, c, rfl, _, ha⟩ := R_ints_inv q3 hL
 obtain ⟨B, d, rfl, _, hb⟩ := R_pts_inv q2 hL
 have hn := h.1
 have hm := hx.1
 refine ⟨A, c, B, d, ?_, ha, hb⟩
 match vs, hn, xs, hm with
 | [a, b], _, [x], _ => simp at e1 e2 e3; subst e1 e2 e3; rfl
theorem ac_of_flat {P : Program} {f : FuncId} {args : List V} {x : Value} (he : ∀ (args : Array Value) (w : World), (callFunc f args).run P w = .ok (.enter f args) w)
  (h : ∀ (L : Nat → Prop) (w : World) (vs : Array Value), (∀ b, L b → b < w.heap.size) → RV w L ρ0 args vs.toList → Calls P f vs w fun e w' => e = .returned x ∧ Below w.heap.size w w') : AC P f args (.c x) [] := by
 refine ac_of_calls he fun L w vs hL hvs => (h L w vs hL hvs).mono ?_
 rintro e w' ⟨rfl, hb⟩
 exact ⟨_, rfl, hb, fun _ => False, fun _ h => h.elim, .c _ _⟩
theorem ac_of_pts {P : Program} {f : FuncId} {args : List V} {e0 : TypeId} {l : List Pt} {n : Nat} {k : Int} (he : ∀ (args : Array Value) (w : World), (callFunc f args).run P w = .ok (.enter f args) w)
  (h : ∀ (L : Nat → Prop) (w : World) (vs : Array Value), (∀ b, L b → b < w.heap.size) → RV w L ρ0 args vs.toList → Calls P f vs w fun e w' => ∃ v, e = .returned (.tuple #[v, .int .i64 k]) ∧ w'.ownsRow w.heap.size e0 2 v n (l.flatMap encP) ∧ Below w.heap.size w w') : AC P f args (.tup [V.pts l, .i k]) [] := by
 refine ac_of_calls he fun L w vs hL hvs => (h L w vs hL hvs).mono ?_
 rintro e w' ⟨v, rfl, ho, hb⟩
 obtain ⟨N, hN, hr⟩ := own_R_pts ho
 exact ⟨_, rfl, hb, N, hN, .tup' (.cons ((hr ρ0).ext ⟨fun b hb => ⟨.inr hb, rfl⟩, fun _ _ h => h⟩) (.cons (.c _ _) .nil))⟩
section
variable (t : List Int) (l : List Pt) (ht : t.length ≤ 4611686018427387904) (hl : l.length ≤ 4611686018427387904)
include ht hl
theorem check_ac : AC Tryz.prog 37 [.agg [V.ints t], V.pts l] (.i (checkBoth t l)) [] := by
 refine ac_of_flat (enters_of Tryz.func37 kR rfl) fun L w vs hL hvs => ?_
 obtain ⟨A, c, B, d, rfl, ha, hb⟩ := open_tl hL hvs
 exact check_calls A _ c t B _ d l w ha ht hb hl
theorem Read_ac : AC Tryz.prog 27 [.agg [V.ints t], V.pts l] (.tup [V.pts (wallsR t l), .i (checkBoth t l)]) [] := by
 refine ac_of_pts (e0 := 81) (n := (wallsR t l).length) (enters_of Tryz.func27 kR rfl) fun L w vs hL hvs => ?_
 obtain ⟨A, c, B, d, rfl, ha, hb⟩ := open_tl hL hvs
 exact Read_calls A _ c t B _ d l w ha hb ht hl
end
end Go.Proofs.YtepkjobndmmejaaGreatDoor

namespace Go.Proofs.YtepkjobndmmejaaGreatDoor
open Go.Ab Go.RowKit Go.Dw Go.Shelf
end Go.Proofs.YtepkjobndmmejaaGreatDoor

namespace Go.Proofs.YtepkjobndmmejaaGreatDoor
open Go.Ab Go.RowKit Go.Dw Go.Shelf
theorem gp_readP {t : List Int} {l : List Pt} {i : Nat} (hi : i < l.length) : gp (readP t l) i = readPt t l i l.length := by
 rw [← readPts_eq, readPts, gp_eq (by simpa using hi)]
 simp
theorem le_out {t : List Int} {l : List Pt} {i : Nat} (hi : i < l.length) {x : Int} : x ≤ (gp (readP t l) i).2 ↔ x ≤ (gp l i).2 ∧ ∀ u, u < l.length → dist u i < t.length → x ≤ (gp l u).2 + gi t (dist u i) := by
 rw [gp_readP hi]; exact le_readPt l.length
theorem in_le {t : List Int} {l : List Pt} {i : Nat} (hi : i < l.length) {x : Int} : (gp (readP t l) i).1 ≤ x ↔ (gp l i).1 ≤ x ∧ ∀ u, u < l.length → dist u i < t.length → (gp l u).1 - gi t (dist u i) ≤ x := by
 rw [gp_readP hi]; exact readPt_le l.length
theorem missB_false {t : List Int} {l : List Pt} {i u : Nat} : missB t l i u = false ↔ (dist u i < t.length → (gp l i).2 ≤ (gp l u).2 + gi t (dist u i) ∧ (gp l u).1 - gi t (dist u i) ≤ (gp l i).1) := by
 simp [missB]
theorem row_none {t : List Int} {l : List Pt} {i : Nat} : missRow t l i = none ↔ ∀ u, u < l.length → missB t l i u = false := by
 constructor
 ·
  intro h u hu
  unfold missRow at h
  rw [List.find?_eq_none] at h
  simpa using h u (by simpa using hu)
 ·
  exact find_none
theorem row_none_iff {t : List Int} {l : List Pt} {i : Nat} (hi : i < l.length) : missRow t l i = none ↔ gp (readP t l) i = gp l i := by
 rw [row_none]
 have a1 : (gp (readP t l) i).2 ≤ (gp l i).2 := ((le_out hi).1 (Int.le_refl _)).1
 have a2 : (gp l i).1 ≤ (gp (readP t l) i).1 := ((in_le hi).1 (Int.le_refl _)).1
 constructor
 ·
  intro h
  have b1 : (gp l i).2 ≤ (gp (readP t l) i).2 := (le_out hi).2 ⟨Int.le_refl _, fun u hu hd => (missB_false.1 (h u hu) hd).1⟩
  have b2 : (gp (readP t l) i).1 ≤ (gp l i).1 := (in_le hi).2 ⟨Int.le_refl _, fun u hu hd => (missB_false.1 (h u hu) hd).2⟩
  exact Prod.ext (Int.le_antisymm b2 a2) (Int.le_antisymm a1 b1)
 ·
  intro h u hu
  refine missB_false.2 fun hd => ⟨((le_out hi).1 (by rw [h]; exact Int.le_refl _)).2 u hu hd, ((in_le hi).1 (by rw [h]; exact Int.le_refl _)).2 u hu hd⟩
theorem missP_none {t : List Int} {l : List Pt} : missP t l = none ↔ ∀ i, i < l.length → missRow t l i = none := by
 unfold missP
 rw [List.findSome?_eq_none_iff]
 simp
theorem exact_none {t : List Int} {l : List Pt} (h : missP t l = none) : readP t l = l ∧ sweepP t l = l := by
 have hr : readP t l = l := list_ext_gp (readP_length t l) fun k hk => by
  rw [readP_length] at hk
  exact (row_none_iff hk).1 (missP_none.1 h k hk)
 refine ⟨hr, pts_ext fun inn => ?_⟩
 have h1 := inside_iff.1 (sweepP_in t l) inn
 have h2 := inside_iff.1 (readP_in_sweepP t l) inn
 rw [hr] at h2
 exact h1.antisymm h2
theorem miss_zero (l : List Pt) : missP [0] l = none := missP_none.2 fun i _ => row_none.2 fun u _ => missB_false.2 fun hd => by
 have : u = i := by simp [dist] at hd; omega
 subst this
 simp [dist, gi]
end Go.Proofs.YtepkjobndmmejaaGreatDoor

namespace Go.Proofs.YtepkjobndmmejaaGreatDoor
open Go.Ab Go.RowKit Go.Dw Go.Shelf
theorem AC.args {P : Program} {f : FuncId} {args args' : List V} {v : V} {obs : List Ob} (h : AC P f args v obs) (hc : ∀ (w : World) (L : Nat → Prop) (vs : List Value), RV w L ρ0 args' vs → RV w L ρ0 args vs) : AC P f args' v obs :=
 ⟨h.1, fun L w vs hL hgl hv => h.2 L w vs hL hgl (hc w L _ hv)⟩
end Go.Proofs.YtepkjobndmmejaaGreatDoor

namespace Go.Proofs.YtepkjobndmmejaaGreatDoor
open Go.Ab Go.RowKit Go.Dw Go.Shelf
theorem open_t {w : World} {L : Nat → Prop} {t : List Int} {vs : Array Value} (hL : ∀ b, L b → b < w.heap.size) (h : RV w L ρ0 [.agg [V.ints t]] vs.toList) :
    ∃ A c, vs = #[.agg #[.slice A t.length c]] ∧ IntsAt w A t.length t := by
  obtain ⟨vs⟩ := vs
  obtain ⟨x1, e1, q1⟩ := h.get (i := 0) rfl
  obtain ⟨xs, rfl, hx⟩ := q1.agg_inv
  obtain ⟨xs⟩ := xs
  obtain ⟨y, e3, q3, _⟩ := hx.get (i := 0) rfl
  obtain ⟨A, c, rfl, _, ha⟩ := R_ints_inv q3 hL
  have hn := h.1
  have hm := hx.1
  refine ⟨A, c, ?_, ha⟩
  match vs, hn, xs, hm with
  | [a], _, [x], _ => simp at e1 e3; subst e1 e3; rfl
theorem ac_of_row {P : Program} {f : FuncId} {args : List V} {e0 : TypeId} {l : List Pt} {n : Nat} (he : ∀ (args : Array Value) (w : World), (callFunc f args).run P w = .ok (.enter f args) w)
    (h : ∀ (L : Nat → Prop) (w : World) (vs : Array Value), (∀ b, L b → b < w.heap.size) → RV w L ρ0 args vs.toList → Calls P f vs w fun e w' => ∃ v, e = .returned v ∧ w'.ownsRow w.heap.size e0 2 v n (l.flatMap encP) ∧ Below w.heap.size w w') : AC P f args (V.pts l) [] := by
  refine ac_of_calls he fun L w vs hL hvs => (h L w vs hL hvs).mono ?_
  rintro e w' ⟨v, rfl, ho, hb⟩
  obtain ⟨N, hN, hr⟩ := own_R_pts ho
  exact ⟨_, rfl, hb, N, hN, (hr ρ0).ext ⟨fun b hb => ⟨.inr hb, rfl⟩, fun _ _ h => h⟩⟩
theorem checkTip_ac (t : List Int) (ht : t.length ≤ 4611686018427387904) : AC Tryz.prog 36 [.agg [V.ints t]] (.i (checkTip t)) [] := by
  refine ac_of_flat (enters_of Tryz.func36 kR rfl) fun L w vs hL hvs => ?_
  obtain ⟨A, c, rfl, ha⟩ := open_t hL hvs
  exact checkTip_calls A _ c t w ha ht
theorem refCheckTip_ac (t : List Int) (ht : t.length ≤ 4611686018427387904) : AC Tryz.prog 9 [.agg [V.ints t]] (.i (checkTip t)) [] := by
  refine ac_of_flat (enters_of Tryz.func9 kR rfl) fun L w vs hL hvs => ?_
  obtain ⟨A, c, rfl, ha⟩ := open_t hL hvs
  exact refCheckTip_calls A _ c t w ha ht
theorem read_ac (t : List Int) (l : List Pt) (h0 : checkBoth t l = 0) : AC Tryz.prog 39 [.agg [V.ints t], V.pts l] (V.pts (readP t l)) [] := by
  refine ac_of_row (e0 := 81) (n := (readP t l).length) (enters_of Tryz.func39 kR rfl) fun L w vs hL hvs => ?_
  obtain ⟨A, c, B, d, rfl, ha, hb⟩ := open_tl hL hvs
  exact read_calls A _ c t B _ d l w ha hb h0
def bluntB (a b : List Int) : Bool := decide (b.length ≤ a.length) && (List.range b.length).all fun k => decide (gi a k ≤ gi b k)
theorem blunt_short {a b : List Int} (h : a.length < b.length) : bluntB a b = false := by simp [bluntB]; omega
theorem blunt_bad {a b : List Int} {k : Nat} (hk : k < b.length) (h : gi b k < gi a k) : bluntB a b = false := by
  simp only [bluntB, Bool.and_eq_false_iff]
  right
  rw [List.all_eq_false]
  exact ⟨k, by simpa using hk, by simp; omega⟩
theorem blunt_good {a b : List Int} (h : b.length ≤ a.length) (hk : ∀ k, k < b.length → gi a k ≤ gi b k) : bluntB a b = true := by
  simp [bluntB, h]
  exact hk
theorem bluntB_iff {a b : List Int} : bluntB a b = true ↔ b.length ≤ a.length ∧ ∀ k, k < b.length → gi a k ≤ gi b k := by simp [bluntB]
set_option maxRecDepth 100000 in
theorem blunter_ac (a b : List Int) (ha : a.length ≤ 64) (hb : b.length ≤ 64) : AC Tryz.prog 38 [.agg [V.ints a], .agg [V.ints b]] (.b (bluntB a b)) [] := by
  refine ac_intro hTT hMX (fn := Tryz.f38) (N := _) ⟨Tryz.func38, rfl, Tryz.ntmps38, kR⟩ (by simp) fun C hC hF => ?_
  refine sK fun K hK => ?_; refine wR 2 ?_; refine aX hTT 3 [] tI ?_; refine aops_nil ?_; refine xt_n ?_; refine hK _ ?_; clear hK K; refine sK fun K hK => ?_; refine sK fun K hK => ?_; refine wR 3 ?_; refine aX hTT 7 [] tI ?_; refine aops_nil ?_; refine xt_n ?_; refine hK _ ?_; clear hK K
  refine w_cond (t := decide ((↑(List.length a) : Int) < (↑(List.length b) : Int))) kR (fun h => ?_) (fun h => ?_)
  · rw [blunt_short (by simpa using h)]
    refine sK fun K hK => ?_; refine wR 4 ?_; refine aX hTT 1 [] tI ?_; refine aops_nil ?_; refine xt_n ?_; refine hK _ ?_; clear hK K
    refine aw_ret ?_
    refine xt_r ?_
    refine rP (V.b false)
  simp at h
  refine aw_skip ?_
  refine xt_n ?_; refine hK _ ?_; clear hK K; refine sK fun K hK => ?_; refine sK fun K hK => ?_; refine wR 4 ?_; refine aX hTT 4 [] tI ?_; refine aops_nil ?_; refine xt_n ?_; refine hK _ ?_; clear hK K
  refine aw_block ?_
  refine w_loop (fun k : Nat => [(2, .ptr [V.ints a]), (15, V.ints b), (16, .i b.length), (17, .i k)]) (fun _ => []) (fun k => k ≤ b.length ∧ ∀ j, j < k → gi a j ≤ gi b j) (fun k => b.length - k) 0 ⟨Nat.zero_le _, fun j hj => by omega⟩ ?_ ?_
  · refine le_ren [] (.cons kR (.cons kR (.cons kR (.cons kR .nil)))) .nil kR kR
  rintro k ⟨hk, hg⟩
  refine sK fun K hK => ?_; refine wR 2 ?_; refine aX hTT 1 [] tI ?_; refine aops_nil ?_; refine xt_n ?_; refine hK _ ?_; clear hK K; refine sK fun K hK => ?_
  refine w_cond (t := decide ((↑k : Int) < (↑(List.length b) : Int))) kR (fun hl => ?_) (fun hl => ?_)
  · simp at hl
    refine aw_skip ?_
    refine xt_n ?_; refine hK _ ?_; clear hK K; refine sK fun K hK => ?_
    refine aw_block ?_
    refine sK fun K hK => ?_; refine wR 3 ?_; refine aX hTT 5 [(1, .c ((0 : Int) ≤ (↑k : Int) ∧ (↑k : Int) < (↑(List.length b) : Int)))] ⟨oM, tI⟩ ?_; refine aops_nil ?_; refine xt_n ?_; refine hK _ ?_; clear hK K; refine sK fun K hK => ?_; refine wR 4 ?_; refine aX hTT 7 [(4, .c ((0 : Int) ≤ (↑k : Int) ∧ (↑k : Int) < (↑(List.length a) : Int)))] ⟨oM, tI⟩ ?_; refine aops_nil ?_; refine xt_n ?_; refine hK _ ?_; clear hK K
    refine w_cond (t := decide (gi b k < gi a k)) kR (fun hc => ?_) (fun hc => ?_)
    · simp at hc
      refine sK fun K hK => ?_; refine wR 5 ?_; refine aX hTT 1 [] tI ?_; refine aops_nil ?_; refine xt_n ?_; refine hK _ ?_; clear hK K
      refine aw_ret ?_
      refine xb_r ?_
      refine xt_r ?_; refine xt_r ?_
      refine xb_r ?_
      refine xt_r ?_
      rw [blunt_bad hl hc]
      refine rP (V.b false)
    simp at hc
    refine aw_skip ?_
    refine xb_n ?_; refine xt_n ?_; refine hK _ ?_; clear hK K; refine wR 5 ?_; refine aX hTT 2 [(0, .i ((↑k : Int) + 1))] ⟨oM, tI⟩ ?_; refine aops_nil ?_; refine xt_n ?_
    refine ⟨k + 1, ⟨by omega, fun j hj => ?_⟩, ?_, by omega⟩
    · by_cases he : j = k
      · subst he; exact hc
      · exact hg j oM
    · refine le_ren [] (.cons kR (.cons kR (.cons kR (.cons kR .nil)))) .nil kR kR
  simp at hl
  refine aw_exit ?_
  refine xt_x ?_; refine xt_x ?_
  refine xb_same ?_
  refine xt_n ?_; clear hK K; refine hK _ ?_; clear hK K; refine sK fun K hK => ?_; refine wR 3 ?_; refine aX hTT 1 [] tI ?_; refine aops_nil ?_; refine xt_n ?_; refine hK _ ?_; clear hK K
  refine aw_ret ?_
  rw [blunt_good h fun k hk => hg k oM]
  refine rP (V.b true)
end Go.Proofs.YtepkjobndmmejaaGreatDoor

namespace Go.Proofs.YtepkjobndmmejaaGreatDoor
open Go.Ab Go.RowKit Go.Dw Go.Shelf
abbrev Hd := Int × Int × Int × Int
def hs (a b : List Pt) (h : Hd) (u : Nat) : Hd := (min h.1 (gp b u).1, max h.2.1 (gp a u).1, min h.2.2.1 (gp a u).2, max h.2.2.2 (gp b u).2)
def hear0 (a b : List Pt) (t : Nat) : Hd := ((gp b t).1, (gp a t).1, (gp a t).2, (gp b t).2)
def hearN (a b : List Pt) (t lo j : Nat) : Hd := (List.range j).foldl (fun h i => hs a b h (lo + i)) (hear0 a b t)
def hearK (a b : List Pt) (t r k : Nat) : Hd := ((List.range k).filter fun u => decide (dist u t < r)).foldl (hs a b) (hear0 a b t)
theorem hearN_succ (a b : List Pt) (t lo j : Nat) : hearN a b t lo (j + 1) = hs a b (hearN a b t lo j) (lo + j) := by simp [hearN, List.range_succ]
theorem hearK_succ (a b : List Pt) (t r k : Nat) : hearK a b t r (k + 1) = if dist k t < r then hs a b (hearK a b t r k) k else hearK a b t r k := by
 unfold hearK
 rw [List.range_succ, List.filter_append, List.foldl_append]
 by_cases h : dist k t < r <;> simp [h]
theorem near_filter (t r : Nat) : ∀ n, t < n → 0 < r → ((List.range n).filter fun u => decide (dist u t < r)) = (List.range (nearN t n r)).map (nearLo t r + ·) := by
 have key : ∀ n, ((List.range n).filter fun u => decide (dist u t < r)) = (List.range (min n (t + r) - nearLo t r)).map (nearLo t r + ·) := by
  intro n
  induction n with
  | zero => simp
  | succ n ih =>
   rw [List.range_succ, List.filter_append, ih]
   by_cases h : dist n t < r
   ·
    have e : min (n + 1) (t + r) - nearLo t r = (min n (t + r) - nearLo t r) + 1 := by unfold dist nearLo at *; omega
    rw [e, List.range_succ, List.map_append]
    have e2 : nearLo t r + (min n (t + r) - nearLo t r) = n := by unfold dist nearLo at *; omega
    simp [h, e2]
   ·
    have e : min (n + 1) (t + r) - nearLo t r = min n (t + r) - nearLo t r := by unfold dist nearLo at *; omega
    rw [e]
    simp [h]
 intro n _ _
 rw [key n]
 rfl
theorem hearK_all {a b : List Pt} {t r n : Nat} (ht : t < n) (hr : 0 < r) : hearK a b t r n = hearN a b t (nearLo t r) (nearN t n r) := by
 unfold hearK hearN
 rw [near_filter t r n ht hr, List.foldl_map]
def hearAt (a b : List Pt) (n r t : Nat) : Hd := hearK a b t r n
def vhd (h : Hd) : List V := [.i h.1, .i h.2.1, .i h.2.2.1, .i h.2.2.2]
def hearE (s t : List Int) (l : List Pt) (wow : Int) : Int :=
 if checkTip s = 0 then (if checkBoth t l = 0 then (if bluntB s t then (if wow < 0 ∨ 256 < wow then 3 else 0) else 20) else checkBoth t l) else checkTip s
def hearNn (s t : List Int) (l : List Pt) (wow : Int) : Nat := if hearE s t l wow = 0 then l.length else 0
theorem hearE_1 {s t : List Int} {l : List Pt} {wow : Int} (h : ¬ checkTip s = 0) : hearE s t l wow = checkTip s := by rw [hearE, if_neg h]
theorem hearE_2 {s t : List Int} {l : List Pt} {wow : Int} (h : checkTip s = 0) (h2 : ¬ checkBoth t l = 0) : hearE s t l wow = checkBoth t l := by rw [hearE, if_pos h, if_neg h2]
theorem hearE_3 {s t : List Int} {l : List Pt} {wow : Int} (h : checkTip s = 0) (h2 : checkBoth t l = 0) (h3 : bluntB s t = false) : hearE s t l wow = 20 := by rw [hearE, if_pos h, if_pos h2, if_neg (by simp [h3])]
theorem hearE_4 {s t : List Int} {l : List Pt} {wow : Int} (h : checkTip s = 0) (h2 : checkBoth t l = 0) (h3 : bluntB s t = true) (h4 : (decide (wow < 0) || decide (256 < wow)) = true) : hearE s t l wow = 3 := by
 rw [hearE, if_pos h, if_pos h2, if_pos h3, if_pos (by simpa using h4)]
theorem hearE_5 {s t : List Int} {l : List Pt} {wow : Int} (h : checkTip s = 0) (h2 : checkBoth t l = 0) (h3 : bluntB s t = true) (h4 : 0 ≤ wow ∧ wow ≤ 256) : hearE s t l wow = 0 := by
 rw [hearE, if_pos h, if_pos h2, if_pos h3, if_neg oM]
theorem hearNn_no {s t : List Int} {l : List Pt} {wow : Int} (h : ¬ hearE s t l wow = 0) : hearNn s t l wow = 0 := by rw [hearNn, if_neg h]
def hearV (s t : List Int) (l : List Pt) (wow : Int) : V := .tup [.sl 4 (hearNn s t l wow) fun k => vhd (hearAt (readP s l) (readP t l) l.length (wow.toNat + 1) k), .i (hearE s t l wow)]
theorem appRow_lt {n i : Nat} {r r' : Nat → List V} (h : i < n) : appRow n r r' i = r i := by simp [appRow, h]
theorem appRow_at {n : Nat} {r r' : Nat → List V} : appRow n r r' n = r' 0 := by simp [appRow]
abbrev yyPAb100 (l : List Pt) : V := V.sl 2 (List.length l) fun (k : Nat) => [V.i (Prod.fst (gp l k)), V.i (Prod.snd (gp l k))]
abbrev yyPAb101 (s : List Int) : V := V.agg [V.sl 1 (List.length s) fun (k : Nat) => [V.i (gi s k)]]
abbrev yyPAb102 (t : List Int) : V := V.agg [V.sl 1 (List.length t) fun (k : Nat) => [V.i (gi t k)]]
set_option maxRecDepth 100000 in
theorem Hear_ac (s t : List Int) (l : List Pt) (wow : Int) (hs' : s.length ≤ 4611686018427387904) (ht : t.length ≤ 4611686018427387904) (hl : l.length ≤ 4611686018427387904) :
  AC Tryz.prog 12 [.agg [V.ints s], .agg [V.ints t], V.pts l, .i wow] (hearV s t l wow) [] := by
 refine acI hTT hMX Tryz.func12 Tryz.ntmps12 fun C hC hF => ?_
 refine sK fun K hK => wR 2 ?_
 refine aops_n hTT (M := []) (n := 4) [pv 4 (V.ptr [V.sl 1 (List.length s) fun (k : Nat) => [V.i (gi s k)]]), pv 5 (V.ptr [V.sl 1 (List.length t) fun (k : Nat) => [V.i (gi t k)]]), pv 8 V.nil, pv 9 (V.i 0)] kR kR tI ?_
 refine nK hK ?_; clear hK K; refine sK fun K hK => ?_; refine sK fun K hK => wR 3 ?_
 refine aops_n hTT (M := []) (n := 1) [pv 18 ((yyPAb101 s))] kR kR tI ?_
 refine eC (checkTip_ac s hs') ?_
 refine aops_n hTT (M := []) (n := 1) [pv 10 (V.i (checkTip s))] kR kR tI ?_
 refine nK hK ?_; clear hK K; refine sK fun K hK => wR 4 ?_
 refine aops_n hTT (M := []) (n := 2) [pv 20 (V.i (checkTip s)), pv 21 (V.b !decide (checkTip s = 0))] kR kR tI ?_
 refine nK hK ?_; clear hK K
 refine w_cond (t := !decide (checkTip s = 0)) kR (fun h1 => ?_) (fun h1 => ?_)
 ·
  simp at h1
  refine sK fun K hK => wR 5 ?_
  refine aops_n hTT (M := []) (n := 3) [pv 22 (V.i (checkTip s)), pv 8 V.nil, pv 9 (V.i (checkTip s))] kR kR tI ?_
  refine nK hK ?_; clear hK K
  refine aw_ret ?_
  refine xt_r ?_
  refine ret_of_le (le_nil 8 (sz := 4) (hearNn s t l wow) (fun k => vhd (hearAt (readP s l) (readP t l) l.length (wow.toNat + 1) k)) kR ?_) ?_
  ·
   exact hearNn_no (by rw [hearE_1 h1]; exact h1)
  refine ret_pure (v' := V.tup [V.sl 4 (hearNn s t l wow) fun (k : Nat) => vhd (hearAt (readP s l) (readP t l) (List.length l) (Int.toNat wow + 1) k), V.i (checkTip s)]) (.inr rfl) kR ?_ kR
  rw [hearV, hearE_1 h1]
 simp at h1
 refine aw_skip ?_
 refine xt_n (hK _ ?_); clear hK K; refine sK fun K hK => ?_; refine sK fun K hK => wR 5 ?_
 refine aops_n hTT (M := []) (n := 2) [pv 23 ((yyPAb102 t)), pv 24 ((yyPAb100 l))] kR kR tI ?_
 refine eC (check_ac t l ht hl) ?_
 refine aops_n hTT (M := []) (n := 1) [pv 11 (V.i (checkBoth t l))] kR kR tI ?_
 refine nK hK ?_; clear hK K; refine sK fun K hK => wR 6 ?_
 refine aops_n hTT (M := []) (n := 2) [pv 26 (V.i (checkBoth t l)), pv 27 (V.b !decide (checkBoth t l = 0))] kR kR tI ?_
 refine nK hK ?_; clear hK K
 refine w_cond (t := !decide (checkBoth t l = 0)) kR (fun h2 => ?_) (fun h2 => ?_)
 ·
  simp at h2
  refine sK fun K hK => wR 7 ?_
  refine aops_n hTT (M := []) (n := 3) [pv 28 (V.i (checkBoth t l)), pv 8 V.nil, pv 9 (V.i (checkBoth t l))] kR kR tI ?_
  refine nK hK ?_; clear hK K
  refine aw_ret ?_
  refine xt_r ?_
  refine ret_of_le (le_nil 8 (sz := 4) (hearNn s t l wow) (fun k => vhd (hearAt (readP s l) (readP t l) l.length (wow.toNat + 1) k)) kR ?_) ?_
  ·
   exact hearNn_no (by rw [hearE_2 h1 h2]; exact h2)
  refine ret_pure (v' := V.tup [V.sl 4 (hearNn s t l wow) fun (k : Nat) => vhd (hearAt (readP s l) (readP t l) (List.length l) (Int.toNat wow + 1) k), V.i (checkBoth t l)]) (.inr rfl) kR ?_ kR
  rw [hearV, hearE_2 h1 h2]
 simp at h2
 refine aw_skip ?_
 refine xt_n (hK _ ?_); clear hK K; refine sK fun K hK => ?_; refine sK fun K hK => wR 7 ?_
 refine aops_n hTT (M := []) (n := 2) [pv 29 ((yyPAb101 s)), pv 30 ((yyPAb102 t))] kR kR tI ?_
 obtain ⟨k1, k2⟩ := checkBoth_ok h2
 obtain ⟨_, m2, _, _, m3⟩ := checkTip_ok k1
 obtain ⟨_, q2, _, _, q3⟩ := checkTip_ok h1
 obtain ⟨m4, m5⟩ := checkPts_ok k2
 refine eC (blunter_ac s t q2 m2) ?_
 refine aops_n hTT (M := []) (n := 1) [pv 32 (V.b !bluntB s t)] kR kR tI ?_
 refine nK hK ?_; clear hK K
 refine w_cond (t := !bluntB s t) kR (fun h3 => ?_) (fun h3 => ?_)
 ·
  simp at h3
  refine sK fun K hK => wR 8 ?_
  refine aops_n hTT (M := []) (n := 2) [pv 8 V.nil, pv 9 (V.i 20)] kR kR tI ?_
  refine nK hK ?_; clear hK K
  refine aw_ret ?_
  refine xt_r ?_
  refine ret_of_le (le_nil 8 (sz := 4) (hearNn s t l wow) (fun k => vhd (hearAt (readP s l) (readP t l) l.length (wow.toNat + 1) k)) kR ?_) ?_
  ·
   exact hearNn_no (by rw [hearE_3 h1 h2 h3]; decide)
  refine ret_pure (v' := V.tup [V.sl 4 (hearNn s t l wow) fun (k : Nat) => vhd (hearAt (readP s l) (readP t l) (List.length l) (Int.toNat wow + 1) k), V.i 20]) (.inr rfl) kR ?_ kR
  rw [hearV, hearE_3 h1 h2 h3]
 simp at h3
 refine aw_skip ?_
 refine xt_n (hK _ ?_); clear hK K; refine sK fun K hK => ?_; refine sK fun K hK => wR 8 ?_
 refine aops_n hTT (M := []) (n := 6) [pv 33 (V.i wow), pv 34 (V.b (decide (wow < 0))), pv 35 (V.b (decide (wow < 0))), pc 36 ((True ∧ True) ∧ ((decide (wow < 0) == false) = true → True)) (V.gd (decide (wow < 0) == false) (V.i wow)), pc 37 ((((decide (wow < 0) == false) = true → (decide (wow < 0) == false) = true) ∧ True ∧ True) ∧ ((decide (wow < 0) == false) = true → True)) (V.gd (decide (wow < 0) == false) (V.b (decide ((256 : Int) < wow)))), pc 38 (True ∧ (decide (wow < 0) = false → (decide (wow < 0) == false) = true)) (V.b (decide (wow < 0) || decide ((256 : Int) < wow)))] kR kR ⟨⟨⟨tI, tI⟩, (fun _ => tI)⟩, ⟨⟨(by (exact fun h => h)), ⟨tI, tI⟩⟩, (fun _ => tI)⟩, ⟨tI, (by (intro h; rw [h]; rfl))⟩, tI⟩ ?_
 refine nK hK ?_; clear hK K
 refine w_cond (t := decide (wow < 0) || decide ((256 : Int) < wow)) kR (fun h4 => ?_) (fun h4 => ?_)
 ·
  refine sK fun K hK => ?_
  refine wR 9 ?_
  refine aops_n hTT (M := []) (n := 2) [pv 8 V.nil, pv 9 (V.i 3)] kR kR tI ?_
  refine nK hK ?_; clear hK K
  refine aw_ret ?_
  refine xt_r ?_
  refine ret_of_le (le_nil 8 (sz := 4) (hearNn s t l wow) (fun k => vhd (hearAt (readP s l) (readP t l) l.length (wow.toNat + 1) k)) kR ?_) ?_
  ·
   exact hearNn_no (by rw [hearE_4 h1 h2 h3 h4]; decide)
  refine ret_pure (v' := V.tup [V.sl 4 (hearNn s t l wow) fun (k : Nat) => vhd (hearAt (readP s l) (readP t l) (List.length l) (Int.toNat wow + 1) k), V.i 3]) (.inr rfl) kR ?_ kR
  rw [hearV, hearE_4 h1 h2 h3 h4]
 simp at h4
 refine aw_skip ?_
 refine xt_n (hK _ ?_); clear hK K; refine sK fun K hK => wD 9 ?_
 refine aops_n hTT (M := []) (n := 2) [pv 39 ((yyPAb101 s)), pv 40 ((yyPAb100 l))] kR kR tI ?_
 refine eC (read_ac s l (checkBoth_of h1 k2)) ?_
 refine aops_n hTT (M := []) (n := 2) [pv 42 ((yyPAb102 t)), pv 43 ((yyPAb100 l))] kR kR tI ?_
 refine eC (read_ac t l h2) ?_
 refine aops_n hTT (M := []) (n := 4) [pn 12 (V.ref 800012 0) (800012 : Nat) (Ob.box 33 [V.nil]), pn 13 (V.ref 800013 0) (800013 : Nat) (Ob.box 33 [V.nil]), pw ((0 : Nat) + (1 : Nat) ≤ (1 : Nat)) (800012 : Nat) (Ob.box 33 [V.sl 2 (List.length (readP s l)) fun (k : Nat) => [V.i (Prod.fst (gp (readP s l) k)), V.i (Prod.snd (gp (readP s l) k))]]), pw ((0 : Nat) + (1 : Nat) ≤ (1 : Nat)) (800013 : Nat) (Ob.box 33 [V.sl 2 (List.length (readP t l)) fun (k : Nat) => [V.i (Prod.fst (gp (readP t l) k)), V.i (Prod.snd (gp (readP t l) k))]])] kR kR ⟨oM, oM, tI⟩ ?_
 refine aops_nil ⟨kR, ?_⟩; refine xt_n (hK _ ?_); clear hK K; refine sK fun K hK => wR 10 ?_
 refine aops_n hTT (M := []) (n := 1) [pv 14 V.nil] kR kR tI ?_
 refine nK hK ?_; clear hK K; refine sK fun K hK => ?_; refine sK fun K hK => wR 11 ?_
 refine aops_n hTT (M := []) (n := 3) [pv 45 ((yyPAb100 l)), pv 46 (V.i (↑(List.length l) : Int)), pv 47 (V.i 0)] kR kR tI ?_
 refine nK hK ?_; clear hK K
 refine aw_block ?_
 obtain ⟨wn, rfl⟩ : ∃ n : Nat, wow = (n : Int) := ⟨wow.toNat, by omega⟩
 obtain ⟨a, ha⟩ : ∃ a, a = readP s l := ⟨_, rfl⟩
 obtain ⟨b, hb⟩ : ∃ b, b = readP t l := ⟨_, rfl⟩
 have la : a.length = l.length := by rw [ha]; exact readP_length _ _
 have lb : b.length = l.length := by rw [hb]; exact readP_length _ _
 rw [← ha, ← hb]
 refine w_le (le_freezeBox (t := (33 : Nat)) (cs := [V.sl 2 (List.length a) fun (k : Nat) => [V.i (Prod.fst (gp a k)), V.i (Prod.snd (gp a k))]]) 800012 kR kR) ?_
 refine w_le (le_freezeBox (t := (33 : Nat)) (cs := [V.sl 2 (List.length b) fun (k : Nat) => [V.i (Prod.fst (gp b k)), V.i (Prod.snd (gp b k))]]) 800013 kR kR) ?_
 refine w_le (le_open 14 44 4 (fun k => vhd (hearAt a b l.length (wn + 1) k)) kR rfl) ?_
 refine w_loop (fun k : Nat => [(2, V.pts l), (3, .i wn), (12, .ptr [V.pts a]), (13, .ptr [V.pts b]), (14, .own 14), (46, .i l.length), (47, .i k)]) (fun k => [(14, .row 44 4 k fun k => vhd (hearAt a b l.length (wn + 1) k))])
  (fun k => k ≤ l.length) (fun k => l.length - k) 0 (Nat.zero_le _) ?_ ?_
 ·
  refine le_ren (sl := [(14, Ob.row 44 4 0 fun (k : Nat) => vhd (hearAt a b (List.length l) (wn + 1) k))]) [(14, 1100014)] (.cons kR (.cons kR (.cons kR (.cons kR (.cons kR (.cons kR (.cons kR .nil))))))) (.cons ⟨Ob.row 44 4 0 fun (k : Nat) => vhd (hearAt a b (List.length l) (wn + 1) k), kR, .row kR (fun _ _ => rfl)⟩ .nil) kR kR
 intro k hk
 refine sK fun K hK => wR 2 ?_
 refine aops_n hTT (M := []) (n := 1) [pv 48 (V.b (decide ((↑k : Int) < (↑(List.length l) : Int))))] kR kR tI ?_
 refine nK hK ?_; clear hK K; refine sK fun K hK => ?_
 refine w_cond (t := decide ((↑k : Int) < (↑(List.length l) : Int))) kR (fun hkl => ?_) (fun hkl => ?_)
 ·
  simp at hkl
  have hka : k < a.length := by omega
  have hkb : k < b.length := by omega
  refine aw_skip ?_
  refine xt_n (hK _ ?_); clear hK K; refine sK fun K hK => ?_
  refine aw_block ?_
  refine sK fun K hK => wR 3 ?_
  refine aops_n hTT (M := []) (n := 2) [pv 49 (V.i (↑k : Int)), pv 15 (V.i (↑k : Int))] kR kR tI ?_
  refine nK hK ?_; clear hK K; refine sK fun K hK => wD 4 ?_
  refine aops_n hTT (M := []) (n := 25) [pv 50 (V.sl 2 (List.length b) fun (k : Nat) => [V.i (Prod.fst (gp b k)), V.i (Prod.snd (gp b k))]), pv 51 (V.i (↑k : Int)), pc 52 ((0 : Int) ≤ (↑k : Int) ∧ (↑k : Int) < (↑(List.length b) : Int)) (V.ptr [V.i (Prod.fst (gp b k)), V.i (Prod.snd (gp b k))]), pv 53 (V.ptr [V.i (Prod.fst (gp b k)), V.i (Prod.snd (gp b k))]), pv 54 (V.i (Prod.fst (gp b k))), pv 55 (V.sl 2 (List.length a) fun (k : Nat) => [V.i (Prod.fst (gp a k)), V.i (Prod.snd (gp a k))]), pv 56 (V.i (↑k : Int)), pc 57 ((0 : Int) ≤ (↑k : Int) ∧ (↑k : Int) < (↑(List.length a) : Int)) (V.ptr [V.i (Prod.fst (gp a k)), V.i (Prod.snd (gp a k))]), pv 58 (V.ptr [V.i (Prod.fst (gp a k)), V.i (Prod.snd (gp a k))]), pv 59 (V.i (Prod.fst (gp a k))), pv 60 (V.agg [V.i (Prod.fst (gp b k)), V.i (Prod.fst (gp a k))]), pv 61 (V.sl 2 (List.length a) fun (k : Nat) => [V.i (Prod.fst (gp a k)), V.i (Prod.snd (gp a k))]), pv 62 (V.i (↑k : Int)), pc 63 ((0 : Int) ≤ (↑k : Int) ∧ (↑k : Int) < (↑(List.length a) : Int)) (V.ptr [V.i (Prod.fst (gp a k)), V.i (Prod.snd (gp a k))]), pv 64 (V.ptr [V.i (Prod.snd (gp a k))]), pv 65 (V.i (Prod.snd (gp a k))), pv 66 (V.sl 2 (List.length b) fun (k : Nat) => [V.i (Prod.fst (gp b k)), V.i (Prod.snd (gp b k))]), pv 67 (V.i (↑k : Int)), pc 68 ((0 : Int) ≤ (↑k : Int) ∧ (↑k : Int) < (↑(List.length b) : Int)) (V.ptr [V.i (Prod.fst (gp b k)), V.i (Prod.snd (gp b k))]), pv 69 (V.ptr [V.i (Prod.snd (gp b k))]), pv 70 (V.i (Prod.snd (gp b k))), pv 71 (V.agg [V.i (Prod.snd (gp a k)), V.i (Prod.snd (gp b k))]), pv 72 (V.agg [V.i (Prod.fst (gp b k)), V.i (Prod.fst (gp a k)), V.i (Prod.snd (gp a k)), V.i (Prod.snd (gp b k))]), pn 16 (V.ref 300016 0) (300016 : Nat) (Ob.box 44 [V.i 0, V.i 0, V.i 0, V.i 0]), pw ((0 : Nat) + (4 : Nat) ≤ (4 : Nat)) (300016 : Nat) (Ob.box 44 [V.i (Prod.fst (gp b k)), V.i (Prod.fst (gp a k)), V.i (Prod.snd (gp a k)), V.i (Prod.snd (gp b k))])] kR kR ⟨oM, oM, oM, oM, oM, tI⟩ ?_
  refine aops_nil ⟨kR, ?_⟩; refine xt_n (hK _ ?_); clear hK K; refine sK fun K hK => ?_; refine sK fun K hK => wR 5 ?_
  refine aops_n hTT (M := []) (n := 5) [pv 73 (V.i (↑k : Int)), pv 74 ((yyPAb100 l)), pv 75 (V.i (↑(List.length l) : Int)), pv 76 (V.i (↑wn : Int)), pc 77 ((-9223372036854775808 : Int) ≤ (↑wn : Int) + 1 ∧ (↑wn : Int) + 1 ≤ (9223372036854775807 : Int)) (V.i ((↑wn : Int) + 1))] kR kR ⟨oM, tI⟩ ?_
  refine eC (near_ac k l.length ((wn : Int) + 1)) ?_
  refine nK hK ?_; clear hK K
  refine aw_block ?_
  refine w_range (caps := [V.ptr [V.i (↑k : Int)], V.ptr [V.i ((↑wn : Int) + 1)], V.ptr [V.i (↑(List.length l) : Int)]]) hF hC ((near_aiter k l.length (wn + 1) oM oM oM)) kR kR ?_ kR [514, 516] [(514, 14), (516, 300016)] [(2, V.pts l), (3, .i wn), (12, .ptr [V.pts a]), (13, .ptr [V.pts b]), (14, .own 514), (16, .ref 516 0), (46, .i l.length), (47, .i k)] (fun _ => True) (fun j => [.row 44 4 k fun k => vhd (hearAt a b l.length (wn + 1) k), .box 44 (vhd (hearN a b k (nearLo k (wn + 1)) j))]) (fun _ _ _ => False) ?_ kR kR kR (.cons kR (.cons kR (.cons kR (.cons kR (.cons kR (.cons kR (.cons kR (.cons kR .nil)))))))) (.cons ⟨Ob.row 44 4 k fun (k : Nat) => vhd (hearAt a b (List.length l) (wn + 1) k), kR, .row kR (fun _ _ => rfl)⟩ (.cons ⟨Ob.box 44 [V.i (Prod.fst (gp b k)), V.i (Prod.fst (gp a k)), V.i (Prod.snd (gp a k)), V.i (Prod.snd (gp b k))], kR, .box kR⟩ .nil)) kR ?_ ?_ ?_ ?_ ?_
  ·
   intro x hx
   simp only [nearV, List.mem_map] at hx
   obtain ⟨j, _, rfl⟩ := hx
   rfl
  ·
   trivial
  ·
   intro j o ho
   simp at ho
   rcases ho with rfl | rfl
   ·
    exact fun _ _ => rfl
   ·
    rfl
  ·
   intro _ _ _ h
   exact h.elim
  ·
   rintro C' ⟨lx, hF'⟩ j x hx _
   obtain ⟨hj, rfl⟩ := nearV_get hx
   have hu : nearLo k (wn + 1) + j < l.length := by unfold nearN at hj; omega
   have hua : nearLo k (wn + 1) + j < a.length := by omega
   have hub : nearLo k (wn + 1) + j < b.length := by omega
   refine wR 2 ?_
   refine aops_n hTT (M := []) (n := 1) [pv 17 (V.i ((↑(nearLo k (wn + 1)) : Int) + (↑j : Int)))] kR kR tI ?_
   refine aops_nil ?_; refine xt_n ?_
   refine aw_block ?_
   refine sK fun K hK => wD 3 ?_
   refine aops_n hTT (M := []) (n := 24) [pv 81 (V.ref 516 0), pv 82 (V.ref 516 0), pc 83 ((0 : Nat) ≤ (4 : Nat)) (V.i (Prod.fst (hearN a b k (nearLo k (wn + 1)) j))), pv 84 (V.sl 2 (List.length b) fun (k : Nat) => [V.i (Prod.fst (gp b k)), V.i (Prod.snd (gp b k))]), pv 85 (V.i ((↑(nearLo k (wn + 1)) : Int) + (↑j : Int))), pc 86 ((0 : Int) ≤ (↑(nearLo k (wn + 1)) : Int) + (↑j : Int) ∧ (↑(nearLo k (wn + 1)) : Int) + (↑j : Int) < (↑(List.length b) : Int)) (V.ptr [V.i (Prod.fst (gp b (nearLo k (wn + 1) + j))), V.i (Prod.snd (gp b (nearLo k (wn + 1) + j)))]), pv 87 (V.ptr [V.i (Prod.fst (gp b (nearLo k (wn + 1) + j))), V.i (Prod.snd (gp b (nearLo k (wn + 1) + j)))]), pv 88 (V.i (Prod.fst (gp b (nearLo k (wn + 1) + j)))), pv 89 (V.i (min (Prod.fst (hearN a b k (nearLo k (wn + 1)) j)) (Prod.fst (gp b (nearLo k (wn + 1) + j))))), pv 90 (V.ref 516 0), pv 91 (V.ref 516 1), pc 92 ((1 : Nat) ≤ (4 : Nat)) (V.i (Prod.fst (Prod.snd (hearN a b k (nearLo k (wn + 1)) j)))), pv 93 (V.sl 2 (List.length a) fun (k : Nat) => [V.i (Prod.fst (gp a k)), V.i (Prod.snd (gp a k))]), pv 94 (V.i ((↑(nearLo k (wn + 1)) : Int) + (↑j : Int))), pc 95 ((0 : Int) ≤ (↑(nearLo k (wn + 1)) : Int) + (↑j : Int) ∧ (↑(nearLo k (wn + 1)) : Int) + (↑j : Int) < (↑(List.length a) : Int)) (V.ptr [V.i (Prod.fst (gp a (nearLo k (wn + 1) + j))), V.i (Prod.snd (gp a (nearLo k (wn + 1) + j)))]), pv 96 (V.ptr [V.i (Prod.fst (gp a (nearLo k (wn + 1) + j))), V.i (Prod.snd (gp a (nearLo k (wn + 1) + j)))]), pv 97 (V.i (Prod.fst (gp a (nearLo k (wn + 1) + j)))), pv 98 (V.i (max (Prod.fst (Prod.snd (hearN a b k (nearLo k (wn + 1)) j))) (Prod.fst (gp a (nearLo k (wn + 1) + j))))), pv 99 (V.ref 516 0), pv 100 (V.ref 516 0), pw ((0 : Nat) + (1 : Nat) ≤ (4 : Nat)) (516 : Nat) (Ob.box 44 [V.i (min (Prod.fst (hearN a b k (nearLo k (wn + 1)) j)) (Prod.fst (gp b (nearLo k (wn + 1) + j)))), V.i (Prod.fst (Prod.snd (hearN a b k (nearLo k (wn + 1)) j))), V.i (Prod.fst (Prod.snd (Prod.snd (hearN a b k (nearLo k (wn + 1)) j)))), V.i (Prod.snd (Prod.snd (Prod.snd (hearN a b k (nearLo k (wn + 1)) j))))]), pv 101 (V.ref 516 0), pv 102 (V.ref 516 1), pw ((1 : Nat) + (1 : Nat) ≤ (4 : Nat)) (516 : Nat) (Ob.box 44 [V.i (min (Prod.fst (hearN a b k (nearLo k (wn + 1)) j)) (Prod.fst (gp b (nearLo k (wn + 1) + j)))), V.i (max (Prod.fst (Prod.snd (hearN a b k (nearLo k (wn + 1)) j))) (Prod.fst (gp a (nearLo k (wn + 1) + j)))), V.i (Prod.fst (Prod.snd (Prod.snd (hearN a b k (nearLo k (wn + 1)) j)))), V.i (Prod.snd (Prod.snd (Prod.snd (hearN a b k (nearLo k (wn + 1)) j))))])] kR kR ⟨oM, oM, oM, oM, oM, oM, tI⟩ ?_
   refine aops_nil ⟨kR, ?_⟩; refine xt_n (hK _ ?_); clear hK K; refine wD 4 ?_
   refine aops_n hTT (M := []) (n := 24) [pv 103 (V.ref 516 2), pv 104 (V.ref 516 2), pc 105 ((2 : Nat) ≤ (4 : Nat)) (V.i (Prod.fst (Prod.snd (Prod.snd (hearN a b k (nearLo k (wn + 1)) j))))), pv 106 (V.sl 2 (List.length a) fun (k : Nat) => [V.i (Prod.fst (gp a k)), V.i (Prod.snd (gp a k))]), pv 107 (V.i ((↑(nearLo k (wn + 1)) : Int) + (↑j : Int))), pc 108 ((0 : Int) ≤ (↑(nearLo k (wn + 1)) : Int) + (↑j : Int) ∧ (↑(nearLo k (wn + 1)) : Int) + (↑j : Int) < (↑(List.length a) : Int)) (V.ptr [V.i (Prod.fst (gp a (nearLo k (wn + 1) + j))), V.i (Prod.snd (gp a (nearLo k (wn + 1) + j)))]), pv 109 (V.ptr [V.i (Prod.snd (gp a (nearLo k (wn + 1) + j)))]), pv 110 (V.i (Prod.snd (gp a (nearLo k (wn + 1) + j)))), pv 111 (V.i (min (Prod.fst (Prod.snd (Prod.snd (hearN a b k (nearLo k (wn + 1)) j)))) (Prod.snd (gp a (nearLo k (wn + 1) + j))))), pv 112 (V.ref 516 2), pv 113 (V.ref 516 3), pc 114 ((3 : Nat) ≤ (4 : Nat)) (V.i (Prod.snd (Prod.snd (Prod.snd (hearN a b k (nearLo k (wn + 1)) j))))), pv 115 (V.sl 2 (List.length b) fun (k : Nat) => [V.i (Prod.fst (gp b k)), V.i (Prod.snd (gp b k))]), pv 116 (V.i ((↑(nearLo k (wn + 1)) : Int) + (↑j : Int))), pc 117 ((0 : Int) ≤ (↑(nearLo k (wn + 1)) : Int) + (↑j : Int) ∧ (↑(nearLo k (wn + 1)) : Int) + (↑j : Int) < (↑(List.length b) : Int)) (V.ptr [V.i (Prod.fst (gp b (nearLo k (wn + 1) + j))), V.i (Prod.snd (gp b (nearLo k (wn + 1) + j)))]), pv 118 (V.ptr [V.i (Prod.snd (gp b (nearLo k (wn + 1) + j)))]), pv 119 (V.i (Prod.snd (gp b (nearLo k (wn + 1) + j)))), pv 120 (V.i (max (Prod.snd (Prod.snd (Prod.snd (hearN a b k (nearLo k (wn + 1)) j)))) (Prod.snd (gp b (nearLo k (wn + 1) + j))))), pv 121 (V.ref 516 2), pv 122 (V.ref 516 2), pw ((2 : Nat) + (1 : Nat) ≤ (4 : Nat)) (516 : Nat) (Ob.box 44 [V.i (min (Prod.fst (hearN a b k (nearLo k (wn + 1)) j)) (Prod.fst (gp b (nearLo k (wn + 1) + j)))), V.i (max (Prod.fst (Prod.snd (hearN a b k (nearLo k (wn + 1)) j))) (Prod.fst (gp a (nearLo k (wn + 1) + j)))), V.i (min (Prod.fst (Prod.snd (Prod.snd (hearN a b k (nearLo k (wn + 1)) j)))) (Prod.snd (gp a (nearLo k (wn + 1) + j)))), V.i (Prod.snd (Prod.snd (Prod.snd (hearN a b k (nearLo k (wn + 1)) j))))]), pv 123 (V.ref 516 2), pv 124 (V.ref 516 3), pw ((3 : Nat) + (1 : Nat) ≤ (4 : Nat)) (516 : Nat) (Ob.box 44 [V.i (min (Prod.fst (hearN a b k (nearLo k (wn + 1)) j)) (Prod.fst (gp b (nearLo k (wn + 1) + j)))), V.i (max (Prod.fst (Prod.snd (hearN a b k (nearLo k (wn + 1)) j))) (Prod.fst (gp a (nearLo k (wn + 1) + j)))), V.i (min (Prod.fst (Prod.snd (Prod.snd (hearN a b k (nearLo k (wn + 1)) j)))) (Prod.snd (gp a (nearLo k (wn + 1) + j)))), V.i (max (Prod.snd (Prod.snd (Prod.snd (hearN a b k (nearLo k (wn + 1)) j)))) (Prod.snd (gp b (nearLo k (wn + 1) + j))))])] kR kR ⟨oM, oM, oM, oM, oM, oM, tI⟩ ?_
   refine aops_nil ⟨kR, ?_⟩; refine xb_n ?_
   refine ⟨trivial, ?_⟩
   refine le_ren (sl := [(514, Ob.row 44 4 k fun (k : Nat) => vhd (hearAt a b (List.length l) (wn + 1) k)), (516, Ob.box 44 [V.i (Prod.fst (hearN a b k (nearLo k (wn + 1)) (j + 1))), V.i (Prod.fst (Prod.snd (hearN a b k (nearLo k (wn + 1)) (j + 1)))), V.i (Prod.fst (Prod.snd (Prod.snd (hearN a b k (nearLo k (wn + 1)) (j + 1))))), V.i (Prod.snd (Prod.snd (Prod.snd (hearN a b k (nearLo k (wn + 1)) (j + 1)))))])]) [] .nil (.cons ⟨Ob.row 44 4 k fun (k : Nat) => vhd (hearAt a b (List.length l) (wn + 1) k), kR, .row kR (fun _ _ => rfl)⟩ (.cons ⟨Ob.box 44 [V.i (min (Prod.fst (hearN a b k (nearLo k (wn + 1)) j)) (Prod.fst (gp b (nearLo k (wn + 1) + j)))), V.i (max (Prod.fst (Prod.snd (hearN a b k (nearLo k (wn + 1)) j))) (Prod.fst (gp a (nearLo k (wn + 1) + j)))), V.i (min (Prod.fst (Prod.snd (Prod.snd (hearN a b k (nearLo k (wn + 1)) j)))) (Prod.snd (gp a (nearLo k (wn + 1) + j)))), V.i (max (Prod.snd (Prod.snd (Prod.snd (hearN a b k (nearLo k (wn + 1)) j)))) (Prod.snd (gp b (nearLo k (wn + 1) + j))))], kR, .box ?_⟩ .nil)) kR kR
   rw [hearN_succ]
   rfl
  ·
   intro _
   refine xb_n ?_; refine xt_n (hK _ ?_); clear hK K; refine wR 2 ?_
   refine aops_n hTT (M := []) (n := 5) [pv 125 (V.own 514), pc 126 ((0 : Nat) ≤ (4 : Nat)) (V.agg [V.i (Prod.fst (hearN a b k (nearLo k (wn + 1)) (List.length (nearV k (List.length l) (wn + 1))))), V.i (Prod.fst (Prod.snd (hearN a b k (nearLo k (wn + 1)) (List.length (nearV k (List.length l) (wn + 1)))))), V.i (Prod.fst (Prod.snd (Prod.snd (hearN a b k (nearLo k (wn + 1)) (List.length (nearV k (List.length l) (wn + 1))))))), V.i (Prod.snd (Prod.snd (Prod.snd (hearN a b k (nearLo k (wn + 1)) (List.length (nearV k (List.length l) (wn + 1)))))))]), pv 127 (V.sl 4 1 fun (i : Nat) => List.take (4 : Nat) (List.drop (i * 4) [V.i (Prod.fst (hearN a b k (nearLo k (wn + 1)) (List.length (nearV k (List.length l) (wn + 1))))), V.i (Prod.fst (Prod.snd (hearN a b k (nearLo k (wn + 1)) (List.length (nearV k (List.length l) (wn + 1)))))), V.i (Prod.fst (Prod.snd (Prod.snd (hearN a b k (nearLo k (wn + 1)) (List.length (nearV k (List.length l) (wn + 1))))))), V.i (Prod.snd (Prod.snd (Prod.snd (hearN a b k (nearLo k (wn + 1)) (List.length (nearV k (List.length l) (wn + 1)))))))])), PR.mk (some (128 : Nat)) (some (k + 1 ≤ (1099511627776 : Nat))) (V.own 100128) [((514 : Nat), none), ((100128 : Nat), some (Ob.row 44 4 (k + 1) (appRow k (fun (k : Nat) => vhd (hearAt a b (List.length l) (wn + 1) k)) fun (i : Nat) => List.take (4 : Nat) (List.drop (i * 4) [V.i (Prod.fst (hearN a b k (nearLo k (wn + 1)) (List.length (nearV k (List.length l) (wn + 1))))), V.i (Prod.fst (Prod.snd (hearN a b k (nearLo k (wn + 1)) (List.length (nearV k (List.length l) (wn + 1)))))), V.i (Prod.fst (Prod.snd (Prod.snd (hearN a b k (nearLo k (wn + 1)) (List.length (nearV k (List.length l) (wn + 1))))))), V.i (Prod.snd (Prod.snd (Prod.snd (hearN a b k (nearLo k (wn + 1)) (List.length (nearV k (List.length l) (wn + 1)))))))]))))] false, pv 14 (V.own 100128)] kR kR ⟨oM, oM, tI⟩ ?_
   refine aops_nil ?_; refine xb_n ?_; refine xt_n (hK _ ?_); clear hK K; refine wR 3 ?_
   refine aops_n hTT (M := []) (n := 2) [pc 129 ((-9223372036854775808 : Int) ≤ (↑k : Int) + 1 ∧ (↑k : Int) + 1 ≤ (9223372036854775807 : Int)) (V.i ((↑k : Int) + 1)), pv 47 (V.i ((↑k : Int) + 1))] kR kR ⟨oM, tI⟩ ?_
   refine aops_nil ?_; refine xt_n ?_
   refine ⟨k + 1, by omega, ?_, by omega⟩
   refine le_ren (tl := [(2, (yyPAb100 l)), (3, V.i (↑wn : Int)), (12, V.ptr [V.sl 2 (List.length a) fun (k : Nat) => [V.i (Prod.fst (gp a k)), V.i (Prod.snd (gp a k))]]), (13, V.ptr [V.sl 2 (List.length b) fun (k : Nat) => [V.i (Prod.fst (gp b k)), V.i (Prod.snd (gp b k))]]), (14, V.own 14), (46, V.i (↑(List.length l) : Int)), (47, V.i (↑(k + 1) : Int))]) (sl := [(14, Ob.row 44 4 (k + 1) fun (k : Nat) => vhd (hearAt a b (List.length l) (wn + 1) k))]) [(14, 100128)] (.cons kR (.cons kR (.cons kR (.cons kR (.cons kR (.cons kR (.cons kR .nil))))))) (.cons ⟨Ob.row 44 4 (k + 1) (appRow k (fun (k : Nat) => vhd (hearAt a b (List.length l) (wn + 1) k)) fun (i : Nat) => List.take (4 : Nat) (List.drop (i * 4) [V.i (Prod.fst (hearN a b k (nearLo k (wn + 1)) (List.length (nearV k (List.length l) (wn + 1))))), V.i (Prod.fst (Prod.snd (hearN a b k (nearLo k (wn + 1)) (List.length (nearV k (List.length l) (wn + 1)))))), V.i (Prod.fst (Prod.snd (Prod.snd (hearN a b k (nearLo k (wn + 1)) (List.length (nearV k (List.length l) (wn + 1))))))), V.i (Prod.snd (Prod.snd (Prod.snd (hearN a b k (nearLo k (wn + 1)) (List.length (nearV k (List.length l) (wn + 1)))))))])), kR, .row kR ?_⟩ .nil) kR kR
   intro i hi
   have hln : (nearV k l.length (wn + 1)).length = nearN k l.length (wn + 1) := by simp [nearV]
   rw [hln]
   by_cases hik : i < k
   ·
    rw [appRow_lt hik]; rfl
   ·
    obtain rfl : i = k := by omega
    rw [appRow_at]
    simp only [hearAt, hearK_all hkl (Nat.succ_pos wn)]
    rfl
  ·
   intro _ _ _ _ h
   exact h.elim
 simp at hkl
 obtain rfl : k = l.length := by omega
 refine aw_exit ?_
 refine xt_x ?_; refine xt_x ?_
 refine xb_same ?_
 refine xt_n ?_; clear hK K; refine hK _ ?_; clear hK K; refine sK fun K hK => wR 3 ?_
 refine aops_n hTT (M := []) (n := 3) [pv 130 (V.own 14), pv 8 (V.own 14), pv 9 (V.i 0)] kR kR tI ?_
 refine nK hK ?_; clear hK K
 refine aw_ret ?_
 have h5 := hearE_5 h1 h2 h3 h4
 have h6 : hearNn s t l wn = l.length := by rw [hearNn, if_pos h5]
 refine ret_of_le (le_shut 8 14 (e := (44 : Nat)) (sz := (4 : Nat)) (n := List.length l) (n' := (hearNn s t l wn)) (row := fun (k : Nat) => vhd (hearAt a b (List.length l) (wn + 1) k)) (row' := (fun k => vhd (hearAt (readP s l) (readP t l) l.length ((wn : Int).toNat + 1) k))) kR kR (fun _ _ => rfl) ?_ ?_) ?_
 ·
  exact h6.symm
 ·
  intro i _
  rw [ha, hb]
  rfl
 refine ret_pure (v' := V.tup [V.sl 4 (hearNn s t l (↑wn : Int)) fun (k : Nat) => vhd (hearAt (readP s l) (readP t l) (List.length l) (wn + 1) k), V.i 0]) (.inr rfl) kR ?_ kR
 rw [hearV, h5]
 rfl
end Go.Proofs.YtepkjobndmmejaaGreatDoor

namespace Go.Proofs.YtepkjobndmmejaaGreatDoor
open Go.Ab Go.RowKit Go.Dw Go.Shelf
theorem hearK_spec (a b : List Pt) (t r : Nat) : ∀ k,
  (∀ x, x ≤ (hearK a b t r k).1 ↔ x ≤ (gp b t).1 ∧ ∀ u, u < k → dist u t < r → x ≤ (gp b u).1) ∧
  (∀ x, (hearK a b t r k).2.1 ≤ x ↔ (gp a t).1 ≤ x ∧ ∀ u, u < k → dist u t < r → (gp a u).1 ≤ x) ∧
  (∀ x, x ≤ (hearK a b t r k).2.2.1 ↔ x ≤ (gp a t).2 ∧ ∀ u, u < k → dist u t < r → x ≤ (gp a u).2) ∧
  (∀ x, (hearK a b t r k).2.2.2 ≤ x ↔ (gp b t).2 ≤ x ∧ ∀ u, u < k → dist u t < r → (gp b u).2 ≤ x)
 | 0 => by simp [hearK, hear0]
 | k + 1 => by
  obtain ⟨h1, h2, h3, h4⟩ := hearK_spec a b t r k
  have up : ∀ (p : Nat → Prop), (∀ u, u < k + 1 → dist u t < r → p u) ↔ (∀ u, u < k → dist u t < r → p u) ∧ (dist k t < r → p k) := fun p => by
   constructor
   ·
    exact fun h => ⟨fun u hu => h u oM, h k oM⟩
   ·
    rintro ⟨h, h'⟩ u hu hd
    by_cases he : u = k
    ·
     subst he; exact h' hd
    ·
     exact h u oM hd
  rw [hearK_succ]
  by_cases hd : dist k t < r
  ·
   rw [if_pos hd]
   refine ⟨fun x => ?_, fun x => ?_, fun x => ?_, fun x => ?_⟩
   ·
    rw [up, show (hs a b (hearK a b t r k) k).1 = min (hearK a b t r k).1 (gp b k).1 from rfl, Int.le_min, h1]
    simp [hd, and_assoc]
   ·
    rw [up, show (hs a b (hearK a b t r k) k).2.1 = max (hearK a b t r k).2.1 (gp a k).1 from rfl, Int.max_le, h2]
    simp [hd, and_assoc]
   ·
    rw [up, show (hs a b (hearK a b t r k) k).2.2.1 = min (hearK a b t r k).2.2.1 (gp a k).2 from rfl, Int.le_min, h3]
    simp [hd, and_assoc]
   ·
    rw [up, show (hs a b (hearK a b t r k) k).2.2.2 = max (hearK a b t r k).2.2.2 (gp b k).2 from rfl, Int.max_le, h4]
    simp [hd, and_assoc]
  ·
   rw [if_neg hd]
   refine ⟨fun x => ?_, fun x => ?_, fun x => ?_, fun x => ?_⟩
   ·
    rw [up, h1]; simp [hd]
   ·
    rw [up, h2]; simp [hd]
   ·
    rw [up, h3]; simp [hd]
   ·
    rw [up, h4]; simp [hd]
section
variable {a b : List Pt} {t r n : Nat}
theorem hear_near {u : Nat} (hu : u < n) (hd : dist u t < r) : (hearAt a b n r t).1 ≤ (gp b u).1 ∧ (gp a u).1 ≤ (hearAt a b n r t).2.1 ∧ (hearAt a b n r t).2.2.1 ≤ (gp a u).2 ∧ (gp b u).2 ≤ (hearAt a b n r t).2.2.2 := by
 obtain ⟨h1, h2, h3, h4⟩ := hearK_spec a b t r n
 exact ⟨((h1 _).1 (Int.le_refl _)).2 u hu hd, ((h2 _).1 (Int.le_refl _)).2 u hu hd, ((h3 _).1 (Int.le_refl _)).2 u hu hd, ((h4 _).1 (Int.le_refl _)).2 u hu hd⟩
theorem hear_one : hearAt a a n 1 t = ((gp a t).1, (gp a t).1, (gp a t).2, (gp a t).2) := by
 obtain ⟨h1, h2, h3, h4⟩ := hearK_spec a a t 1 n
 have key : ∀ u, dist u t < 1 → u = t := fun u h => by unfold dist at h; omega
 have e1 : (hearK a a t 1 n).1 = (gp a t).1 := Int.le_antisymm ((h1 _).1 (Int.le_refl _)).1 ((h1 _).2 ⟨Int.le_refl _, fun u _ hd => by rw [key u hd]; exact Int.le_refl _⟩)
 have e2 : (hearK a a t 1 n).2.1 = (gp a t).1 := Int.le_antisymm ((h2 _).2 ⟨Int.le_refl _, fun u _ hd => by rw [key u hd]; exact Int.le_refl _⟩) ((h2 _).1 (Int.le_refl _)).1
 have e3 : (hearK a a t 1 n).2.2.1 = (gp a t).2 := Int.le_antisymm ((h3 _).1 (Int.le_refl _)).1 ((h3 _).2 ⟨Int.le_refl _, fun u _ hd => by rw [key u hd]; exact Int.le_refl _⟩)
 have e4 : (hearK a a t 1 n).2.2.2 = (gp a t).2 := Int.le_antisymm ((h4 _).2 ⟨Int.le_refl _, fun u _ hd => by rw [key u hd]; exact Int.le_refl _⟩) ((h4 _).1 (Int.le_refl _)).1
 exact Prod.ext e1 (Prod.ext e2 (Prod.ext e3 e4))
end
end Go.Proofs.YtepkjobndmmejaaGreatDoor

namespace Go.Proofs.YtepkjobndmmejaaGreatDoor
open Go.Ab Go.RowKit Go.Dw Go.Shelf
def betB (x lo hi : Int) : Bool := decide (lo ≤ x) && decide (x ≤ hi)
set_option maxRecDepth 100000 in
theorem between_ac (x lo hi : Int) : AC Tryz.prog 67 [.i x, .i lo, .i hi] (.b (betB x lo hi)) [] := by
 refine acI hTT hMX Tryz.func67 Tryz.ntmps67 fun C hC hF => ?_
 refine sK fun K hK => wR 2 ?_; refine aX hTT 1 [] tI ?_; refine nK hK ?_; clear hK K; refine sK fun K hK => wR 3 ?_; refine aX hTT 9 [(4, .c (gA (decide (lo ≤ x) == true) True)), (5, .c (gA (decide (lo ≤ x) == true) True)), (6, .c (gC (decide (lo ≤ x) == true) True)), (7, .c ((decide (lo ≤ x) = true → (decide (lo ≤ x) == true) = true) ∧ True))] ⟨⟨⟨tI, tI⟩, (fun _ => tI)⟩, ⟨⟨tI, tI⟩, (fun _ => tI)⟩, ⟨⟨(by (exact fun h => h)), ⟨(by (exact fun h => h)), tI⟩⟩, (fun _ => tI)⟩, ⟨(by (intro h; rw [h]; rfl)), tI⟩, tI⟩ ?_; refine nK hK ?_; clear hK K
 refine aw_ret ?_
 refine rP (V.b (decide (lo ≤ x) && decide (x ≤ hi)))
set_option maxRecDepth 100000 in
theorem within3_ac (x lo hi : Int) : AC Tryz.prog 30 [.i x, .i lo, .i hi] (.b (betB x lo hi)) [] := by
 refine acI hTT hMX Tryz.func30 Tryz.ntmps30 fun C hC hF => ?_
 refine sK fun K hK => wR 2 ?_; refine aX hTT 1 [] tI ?_; refine nK hK ?_; clear hK K; refine sK fun K hK => wR 3 ?_; refine aX hTT 9 [(4, .c (gA (decide (lo ≤ x) == true) True)), (5, .c (gA (decide (lo ≤ x) == true) True)), (6, .c (gC (decide (lo ≤ x) == true) True)), (7, .c ((decide (lo ≤ x) = true → (decide (lo ≤ x) == true) = true) ∧ True))] ⟨⟨⟨tI, tI⟩, (fun _ => tI)⟩, ⟨⟨tI, tI⟩, (fun _ => tI)⟩, ⟨⟨(by (exact fun h => h)), ⟨(by (exact fun h => h)), tI⟩⟩, (fun _ => tI)⟩, ⟨(by (intro h; rw [h]; rfl)), tI⟩, tI⟩ ?_; refine nK hK ?_; clear hK K
 refine aw_ret ?_
 refine rP (V.b (decide (lo ≤ x) && decide (x ≤ hi)))
structure Cut where
 half : Int
 gain : Int
 thin : Int
 wide : Int
 slope : Int
 jerk : Int
 sty : Int
def Cut.v (c : Cut) : V := .agg [.i c.half, .i c.gain, .i c.thin, .i c.wide, .i c.slope, .i c.jerk, .i c.sty]
def bnd (c : Cut) : Nat → Int × Int × Int
 | 0 => (c.half, 1, 4096)
 | 1 => (c.gain, 0, 100000)
 | 2 => (c.thin, 0, c.wide)
 | 3 => (c.wide, 0, 1048576)
 | 4 => (c.slope, 0, 10000)
 | 5 => (c.jerk, 0, 1048576)
 | _ => (c.sty, 0, 1024)
def bndB (c : Cut) (j : Nat) : Bool := betB (bnd c j).1 (bnd c j).2.1 (bnd c j).2.2
def cutE (c : Cut) : Int := if (List.range 7).all (bndB c) then 0 else 2
theorem cutE_bad {c : Cut} {j : Nat} (hj : j < 7) (h : bndB c j = false) : cutE c = 2 := by
 rw [cutE, if_neg]
 simp only [Bool.not_eq_true, List.all_eq_false]
 exact ⟨j, by simpa using hj, by simp [h]⟩
theorem cutE_good {c : Cut} (h : ∀ j, j < 7 → bndB c j = true) : cutE c = 0 := by
 rw [cutE, if_pos]
 rw [List.all_eq_true]
 exact fun j hj => h j (by simpa using hj)
theorem cutE_cases (c : Cut) : cutE c = 0 ∨ cutE c = 2 := by unfold cutE; split <;> simp
theorem cutE_ok {c : Cut} : cutE c = 0 ↔ (1 ≤ c.half ∧ c.half ≤ 4096) ∧ (0 ≤ c.gain ∧ c.gain ≤ 100000) ∧ (0 ≤ c.thin ∧ c.thin ≤ c.wide) ∧ (0 ≤ c.wide ∧ c.wide ≤ 1048576) ∧ (0 ≤ c.slope ∧ c.slope ≤ 10000) ∧ (0 ≤ c.jerk ∧ c.jerk ≤ 1048576) ∧ (0 ≤ c.sty ∧ c.sty ≤ 1024) := by
 unfold cutE
 simp [List.range_succ, bndB, bnd, betB]
 omega
abbrev qPAb170 : Prop := (0 : Int) ≤ (0 : Int) ∧ (0 : Int) < (↑(3 : Nat) : Int)
theorem qPAb170_ : qPAb170 := oM
abbrev qPAb171 : Prop := (0 : Nat) ≤ (3 : Nat)
theorem qPAb171_ : qPAb171 := oM
abbrev qPAb172 : Prop := (0 : Int) ≤ (1 : Int) ∧ (1 : Int) < (↑(3 : Nat) : Int)
theorem qPAb172_ : qPAb172 := oM
abbrev qPAb173 : Prop := (1 : Nat) ≤ (3 : Nat)
theorem qPAb173_ : qPAb173 := oM
abbrev qPAb174 : Prop := (0 : Int) ≤ (2 : Int) ∧ (2 : Int) < (↑(3 : Nat) : Int)
theorem qPAb174_ : qPAb174 := oM
abbrev qPAb175 : Prop := (2 : Nat) ≤ (3 : Nat)
theorem qPAb175_ : qPAb175 := oM
abbrev yyPAb170 := (pn 4 (V.ref 200004 0) (200004 : Nat) (Ob.box 129 [V.i 0, V.i 0, V.i 0]))
set_option maxRecDepth 100000 in
theorem cutCheck_ac (c : Cut) : AC Tryz.prog 33 [c.v] (.i (cutE c)) [] := by
 refine acI hTT hMX Tryz.func33 Tryz.ntmps33 fun C hC hF => ?_
 refine sK fun K hK => wR 2 ?_; refine aX hTT 2 [] tI ?_; refine nK hK ?_; clear hK K; refine sK fun K hK => ?_; refine sK fun K hK => wR 3 ?_; refine aX hTT 25 [] tI ?_; refine nK hK ?_; clear hK K
 refine aw_block ?_
 refine w_loop (fun k : Nat => [(28, .agg [.i c.half, .i 1, .i 4096, .i c.gain, .i 0, .i 100000, .i c.thin, .i 0, .i c.wide, .i c.wide, .i 0, .i 1048576, .i c.slope, .i 0, .i 10000, .i c.jerk, .i 0, .i 1048576, .i c.sty, .i 0, .i 1024]), (29, .i k)]) (fun _ => [])
  (fun k => k ≤ 7 ∧ ∀ j, j < k → bndB c j = true) (fun k => 7 - k) 0 ⟨by decide, fun j hj => by omega⟩ ?_ ?_
 ·
  refine le_ren [] (.cons kR (.cons kR .nil)) .nil kR kR
 rintro k ⟨hk, hb⟩
 have h7 : k = 0 ∨ k = 1 ∨ k = 2 ∨ k = 3 ∨ k = 4 ∨ k = 5 ∨ k = 6 ∨ k = 7 := by omega
 rcases h7 with rfl | rfl | rfl | rfl | rfl | rfl | rfl | rfl
 ·
  refine sK fun K hK => ?_
  refine wR 2 ?_; refine aX hTT 1 [] tI ?_; refine nK hK ?_; clear hK K; refine sK fun K hK => ?_; refine w_true (t := true) kR rfl ?_
  refine aw_skip ?_
  refine xt_n (hK _ ?_); clear hK K; refine sK fun K hK => ?_
  refine aw_block ?_
  refine sK fun K hK => wR 3 ?_; refine aX hTT 3 [(0, .c ((0 : Int) ≤ (↑(0 : Nat) : Int) ∧ (↑(0 : Nat) : Int) < (↑(7 : Nat) : Int))), (1, .r yyPAb170), (2, .r (pw ((0 : Nat) + (3 : Nat) ≤ (3 : Nat)) (200004 : Nat) (Ob.box 129 [V.i (Cut.half c), V.i 1, V.i 4096])))] ⟨oM, oM, tI⟩ ?_; refine nK hK ?_; clear hK K; refine sK fun K hK => wR 4 ?_; refine aX hTT 6 [(0, .c qPAb170), (1, .c qPAb171), (2, .c qPAb172), (3, .c qPAb173), (4, .c qPAb174), (5, .c qPAb175)] ⟨qPAb170_, qPAb171_, qPAb172_, qPAb173_, qPAb174_, qPAb175_, tI⟩ ?_
  refine eC (between_ac (bnd c 0).1 (bnd c 0).2.1 (bnd c 0).2.2) ?_
  refine aX hTT 1 [] tI ?_; refine nK hK ?_; clear hK K
  refine w_cond (t := !betB (Prod.fst (bnd c (0 : Nat))) (Prod.fst (Prod.snd (bnd c (0 : Nat)))) (Prod.snd (Prod.snd (bnd c (0 : Nat))))) kR (fun h2 => ?_) (fun h2 => ?_)
  ·
   refine sK fun K hK => ?_
   refine wR 5 ?_; refine aX hTT 1 [] tI ?_; refine nK hK ?_; clear hK K
   refine aw_ret ?_
   refine xb_r ?_
   refine xt_r ?_; refine xt_r ?_
   refine xb_r ?_
   refine xt_r ?_
   rw [cutE_bad (j := 0) (by decide) (by simpa [bndB] using h2)]
   refine rP (V.i 2)
  refine aw_skip ?_
  refine xb_n ?_; refine xt_n (hK _ ?_); clear hK K; refine wR 5 ?_; refine aX hTT 2 [(0, .i ((↑(0 : Nat) : Int) + 1))] ⟨oM, tI⟩ ?_; refine aops_nil ?_; refine xt_n ?_
  refine ⟨1, ⟨by decide, fun i hi => ?_⟩, ?_, by decide⟩
  ·
   by_cases he : i = 0
   ·
    subst he; simpa [bndB] using h2
   ·
    exact hb i oM
  ·
   refine le_ren [] (.cons kR (.cons kR .nil)) .nil kR kR
 ·
  refine sK fun K hK => ?_
  refine wR 2 ?_; refine aX hTT 1 [] tI ?_; refine nK hK ?_; clear hK K; refine sK fun K hK => ?_; refine w_true (t := true) kR rfl ?_
  refine aw_skip ?_
  refine xt_n (hK _ ?_); clear hK K; refine sK fun K hK => ?_
  refine aw_block ?_
  refine sK fun K hK => wR 3 ?_; refine aX hTT 3 [(0, .c ((0 : Int) ≤ (↑(1 : Nat) : Int) ∧ (↑(1 : Nat) : Int) < (↑(7 : Nat) : Int))), (1, .r yyPAb170), (2, .r (pw ((0 : Nat) + (3 : Nat) ≤ (3 : Nat)) (200004 : Nat) (Ob.box 129 [V.i (Cut.gain c), V.i 0, V.i 100000])))] ⟨oM, oM, tI⟩ ?_; refine nK hK ?_; clear hK K; refine sK fun K hK => wR 4 ?_; refine aX hTT 6 [(0, .c qPAb170), (1, .c qPAb171), (2, .c qPAb172), (3, .c qPAb173), (4, .c qPAb174), (5, .c qPAb175)] ⟨qPAb170_, qPAb171_, qPAb172_, qPAb173_, qPAb174_, qPAb175_, tI⟩ ?_
  refine eC (between_ac (bnd c 1).1 (bnd c 1).2.1 (bnd c 1).2.2) ?_
  refine aX hTT 1 [] tI ?_; refine nK hK ?_; clear hK K
  refine w_cond (t := !betB (Prod.fst (bnd c (1 : Nat))) (Prod.fst (Prod.snd (bnd c (1 : Nat)))) (Prod.snd (Prod.snd (bnd c (1 : Nat))))) kR (fun h2 => ?_) (fun h2 => ?_)
  ·
   refine sK fun K hK => ?_
   refine wR 5 ?_; refine aX hTT 1 [] tI ?_; refine nK hK ?_; clear hK K
   refine aw_ret ?_
   refine xb_r ?_
   refine xt_r ?_; refine xt_r ?_
   refine xb_r ?_
   refine xt_r ?_
   rw [cutE_bad (j := 1) (by decide) (by simpa [bndB] using h2)]
   refine rP (V.i 2)
  refine aw_skip ?_
  refine xb_n ?_; refine xt_n (hK _ ?_); clear hK K; refine wR 5 ?_; refine aX hTT 2 [(0, .i ((↑(1 : Nat) : Int) + 1))] ⟨oM, tI⟩ ?_; refine aops_nil ?_; refine xt_n ?_
  refine ⟨2, ⟨by decide, fun i hi => ?_⟩, ?_, by decide⟩
  ·
   by_cases he : i = 1
   ·
    subst he; simpa [bndB] using h2
   ·
    exact hb i oM
  ·
   refine le_ren [] (.cons kR (.cons kR .nil)) .nil kR kR
 ·
  refine sK fun K hK => ?_
  refine wR 2 ?_; refine aX hTT 1 [] tI ?_; refine nK hK ?_; clear hK K; refine sK fun K hK => ?_; refine w_true (t := true) kR rfl ?_
  refine aw_skip ?_
  refine xt_n (hK _ ?_); clear hK K; refine sK fun K hK => ?_
  refine aw_block ?_
  refine sK fun K hK => wR 3 ?_; refine aX hTT 3 [(0, .c ((0 : Int) ≤ (↑(2 : Nat) : Int) ∧ (↑(2 : Nat) : Int) < (↑(7 : Nat) : Int))), (1, .r yyPAb170), (2, .r (pw ((0 : Nat) + (3 : Nat) ≤ (3 : Nat)) (200004 : Nat) (Ob.box 129 [V.i (Cut.thin c), V.i 0, V.i (Cut.wide c)])))] ⟨oM, oM, tI⟩ ?_; refine nK hK ?_; clear hK K; refine sK fun K hK => wR 4 ?_; refine aX hTT 6 [(0, .c qPAb170), (1, .c qPAb171), (2, .c qPAb172), (3, .c qPAb173), (4, .c qPAb174), (5, .c qPAb175)] ⟨qPAb170_, qPAb171_, qPAb172_, qPAb173_, qPAb174_, qPAb175_, tI⟩ ?_
  refine eC (between_ac (bnd c 2).1 (bnd c 2).2.1 (bnd c 2).2.2) ?_
  refine aX hTT 1 [] tI ?_; refine nK hK ?_; clear hK K
  refine w_cond (t := !betB (Prod.fst (bnd c (2 : Nat))) (Prod.fst (Prod.snd (bnd c (2 : Nat)))) (Prod.snd (Prod.snd (bnd c (2 : Nat))))) kR (fun h2 => ?_) (fun h2 => ?_)
  ·
   refine sK fun K hK => ?_
   refine wR 5 ?_; refine aX hTT 1 [] tI ?_; refine nK hK ?_; clear hK K
   refine aw_ret ?_
   refine xb_r ?_
   refine xt_r ?_; refine xt_r ?_
   refine xb_r ?_
   refine xt_r ?_
   rw [cutE_bad (j := 2) (by decide) (by simpa [bndB] using h2)]
   refine rP (V.i 2)
  refine aw_skip ?_
  refine xb_n ?_; refine xt_n (hK _ ?_); clear hK K; refine wR 5 ?_; refine aX hTT 2 [(0, .i ((↑(2 : Nat) : Int) + 1))] ⟨oM, tI⟩ ?_; refine aops_nil ?_; refine xt_n ?_
  refine ⟨3, ⟨by decide, fun i hi => ?_⟩, ?_, by decide⟩
  ·
   by_cases he : i = 2
   ·
    subst he; simpa [bndB] using h2
   ·
    exact hb i oM
  ·
   refine le_ren [] (.cons kR (.cons kR .nil)) .nil kR kR
 ·
  refine sK fun K hK => ?_
  refine wR 2 ?_; refine aX hTT 1 [] tI ?_; refine nK hK ?_; clear hK K; refine sK fun K hK => ?_; refine w_true (t := true) kR rfl ?_
  refine aw_skip ?_
  refine xt_n (hK _ ?_); clear hK K; refine sK fun K hK => ?_
  refine aw_block ?_
  refine sK fun K hK => wR 3 ?_; refine aX hTT 3 [(0, .c ((0 : Int) ≤ (↑(3 : Nat) : Int) ∧ (↑(3 : Nat) : Int) < (↑(7 : Nat) : Int))), (1, .r yyPAb170), (2, .r (pw ((0 : Nat) + (3 : Nat) ≤ (3 : Nat)) (200004 : Nat) (Ob.box 129 [V.i (Cut.wide c), V.i 0, V.i 1048576])))] ⟨oM, oM, tI⟩ ?_; refine nK hK ?_; clear hK K; refine sK fun K hK => wR 4 ?_; refine aX hTT 6 [(0, .c qPAb170), (1, .c qPAb171), (2, .c qPAb172), (3, .c qPAb173), (4, .c qPAb174), (5, .c qPAb175)] ⟨qPAb170_, qPAb171_, qPAb172_, qPAb173_, qPAb174_, qPAb175_, tI⟩ ?_
  refine eC (between_ac (bnd c 3).1 (bnd c 3).2.1 (bnd c 3).2.2) ?_
  refine aX hTT 1 [] tI ?_; refine nK hK ?_; clear hK K
  refine w_cond (t := !betB (Prod.fst (bnd c (3 : Nat))) (Prod.fst (Prod.snd (bnd c (3 : Nat)))) (Prod.snd (Prod.snd (bnd c (3 : Nat))))) kR (fun h2 => ?_) (fun h2 => ?_)
  ·
   refine sK fun K hK => ?_
   refine wR 5 ?_; refine aX hTT 1 [] tI ?_; refine nK hK ?_; clear hK K
   refine aw_ret ?_
   refine xb_r ?_
   refine xt_r ?_; refine xt_r ?_
   refine xb_r ?_
   refine xt_r ?_
   rw [cutE_bad (j := 3) (by decide) (by simpa [bndB] using h2)]
   refine rP (V.i 2)
  refine aw_skip ?_
  refine xb_n ?_; refine xt_n (hK _ ?_); clear hK K; refine wR 5 ?_; refine aX hTT 2 [(0, .i ((↑(3 : Nat) : Int) + 1))] ⟨oM, tI⟩ ?_; refine aops_nil ?_; refine xt_n ?_
  refine ⟨4, ⟨by decide, fun i hi => ?_⟩, ?_, by decide⟩
  ·
   by_cases he : i = 3
   ·
    subst he; simpa [bndB] using h2
   ·
    exact hb i oM
  ·
   refine le_ren [] (.cons kR (.cons kR .nil)) .nil kR kR
 ·
  refine sK fun K hK => ?_
  refine wR 2 ?_; refine aX hTT 1 [] tI ?_; refine nK hK ?_; clear hK K; refine sK fun K hK => ?_; refine w_true (t := true) kR rfl ?_
  refine aw_skip ?_
  refine xt_n (hK _ ?_); clear hK K; refine sK fun K hK => ?_
  refine aw_block ?_
  refine sK fun K hK => wR 3 ?_; refine aX hTT 3 [(0, .c ((0 : Int) ≤ (↑(4 : Nat) : Int) ∧ (↑(4 : Nat) : Int) < (↑(7 : Nat) : Int))), (1, .r yyPAb170), (2, .r (pw ((0 : Nat) + (3 : Nat) ≤ (3 : Nat)) (200004 : Nat) (Ob.box 129 [V.i (Cut.slope c), V.i 0, V.i 10000])))] ⟨oM, oM, tI⟩ ?_; refine nK hK ?_; clear hK K; refine sK fun K hK => wR 4 ?_; refine aX hTT 6 [(0, .c qPAb170), (1, .c qPAb171), (2, .c qPAb172), (3, .c qPAb173), (4, .c qPAb174), (5, .c qPAb175)] ⟨qPAb170_, qPAb171_, qPAb172_, qPAb173_, qPAb174_, qPAb175_, tI⟩ ?_
  refine eC (between_ac (bnd c 4).1 (bnd c 4).2.1 (bnd c 4).2.2) ?_
  refine aX hTT 1 [] tI ?_; refine nK hK ?_; clear hK K
  refine w_cond (t := !betB (Prod.fst (bnd c (4 : Nat))) (Prod.fst (Prod.snd (bnd c (4 : Nat)))) (Prod.snd (Prod.snd (bnd c (4 : Nat))))) kR (fun h2 => ?_) (fun h2 => ?_)
  ·
   refine sK fun K hK => ?_
   refine wR 5 ?_; refine aX hTT 1 [] tI ?_; refine nK hK ?_; clear hK K
   refine aw_ret ?_
   refine xb_r ?_
   refine xt_r ?_; refine xt_r ?_
   refine xb_r ?_
   refine xt_r ?_
   rw [cutE_bad (j := 4) (by decide) (by simpa [bndB] using h2)]
   refine rP (V.i 2)
  refine aw_skip ?_
  refine xb_n ?_; refine xt_n (hK _ ?_); clear hK K; refine wR 5 ?_; refine aX hTT 2 [(0, .i ((↑(4 : Nat) : Int) + 1))] ⟨oM, tI⟩ ?_; refine aops_nil ?_; refine xt_n ?_
  refine ⟨5, ⟨by decide, fun i hi => ?_⟩, ?_, by decide⟩
  ·
   by_cases he : i = 4
   ·
    subst he; simpa [bndB] using h2
   ·
    exact hb i oM
  ·
   refine le_ren [] (.cons kR (.cons kR .nil)) .nil kR kR
 ·
  refine sK fun K hK => ?_
  refine wR 2 ?_; refine aX hTT 1 [] tI ?_; refine nK hK ?_; clear hK K; refine sK fun K hK => ?_; refine w_true (t := true) kR rfl ?_
  refine aw_skip ?_
  refine xt_n (hK _ ?_); clear hK K; refine sK fun K hK => ?_
  refine aw_block ?_
  refine sK fun K hK => wR 3 ?_; refine aX hTT 3 [(0, .c ((0 : Int) ≤ (↑(5 : Nat) : Int) ∧ (↑(5 : Nat) : Int) < (↑(7 : Nat) : Int))), (1, .r yyPAb170), (2, .r (pw ((0 : Nat) + (3 : Nat) ≤ (3 : Nat)) (200004 : Nat) (Ob.box 129 [V.i (Cut.jerk c), V.i 0, V.i 1048576])))] ⟨oM, oM, tI⟩ ?_; refine nK hK ?_; clear hK K; refine sK fun K hK => wR 4 ?_; refine aX hTT 6 [(0, .c qPAb170), (1, .c qPAb171), (2, .c qPAb172), (3, .c qPAb173), (4, .c qPAb174), (5, .c qPAb175)] ⟨qPAb170_, qPAb171_, qPAb172_, qPAb173_, qPAb174_, qPAb175_, tI⟩ ?_
  refine eC (between_ac (bnd c 5).1 (bnd c 5).2.1 (bnd c 5).2.2) ?_
  refine aX hTT 1 [] tI ?_; refine nK hK ?_; clear hK K
  refine w_cond (t := !betB (Prod.fst (bnd c (5 : Nat))) (Prod.fst (Prod.snd (bnd c (5 : Nat)))) (Prod.snd (Prod.snd (bnd c (5 : Nat))))) kR (fun h2 => ?_) (fun h2 => ?_)
  ·
   refine sK fun K hK => ?_
   refine wR 5 ?_; refine aX hTT 1 [] tI ?_; refine nK hK ?_; clear hK K
   refine aw_ret ?_
   refine xb_r ?_
   refine xt_r ?_; refine xt_r ?_
   refine xb_r ?_
   refine xt_r ?_
   rw [cutE_bad (j := 5) (by decide) (by simpa [bndB] using h2)]
   refine rP (V.i 2)
  refine aw_skip ?_
  refine xb_n ?_; refine xt_n (hK _ ?_); clear hK K; refine wR 5 ?_; refine aX hTT 2 [(0, .i ((↑(5 : Nat) : Int) + 1))] ⟨oM, tI⟩ ?_; refine aops_nil ?_; refine xt_n ?_
  refine ⟨6, ⟨by decide, fun i hi => ?_⟩, ?_, by decide⟩
  ·
   by_cases he : i = 5
   ·
    subst he; simpa [bndB] using h2
   ·
    exact hb i oM
  ·
   refine le_ren [] (.cons kR (.cons kR .nil)) .nil kR kR
 ·
  refine sK fun K hK => ?_
  refine wR 2 ?_; refine aX hTT 1 [] tI ?_; refine nK hK ?_; clear hK K; refine sK fun K hK => ?_; refine w_true (t := true) kR rfl ?_
  refine aw_skip ?_
  refine xt_n (hK _ ?_); clear hK K; refine sK fun K hK => ?_
  refine aw_block ?_
  refine sK fun K hK => wR 3 ?_; refine aX hTT 3 [(0, .c ((0 : Int) ≤ (↑(6 : Nat) : Int) ∧ (↑(6 : Nat) : Int) < (↑(7 : Nat) : Int))), (1, .r yyPAb170), (2, .r (pw ((0 : Nat) + (3 : Nat) ≤ (3 : Nat)) (200004 : Nat) (Ob.box 129 [V.i (Cut.sty c), V.i 0, V.i 1024])))] ⟨oM, oM, tI⟩ ?_; refine nK hK ?_; clear hK K; refine sK fun K hK => wR 4 ?_; refine aX hTT 6 [(0, .c qPAb170), (1, .c qPAb171), (2, .c qPAb172), (3, .c qPAb173), (4, .c qPAb174), (5, .c qPAb175)] ⟨qPAb170_, qPAb171_, qPAb172_, qPAb173_, qPAb174_, qPAb175_, tI⟩ ?_
  refine eC (between_ac (bnd c 6).1 (bnd c 6).2.1 (bnd c 6).2.2) ?_
  refine aX hTT 1 [] tI ?_; refine nK hK ?_; clear hK K
  refine w_cond (t := !betB (Prod.fst (bnd c (6 : Nat))) (Prod.fst (Prod.snd (bnd c (6 : Nat)))) (Prod.snd (Prod.snd (bnd c (6 : Nat))))) kR (fun h2 => ?_) (fun h2 => ?_)
  ·
   refine sK fun K hK => ?_
   refine wR 5 ?_; refine aX hTT 1 [] tI ?_; refine nK hK ?_; clear hK K
   refine aw_ret ?_
   refine xb_r ?_
   refine xt_r ?_; refine xt_r ?_
   refine xb_r ?_
   refine xt_r ?_
   rw [cutE_bad (j := 6) (by decide) (by simpa [bndB] using h2)]
   refine rP (V.i 2)
  refine aw_skip ?_
  refine xb_n ?_; refine xt_n (hK _ ?_); clear hK K; refine wR 5 ?_; refine aX hTT 2 [(0, .i ((↑(6 : Nat) : Int) + 1))] ⟨oM, tI⟩ ?_; refine aops_nil ?_; refine xt_n ?_
  refine ⟨7, ⟨by decide, fun i hi => ?_⟩, ?_, by decide⟩
  ·
   by_cases he : i = 6
   ·
    subst he; simpa [bndB] using h2
   ·
    exact hb i oM
  ·
   refine le_ren [] (.cons kR (.cons kR .nil)) .nil kR kR
 ·
  refine sK fun K hK => ?_
  refine wR 2 ?_; refine aX hTT 1 [] tI ?_; refine nK hK ?_; clear hK K; refine sK fun K hK => ?_; refine w_false (t := false) kR rfl ?_
  refine aw_exit ?_
  refine xt_x ?_; refine xt_x ?_
  refine xb_same ?_
  refine xt_n ?_; clear hK K; refine hK _ ?_; clear hK K; refine sK fun K hK => wR 3 ?_; refine aX hTT 1 [] tI ?_; refine nK hK ?_; clear hK K
  refine aw_ret ?_
  rw [cutE_good hb]
  refine rP (V.i 0)
theorem cut3 (c : Cut) : cutE c = if (!(betB c.half 1 4096) || !(betB c.gain 0 100000) || !(betB c.thin 0 1048576) || !(betB c.wide 0 1048576) || decide (c.wide < c.thin) || !(betB c.slope 0 10000) || !(betB c.jerk 0 1048576) || !(betB c.sty 0 1024)) = true then 2 else 0 := by
 rcases cutE_cases c with h | h
 ·
  rw [h, if_neg]
  have := cutE_ok.1 h
  simp [betB]
  omega
 ·
  rw [h, if_pos]
  have : ¬ cutE c = 0 := by rw [h]; decide
  rw [cutE_ok] at this
  simp [betB]
  omega
set_option maxRecDepth 100000 in
theorem refCheck_ac (c : Cut) : AC Tryz.prog 7 [c.v] (.i (cutE c)) [] := by
 refine acI hTT hMX Tryz.func7 Tryz.ntmps7 fun C hC hF => ?_
 refine sK fun K hK => wR 2 ?_; refine aX hTT 2 [] tI ?_; refine nK hK ?_; clear hK K; refine sK fun K hK => ?_; refine sK fun K hK => wR 3 ?_; refine aX hTT 2 [] tI ?_
 refine eC (within3_ac c.half 1 4096) ?_
 refine aX hTT 4 [(2, .c (gA ((!betB (Cut.half c) (1 : Int) (4096 : Int)) == false) True)), (3, .c (gB ((!betB (Cut.half c) (1 : Int) (4096 : Int)) == false) True))] ⟨⟨⟨tI, tI⟩, (fun _ => tI)⟩, ⟨⟨(by (exact fun h => h)), tI⟩, (fun _ => tI)⟩, tI⟩ ?_
 refine eG 1 (g := (!betB (Cut.half c) (1 : Int) (4096 : Int)) == false) (fun _ => within3_ac c.gain 0 100000) ?_
 refine aX hTT 5 [(0, .c (gB ((!betB (Cut.half c) (1 : Int) (4096 : Int)) == false) True)), (1, .c (True ∧ ((!betB (Cut.half c) (1 : Int) (4096 : Int)) = false → ((!betB (Cut.half c) (1 : Int) (4096 : Int)) == false) = true))), (3, .c (gA ((!betB (Cut.half c) (1 : Int) (4096 : Int) || !betB (Cut.gain c) (0 : Int) (100000 : Int)) == false) True)), (4, .c (gB ((!betB (Cut.half c) (1 : Int) (4096 : Int) || !betB (Cut.gain c) (0 : Int) (100000 : Int)) == false) True))] ⟨⟨⟨(by (exact fun h => h)), tI⟩, (fun _ => tI)⟩, ⟨tI, (by (intro h; rw [h]; rfl))⟩, ⟨⟨tI, tI⟩, (fun _ => tI)⟩, ⟨⟨(by (exact fun h => h)), tI⟩, (fun _ => tI)⟩, tI⟩ ?_
 refine eG 1 (g := (!betB (Cut.half c) (1 : Int) (4096 : Int) || !betB (Cut.gain c) (0 : Int) (100000 : Int)) == false) (fun _ => within3_ac c.thin 0 1048576) ?_
 refine aops_n hTT (M := []) (n := 5) [pc (17 : Nat) (((((!betB (Cut.half c) (1 : Int) (4096 : Int) || !betB (Cut.gain c) (0 : Int) (100000 : Int)) == false) = true → ((!betB (Cut.half c) (1 : Int) (4096 : Int) || !betB (Cut.gain c) (0 : Int) (100000 : Int)) == false) = true) ∧ True) ∧ (((!betB (Cut.half c) (1 : Int) (4096 : Int) || !betB (Cut.gain c) (0 : Int) (100000 : Int)) == false) = true → True)) (V.gd ((!betB (Cut.half c) (1 : Int) (4096 : Int) || !betB (Cut.gain c) (0 : Int) (100000 : Int)) == false) (V.b !betB (Cut.thin c) (0 : Int) (1048576 : Int))), pc (18 : Nat) (True ∧ ((!betB (Cut.half c) (1 : Int) (4096 : Int) || !betB (Cut.gain c) (0 : Int) (100000 : Int)) = false → ((!betB (Cut.half c) (1 : Int) (4096 : Int) || !betB (Cut.gain c) (0 : Int) (100000 : Int)) == false) = true)) (V.b (!betB (Cut.half c) (1 : Int) (4096 : Int) || !betB (Cut.gain c) (0 : Int) (100000 : Int) || !betB (Cut.thin c) (0 : Int) (1048576 : Int))), pv (19 : Nat) (V.b (!betB (Cut.half c) (1 : Int) (4096 : Int) || !betB (Cut.gain c) (0 : Int) (100000 : Int) || !betB (Cut.thin c) (0 : Int) (1048576 : Int))), pc (20 : Nat) ((True ∧ True) ∧ (((!betB (Cut.half c) (1 : Int) (4096 : Int) || !betB (Cut.gain c) (0 : Int) (100000 : Int) || !betB (Cut.thin c) (0 : Int) (1048576 : Int)) == false) = true → True)) (V.gd ((!betB (Cut.half c) (1 : Int) (4096 : Int) || !betB (Cut.gain c) (0 : Int) (100000 : Int) || !betB (Cut.thin c) (0 : Int) (1048576 : Int)) == false) (V.ptr [V.i (Cut.wide c), V.i (Cut.slope c), V.i (Cut.jerk c), V.i (Cut.sty c)])), pc (21 : Nat) (((((!betB (Cut.half c) (1 : Int) (4096 : Int) || !betB (Cut.gain c) (0 : Int) (100000 : Int) || !betB (Cut.thin c) (0 : Int) (1048576 : Int)) == false) = true → ((!betB (Cut.half c) (1 : Int) (4096 : Int) || !betB (Cut.gain c) (0 : Int) (100000 : Int) || !betB (Cut.thin c) (0 : Int) (1048576 : Int)) == false) = true) ∧ True) ∧ (((!betB (Cut.half c) (1 : Int) (4096 : Int) || !betB (Cut.gain c) (0 : Int) (100000 : Int) || !betB (Cut.thin c) (0 : Int) (1048576 : Int)) == false) = true → True)) (V.gd ((!betB (Cut.half c) (1 : Int) (4096 : Int) || !betB (Cut.gain c) (0 : Int) (100000 : Int) || !betB (Cut.thin c) (0 : Int) (1048576 : Int)) == false) (V.i (Cut.wide c)))] kR kR ⟨⟨⟨(by (exact fun h => h)), tI⟩, (fun _ => tI)⟩, ⟨tI, (by (intro h; rw [h]; rfl))⟩, ⟨⟨tI, tI⟩, (fun _ => tI)⟩, ⟨⟨(by (exact fun h => h)), tI⟩, (fun _ => tI)⟩, tI⟩ ?_
 refine eG 1 (g := (!betB (Cut.half c) (1 : Int) (4096 : Int) || !betB (Cut.gain c) (0 : Int) (100000 : Int) || !betB (Cut.thin c) (0 : Int) (1048576 : Int)) == false) (fun _ => within3_ac c.wide 0 1048576) ?_
 refine aops_n hTT (M := []) (n := 12) [pc (23 : Nat) (((((!betB (Cut.half c) (1 : Int) (4096 : Int) || !betB (Cut.gain c) (0 : Int) (100000 : Int) || !betB (Cut.thin c) (0 : Int) (1048576 : Int)) == false) = true → ((!betB (Cut.half c) (1 : Int) (4096 : Int) || !betB (Cut.gain c) (0 : Int) (100000 : Int) || !betB (Cut.thin c) (0 : Int) (1048576 : Int)) == false) = true) ∧ True) ∧ (((!betB (Cut.half c) (1 : Int) (4096 : Int) || !betB (Cut.gain c) (0 : Int) (100000 : Int) || !betB (Cut.thin c) (0 : Int) (1048576 : Int)) == false) = true → True)) (V.gd ((!betB (Cut.half c) (1 : Int) (4096 : Int) || !betB (Cut.gain c) (0 : Int) (100000 : Int) || !betB (Cut.thin c) (0 : Int) (1048576 : Int)) == false) (V.b !betB (Cut.wide c) (0 : Int) (1048576 : Int))), pc (24 : Nat) (True ∧ ((!betB (Cut.half c) (1 : Int) (4096 : Int) || !betB (Cut.gain c) (0 : Int) (100000 : Int) || !betB (Cut.thin c) (0 : Int) (1048576 : Int)) = false → ((!betB (Cut.half c) (1 : Int) (4096 : Int) || !betB (Cut.gain c) (0 : Int) (100000 : Int) || !betB (Cut.thin c) (0 : Int) (1048576 : Int)) == false) = true)) (V.b (!betB (Cut.half c) (1 : Int) (4096 : Int) || !betB (Cut.gain c) (0 : Int) (100000 : Int) || !betB (Cut.thin c) (0 : Int) (1048576 : Int) || !betB (Cut.wide c) (0 : Int) (1048576 : Int))), pv (25 : Nat) (V.b (!betB (Cut.half c) (1 : Int) (4096 : Int) || !betB (Cut.gain c) (0 : Int) (100000 : Int) || !betB (Cut.thin c) (0 : Int) (1048576 : Int) || !betB (Cut.wide c) (0 : Int) (1048576 : Int))), pc (26 : Nat) ((True ∧ True) ∧ (((!betB (Cut.half c) (1 : Int) (4096 : Int) || !betB (Cut.gain c) (0 : Int) (100000 : Int) || !betB (Cut.thin c) (0 : Int) (1048576 : Int) || !betB (Cut.wide c) (0 : Int) (1048576 : Int)) == false) = true → True)) (V.gd ((!betB (Cut.half c) (1 : Int) (4096 : Int) || !betB (Cut.gain c) (0 : Int) (100000 : Int) || !betB (Cut.thin c) (0 : Int) (1048576 : Int) || !betB (Cut.wide c) (0 : Int) (1048576 : Int)) == false) (V.ptr [V.i (Cut.thin c), V.i (Cut.wide c), V.i (Cut.slope c), V.i (Cut.jerk c), V.i (Cut.sty c)])), pc (27 : Nat) (((((!betB (Cut.half c) (1 : Int) (4096 : Int) || !betB (Cut.gain c) (0 : Int) (100000 : Int) || !betB (Cut.thin c) (0 : Int) (1048576 : Int) || !betB (Cut.wide c) (0 : Int) (1048576 : Int)) == false) = true → ((!betB (Cut.half c) (1 : Int) (4096 : Int) || !betB (Cut.gain c) (0 : Int) (100000 : Int) || !betB (Cut.thin c) (0 : Int) (1048576 : Int) || !betB (Cut.wide c) (0 : Int) (1048576 : Int)) == false) = true) ∧ True) ∧ (((!betB (Cut.half c) (1 : Int) (4096 : Int) || !betB (Cut.gain c) (0 : Int) (100000 : Int) || !betB (Cut.thin c) (0 : Int) (1048576 : Int) || !betB (Cut.wide c) (0 : Int) (1048576 : Int)) == false) = true → True)) (V.gd ((!betB (Cut.half c) (1 : Int) (4096 : Int) || !betB (Cut.gain c) (0 : Int) (100000 : Int) || !betB (Cut.thin c) (0 : Int) (1048576 : Int) || !betB (Cut.wide c) (0 : Int) (1048576 : Int)) == false) (V.i (Cut.thin c))), pc (28 : Nat) ((True ∧ True) ∧ (((!betB (Cut.half c) (1 : Int) (4096 : Int) || !betB (Cut.gain c) (0 : Int) (100000 : Int) || !betB (Cut.thin c) (0 : Int) (1048576 : Int) || !betB (Cut.wide c) (0 : Int) (1048576 : Int)) == false) = true → True)) (V.gd ((!betB (Cut.half c) (1 : Int) (4096 : Int) || !betB (Cut.gain c) (0 : Int) (100000 : Int) || !betB (Cut.thin c) (0 : Int) (1048576 : Int) || !betB (Cut.wide c) (0 : Int) (1048576 : Int)) == false) (V.ptr [V.i (Cut.wide c), V.i (Cut.slope c), V.i (Cut.jerk c), V.i (Cut.sty c)])), pc (29 : Nat) (((((!betB (Cut.half c) (1 : Int) (4096 : Int) || !betB (Cut.gain c) (0 : Int) (100000 : Int) || !betB (Cut.thin c) (0 : Int) (1048576 : Int) || !betB (Cut.wide c) (0 : Int) (1048576 : Int)) == false) = true → ((!betB (Cut.half c) (1 : Int) (4096 : Int) || !betB (Cut.gain c) (0 : Int) (100000 : Int) || !betB (Cut.thin c) (0 : Int) (1048576 : Int) || !betB (Cut.wide c) (0 : Int) (1048576 : Int)) == false) = true) ∧ True) ∧ (((!betB (Cut.half c) (1 : Int) (4096 : Int) || !betB (Cut.gain c) (0 : Int) (100000 : Int) || !betB (Cut.thin c) (0 : Int) (1048576 : Int) || !betB (Cut.wide c) (0 : Int) (1048576 : Int)) == false) = true → True)) (V.gd ((!betB (Cut.half c) (1 : Int) (4096 : Int) || !betB (Cut.gain c) (0 : Int) (100000 : Int) || !betB (Cut.thin c) (0 : Int) (1048576 : Int) || !betB (Cut.wide c) (0 : Int) (1048576 : Int)) == false) (V.i (Cut.wide c))), pc (30 : Nat) (((((!betB (Cut.half c) (1 : Int) (4096 : Int) || !betB (Cut.gain c) (0 : Int) (100000 : Int) || !betB (Cut.thin c) (0 : Int) (1048576 : Int) || !betB (Cut.wide c) (0 : Int) (1048576 : Int)) == false) = true → ((!betB (Cut.half c) (1 : Int) (4096 : Int) || !betB (Cut.gain c) (0 : Int) (100000 : Int) || !betB (Cut.thin c) (0 : Int) (1048576 : Int) || !betB (Cut.wide c) (0 : Int) (1048576 : Int)) == false) = true) ∧ (((!betB (Cut.half c) (1 : Int) (4096 : Int) || !betB (Cut.gain c) (0 : Int) (100000 : Int) || !betB (Cut.thin c) (0 : Int) (1048576 : Int) || !betB (Cut.wide c) (0 : Int) (1048576 : Int)) == false) = true → ((!betB (Cut.half c) (1 : Int) (4096 : Int) || !betB (Cut.gain c) (0 : Int) (100000 : Int) || !betB (Cut.thin c) (0 : Int) (1048576 : Int) || !betB (Cut.wide c) (0 : Int) (1048576 : Int)) == false) = true) ∧ True) ∧ (((!betB (Cut.half c) (1 : Int) (4096 : Int) || !betB (Cut.gain c) (0 : Int) (100000 : Int) || !betB (Cut.thin c) (0 : Int) (1048576 : Int) || !betB (Cut.wide c) (0 : Int) (1048576 : Int)) == false) = true → True)) (V.gd ((!betB (Cut.half c) (1 : Int) (4096 : Int) || !betB (Cut.gain c) (0 : Int) (100000 : Int) || !betB (Cut.thin c) (0 : Int) (1048576 : Int) || !betB (Cut.wide c) (0 : Int) (1048576 : Int)) == false) (V.b (decide (Cut.wide c < Cut.thin c)))), pc (31 : Nat) (True ∧ ((!betB (Cut.half c) (1 : Int) (4096 : Int) || !betB (Cut.gain c) (0 : Int) (100000 : Int) || !betB (Cut.thin c) (0 : Int) (1048576 : Int) || !betB (Cut.wide c) (0 : Int) (1048576 : Int)) = false → ((!betB (Cut.half c) (1 : Int) (4096 : Int) || !betB (Cut.gain c) (0 : Int) (100000 : Int) || !betB (Cut.thin c) (0 : Int) (1048576 : Int) || !betB (Cut.wide c) (0 : Int) (1048576 : Int)) == false) = true)) (V.b (!betB (Cut.half c) (1 : Int) (4096 : Int) || !betB (Cut.gain c) (0 : Int) (100000 : Int) || !betB (Cut.thin c) (0 : Int) (1048576 : Int) || !betB (Cut.wide c) (0 : Int) (1048576 : Int) || decide (Cut.wide c < Cut.thin c))), pv (32 : Nat) (V.b (!betB (Cut.half c) (1 : Int) (4096 : Int) || !betB (Cut.gain c) (0 : Int) (100000 : Int) || !betB (Cut.thin c) (0 : Int) (1048576 : Int) || !betB (Cut.wide c) (0 : Int) (1048576 : Int) || decide (Cut.wide c < Cut.thin c))), pc (33 : Nat) ((True ∧ True) ∧ (((!betB (Cut.half c) (1 : Int) (4096 : Int) || !betB (Cut.gain c) (0 : Int) (100000 : Int) || !betB (Cut.thin c) (0 : Int) (1048576 : Int) || !betB (Cut.wide c) (0 : Int) (1048576 : Int) || decide (Cut.wide c < Cut.thin c)) == false) = true → True)) (V.gd ((!betB (Cut.half c) (1 : Int) (4096 : Int) || !betB (Cut.gain c) (0 : Int) (100000 : Int) || !betB (Cut.thin c) (0 : Int) (1048576 : Int) || !betB (Cut.wide c) (0 : Int) (1048576 : Int) || decide (Cut.wide c < Cut.thin c)) == false) (V.ptr [V.i (Cut.slope c), V.i (Cut.jerk c), V.i (Cut.sty c)])), pc (34 : Nat) (((((!betB (Cut.half c) (1 : Int) (4096 : Int) || !betB (Cut.gain c) (0 : Int) (100000 : Int) || !betB (Cut.thin c) (0 : Int) (1048576 : Int) || !betB (Cut.wide c) (0 : Int) (1048576 : Int) || decide (Cut.wide c < Cut.thin c)) == false) = true → ((!betB (Cut.half c) (1 : Int) (4096 : Int) || !betB (Cut.gain c) (0 : Int) (100000 : Int) || !betB (Cut.thin c) (0 : Int) (1048576 : Int) || !betB (Cut.wide c) (0 : Int) (1048576 : Int) || decide (Cut.wide c < Cut.thin c)) == false) = true) ∧ True) ∧ (((!betB (Cut.half c) (1 : Int) (4096 : Int) || !betB (Cut.gain c) (0 : Int) (100000 : Int) || !betB (Cut.thin c) (0 : Int) (1048576 : Int) || !betB (Cut.wide c) (0 : Int) (1048576 : Int) || decide (Cut.wide c < Cut.thin c)) == false) = true → True)) (V.gd ((!betB (Cut.half c) (1 : Int) (4096 : Int) || !betB (Cut.gain c) (0 : Int) (100000 : Int) || !betB (Cut.thin c) (0 : Int) (1048576 : Int) || !betB (Cut.wide c) (0 : Int) (1048576 : Int) || decide (Cut.wide c < Cut.thin c)) == false) (V.i (Cut.slope c)))] kR kR ⟨⟨⟨(by (exact fun h => h)), tI⟩, (fun _ => tI)⟩, ⟨tI, (by (intro h; rw [h]; rfl))⟩, ⟨⟨tI, tI⟩, (fun _ => tI)⟩, ⟨⟨(by (exact fun h => h)), tI⟩, (fun _ => tI)⟩, ⟨⟨tI, tI⟩, (fun _ => tI)⟩, ⟨⟨(by (exact fun h => h)), tI⟩, (fun _ => tI)⟩, ⟨⟨(by (exact fun h => h)), ⟨(by (exact fun h => h)), tI⟩⟩, (fun _ => tI)⟩, ⟨tI, (by (intro h; rw [h]; rfl))⟩, ⟨⟨tI, tI⟩, (fun _ => tI)⟩, ⟨⟨(by (exact fun h => h)), tI⟩, (fun _ => tI)⟩, tI⟩ ?_
 refine eG 1 (g := (!betB (Cut.half c) (1 : Int) (4096 : Int) || !betB (Cut.gain c) (0 : Int) (100000 : Int) || !betB (Cut.thin c) (0 : Int) (1048576 : Int) || !betB (Cut.wide c) (0 : Int) (1048576 : Int) || decide (Cut.wide c < Cut.thin c)) == false) (fun _ => within3_ac c.slope 0 10000) ?_
 refine aX hTT 5 [(0, .c (gB ((!betB (Cut.half c) (1 : Int) (4096 : Int) || !betB (Cut.gain c) (0 : Int) (100000 : Int) || !betB (Cut.thin c) (0 : Int) (1048576 : Int) || !betB (Cut.wide c) (0 : Int) (1048576 : Int) || decide (Cut.wide c < Cut.thin c)) == false) True)), (1, .c (True ∧ ((!betB (Cut.half c) (1 : Int) (4096 : Int) || !betB (Cut.gain c) (0 : Int) (100000 : Int) || !betB (Cut.thin c) (0 : Int) (1048576 : Int) || !betB (Cut.wide c) (0 : Int) (1048576 : Int) || decide (Cut.wide c < Cut.thin c)) = false → ((!betB (Cut.half c) (1 : Int) (4096 : Int) || !betB (Cut.gain c) (0 : Int) (100000 : Int) || !betB (Cut.thin c) (0 : Int) (1048576 : Int) || !betB (Cut.wide c) (0 : Int) (1048576 : Int) || decide (Cut.wide c < Cut.thin c)) == false) = true))), (3, .c (gA ((!betB (Cut.half c) (1 : Int) (4096 : Int) || !betB (Cut.gain c) (0 : Int) (100000 : Int) || !betB (Cut.thin c) (0 : Int) (1048576 : Int) || !betB (Cut.wide c) (0 : Int) (1048576 : Int) || decide (Cut.wide c < Cut.thin c) || !betB (Cut.slope c) (0 : Int) (10000 : Int)) == false) True)), (4, .c (gB ((!betB (Cut.half c) (1 : Int) (4096 : Int) || !betB (Cut.gain c) (0 : Int) (100000 : Int) || !betB (Cut.thin c) (0 : Int) (1048576 : Int) || !betB (Cut.wide c) (0 : Int) (1048576 : Int) || decide (Cut.wide c < Cut.thin c) || !betB (Cut.slope c) (0 : Int) (10000 : Int)) == false) True))] ⟨⟨⟨(by (exact fun h => h)), tI⟩, (fun _ => tI)⟩, ⟨tI, (by (intro h; rw [h]; rfl))⟩, ⟨⟨tI, tI⟩, (fun _ => tI)⟩, ⟨⟨(by (exact fun h => h)), tI⟩, (fun _ => tI)⟩, tI⟩ ?_
 refine eG 1 (g := (!betB (Cut.half c) (1 : Int) (4096 : Int) || !betB (Cut.gain c) (0 : Int) (100000 : Int) || !betB (Cut.thin c) (0 : Int) (1048576 : Int) || !betB (Cut.wide c) (0 : Int) (1048576 : Int) || decide (Cut.wide c < Cut.thin c) || !betB (Cut.slope c) (0 : Int) (10000 : Int)) == false) (fun _ => within3_ac c.jerk 0 1048576) ?_
 refine aX hTT 5 [(0, .c (gB ((!betB (Cut.half c) (1 : Int) (4096 : Int) || !betB (Cut.gain c) (0 : Int) (100000 : Int) || !betB (Cut.thin c) (0 : Int) (1048576 : Int) || !betB (Cut.wide c) (0 : Int) (1048576 : Int) || decide (Cut.wide c < Cut.thin c) || !betB (Cut.slope c) (0 : Int) (10000 : Int)) == false) True)), (1, .c (True ∧ ((!betB (Cut.half c) (1 : Int) (4096 : Int) || !betB (Cut.gain c) (0 : Int) (100000 : Int) || !betB (Cut.thin c) (0 : Int) (1048576 : Int) || !betB (Cut.wide c) (0 : Int) (1048576 : Int) || decide (Cut.wide c < Cut.thin c) || !betB (Cut.slope c) (0 : Int) (10000 : Int)) = false → ((!betB (Cut.half c) (1 : Int) (4096 : Int) || !betB (Cut.gain c) (0 : Int) (100000 : Int) || !betB (Cut.thin c) (0 : Int) (1048576 : Int) || !betB (Cut.wide c) (0 : Int) (1048576 : Int) || decide (Cut.wide c < Cut.thin c) || !betB (Cut.slope c) (0 : Int) (10000 : Int)) == false) = true))), (3, .c (gA ((!betB (Cut.half c) (1 : Int) (4096 : Int) || !betB (Cut.gain c) (0 : Int) (100000 : Int) || !betB (Cut.thin c) (0 : Int) (1048576 : Int) || !betB (Cut.wide c) (0 : Int) (1048576 : Int) || decide (Cut.wide c < Cut.thin c) || !betB (Cut.slope c) (0 : Int) (10000 : Int) || !betB (Cut.jerk c) (0 : Int) (1048576 : Int)) == false) True)), (4, .c (gB ((!betB (Cut.half c) (1 : Int) (4096 : Int) || !betB (Cut.gain c) (0 : Int) (100000 : Int) || !betB (Cut.thin c) (0 : Int) (1048576 : Int) || !betB (Cut.wide c) (0 : Int) (1048576 : Int) || decide (Cut.wide c < Cut.thin c) || !betB (Cut.slope c) (0 : Int) (10000 : Int) || !betB (Cut.jerk c) (0 : Int) (1048576 : Int)) == false) True))] ⟨⟨⟨(by (exact fun h => h)), tI⟩, (fun _ => tI)⟩, ⟨tI, (by (intro h; rw [h]; rfl))⟩, ⟨⟨tI, tI⟩, (fun _ => tI)⟩, ⟨⟨(by (exact fun h => h)), tI⟩, (fun _ => tI)⟩, tI⟩ ?_
 refine eG 1 (g := (!betB (Cut.half c) (1 : Int) (4096 : Int) || !betB (Cut.gain c) (0 : Int) (100000 : Int) || !betB (Cut.thin c) (0 : Int) (1048576 : Int) || !betB (Cut.wide c) (0 : Int) (1048576 : Int) || decide (Cut.wide c < Cut.thin c) || !betB (Cut.slope c) (0 : Int) (10000 : Int) || !betB (Cut.jerk c) (0 : Int) (1048576 : Int)) == false) (fun _ => within3_ac c.sty 0 1024) ?_
 refine aops_n hTT (M := []) (n := 2) [pc (48 : Nat) (((((!betB (Cut.half c) (1 : Int) (4096 : Int) || !betB (Cut.gain c) (0 : Int) (100000 : Int) || !betB (Cut.thin c) (0 : Int) (1048576 : Int) || !betB (Cut.wide c) (0 : Int) (1048576 : Int) || decide (Cut.wide c < Cut.thin c) || !betB (Cut.slope c) (0 : Int) (10000 : Int) || !betB (Cut.jerk c) (0 : Int) (1048576 : Int)) == false) = true → ((!betB (Cut.half c) (1 : Int) (4096 : Int) || !betB (Cut.gain c) (0 : Int) (100000 : Int) || !betB (Cut.thin c) (0 : Int) (1048576 : Int) || !betB (Cut.wide c) (0 : Int) (1048576 : Int) || decide (Cut.wide c < Cut.thin c) || !betB (Cut.slope c) (0 : Int) (10000 : Int) || !betB (Cut.jerk c) (0 : Int) (1048576 : Int)) == false) = true) ∧ True) ∧ (((!betB (Cut.half c) (1 : Int) (4096 : Int) || !betB (Cut.gain c) (0 : Int) (100000 : Int) || !betB (Cut.thin c) (0 : Int) (1048576 : Int) || !betB (Cut.wide c) (0 : Int) (1048576 : Int) || decide (Cut.wide c < Cut.thin c) || !betB (Cut.slope c) (0 : Int) (10000 : Int) || !betB (Cut.jerk c) (0 : Int) (1048576 : Int)) == false) = true → True)) (V.gd ((!betB (Cut.half c) (1 : Int) (4096 : Int) || !betB (Cut.gain c) (0 : Int) (100000 : Int) || !betB (Cut.thin c) (0 : Int) (1048576 : Int) || !betB (Cut.wide c) (0 : Int) (1048576 : Int) || decide (Cut.wide c < Cut.thin c) || !betB (Cut.slope c) (0 : Int) (10000 : Int) || !betB (Cut.jerk c) (0 : Int) (1048576 : Int)) == false) (V.b !betB (Cut.sty c) (0 : Int) (1024 : Int))), pc (49 : Nat) (True ∧ ((!betB (Cut.half c) (1 : Int) (4096 : Int) || !betB (Cut.gain c) (0 : Int) (100000 : Int) || !betB (Cut.thin c) (0 : Int) (1048576 : Int) || !betB (Cut.wide c) (0 : Int) (1048576 : Int) || decide (Cut.wide c < Cut.thin c) || !betB (Cut.slope c) (0 : Int) (10000 : Int) || !betB (Cut.jerk c) (0 : Int) (1048576 : Int)) = false → ((!betB (Cut.half c) (1 : Int) (4096 : Int) || !betB (Cut.gain c) (0 : Int) (100000 : Int) || !betB (Cut.thin c) (0 : Int) (1048576 : Int) || !betB (Cut.wide c) (0 : Int) (1048576 : Int) || decide (Cut.wide c < Cut.thin c) || !betB (Cut.slope c) (0 : Int) (10000 : Int) || !betB (Cut.jerk c) (0 : Int) (1048576 : Int)) == false) = true)) (V.b (!betB (Cut.half c) (1 : Int) (4096 : Int) || !betB (Cut.gain c) (0 : Int) (100000 : Int) || !betB (Cut.thin c) (0 : Int) (1048576 : Int) || !betB (Cut.wide c) (0 : Int) (1048576 : Int) || decide (Cut.wide c < Cut.thin c) || !betB (Cut.slope c) (0 : Int) (10000 : Int) || !betB (Cut.jerk c) (0 : Int) (1048576 : Int) || !betB (Cut.sty c) (0 : Int) (1024 : Int)))] kR kR ⟨⟨⟨(by (exact fun h => h)), tI⟩, (fun _ => tI)⟩, ⟨tI, (by (intro h; rw [h]; rfl))⟩, tI⟩ ?_
 refine nK hK ?_; clear hK K
 refine w_cond (t := !betB (Cut.half c) (1 : Int) (4096 : Int) || !betB (Cut.gain c) (0 : Int) (100000 : Int) || !betB (Cut.thin c) (0 : Int) (1048576 : Int) || !betB (Cut.wide c) (0 : Int) (1048576 : Int) || decide (Cut.wide c < Cut.thin c) || !betB (Cut.slope c) (0 : Int) (10000 : Int) || !betB (Cut.jerk c) (0 : Int) (1048576 : Int) || !betB (Cut.sty c) (0 : Int) (1024 : Int)) kR (fun h => ?_) (fun h => ?_)
 ·
  refine sK fun K hK => ?_
  refine wR 4 ?_
  refine aops_n hTT (M := []) (n := 1) [pv (2 : Nat) (V.i (2 : Int))] kR kR tI ?_
  refine nK hK ?_; clear hK K
  refine aw_ret ?_
  refine xt_r ?_
  rw [cut3, if_pos h]
  refine rP (V.i (2 : Int))
 refine aw_skip ?_
 refine xt_n (hK _ ?_); clear hK K; refine sK fun K hK => wR 4 ?_; refine aX hTT 1 [] tI ?_; refine nK hK ?_; clear hK K
 refine aw_ret ?_
 rw [cut3, if_neg (by rw [h]; decide)]
 refine rP (V.i (0 : Int))
end Go.Proofs.YtepkjobndmmejaaGreatDoor
