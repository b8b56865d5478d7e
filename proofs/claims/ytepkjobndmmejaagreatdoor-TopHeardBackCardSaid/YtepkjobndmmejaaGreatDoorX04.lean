/-
  Several texts in one: The samples that are near, for values without addresses. No condition. .. The document's 'Sweep' is the program's. No condition but the sizes of slices.
-/
import Derived.Test.YtepkjobndmmejaaGreatDoorMC
import Derived.Test.YtepkjobndmmejaaGreatDoorMD
import Derived.Test.YtepkjobndmmejaaGreatDoorX00
import Derived.Test.YtepkjobndmmejaaGreatDoorAbs42
import Derived.Test.YtepkjobndmmejaaGreatDoorX01
namespace Go.Proofs.YtepkjobndmmejaaGreatDoor
open Go.Ab Go.RowKit Go.Dw Go.Shelf
set_option maxHeartbeats 1000000 in
theorem near_iter' (p1 p2 p3 : Addr) (i n r : Nat) (hi : i ≤ 65536) (hn : n ≤ 65536) (hr : r ≤ 65536) (w : World) (R : Nat → Prop) (l1 : p1.block < w.heap.size) (l2 : p2.block < w.heap.size) (l3 : p3.block < w.heap.size)
  (h1 : w.cell? p1 = some (.int .i64 i)) (h2 : w.cell? p2 = some (.int .i64 r)) (h3 : w.cell? p3 = some (.int .i64 n)) (r1 : ¬ R p1.block) (r2 : ¬ R p2.block) (r3 : ¬ R p3.block) :
  Iter Tryz.prog 72 #[.pointer (some p1), .pointer (some p2), .pointer (some p3)] (nearEs i n r) R w := by
 intro l J Jx W hT hl hlW hJ hJx hY h0
 have hb : ∀ wr, Tch (fun k => R k ∨ k = l) W wr → wr.cell? p1 = some (.int .i64 i) ∧ wr.cell? p2 = some (.int .i64 r) ∧ wr.cell? p3 = some (.int .i64 n) := fun wr ht =>
  ⟨((ht.cell (Nat.lt_of_lt_of_le l1 hT.size) (by rintro (e | e); exact r1 e; omega)).trans (hT.cell l1 r1)).trans h1, ((ht.cell (Nat.lt_of_lt_of_le l2 hT.size) (by rintro (e | e); exact r2 e; omega)).trans (hT.cell l2 r2)).trans h2,
   ((ht.cell (Nat.lt_of_lt_of_le l3 hT.size) (by rintro (e | e); exact r3 e; omega)).trans (hT.cell l3 r3)).trans h3⟩
 obtain ⟨c1, c2, c3⟩ := hb W (Tch.refl _ _)
 have e1 : max (0 : Int) ((i : Int) - (r : Int) + 1) = ((nearLo i r : Nat) : Int) := by unfold nearLo; omega
 refine callsIn_of_wp Tryz.func72 rfl trivial ?_ rfl
 simp only [Tryz.ntmps72, List.size_toArray, List.length_cons, List.length_nil, Nat.reduceAdd, Nat.reduceSub, Array.replicate_succ, Array.replicate_zero, List.push_toArray, List.append_toArray, List.nil_append, List.cons_append]
 gi_wp2
 gi_loopw [5] (fun u wr => ∃ k : Nat, k ≤ nearN i n r ∧ u = .int .i64 ((nearLo i r : Int) + (k : Int)) ∧ J k wr ∧ Tch (fun k => R k ∨ k = l) W wr) (fun u wr => n - (intOf u).toNat)
 case atStart => exact ⟨0, Nat.zero_le _, rfl, h0, Tch.refl _ _⟩
 case round =>
  obtain ⟨k, hk, rfl, hJk, hTk⟩ := hrel
  obtain ⟨d1, d2, d3⟩ := hb wr hTk
  have e2 : min (n : Int) ((i : Int) + (r : Int)) = ((min n (i + r) : Nat) : Int) := by omega
  by_cases hlt : k < nearN i n r
  ·
   obtain ⟨fn, tmps, assign, body, hy, hR⟩ := hY k (nearE i r k) wr (by simp [nearEs, hlt]) hTk.size hJk
   have e3 : max ((nearLo i r : Int) + (k : Int) - (i : Int)) ((i : Int) - ((nearLo i r : Int) + (k : Int))) = ((dist (nearLo i r + k) i : Nat) : Int) := by unfold dist; omega
   have hlt' : nearLo i r + k < min n (i + r) := by unfold nearN at hlt; omega
   unfold nearE at hy
   gi_wp2
   refine hR.mono ?_
   rintro e W2 ⟨bb, rfl, hT2, hJ2, hJ3⟩
   cases bb
   rotate_left
   ·
    gi_wp2
    go_roundw
    case rel => exact ⟨k + 1, by omega, by go_num, hJ2 (by simp), hTk.trans hT2⟩
    case measure => simp [intOf]; omega
   ·
    gi_wp2
    refine bodyPost_ret (results_none rfl _ _ _) rfl ?_
    exact ⟨⟨_, rfl⟩, .inr ⟨k, by simpa [nearEs] using hlt, hJ3 (by simp)⟩⟩
  ·
   have hge : min n (i + r) ≤ nearLo i r + k := by unfold nearN at hlt; omega
   have hk2 : k = nearN i n r := by omega
   subst hk2
   gi_wp2
   go_end0
   exact ⟨⟨_, rfl⟩, .inl (by simpa [nearEs] using hJk)⟩
def nearV (i n r : Nat) : List (List V) := (List.range (nearN i n r)).map fun k : Nat => [V.i ((nearLo i r : Int) + (k : Int)), V.i ((dist (nearLo i r + k) i : Nat) : Int)]
theorem near_ac (i n r : Int) : AC Tryz.prog 40 [.i i, .i n, .i r] (.fn (.func 72) [] [.ptr [.i i], .ptr [.i r], .ptr [.i n]]) [] := by
 refine ac_of_calls (enters_of Tryz.func40 kR rfl) fun L w vs hL hvs => ?_
 obtain ⟨vs⟩ := vs
 obtain ⟨x1, e1, q1⟩ := hvs.get (i := 0) rfl
 obtain ⟨x2, e2, q2⟩ := hvs.get (i := 1) rfl
 obtain ⟨x3, e3, q3⟩ := hvs.get (i := 2) rfl
 have hn := hvs.1
 obtain rfl : vs = [.int .i64 i, .int .i64 n, .int .i64 r] := by
  have := q1.c_inv; have := q2.c_inv; have := q3.c_inv
  subst x1 x2 x3
  match vs, hn with
  | [a, b, c], _ => simp at e1 e2 e3; subst e1 e2 e3; rfl
 refine (near_calls i n r w).mono ?_
 rintro e w' ⟨rfl, b1, b2, b3, hb, hs⟩
 refine ⟨_, rfl, hb, fun b => w.heap.size ≤ b ∧ b < w'.heap.size, fun b h => h, R.fn' .nil (.cons (R.ptr' (.inr ⟨Nat.le_refl _, b1.lt⟩) ?_) (.cons (R.ptr' (.inr ⟨by omega, b2.lt⟩) ?_) (.cons (R.ptr' (.inr ⟨by omega, b3.lt⟩) ?_) .nil)))⟩
 ·
  intro j u hu
  cases j with
  | zero => simp at hu; subst hu; exact ⟨_, b1.cell 0, rfl, .c _ _⟩
  | succ j => simp at hu
 ·
  intro j u hu
  cases j with
  | zero => simp at hu; subst hu; exact ⟨_, b2.cell 0, rfl, .c _ _⟩
  | succ j => simp at hu
 ·
  intro j u hu
  cases j with
  | zero => simp at hu; subst hu; exact ⟨_, b3.cell 0, rfl, .c _ _⟩
  | succ j => simp at hu
theorem near_aiter (i n r : Nat) (hi : i ≤ 65536) (hn : n ≤ 65536) (hr : r ≤ 65536) : AIter Tryz.prog 72 [.ptr [.i i], .ptr [.i r], .ptr [.i n]] (nearV i n r) := by
 refine ⟨enters_of Tryz.func72 kR rfl, fun L w lb hL hlb => ?_⟩
 refine ⟨nearEs i n r, by simp [nearEs, nearV], fun k v x hv hx => ?_, fun R hR => ?_⟩
 ·
  simp only [nearV, nearEs, List.getElem?_map, Option.map_eq_some_iff] at hv hx
  obtain ⟨k1, h1, rfl⟩ := hv
  obtain ⟨k2, h2, rfl⟩ := hx
  rw [h1] at h2; injection h2 with h2; subst h2
  exact .cons (.c _ _) (.cons (.c _ _) .nil)
 ·
  obtain ⟨lb⟩ := lb
  obtain ⟨x1, e1, q1⟩ := hlb.get (i := 0) rfl
  obtain ⟨x2, e2, q2⟩ := hlb.get (i := 1) rfl
  obtain ⟨x3, e3, q3⟩ := hlb.get (i := 2) rfl
  obtain ⟨b1, o1, rfl, hb1, hc1⟩ := q1.ptr_inv
  obtain ⟨b2, o2, rfl, hb2, hc2⟩ := q2.ptr_inv
  obtain ⟨b3, o3, rfl, hb3, hc3⟩ := q3.ptr_inv
  obtain ⟨y1, g1, _, t1⟩ := hc1 0 _ rfl
  obtain ⟨y2, g2, _, t2⟩ := hc2 0 _ rfl
  obtain ⟨y3, g3, _, t3⟩ := hc3 0 _ rfl
  rw [t1.c_inv] at g1
  rw [t2.c_inv] at g2
  rw [t3.c_inv] at g3
  have hlen := hlb.1
  obtain rfl : lb = [.pointer (some ⟨b1, o1, none⟩), .pointer (some ⟨b2, o2, none⟩), .pointer (some ⟨b3, o3, none⟩)] := by
   match lb, hlen with
   | [a, b, c], _ => simp at e1 e2 e3; subst e1 e2 e3; rfl
  exact near_iter' _ _ _ i n r hi hn hr w R (hL b1 hb1) (hL b2 hb2) (hL b3 hb3) g1 g2 g3 (fun h => (hR _ h).2 hb1) (fun h => (hR _ h).2 hb2) (fun h => (hR _ h).2 hb3)
end Go.Proofs.YtepkjobndmmejaaGreatDoor

namespace Go.Proofs.YtepkjobndmmejaaGreatDoor
open Go.Ab Go.RowKit Go.Dw Go.Shelf
def missB (t : List Int) (l : List Pt) (i u : Nat) : Bool := decide (dist u i < t.length) && (decide ((gp l i).2 > (gp l u).2 + gi t (dist u i)) || decide ((gp l i).1 < (gp l u).1 - gi t (dist u i)))
def missRow (t : List Int) (l : List Pt) (i : Nat) : Option Nat := (List.range l.length).find? (missB t l i)
def missP (t : List Int) (l : List Pt) : Option (Nat × Nat) := (List.range l.length).findSome? fun i => (missRow t l i).map fun u => (i, u)
theorem find_none {p : Nat → Bool} {n : Nat} (h : ∀ j, j < n → p j = false) : (List.range n).find? p = none := by
 rw [List.find?_eq_none]
 intro x hx
 simp [h x (by simpa using hx)]
theorem nearV_get {i n r j : Nat} {x : List V} (h : (nearV i n r)[j]? = some x) : j < nearN i n r ∧ [V.i ((nearLo i r : Int) + (j : Int)), V.i ((dist (nearLo i r + j) i : Nat) : Int)] = x := by
 unfold nearV at h
 rw [List.getElem?_map] at h
 by_cases hk : j < nearN i n r
 ·
  rw [List.getElem?_range hk] at h; exact ⟨hk, by simpa using h⟩
 ·
  rw [List.getElem?_eq_none (by simpa using hk)] at h; cases h
end Go.Proofs.YtepkjobndmmejaaGreatDoor

namespace Go.Proofs.YtepkjobndmmejaaGreatDoor
open Go.RowKit Go.Dw
def inK (a b : List Pt) (k : Nat) : Prop := (gp a k).2 ≤ (gp b k).2 ∧ (gp b k).1 ≤ (gp a k).1
def Inside (a b : List Pt) : Prop := a.length = b.length ∧ ∀ k, k < a.length → inK a b k
instance (a b : List Pt) : Decidable (Inside a b) := by unfold Inside inK; infer_instance
end Go.Proofs.YtepkjobndmmejaaGreatDoor

namespace Go.Proofs.YtepkjobndmmejaaGreatDoor
open Go.RowKit Go.Dw
def hts (b : Bool) (l : List Pt) : List Int := l.map (ofE b)
def LeL (a b : List Int) : Prop := a.length = b.length ∧ ∀ k, k < a.length → gi a k ≤ gi b k
theorem LeL.refl (a : List Int) : LeL a a := ⟨rfl, fun _ _ => Int.le_refl _⟩
theorem LeL.trans {a b c : List Int} (h : LeL a b) (k : LeL b c) : LeL a c := ⟨h.1.trans k.1, fun i hi => Int.le_trans (h.2 i hi) (k.2 i (by rw [← h.1]; exact hi))⟩
theorem list_ext_gi {a b : List Int} (hl : a.length = b.length) (h : ∀ k, k < a.length → gi a k = gi b k) : a = b := by
 refine List.ext_getElem hl fun i h1 h2 => ?_
 have := h i h1
 rwa [gi_eq h1, gi_eq h2] at this
theorem list_ext_gp {a b : List Pt} (hl : a.length = b.length) (h : ∀ k, k < a.length → gp a k = gp b k) : a = b := by
 refine List.ext_getElem hl fun i h1 h2 => ?_
 have := h i h1
 rwa [gp_eq h1, gp_eq h2] at this
theorem LeL.antisymm {a b : List Int} (h : LeL a b) (k : LeL b a) : a = b :=
 list_ext_gi h.1 fun i hi => Int.le_antisymm (h.2 i hi) (k.2 i (by rw [← h.1]; exact hi))
theorem foldB_le (x : Int) : ∀ (vs : List Int) (f : Int), x ≤ foldB false f vs ↔ x ≤ f ∧ ∀ y ∈ vs, x ≤ y
 | [], f => by simp [foldB]
 | v :: vs, f => by
  have e : foldB false f (v :: vs) = foldB false (min f v) vs := by simp [foldB, pickB]
  rw [e, foldB_le x vs]
  simp only [List.mem_cons, forall_eq_or_imp]
  constructor
  ·
   rintro ⟨h1, h2⟩; exact ⟨by omega, by omega, h2⟩
  ·
   rintro ⟨h1, h2, h3⟩; exact ⟨by omega, h3⟩
theorem foldB_ge (x : Int) : ∀ (vs : List Int) (f : Int), foldB true f vs ≤ x ↔ f ≤ x ∧ ∀ y ∈ vs, y ≤ x
 | [], f => by simp [foldB]
 | v :: vs, f => by
  have e : foldB true f (v :: vs) = foldB true (max f v) vs := by simp [foldB, pickB]
  rw [e, foldB_ge x vs]
  simp only [List.mem_cons, forall_eq_or_imp]
  constructor
  ·
   rintro ⟨h1, h2⟩; exact ⟨by omega, by omega, h2⟩
  ·
   rintro ⟨h1, h2, h3⟩; exact ⟨by omega, h3⟩
theorem dist_self (i : Nat) : dist i i = 0 := by simp [dist]
theorem dist_comm (i j : Nat) : dist i j = dist j i := by simp [dist, Nat.max_comm]
theorem near_at {i n r j : Nat} (hj : j < n) (hd : dist j i < r) : ∃ k, k < nearN i n r ∧ j = nearLo i r + k := by
 unfold dist at hd
 refine ⟨j - nearLo i r, ?_, ?_⟩
 ·
  unfold nearN nearLo; omega
 ·
  unfold nearLo; omega
theorem le_walkAt {t h : List Int} {i : Nat} {x : Int} : x ≤ walkAt t h false i ↔ x ≤ gi h i ∧ ∀ j, j < h.length → dist j i < t.length → x ≤ gi h j + gi t (dist j i) := by
 unfold walkAt
 rw [foldB_le]
 refine and_congr_right fun _ => ?_
 simp only [List.mem_map, List.mem_range]
 constructor
 ·
  intro hh j hj hd
  obtain ⟨k, hk, rfl⟩ := near_at hj hd
  exact hh _ ⟨k, hk, by simp⟩
 ·
  rintro hh y ⟨k, hk, rfl⟩
  obtain ⟨h1, h2⟩ := near_lt hk
  simpa using hh _ h1 h2
theorem walkAt_le {t h : List Int} {i : Nat} {x : Int} : walkAt t h true i ≤ x ↔ gi h i ≤ x ∧ ∀ j, j < h.length → dist j i < t.length → gi h j - gi t (dist j i) ≤ x := by
 unfold walkAt
 rw [foldB_ge]
 refine and_congr_right fun _ => ?_
 simp only [List.mem_map, List.mem_range]
 constructor
 ·
  intro hh j hj hd
  obtain ⟨k, hk, rfl⟩ := near_at hj hd
  have := hh _ ⟨k, hk, rfl⟩
  simp at this
  omega
 ·
  rintro hh y ⟨k, hk, rfl⟩
  obtain ⟨h1, h2⟩ := near_lt hk
  have := hh _ h1 h2
  simp
  omega
theorem gi_walkL {t h : List Int} {d : Bool} {i : Nat} (hi : i < h.length) : gi (walkL t h d) i = walkAt t h d i := by
 rw [gi_eq (by simp [walkL]; exact hi)]; simp [walkL]
theorem adj {t g h : List Int} (hl : g.length = h.length) : LeL g (walkL t h false) ↔ LeL (walkL t g true) h := by
 constructor
 ·
  rintro ⟨_, hh⟩
  refine ⟨by rw [walkL_length, hl], fun k hk => ?_⟩
  rw [walkL_length] at hk
  rw [gi_walkL hk, walkAt_le]
  have hk' : k < h.length := by omega
  refine ⟨?_, fun j hj hd => ?_⟩
  ·
   have := hh k hk
   rw [gi_walkL hk', le_walkAt] at this
   exact this.1
  ·
   have := hh j hj
   rw [gi_walkL oM, le_walkAt] at this
   have := this.2 k hk' (by rw [dist_comm]; exact hd)
   rw [dist_comm] at this
   omega
 ·
  rintro ⟨_, hh⟩
  refine ⟨by rw [walkL_length, hl], fun k hk => ?_⟩
  have hk' : k < h.length := by omega
  rw [gi_walkL hk', le_walkAt]
  refine ⟨?_, fun j hj hd => ?_⟩
  ·
   have := hh k (by rw [walkL_length]; exact hk)
   rw [gi_walkL hk, walkAt_le] at this
   exact this.1
  ·
   have := hh j (by rw [walkL_length]; omega)
   rw [gi_walkL oM, walkAt_le] at this
   have := this.2 k hk (by rw [dist_comm]; exact hd)
   rw [dist_comm] at this
   omega
theorem sweep_le (t h : List Int) : LeL (sweepT t h) h := (adj (by simp [walkL_length])).1 (LeL.refl _)
theorem le_sweep_read (t h : List Int) : LeL (readT t h) (sweepT t h) := by
 refine ⟨by simp [readT, sweepT, walkL_length], fun k hk => ?_⟩
 have hk' : k < (walkL t h false).length := hk
 show gi (readT t h) k ≤ gi (walkL t (walkL t h false) true) k
 rw [gi_walkL hk']
 exact (walkAt_le.1 (Int.le_refl _)).1
theorem hts_length (b : Bool) (l : List Pt) : (hts b l).length = l.length := by simp [hts]
theorem gi_hts {b : Bool} {l : List Pt} {k : Nat} (hk : k < l.length) : gi (hts b l) k = ofE b (gp l k) := by
 rw [gi_eq (by rw [hts_length]; exact hk), gp_eq hk]; simp [hts]
theorem pts_ext {a b : List Pt} (h : ∀ inn, hts inn a = hts inn b) : a = b := by
 have hl : a.length = b.length := by have := congrArg List.length (h true); simpa [hts_length] using this
 refine list_ext_gp hl fun k hk => ?_
 have h0 := congrArg (gi · k) (h true)
 have h1 := congrArg (gi · k) (h false)
 simp only [gi_hts hk, gi_hts (show k < b.length by omega), ofE] at h0 h1
 exact Prod.ext (by simpa using h0) (by simpa using h1)
theorem inside_iff {a b : List Pt} : Inside a b ↔ ∀ inn, LeL (hts inn a) (hts inn b) := by
 constructor
 ·
  rintro ⟨hl, h⟩ inn
  refine ⟨by simp [hts_length, hl], fun k hk => ?_⟩
  rw [hts_length] at hk
  have := h k hk
  unfold inK at this
  rw [gi_hts hk, gi_hts oM]
  cases inn <;> simp [ofE] <;> omega
 ·
  intro h
  have hl : a.length = b.length := by have := (h true).1; simpa [hts_length] using this
  refine ⟨hl, fun k hk => ?_⟩
  have h0 := (h true).2 k (by rw [hts_length]; exact hk)
  have h1 := (h false).2 k (by rw [hts_length]; exact hk)
  rw [gi_hts hk, gi_hts oM] at h0 h1
  simp [ofE] at h0 h1
  exact ⟨h1, h0⟩
theorem hts_walls {thr : List Int → List Int} {l : List Pt} (hthr : ∀ inn, (thr (hts inn l)).length = l.length) (b : Bool) : hts b (wallsT thr l) = thr (hts b l) := by
 have e0 : ∀ inn, gi ((thr (hts inn l)).map (backE inn)) = fun k => backE inn (gi (thr (hts inn l)) k) := by
  intro inn; funext k
  unfold gi
  simp only [List.getD_eq_getElem?_getD, List.getElem?_map]
  cases (thr (hts inn l))[k]? <;> cases inn <;> simp [backE]
 refine list_ext_gi (by rw [hts_length, hthr]; simp [wallsT, wallsP]) fun k hk => ?_
 have hk' : k < l.length := by simpa [hts_length, wallsT, wallsP] using hk
 rw [gi_hts (by simpa [wallsT, wallsP] using hk'), gp_eq (by simpa [wallsT, wallsP] using hk')]
 have e1 := congrFun (e0 true) k
 have e2 := congrFun (e0 false) k
 simp only [hts] at e1 e2
 cases b
 ·
  simp [wallsT, wallsP, ofE, e2, hts, backE]
 ·
  simp [wallsT, wallsP, ofE, e1, hts, backE]
theorem hts_readP (t : List Int) (l : List Pt) (b : Bool) : hts b (readP t l) = readT t (hts b l) := hts_walls (fun inn => by rw [readT, walkL_length, hts_length]) b
theorem hts_sweepP (t : List Int) (l : List Pt) (b : Bool) : hts b (sweepP t l) = sweepT t (hts b l) := hts_walls (fun inn => by rw [sweepT, walkL_length, walkL_length, hts_length]) b
theorem readP_length (t : List Int) (l : List Pt) : (readP t l).length = l.length := by simp [readP, wallsT, wallsP]
theorem checkBoth_of {t : List Int} {l : List Pt} (h : checkTip t = 0) (k : checkPts l = 0) : checkBoth t l = 0 := by rw [checkBoth, if_pos h]; exact k
theorem readP_in_sweepP (t : List Int) (l : List Pt) : Inside (readP t l) (sweepP t l) := inside_iff.2 fun inn => by rw [hts_readP, hts_sweepP]; exact le_sweep_read _ _
theorem sweepP_in (t : List Int) (l : List Pt) : Inside (sweepP t l) l := inside_iff.2 fun inn => by rw [hts_sweepP]; exact sweep_le _ _
end Go.Proofs.YtepkjobndmmejaaGreatDoor

namespace Go.Proofs.YtepkjobndmmejaaGreatDoor
open Go.RowKit Go.Dw
end Go.Proofs.YtepkjobndmmejaaGreatDoor

namespace Go.Proofs.YtepkjobndmmejaaGreatDoor
open Go.RowKit Go.Dw
def stepPt (t : List Int) (l : List Pt) (i : Nat) (p : Pt) (u : Nat) : Pt :=
 if dist u i < t.length then (max p.1 ((gp l u).1 - gi t (dist u i)), min p.2 ((gp l u).2 + gi t (dist u i))) else p
def readPt (t : List Int) (l : List Pt) (i k : Nat) : Pt := (List.range k).foldl (stepPt t l i) (gp l i)
def readPts (t : List Int) (l : List Pt) (k : Nat) : List Pt := (List.range k).map fun i => readPt t l i l.length
theorem readPt_succ (t : List Int) (l : List Pt) (i k : Nat) : readPt t l i (k + 1) = stepPt t l i (readPt t l i k) k := by simp [readPt, List.range_succ]
end Go.Proofs.YtepkjobndmmejaaGreatDoor

namespace Go.Proofs.YtepkjobndmmejaaGreatDoor
open Go.RowKit Go.Dw
theorem le_readPt {t : List Int} {l : List Pt} {i : Nat} {x : Int} : ∀ k, x ≤ (readPt t l i k).2 ↔ x ≤ (gp l i).2 ∧ ∀ u, u < k → dist u i < t.length → x ≤ (gp l u).2 + gi t (dist u i)
 | 0 => by simp [readPt]
 | k + 1 => by
  rw [readPt_succ, stepPt]
  have ih := le_readPt (t := t) (l := l) (i := i) (x := x) k
  by_cases hd : dist k i < t.length
  ·
   rw [if_pos hd]
   constructor
   ·
    intro h
    have h1 := ih.1 (by simp only at h; omega)
    refine ⟨h1.1, fun u hu hdu => ?_⟩
    rcases Nat.lt_succ_iff_lt_or_eq.1 hu with h2 | rfl
    ·
     exact h1.2 u h2 hdu
    ·
     simp only at h; omega
   ·
    rintro ⟨h1, h2⟩
    have h3 := ih.2 ⟨h1, fun u hu hdu => h2 u oM hdu⟩
    have h4 := h2 k oM hd
    simp only; omega
  ·
   rw [if_neg hd, ih]
   refine and_congr_right fun _ => ⟨fun h u hu hdu => ?_, fun h u hu hdu => h u oM hdu⟩
   rcases Nat.lt_succ_iff_lt_or_eq.1 hu with h2 | rfl
   ·
    exact h u h2 hdu
   ·
    exact absurd hdu hd
theorem readPt_le {t : List Int} {l : List Pt} {i : Nat} {x : Int} : ∀ k, (readPt t l i k).1 ≤ x ↔ (gp l i).1 ≤ x ∧ ∀ u, u < k → dist u i < t.length → (gp l u).1 - gi t (dist u i) ≤ x
 | 0 => by simp [readPt]
 | k + 1 => by
  rw [readPt_succ, stepPt]
  have ih := readPt_le (t := t) (l := l) (i := i) (x := x) k
  by_cases hd : dist k i < t.length
  ·
   rw [if_pos hd]
   constructor
   ·
    intro h
    have h1 := ih.1 (by simp only at h; omega)
    refine ⟨h1.1, fun u hu hdu => ?_⟩
    rcases Nat.lt_succ_iff_lt_or_eq.1 hu with h2 | rfl
    ·
     exact h1.2 u h2 hdu
    ·
     simp only at h; omega
   ·
    rintro ⟨h1, h2⟩
    have h3 := ih.2 ⟨h1, fun u hu hdu => h2 u oM hdu⟩
    have h4 := h2 k oM hd
    simp only; omega
  ·
   rw [if_neg hd, ih]
   refine and_congr_right fun _ => ⟨fun h u hu hdu => ?_, fun h u hu hdu => h u oM hdu⟩
   rcases Nat.lt_succ_iff_lt_or_eq.1 hu with h2 | rfl
   ·
    exact h u h2 hdu
   ·
    exact absurd hdu hd
theorem eq_of_le_iff {a b : Int} (h : ∀ x, x ≤ a ↔ x ≤ b) : a = b := Int.le_antisymm ((h a).1 (Int.le_refl _)) ((h b).2 (Int.le_refl _))
theorem readPts_eq (t : List Int) (l : List Pt) : readPts t l l.length = readP t l := pts_ext fun inn => by
 rw [hts_readP]
 refine list_ext_gi (by simp [hts_length, readPts, readT, walkL_length]) fun k hk => ?_
 have hk' : k < l.length := by simpa [hts_length, readPts] using hk
 have e : gp (readPts t l l.length) k = readPt t l k l.length := by rw [gp_eq (by simpa [readPts] using hk')]; simp [readPts]
 rw [gi_hts (by simpa [readPts] using hk'), e, readT, gi_walkL (by rw [hts_length]; exact hk')]
 refine eq_of_le_iff fun x => ?_
 rw [le_walkAt, gi_hts hk', hts_length]
 cases inn
 ·
  simp only [ofE, Bool.false_eq_true, if_false]
  rw [le_readPt]
  exact and_congr_right fun _ => ⟨fun h j hj hd => by rw [gi_hts hj]; exact h j hj hd, fun h j hj hd => by have := h j hj hd; rw [gi_hts hj] at this; exact this⟩
 ·
  simp only [ofE, if_true]
  have := readPt_le (t := t) (l := l) (i := k) (x := -x) l.length
  constructor
  ·
   intro h
   have h1 := this.1 oM
   exact ⟨by omega, fun j hj hd => by rw [gi_hts hj]; have := h1.2 j hj hd; simp only [ofE, if_true]; omega⟩
  ·
   rintro ⟨h1, h2⟩
   have := this.2 ⟨by omega, fun j hj hd => by have := h2 j hj hd; rw [gi_hts hj] at this; simp only [ofE, if_true] at this; omega⟩
   omega
end Go.Proofs.YtepkjobndmmejaaGreatDoor

namespace Go.Proofs.YtepkjobndmmejaaGreatDoor
open Go.RowKit Go.Dw
end Go.Proofs.YtepkjobndmmejaaGreatDoor
