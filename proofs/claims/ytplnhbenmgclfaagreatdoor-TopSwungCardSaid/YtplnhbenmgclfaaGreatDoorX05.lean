/-
  Several texts in one: The samples that are near, for values without addresses. No condition. .. The document's 'Sweep' is the program's. No condition but the sizes of slices.
-/
import Derived.Test.YtplnhbenmgclfaaGreatDoorMC
import Derived.Test.YtplnhbenmgclfaaGreatDoorMD
import Derived.Test.YtplnhbenmgclfaaGreatDoorX00
import Derived.Test.YtplnhbenmgclfaaGreatDoorX01
namespace Go.Proofs.YtplnhbenmgclfaaGreatDoor
open Go.Ab Go.RowKit Go.Dw Go.Shelf
set_option maxHeartbeats 1000000 in
theorem near_iter' (p1 p2 p3 : Addr) (i n r : Nat) (hi : i ≤ 65536) (hn : n ≤ 65536) (hr : r ≤ 65536) (w : World) (R : Nat → Prop) (l1 : p1.block < w.heap.size) (l2 : p2.block < w.heap.size) (l3 : p3.block < w.heap.size)
  (h1 : w.cell? p1 = some (.int .i64 i)) (h2 : w.cell? p2 = some (.int .i64 r)) (h3 : w.cell? p3 = some (.int .i64 n)) (r1 : ¬ R p1.block) (r2 : ¬ R p2.block) (r3 : ¬ R p3.block) :
  Iter Tryz.prog 129 #[.pointer (some p1), .pointer (some p2), .pointer (some p3)] (nearEs i n r) R w := by
 intro l J Jx W hT hl hlW hJ hJx hY h0
 have hb : ∀ wr, Tch (fun k => R k ∨ k = l) W wr → wr.cell? p1 = some (.int .i64 i) ∧ wr.cell? p2 = some (.int .i64 r) ∧ wr.cell? p3 = some (.int .i64 n) := fun wr ht =>
  ⟨((ht.cell (Nat.lt_of_lt_of_le l1 hT.size) (by rintro (e | e); exact r1 e; omega)).trans (hT.cell l1 r1)).trans h1, ((ht.cell (Nat.lt_of_lt_of_le l2 hT.size) (by rintro (e | e); exact r2 e; omega)).trans (hT.cell l2 r2)).trans h2,
   ((ht.cell (Nat.lt_of_lt_of_le l3 hT.size) (by rintro (e | e); exact r3 e; omega)).trans (hT.cell l3 r3)).trans h3⟩
 obtain ⟨c1, c2, c3⟩ := hb W (Tch.refl _ _)
 have e1 : max (0 : Int) ((i : Int) - (r : Int) + 1) = ((nearLo i r : Nat) : Int) := by unfold nearLo; omega
 refine callsIn_of_wp Tryz.func129 rfl trivial ?_ rfl
 simp only [Tryz.ntmps129, List.size_toArray, List.length_cons, List.length_nil, Nat.reduceAdd, Nat.reduceSub, Array.replicate_succ, Array.replicate_zero, List.push_toArray, List.append_toArray, List.nil_append, List.cons_append]
 gi_wp2
 gi_loopw [5] (fun u wr => ∃ k : Nat, k ≤ nearN i n r ∧ u = .int .i64 ((nearLo i r : Int) + (k : Int)) ∧ J k wr ∧ Tch (fun k => R k ∨ k = l) W wr) (fun u wr => n - (intOf u).toNat)
 case atStart => exact ⟨0, Nat.zero_le _, rfl, h0, Tch.refl _ _⟩
 case round =>
  obtain ⟨k, hk, rfl, hJk, hTk⟩ := hrel
  obtain ⟨d1, d2, d3⟩ := hb wr hTk
  have e2 : min (n : Int) ((i : Int) + (r : Int)) = ((min n (i + r) : Nat) : Int) := by omega
  by_cases hlt : k < nearN i n r
  ·
   obtain ⟨fn, tmps, assign, body, hy, hR⟩ := hY k (nearE i r k) wr (by simp [nearEs, hlt]) hTk.size hJk
   have e3 : max ((nearLo i r : Int) + (k : Int) - (i : Int)) ((i : Int) - ((nearLo i r : Int) + (k : Int))) = ((dist (nearLo i r + k) i : Nat) : Int) := by unfold dist; omega
   have hlt' : nearLo i r + k < min n (i + r) := by unfold nearN at hlt; omega
   unfold nearE at hy
   gi_wp2
   refine hR.mono ?_
   rintro e W2 ⟨bb, rfl, hT2, hJ2, hJ3⟩
   cases bb
   rotate_left
   ·
    gi_wp2
    go_roundw
    case rel => exact ⟨k + 1, by omega, by go_num, hJ2 (by simp), hTk.trans hT2⟩
    case measure => simp [intOf]; omega
   ·
    gi_wp2
    refine bodyPost_ret (results_none rfl _ _ _) rfl ?_
    exact ⟨⟨_, rfl⟩, .inr ⟨k, by simpa [nearEs] using hlt, hJ3 (by simp)⟩⟩
  ·
   have hge : min n (i + r) ≤ nearLo i r + k := by unfold nearN at hlt; omega
   have hk2 : k = nearN i n r := by omega
   subst hk2
   gi_wp2
   go_end0
   exact ⟨⟨_, rfl⟩, .inl (by simpa [nearEs] using hJk)⟩
def nearV (i n r : Nat) : List (List V) := (List.range (nearN i n r)).map fun k : Nat => [V.i ((nearLo i r : Int) + (k : Int)), V.i ((dist (nearLo i r + k) i : Nat) : Int)]
theorem near_ac (i n r : Int) : AC Tryz.prog 83 [.i i, .i n, .i r] (.fn (.func 129) [] [.ptr [.i i], .ptr [.i r], .ptr [.i n]]) [] := by
 refine ac_of_calls (enters_of Tryz.func83 kR rfl) fun L w vs hL hvs => ?_
 obtain ⟨vs⟩ := vs
 obtain ⟨x1, e1, q1⟩ := hvs.get (i := 0) rfl
 obtain ⟨x2, e2, q2⟩ := hvs.get (i := 1) rfl
 obtain ⟨x3, e3, q3⟩ := hvs.get (i := 2) rfl
 have hn := hvs.1
 obtain rfl : vs = [.int .i64 i, .int .i64 n, .int .i64 r] := by
  have := q1.c_inv; have := q2.c_inv; have := q3.c_inv
  subst x1 x2 x3
  match vs, hn with
  | [a, b, c], _ => simp at e1 e2 e3; subst e1 e2 e3; rfl
 refine (near_calls i n r w).mono ?_
 rintro e w' ⟨rfl, b1, b2, b3, hb, hs⟩
 refine ⟨_, rfl, hb, fun b => w.heap.size ≤ b ∧ b < w'.heap.size, fun b h => h, R.fn' .nil (.cons (R.ptr' (.inr ⟨Nat.le_refl _, b1.lt⟩) ?_) (.cons (R.ptr' (.inr ⟨by omega, b2.lt⟩) ?_) (.cons (R.ptr' (.inr ⟨by omega, b3.lt⟩) ?_) .nil)))⟩
 ·
  intro j u hu
  cases j with
  | zero => simp at hu; subst hu; exact ⟨_, b1.cell 0, rfl, .c _ _⟩
  | succ j => simp at hu
 ·
  intro j u hu
  cases j with
  | zero => simp at hu; subst hu; exact ⟨_, b2.cell 0, rfl, .c _ _⟩
  | succ j => simp at hu
 ·
  intro j u hu
  cases j with
  | zero => simp at hu; subst hu; exact ⟨_, b3.cell 0, rfl, .c _ _⟩
  | succ j => simp at hu
theorem near_aiter (i n r : Nat) (hi : i ≤ 65536) (hn : n ≤ 65536) (hr : r ≤ 65536) : AIter Tryz.prog 129 [.ptr [.i i], .ptr [.i r], .ptr [.i n]] (nearV i n r) := by
 refine ⟨enters_of Tryz.func129 kR rfl, fun L w lb hL hlb => ?_⟩
 refine ⟨nearEs i n r, by simp [nearEs, nearV], fun k v x hv hx => ?_, fun R hR => ?_⟩
 ·
  simp only [nearV, nearEs, List.getElem?_map, Option.map_eq_some_iff] at hv hx
  obtain ⟨k1, h1, rfl⟩ := hv
  obtain ⟨k2, h2, rfl⟩ := hx
  rw [h1] at h2; injection h2 with h2; subst h2
  exact .cons (.c _ _) (.cons (.c _ _) .nil)
 ·
  obtain ⟨lb⟩ := lb
  obtain ⟨x1, e1, q1⟩ := hlb.get (i := 0) rfl
  obtain ⟨x2, e2, q2⟩ := hlb.get (i := 1) rfl
  obtain ⟨x3, e3, q3⟩ := hlb.get (i := 2) rfl
  obtain ⟨b1, o1, rfl, hb1, hc1⟩ := q1.ptr_inv
  obtain ⟨b2, o2, rfl, hb2, hc2⟩ := q2.ptr_inv
  obtain ⟨b3, o3, rfl, hb3, hc3⟩ := q3.ptr_inv
  obtain ⟨y1, g1, _, t1⟩ := hc1 0 _ rfl
  obtain ⟨y2, g2, _, t2⟩ := hc2 0 _ rfl
  obtain ⟨y3, g3, _, t3⟩ := hc3 0 _ rfl
  rw [t1.c_inv] at g1
  rw [t2.c_inv] at g2
  rw [t3.c_inv] at g3
  have hlen := hlb.1
  obtain rfl : lb = [.pointer (some ⟨b1, o1, none⟩), .pointer (some ⟨b2, o2, none⟩), .pointer (some ⟨b3, o3, none⟩)] := by
   match lb, hlen with
   | [a, b, c], _ => simp at e1 e2 e3; subst e1 e2 e3; rfl
  exact near_iter' _ _ _ i n r hi hn hr w R (hL b1 hb1) (hL b2 hb2) (hL b3 hb3) g1 g2 g3 (fun h => (hR _ h).2 hb1) (fun h => (hR _ h).2 hb2) (fun h => (hR _ h).2 hb3)
end Go.Proofs.YtplnhbenmgclfaaGreatDoor

namespace Go.Proofs.YtplnhbenmgclfaaGreatDoor
open Go.Ab Go.RowKit Go.Dw Go.Shelf
theorem nearV_get {i n r j : Nat} {x : List V} (h : (nearV i n r)[j]? = some x) : j < nearN i n r ∧ [V.i ((nearLo i r : Int) + (j : Int)), V.i ((dist (nearLo i r + j) i : Nat) : Int)] = x := by
 unfold nearV at h
 rw [List.getElem?_map] at h
 by_cases hk : j < nearN i n r
 ·
  rw [List.getElem?_range hk] at h; exact ⟨hk, by simpa using h⟩
 ·
  rw [List.getElem?_eq_none (by simpa using hk)] at h; cases h
end Go.Proofs.YtplnhbenmgclfaaGreatDoor

namespace Go.Proofs.YtplnhbenmgclfaaGreatDoor
open Go.RowKit Go.Dw
def inK (a b : List Pt) (k : Nat) : Prop := (gp a k).2 ≤ (gp b k).2 ∧ (gp b k).1 ≤ (gp a k).1
def Inside (a b : List Pt) : Prop := a.length = b.length ∧ ∀ k, k < a.length → inK a b k
instance (a b : List Pt) : Decidable (Inside a b) := by unfold Inside inK; infer_instance
end Go.Proofs.YtplnhbenmgclfaaGreatDoor

namespace Go.Proofs.YtplnhbenmgclfaaGreatDoor
open Go.RowKit Go.Dw
def LeL (a b : List Int) : Prop := a.length = b.length ∧ ∀ k, k < a.length → gi a k ≤ gi b k
theorem LeL.refl (a : List Int) : LeL a a := ⟨rfl, fun _ _ => Int.le_refl _⟩
theorem LeL.trans {a b c : List Int} (h : LeL a b) (k : LeL b c) : LeL a c := ⟨h.1.trans k.1, fun i hi => Int.le_trans (h.2 i hi) (k.2 i (by rw [← h.1]; exact hi))⟩
theorem readP_length (t : List Int) (l : List Pt) : (readP t l).length = l.length := by simp [readP, wallsT, wallsP]
theorem checkBoth_of {t : List Int} {l : List Pt} (h : checkTip t = 0) (k : checkPts l = 0) : checkBoth t l = 0 := by rw [checkBoth, if_pos h]; exact k
end Go.Proofs.YtplnhbenmgclfaaGreatDoor

namespace Go.Proofs.YtplnhbenmgclfaaGreatDoor
open Go.RowKit Go.Dw
end Go.Proofs.YtplnhbenmgclfaaGreatDoor

namespace Go.Proofs.YtplnhbenmgclfaaGreatDoor
open Go.RowKit Go.Dw
end Go.Proofs.YtplnhbenmgclfaaGreatDoor

namespace Go.Proofs.YtplnhbenmgclfaaGreatDoor
open Go.RowKit Go.Dw
end Go.Proofs.YtplnhbenmgclfaaGreatDoor

namespace Go.Proofs.YtplnhbenmgclfaaGreatDoor
open Go.RowKit Go.Dw
end Go.Proofs.YtplnhbenmgclfaaGreatDoor
