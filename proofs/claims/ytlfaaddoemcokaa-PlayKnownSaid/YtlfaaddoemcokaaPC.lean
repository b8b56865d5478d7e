/-
  Several texts in one: The samples that are near, for values without addresses. No condition. .. More contracts of package play and of its laws' helpers, for values without addresses. No condition.
-/
import Derived.Test.YtlfaaddoemcokaaMC
import Derived.Test.YtlfaaddoemcokaaMD
import Derived.Test.YtlfaaddoemcokaaPlayA
import Derived.Test.YtlfaaddoemcokaaPlayG
import Derived.Test.YtlfaaddoemcokaaPlayN
import Derived.Test.YtlfaaddoemcokaaPlayS
namespace Go.Proofs.Ytlfaaddoemcokaa
open Go.Ab Go.RowKit Go.Dw Go.Shelf

set_option maxHeartbeats 1000000 in
theorem near_iter' (p1 p2 p3 : Addr) (i n r : Nat) (hi : i ≤ 65536) (hn : n ≤ 65536) (hr : r ≤ 65536) (w : World) (R : Nat → Prop) (l1 : p1.block < w.heap.size) (l2 : p2.block < w.heap.size) (l3 : p3.block < w.heap.size)
    (h1 : w.cell? p1 = some (.int .i64 i)) (h2 : w.cell? p2 = some (.int .i64 r)) (h3 : w.cell? p3 = some (.int .i64 n)) (r1 : ¬ R p1.block) (r2 : ¬ R p2.block) (r3 : ¬ R p3.block) :
    Iter Try.prog 100 #[.pointer (some p1), .pointer (some p2), .pointer (some p3)] (nearEs i n r) R w := by
  intro l J Jx W hT hl hlW hJ hJx hY h0
  have hb : ∀ wr, Tch (fun k => R k ∨ k = l) W wr → wr.cell? p1 = some (.int .i64 i) ∧ wr.cell? p2 = some (.int .i64 r) ∧ wr.cell? p3 = some (.int .i64 n) := fun wr ht =>
    ⟨((ht.cell (Nat.lt_of_lt_of_le l1 hT.size) (by rintro (e | e); exact r1 e; omega)).trans (hT.cell l1 r1)).trans h1, ((ht.cell (Nat.lt_of_lt_of_le l2 hT.size) (by rintro (e | e); exact r2 e; omega)).trans (hT.cell l2 r2)).trans h2,
      ((ht.cell (Nat.lt_of_lt_of_le l3 hT.size) (by rintro (e | e); exact r3 e; omega)).trans (hT.cell l3 r3)).trans h3⟩
  obtain ⟨c1, c2, c3⟩ := hb W (Tch.refl _ _)
  have e1 : max (0 : Int) ((i : Int) - (r : Int) + 1) = ((nearLo i r : Nat) : Int) := by unfold nearLo; omega
  refine callsIn_of_wp Try.func100 rfl trivial ?_ rfl
  simp only [Try.ntmps100, List.size_toArray, List.length_cons, List.length_nil, Nat.reduceAdd, Nat.reduceSub, Array.replicate_succ, Array.replicate_zero, List.push_toArray, List.append_toArray, List.nil_append, List.cons_append]
  gi_wp2
  gi_loopw [5] (fun u wr => ∃ k : Nat, k ≤ nearN i n r ∧ u = .int .i64 ((nearLo i r : Int) + (k : Int)) ∧ J k wr ∧ Tch (fun k => R k ∨ k = l) W wr) (fun u wr => n - (intOf u).toNat)
  case atStart => exact ⟨0, Nat.zero_le _, rfl, h0, Tch.refl _ _⟩
  case round =>
    obtain ⟨k, hk, rfl, hJk, hTk⟩ := hrel
    obtain ⟨d1, d2, d3⟩ := hb wr hTk
    have e2 : min (n : Int) ((i : Int) + (r : Int)) = ((min n (i + r) : Nat) : Int) := by omega
    by_cases hlt : k < nearN i n r
    · obtain ⟨fn, tmps, assign, body, hy, hR⟩ := hY k (nearE i r k) wr (by simp [nearEs, hlt]) hTk.size hJk
      have e3 : max ((nearLo i r : Int) + (k : Int) - (i : Int)) ((i : Int) - ((nearLo i r : Int) + (k : Int))) = ((dist (nearLo i r + k) i : Nat) : Int) := by unfold dist; omega
      have hlt' : nearLo i r + k < min n (i + r) := by unfold nearN at hlt; omega
      unfold nearE at hy
      gi_wp2
      refine hR.mono ?_
      rintro e W2 ⟨bb, rfl, hT2, hJ2, hJ3⟩
      cases bb
      rotate_left
      · gi_wp2
        go_roundw
        case rel => exact ⟨k + 1, by omega, by go_num, hJ2 (by simp), hTk.trans hT2⟩
        case measure => simp [intOf]; omega
      · gi_wp2
        refine bodyPost_ret (results_none rfl _ _ _) rfl ?_
        exact ⟨⟨_, rfl⟩, .inr ⟨k, by simpa [nearEs] using hlt, hJ3 (by simp)⟩⟩
    · have hge : min n (i + r) ≤ nearLo i r + k := by unfold nearN at hlt; omega
      have hk2 : k = nearN i n r := by omega
      subst hk2
      gi_wp2
      go_end0
      exact ⟨⟨_, rfl⟩, .inl (by simpa [nearEs] using hJk)⟩

def nearV (i n r : Nat) : List (List V) := (List.range (nearN i n r)).map fun k : Nat => [V.i ((nearLo i r : Int) + (k : Int)), V.i ((dist (nearLo i r + k) i : Nat) : Int)]
theorem near_ac (i n r : Int) : AC Try.prog 77 [.i i, .i n, .i r] (.fn (.func 100) [] [.ptr [.i i], .ptr [.i r], .ptr [.i n]]) [] := by
  refine ac_of_calls (enters_of Try.func77 (by kernel_rfl) rfl) fun L w vs hL hvs => ?_
  obtain ⟨vs⟩ := vs
  obtain ⟨x1, e1, q1⟩ := hvs.get (i := 0) rfl
  obtain ⟨x2, e2, q2⟩ := hvs.get (i := 1) rfl
  obtain ⟨x3, e3, q3⟩ := hvs.get (i := 2) rfl
  have hn := hvs.1
  obtain rfl : vs = [.int .i64 i, .int .i64 n, .int .i64 r] := by
    have := q1.c_inv; have := q2.c_inv; have := q3.c_inv
    subst x1 x2 x3
    match vs, hn with
    | [a, b, c], _ => simp at e1 e2 e3; subst e1 e2 e3; rfl
  refine (near_calls i n r w).mono ?_
  rintro e w' ⟨rfl, b1, b2, b3, hb, hs⟩
  refine ⟨_, rfl, hb, fun b => w.heap.size ≤ b ∧ b < w'.heap.size, fun b h => h, R.fn' .nil (.cons (R.ptr' (.inr ⟨Nat.le_refl _, b1.lt⟩) ?_) (.cons (R.ptr' (.inr ⟨by omega, b2.lt⟩) ?_) (.cons (R.ptr' (.inr ⟨by omega, b3.lt⟩) ?_) .nil)))⟩
  · intro j u hu
    cases j with
    | zero => simp at hu; subst hu; exact ⟨_, b1.cell 0, rfl, .c _ _⟩
    | succ j => simp at hu
  · intro j u hu
    cases j with
    | zero => simp at hu; subst hu; exact ⟨_, b2.cell 0, rfl, .c _ _⟩
    | succ j => simp at hu
  · intro j u hu
    cases j with
    | zero => simp at hu; subst hu; exact ⟨_, b3.cell 0, rfl, .c _ _⟩
    | succ j => simp at hu
theorem near_aiter (i n r : Nat) (hi : i ≤ 65536) (hn : n ≤ 65536) (hr : r ≤ 65536) : AIter Try.prog 100 [.ptr [.i i], .ptr [.i r], .ptr [.i n]] (nearV i n r) := by
  refine ⟨enters_of Try.func100 (by kernel_rfl) rfl, fun L w lb hL hlb => ?_⟩
  refine ⟨nearEs i n r, by simp [nearEs, nearV], fun k v x hv hx => ?_, fun R hR => ?_⟩
  · simp only [nearV, nearEs, List.getElem?_map, Option.map_eq_some_iff] at hv hx
    obtain ⟨k1, h1, rfl⟩ := hv
    obtain ⟨k2, h2, rfl⟩ := hx
    rw [h1] at h2; injection h2 with h2; subst h2
    exact .cons (.c _ _) (.cons (.c _ _) .nil)
  · obtain ⟨lb⟩ := lb
    obtain ⟨x1, e1, q1⟩ := hlb.get (i := 0) rfl
    obtain ⟨x2, e2, q2⟩ := hlb.get (i := 1) rfl
    obtain ⟨x3, e3, q3⟩ := hlb.get (i := 2) rfl
    obtain ⟨b1, o1, rfl, hb1, hc1⟩ := q1.ptr_inv
    obtain ⟨b2, o2, rfl, hb2, hc2⟩ := q2.ptr_inv
    obtain ⟨b3, o3, rfl, hb3, hc3⟩ := q3.ptr_inv
    obtain ⟨y1, g1, _, t1⟩ := hc1 0 _ rfl
    obtain ⟨y2, g2, _, t2⟩ := hc2 0 _ rfl
    obtain ⟨y3, g3, _, t3⟩ := hc3 0 _ rfl
    rw [t1.c_inv] at g1
    rw [t2.c_inv] at g2
    rw [t3.c_inv] at g3
    have hlen := hlb.1
    obtain rfl : lb = [.pointer (some ⟨b1, o1, none⟩), .pointer (some ⟨b2, o2, none⟩), .pointer (some ⟨b3, o3, none⟩)] := by
      match lb, hlen with
      | [a, b, c], _ => simp at e1 e2 e3; subst e1 e2 e3; rfl
    exact near_iter' _ _ _ i n r hi hn hr w R (hL b1 hb1) (hL b2 hb2) (hL b3 hb3) g1 g2 g3 (fun h => (hR _ h).2 hb1) (fun h => (hR _ h).2 hb2) (fun h => (hR _ h).2 hb3)
end Go.Proofs.Ytlfaaddoemcokaa

namespace Go.Proofs.Ytlfaaddoemcokaa
open Go.Ab Go.RowKit Go.Dw Go.Shelf

def missB (t : List Int) (l : List Pt) (i u : Nat) : Bool := decide (dist u i < t.length) && (decide ((gp l i).2 > (gp l u).2 + gi t (dist u i)) || decide ((gp l i).1 < (gp l u).1 - gi t (dist u i)))
def missRow (t : List Int) (l : List Pt) (i : Nat) : Option Nat := (List.range l.length).find? (missB t l i)
def missP (t : List Int) (l : List Pt) : Option (Nat × Nat) := (List.range l.length).findSome? fun i => (missRow t l i).map fun u => (i, u)
theorem find_first {p : Nat → Bool} {n k : Nat} (hk : k < n) (hp : p k = true) (h : ∀ j, j < k → p j = false) : (List.range n).find? p = some k := by
  rw [List.find?_range_eq_some]
  exact ⟨hp, by simpa using hk, fun j hj => by simp [h j hj]⟩
theorem find_none {p : Nat → Bool} {n : Nat} (h : ∀ j, j < n → p j = false) : (List.range n).find? p = none := by
  rw [List.find?_eq_none]
  intro x hx
  simp [h x (by simpa using hx)]
theorem findSome_first {β : Type} {f : Nat → Option β} {n k : Nat} {y : β} (hk : k < n) (hp : f k = some y) (h : ∀ j, j < k → f j = none) : (List.range n).findSome? f = some y := by
  induction n with
  | zero => omega
  | succ n ih =>
    rw [List.range_succ, List.findSome?_append]
    by_cases he : k = n
    · subst he
      have : (List.range k).findSome? f = none := by
        rw [List.findSome?_eq_none_iff]
        intro x hx
        exact h x (by simpa using hx)
      simp [this, hp]
    · simp [ih (by omega)]
theorem findSome_none {β : Type} {f : Nat → Option β} {n : Nat} (h : ∀ j, j < n → f j = none) : (List.range n).findSome? f = none := by
  rw [List.findSome?_eq_none_iff]
  intro x hx
  exact h x (by simpa using hx)
def missI (t : List Int) (l : List Pt) : Int × Int × Int := match missP t l with
  | some p => ((p.1 : Int), (p.2 : Int), 0)
  | none => (0, 0, 5)
theorem missI_some {t : List Int} {l : List Pt} {i u : Nat} (hi : i < l.length) (hu : u < l.length) (h : missB t l i u = true) (h1 : ∀ j, j < u → missB t l i j = false) (h2 : ∀ j, j < i → missRow t l j = none) : missI t l = ((i : Int), (u : Int), 0) := by
  have e1 : missRow t l i = some u := find_first hu h h1
  have e2 : missP t l = some (i, u) := findSome_first hi (by rw [e1]; rfl) fun j hj => by rw [h2 j hj]; rfl
  rw [missI, e2]
theorem missI_none {t : List Int} {l : List Pt} (h2 : ∀ j, j < l.length → missRow t l j = none) : missI t l = (0, 0, 5) := by
  have e2 : missP t l = none := findSome_none fun j hj => by rw [h2 j hj]; rfl
  rw [missI, e2]

theorem gp_bd {l : List Pt} (h : ∀ p ∈ l, -4194304 ≤ p.1 ∧ p.1 ≤ 4194304 ∧ -4194304 ≤ p.2 ∧ p.2 ≤ 4194304) (k : Nat) : -4194304 ≤ (gp l k).1 ∧ (gp l k).1 ≤ 4194304 ∧ -4194304 ≤ (gp l k).2 ∧ (gp l k).2 ≤ 4194304 := by
  by_cases hk : k < l.length
  · exact h _ (gp_mem hk)
  · simp [gp, List.getD_eq_getElem?_getD, List.getElem?_eq_none (Nat.le_of_not_lt hk)]
theorem gi_bd {l : List Int} (h : ∀ x ∈ l, 0 ≤ x ∧ x ≤ 4194304) (k : Nat) : 0 ≤ gi l k ∧ gi l k ≤ 4194304 := by
  by_cases hk : k < l.length
  · exact h _ (gi_mem hk)
  · simp [gi, List.getD_eq_getElem?_getD, List.getElem?_eq_none (Nat.le_of_not_lt hk)]
theorem nearV_get {i n r j : Nat} {x : List V} (h : (nearV i n r)[j]? = some x) : j < nearN i n r ∧ [V.i ((nearLo i r : Int) + (j : Int)), V.i ((dist (nearLo i r + j) i : Nat) : Int)] = x := by
  unfold nearV at h
  rw [List.getElem?_map] at h
  by_cases hk : j < nearN i n r
  · rw [List.getElem?_range hk] at h; exact ⟨hk, by simpa using h⟩
  · rw [List.getElem?_eq_none (by simpa using hk)] at h; cases h

set_option maxRecDepth 100000 in
theorem miss_ac (t : List Int) (l : List Pt) (h0 : checkBoth t l = 0) : AC Try.prog 70 [.agg [V.ints t], V.pts l] (.tup [.i (missI t l).1, .i (missI t l).2.1, .i (missI t l).2.2]) [] := by
  obtain ⟨k1, k2⟩ := checkBoth_ok h0
  obtain ⟨m1, m2, _, _, m3⟩ := checkTip_ok k1
  obtain ⟨m4, m5⟩ := checkPts_ok k2
  refine ac_intro hTT hMX (fn := Try.f70) (N := _) ⟨Try.func70, rfl, Try.ntmps70, by kernel_rfl⟩ (by simp) fun C hC hF => ?_
  refine aw_seq_k fun K hK => ?_
  refine w_region (n' := 2) (by kernel_rfl) (by kernel_rfl) ?_
  refine aops_n hTT (M := []) (n := 5) [pv (2 : Nat) (V.ptr [V.sl (1 : Nat) (List.length t) fun (k : Nat) => [V.i (gi t k)]]), pv (3 : Nat) (V.ptr [V.sl (2 : Nat) (List.length l) fun (k : Nat) => [V.i (Prod.fst (gp l k)), V.i (Prod.snd (gp l k))]]), pn (4 : Nat) (V.ref (100004 : Nat) (0 : Nat)) (100004 : Nat) (Ob.box (3 : Nat) [V.i (0 : Int)]), pn (5 : Nat) (V.ref (100005 : Nat) (0 : Nat)) (100005 : Nat) (Ob.box (3 : Nat) [V.i (0 : Int)]), pn (6 : Nat) (V.ref (100006 : Nat) (0 : Nat)) (100006 : Nat) (Ob.box (30 : Nat) [V.i (0 : Int)])] (by kernel_rfl) (by kernel_rfl) True.intro ?_
  refine aops_nil ?_
  refine xt_n ?_
  refine hK _ ?_
  clear hK K
  refine aw_seq_k fun K hK => ?_
  refine aw_seq_k fun K hK => ?_
  refine w_region (n' := 3) (by kernel_rfl) (by kernel_rfl) ?_
  refine aops_n hTT (M := []) (n := 3) [pv (11 : Nat) (V.sl (2 : Nat) (List.length l) fun (k : Nat) => [V.i (Prod.fst (gp l k)), V.i (Prod.snd (gp l k))]), pv (12 : Nat) (V.i (↑(List.length l) : Int)), pv (13 : Nat) (V.i (0 : Int))] (by kernel_rfl) (by kernel_rfl) True.intro ?_
  refine aops_nil ?_
  refine xt_n ?_
  refine hK _ ?_
  clear hK K
  refine aw_block ?_
  refine w_loop (fun k : Nat => [(2, .ptr [V.ints t]), (3, .ptr [V.pts l]), (4, .ref 4 0), (5, .ref 5 0), (6, .ref 6 0), (11, V.pts l), (12, .i l.length), (13, .i k)]) (fun k => [(4, .box 3 [.i 0]), (5, .box 3 [.i 0]), (6, .box 30 [.i 0])]) (fun k => k ≤ l.length ∧ ∀ i, i < k → missRow t l i = none) (fun k => l.length - k) 0 ⟨Nat.zero_le _, fun i hi => by omega⟩ ?_ ?_
  · exact le_ren [(4, _), (5, _), (6, _)] (.cons rfl (.cons rfl (.cons rfl (.cons rfl (.cons rfl (.cons rfl (.cons rfl (.cons rfl .nil)))))))) (.cons ⟨_, rfl, .box rfl⟩ (.cons ⟨_, rfl, .box rfl⟩ (.cons ⟨_, rfl, .box rfl⟩ .nil))) rfl rfl
  rintro k ⟨hk, hrow⟩
  refine aw_seq_k fun K hK => ?_
  refine w_region (n' := 2) (by kernel_rfl) (by kernel_rfl) ?_
  refine aops_n hTT (M := []) (n := 1) [pv (14 : Nat) (V.b (decide ((↑k : Int) < (↑(List.length l) : Int))))] (by kernel_rfl) (by kernel_rfl) True.intro ?_
  refine aops_nil ?_
  refine xt_n ?_
  refine hK _ ?_
  clear hK K
  refine aw_seq_k fun K hK => ?_
  refine w_cond rfl (fun h => ?_) (fun h => ?_)
  · simp at h
    refine aw_skip ?_
    refine xt_n ?_
    refine hK _ ?_
    clear hK K
    refine aw_seq_k fun K hK => ?_
    refine aw_block ?_
    refine aw_seq_k fun K hK => ?_
    refine w_region (n' := 3) (by kernel_rfl) (by kernel_rfl) ?_
    refine aops_n hTT (M := []) (n := 7) [pv (15 : Nat) (V.i (↑k : Int)), pc (16 : Nat) ((0 : Int) ≤ (↑k : Int) ∧ (↑k : Int) < (↑(List.length l) : Int)) (V.ptr [V.i (Prod.fst (gp l k)), V.i (Prod.snd (gp l k))]), pv (17 : Nat) (V.agg [V.i (Prod.fst (gp l k)), V.i (Prod.snd (gp l k))]), pn (7 : Nat) (V.ref (200007 : Nat) (0 : Nat)) (200007 : Nat) (Ob.box (3 : Nat) [V.i (0 : Int)]), pn (8 : Nat) (V.ref (200008 : Nat) (0 : Nat)) (200008 : Nat) (Ob.box (29 : Nat) [V.i (0 : Int), V.i (0 : Int)]), pw ((0 : Nat) + (1 : Nat) ≤ (1 : Nat)) (200007 : Nat) (Ob.box (3 : Nat) [V.i (↑k : Int)]), pw ((0 : Nat) + (2 : Nat) ≤ (2 : Nat)) (200008 : Nat) (Ob.box (29 : Nat) [V.i (Prod.fst (gp l k)), V.i (Prod.snd (gp l k))])] (by kernel_rfl) (by kernel_rfl) ⟨(by omega), (by omega), (by omega), True.intro⟩ ?_
    refine aops_nil ?_
    refine xt_n ?_
    refine hK _ ?_
    clear hK K
    refine aw_seq_k fun K hK => ?_
    refine w_region (n' := 4) (by kernel_rfl) (by kernel_rfl) ?_
    refine aops_n hTT (M := []) (n := 6) [pc (18 : Nat) ((0 : Nat) ≤ (1 : Nat)) (V.i (↑k : Int)), pv (19 : Nat) (V.sl (2 : Nat) (List.length l) fun (k : Nat) => [V.i (Prod.fst (gp l k)), V.i (Prod.snd (gp l k))]), pv (20 : Nat) (V.i (↑(List.length l) : Int)), pv (21 : Nat) (V.ptr [V.sl (1 : Nat) (List.length t) fun (k : Nat) => [V.i (gi t k)]]), pv (22 : Nat) (V.sl (1 : Nat) (List.length t) fun (k : Nat) => [V.i (gi t k)]), pv (23 : Nat) (V.i (↑(List.length t) : Int))] (by kernel_rfl) (by kernel_rfl) ⟨(by omega), True.intro⟩ ?_
    refine e_call (near_ac k l.length t.length) rfl rfl rfl rfl rfl ?_
    refine aops_nil ?_
    refine xt_n ?_
    refine hK _ ?_
    clear hK K
    refine aw_block ?_
    refine w_le (le_freezeBox (t := 3) (cs := [V.i k]) 200007 rfl rfl) ?_
    refine w_le (le_freezeBox (t := 29) (cs := [V.i (gp l k).1, V.i (gp l k).2]) 200008 rfl rfl) ?_
    refine w_range hF hC (near_aiter k l.length t.length (by omega) (by omega) (by omega)) rfl rfl ?_ rfl [504, 505, 506] [(504, 4), (505, 5), (506, 6)]
      [(2, .ptr [V.ints t]), (3, .ptr [V.pts l]), (4, .ref 504 0), (5, .ref 505 0), (6, .ref 506 0), (7, .ptr [.i k]), (8, .ptr [.i (gp l k).1, .i (gp l k).2]), (11, V.pts l), (12, .i l.length), (13, .i k)]
      (fun j => ∀ j', j' < j → missB t l k (nearLo k t.length + j') = false) (fun _ => [.box 3 [.i 0], .box 3 [.i 0], .box 30 [.i 0]])
      (fun j c sx => c = .ret ∧ ∃ u, u < l.length ∧ missB t l k u = true ∧ (∀ j', j' < u → missB t l k j' = false) ∧ sx = [.box 3 [.i k], .box 3 [.i u], .box 30 [.i 0]])
      (fun j' hj => by omega) rfl rfl rfl ?_ ?_ rfl ?_ ?_ ?_ ?_ ?_
    · intro x hx
      simp only [nearV, List.mem_map] at hx
      obtain ⟨j, _, rfl⟩ := hx
      rfl
    · exact .cons rfl (.cons rfl (.cons rfl (.cons rfl (.cons rfl (.cons rfl (.cons rfl (.cons rfl (.cons rfl (.cons rfl .nil)))))))))
    · exact .cons ⟨_, rfl, .box rfl⟩ (.cons ⟨_, rfl, .box rfl⟩ (.cons ⟨_, rfl, .box rfl⟩ .nil))
    · intro _ o ho
      simp at ho
      rcases ho with rfl | rfl | rfl <;> rfl
    · rintro j c sx ⟨_, u, _, _, _, rfl⟩ o ho
      simp at ho
      rcases ho with rfl | rfl | rfl <;> rfl
    · rintro C' ⟨lx, hF'⟩ j x hx hok
      obtain ⟨hj, rfl⟩ := nearV_get hx
      have hu : nearLo k t.length + j < l.length := by unfold nearN at hj; omega
      have hd : dist (nearLo k t.length + j) k < t.length := by unfold nearN nearLo dist at *; omega
      have b0 := gp_bd m5 k
      have b1 := gp_bd m5 (nearLo k t.length + j)
      have b2 := gi_bd m3 (dist (nearLo k t.length + j) k)
      refine aw_seq_k fun K hK => ?_
      refine w_region (n' := 2) (by kernel_rfl) (by kernel_rfl) ?_
      refine aops_n hTT (M := []) (n := 1) [pv (9 : Nat) (V.i ((↑(nearLo k (List.length t)) : Int) + (↑j : Int)))] (by kernel_rfl) (by kernel_rfl) True.intro ?_
      refine aops_nil ?_
      refine xt_n ?_
      refine hK _ ?_
      clear hK K
      refine w_region (n' := 3) (by kernel_rfl) (by kernel_rfl) ?_
      refine aops_n hTT (M := []) (n := 1) [pv (10 : Nat) (V.i (↑(dist (nearLo k (List.length t) + j) k) : Int))] (by kernel_rfl) (by kernel_rfl) True.intro ?_
      refine aops_nil ?_
      refine xt_n ?_
      refine aw_block ?_
      refine aw_seq_k fun K hK => ?_
      refine w_regionD (n' := 4) (by kernel_rfl) (by kernel_rfl) ?_
      refine aops_n hTT (M := []) (n := 30) [pv (27 : Nat) (V.ptr [V.i (Prod.snd (gp l k))]), pv (28 : Nat) (V.i (Prod.snd (gp l k))), pv (29 : Nat) (V.sl (2 : Nat) (List.length l) fun (k : Nat) => [V.i (Prod.fst (gp l k)), V.i (Prod.snd (gp l k))]), pv (30 : Nat) (V.i ((↑(nearLo k (List.length t)) : Int) + (↑j : Int))), pc (31 : Nat) ((0 : Int) ≤ (↑(nearLo k (List.length t)) : Int) + (↑j : Int) ∧ (↑(nearLo k (List.length t)) : Int) + (↑j : Int) < (↑(List.length l) : Int)) (V.ptr [V.i (Prod.fst (gp l (nearLo k (List.length t) + j))), V.i (Prod.snd (gp l (nearLo k (List.length t) + j)))]), pv (32 : Nat) (V.ptr [V.i (Prod.snd (gp l (nearLo k (List.length t) + j)))]), pv (33 : Nat) (V.i (Prod.snd (gp l (nearLo k (List.length t) + j)))), pv (34 : Nat) (V.ptr [V.sl (1 : Nat) (List.length t) fun (k : Nat) => [V.i (gi t k)]]), pv (35 : Nat) (V.sl (1 : Nat) (List.length t) fun (k : Nat) => [V.i (gi t k)]), pv (36 : Nat) (V.i (↑(dist (nearLo k (List.length t) + j) k) : Int)), pc (37 : Nat) ((0 : Int) ≤ (↑(dist (nearLo k (List.length t) + j) k) : Int) ∧ (↑(dist (nearLo k (List.length t) + j) k) : Int) < (↑(List.length t) : Int)) (V.ptr [V.i (gi t (dist (nearLo k (List.length t) + j) k))]), pv (38 : Nat) (V.i (gi t (dist (nearLo k (List.length t) + j) k))), pc (39 : Nat) ((-9223372036854775808 : Int) ≤ Prod.snd (gp l (nearLo k (List.length t) + j)) + gi t (dist (nearLo k (List.length t) + j) k) ∧ Prod.snd (gp l (nearLo k (List.length t) + j)) + gi t (dist (nearLo k (List.length t) + j) k) ≤ (9223372036854775807 : Int)) (V.i (Prod.snd (gp l (nearLo k (List.length t) + j)) + gi t (dist (nearLo k (List.length t) + j) k))), pv (40 : Nat) (V.b (decide (Prod.snd (gp l (nearLo k (List.length t) + j)) + gi t (dist (nearLo k (List.length t) + j) k) < Prod.snd (gp l k)))), pv (41 : Nat) (V.b (decide (Prod.snd (gp l (nearLo k (List.length t) + j)) + gi t (dist (nearLo k (List.length t) + j) k) < Prod.snd (gp l k)))), pc (42 : Nat) ((True ∧ True) ∧ ((decide (Prod.snd (gp l (nearLo k (List.length t) + j)) + gi t (dist (nearLo k (List.length t) + j) k) < Prod.snd (gp l k)) == false) = true → True)) (V.gd (decide (Prod.snd (gp l (nearLo k (List.length t) + j)) + gi t (dist (nearLo k (List.length t) + j) k) < Prod.snd (gp l k)) == false) (V.ptr [V.i (Prod.fst (gp l k)), V.i (Prod.snd (gp l k))])), pc (43 : Nat) ((((decide (Prod.snd (gp l (nearLo k (List.length t) + j)) + gi t (dist (nearLo k (List.length t) + j) k) < Prod.snd (gp l k)) == false) = true → (decide (Prod.snd (gp l (nearLo k (List.length t) + j)) + gi t (dist (nearLo k (List.length t) + j) k) < Prod.snd (gp l k)) == false) = true) ∧ True) ∧ ((decide (Prod.snd (gp l (nearLo k (List.length t) + j)) + gi t (dist (nearLo k (List.length t) + j) k) < Prod.snd (gp l k)) == false) = true → True)) (V.gd (decide (Prod.snd (gp l (nearLo k (List.length t) + j)) + gi t (dist (nearLo k (List.length t) + j) k) < Prod.snd (gp l k)) == false) (V.i (Prod.fst (gp l k)))), pc (44 : Nat) ((True ∧ True) ∧ ((decide (Prod.snd (gp l (nearLo k (List.length t) + j)) + gi t (dist (nearLo k (List.length t) + j) k) < Prod.snd (gp l k)) == false) = true → True)) (V.gd (decide (Prod.snd (gp l (nearLo k (List.length t) + j)) + gi t (dist (nearLo k (List.length t) + j) k) < Prod.snd (gp l k)) == false) (V.sl (2 : Nat) (List.length l) fun (k : Nat) => [V.i (Prod.fst (gp l k)), V.i (Prod.snd (gp l k))])), pc (45 : Nat) ((True ∧ True) ∧ ((decide (Prod.snd (gp l (nearLo k (List.length t) + j)) + gi t (dist (nearLo k (List.length t) + j) k) < Prod.snd (gp l k)) == false) = true → True)) (V.gd (decide (Prod.snd (gp l (nearLo k (List.length t) + j)) + gi t (dist (nearLo k (List.length t) + j) k) < Prod.snd (gp l k)) == false) (V.i ((↑(nearLo k (List.length t)) : Int) + (↑j : Int)))), pc (46 : Nat) ((((decide (Prod.snd (gp l (nearLo k (List.length t) + j)) + gi t (dist (nearLo k (List.length t) + j) k) < Prod.snd (gp l k)) == false) = true → (decide (Prod.snd (gp l (nearLo k (List.length t) + j)) + gi t (dist (nearLo k (List.length t) + j) k) < Prod.snd (gp l k)) == false) = true) ∧ ((decide (Prod.snd (gp l (nearLo k (List.length t) + j)) + gi t (dist (nearLo k (List.length t) + j) k) < Prod.snd (gp l k)) == false) = true → (decide (Prod.snd (gp l (nearLo k (List.length t) + j)) + gi t (dist (nearLo k (List.length t) + j) k) < Prod.snd (gp l k)) == false) = true) ∧ True) ∧ ((decide (Prod.snd (gp l (nearLo k (List.length t) + j)) + gi t (dist (nearLo k (List.length t) + j) k) < Prod.snd (gp l k)) == false) = true → (0 : Int) ≤ (↑(nearLo k (List.length t)) : Int) + (↑j : Int) ∧ (↑(nearLo k (List.length t)) : Int) + (↑j : Int) < (↑(List.length l) : Int))) (V.gd (decide (Prod.snd (gp l (nearLo k (List.length t) + j)) + gi t (dist (nearLo k (List.length t) + j) k) < Prod.snd (gp l k)) == false) (V.ptr [V.i (Prod.fst (gp l (nearLo k (List.length t) + j))), V.i (Prod.snd (gp l (nearLo k (List.length t) + j)))])), pc (47 : Nat) ((((decide (Prod.snd (gp l (nearLo k (List.length t) + j)) + gi t (dist (nearLo k (List.length t) + j) k) < Prod.snd (gp l k)) == false) = true → (decide (Prod.snd (gp l (nearLo k (List.length t) + j)) + gi t (dist (nearLo k (List.length t) + j) k) < Prod.snd (gp l k)) == false) = true) ∧ True) ∧ ((decide (Prod.snd (gp l (nearLo k (List.length t) + j)) + gi t (dist (nearLo k (List.length t) + j) k) < Prod.snd (gp l k)) == false) = true → True)) (V.gd (decide (Prod.snd (gp l (nearLo k (List.length t) + j)) + gi t (dist (nearLo k (List.length t) + j) k) < Prod.snd (gp l k)) == false) (V.ptr [V.i (Prod.fst (gp l (nearLo k (List.length t) + j))), V.i (Prod.snd (gp l (nearLo k (List.length t) + j)))])), pc (48 : Nat) ((((decide (Prod.snd (gp l (nearLo k (List.length t) + j)) + gi t (dist (nearLo k (List.length t) + j) k) < Prod.snd (gp l k)) == false) = true → (decide (Prod.snd (gp l (nearLo k (List.length t) + j)) + gi t (dist (nearLo k (List.length t) + j) k) < Prod.snd (gp l k)) == false) = true) ∧ True) ∧ ((decide (Prod.snd (gp l (nearLo k (List.length t) + j)) + gi t (dist (nearLo k (List.length t) + j) k) < Prod.snd (gp l k)) == false) = true → True)) (V.gd (decide (Prod.snd (gp l (nearLo k (List.length t) + j)) + gi t (dist (nearLo k (List.length t) + j) k) < Prod.snd (gp l k)) == false) (V.i (Prod.fst (gp l (nearLo k (List.length t) + j))))), pc (49 : Nat) ((True ∧ True) ∧ ((decide (Prod.snd (gp l (nearLo k (List.length t) + j)) + gi t (dist (nearLo k (List.length t) + j) k) < Prod.snd (gp l k)) == false) = true → True)) (V.gd (decide (Prod.snd (gp l (nearLo k (List.length t) + j)) + gi t (dist (nearLo k (List.length t) + j) k) < Prod.snd (gp l k)) == false) (V.ptr [V.sl (1 : Nat) (List.length t) fun (k : Nat) => [V.i (gi t k)]])), pc (50 : Nat) ((((decide (Prod.snd (gp l (nearLo k (List.length t) + j)) + gi t (dist (nearLo k (List.length t) + j) k) < Prod.snd (gp l k)) == false) = true → (decide (Prod.snd (gp l (nearLo k (List.length t) + j)) + gi t (dist (nearLo k (List.length t) + j) k) < Prod.snd (gp l k)) == false) = true) ∧ True) ∧ ((decide (Prod.snd (gp l (nearLo k (List.length t) + j)) + gi t (dist (nearLo k (List.length t) + j) k) < Prod.snd (gp l k)) == false) = true → True)) (V.gd (decide (Prod.snd (gp l (nearLo k (List.length t) + j)) + gi t (dist (nearLo k (List.length t) + j) k) < Prod.snd (gp l k)) == false) (V.sl (1 : Nat) (List.length t) fun (k : Nat) => [V.i (gi t k)])), pc (51 : Nat) ((True ∧ True) ∧ ((decide (Prod.snd (gp l (nearLo k (List.length t) + j)) + gi t (dist (nearLo k (List.length t) + j) k) < Prod.snd (gp l k)) == false) = true → True)) (V.gd (decide (Prod.snd (gp l (nearLo k (List.length t) + j)) + gi t (dist (nearLo k (List.length t) + j) k) < Prod.snd (gp l k)) == false) (V.i (↑(dist (nearLo k (List.length t) + j) k) : Int))), pc (52 : Nat) ((((decide (Prod.snd (gp l (nearLo k (List.length t) + j)) + gi t (dist (nearLo k (List.length t) + j) k) < Prod.snd (gp l k)) == false) = true → (decide (Prod.snd (gp l (nearLo k (List.length t) + j)) + gi t (dist (nearLo k (List.length t) + j) k) < Prod.snd (gp l k)) == false) = true) ∧ ((decide (Prod.snd (gp l (nearLo k (List.length t) + j)) + gi t (dist (nearLo k (List.length t) + j) k) < Prod.snd (gp l k)) == false) = true → (decide (Prod.snd (gp l (nearLo k (List.length t) + j)) + gi t (dist (nearLo k (List.length t) + j) k) < Prod.snd (gp l k)) == false) = true) ∧ True) ∧ ((decide (Prod.snd (gp l (nearLo k (List.length t) + j)) + gi t (dist (nearLo k (List.length t) + j) k) < Prod.snd (gp l k)) == false) = true → (0 : Int) ≤ (↑(dist (nearLo k (List.length t) + j) k) : Int) ∧ (↑(dist (nearLo k (List.length t) + j) k) : Int) < (↑(List.length t) : Int))) (V.gd (decide (Prod.snd (gp l (nearLo k (List.length t) + j)) + gi t (dist (nearLo k (List.length t) + j) k) < Prod.snd (gp l k)) == false) (V.ptr [V.i (gi t (dist (nearLo k (List.length t) + j) k))])), pc (53 : Nat) ((((decide (Prod.snd (gp l (nearLo k (List.length t) + j)) + gi t (dist (nearLo k (List.length t) + j) k) < Prod.snd (gp l k)) == false) = true → (decide (Prod.snd (gp l (nearLo k (List.length t) + j)) + gi t (dist (nearLo k (List.length t) + j) k) < Prod.snd (gp l k)) == false) = true) ∧ True) ∧ ((decide (Prod.snd (gp l (nearLo k (List.length t) + j)) + gi t (dist (nearLo k (List.length t) + j) k) < Prod.snd (gp l k)) == false) = true → True)) (V.gd (decide (Prod.snd (gp l (nearLo k (List.length t) + j)) + gi t (dist (nearLo k (List.length t) + j) k) < Prod.snd (gp l k)) == false) (V.i (gi t (dist (nearLo k (List.length t) + j) k)))), pc (54 : Nat) ((((decide (Prod.snd (gp l (nearLo k (List.length t) + j)) + gi t (dist (nearLo k (List.length t) + j) k) < Prod.snd (gp l k)) == false) = true → (decide (Prod.snd (gp l (nearLo k (List.length t) + j)) + gi t (dist (nearLo k (List.length t) + j) k) < Prod.snd (gp l k)) == false) = true) ∧ ((decide (Prod.snd (gp l (nearLo k (List.length t) + j)) + gi t (dist (nearLo k (List.length t) + j) k) < Prod.snd (gp l k)) == false) = true → (decide (Prod.snd (gp l (nearLo k (List.length t) + j)) + gi t (dist (nearLo k (List.length t) + j) k) < Prod.snd (gp l k)) == false) = true) ∧ True) ∧ ((decide (Prod.snd (gp l (nearLo k (List.length t) + j)) + gi t (dist (nearLo k (List.length t) + j) k) < Prod.snd (gp l k)) == false) = true → (-9223372036854775808 : Int) ≤ Prod.fst (gp l (nearLo k (List.length t) + j)) - gi t (dist (nearLo k (List.length t) + j) k) ∧ Prod.fst (gp l (nearLo k (List.length t) + j)) - gi t (dist (nearLo k (List.length t) + j) k) ≤ (9223372036854775807 : Int))) (V.gd (decide (Prod.snd (gp l (nearLo k (List.length t) + j)) + gi t (dist (nearLo k (List.length t) + j) k) < Prod.snd (gp l k)) == false) (V.i (Prod.fst (gp l (nearLo k (List.length t) + j)) - gi t (dist (nearLo k (List.length t) + j) k)))), pc (55 : Nat) ((((decide (Prod.snd (gp l (nearLo k (List.length t) + j)) + gi t (dist (nearLo k (List.length t) + j) k) < Prod.snd (gp l k)) == false) = true → (decide (Prod.snd (gp l (nearLo k (List.length t) + j)) + gi t (dist (nearLo k (List.length t) + j) k) < Prod.snd (gp l k)) == false) = true) ∧ ((decide (Prod.snd (gp l (nearLo k (List.length t) + j)) + gi t (dist (nearLo k (List.length t) + j) k) < Prod.snd (gp l k)) == false) = true → (decide (Prod.snd (gp l (nearLo k (List.length t) + j)) + gi t (dist (nearLo k (List.length t) + j) k) < Prod.snd (gp l k)) == false) = true) ∧ True) ∧ ((decide (Prod.snd (gp l (nearLo k (List.length t) + j)) + gi t (dist (nearLo k (List.length t) + j) k) < Prod.snd (gp l k)) == false) = true → True)) (V.gd (decide (Prod.snd (gp l (nearLo k (List.length t) + j)) + gi t (dist (nearLo k (List.length t) + j) k) < Prod.snd (gp l k)) == false) (V.b (decide (Prod.fst (gp l k) < Prod.fst (gp l (nearLo k (List.length t) + j)) - gi t (dist (nearLo k (List.length t) + j) k))))), pc (56 : Nat) (True ∧ (decide (Prod.snd (gp l (nearLo k (List.length t) + j)) + gi t (dist (nearLo k (List.length t) + j) k) < Prod.snd (gp l k)) = false → (decide (Prod.snd (gp l (nearLo k (List.length t) + j)) + gi t (dist (nearLo k (List.length t) + j) k) < Prod.snd (gp l k)) == false) = true)) (V.b (decide (Prod.snd (gp l (nearLo k (List.length t) + j)) + gi t (dist (nearLo k (List.length t) + j) k) < Prod.snd (gp l k)) || decide (Prod.fst (gp l k) < Prod.fst (gp l (nearLo k (List.length t) + j)) - gi t (dist (nearLo k (List.length t) + j) k))))] (by kernel_rfl) (by kernel_rfl) ⟨(by omega), (by omega), (by omega), ⟨⟨True.intro, True.intro⟩, (fun _ => True.intro)⟩, ⟨⟨(by (exact fun h => h)), True.intro⟩, (fun _ => True.intro)⟩, ⟨⟨True.intro, True.intro⟩, (fun _ => True.intro)⟩, ⟨⟨True.intro, True.intro⟩, (fun _ => True.intro)⟩, ⟨⟨(by (exact fun h => h)), ⟨(by (exact fun h => h)), True.intro⟩⟩, (by (intro hg; simp at hg; omega))⟩, ⟨⟨(by (exact fun h => h)), True.intro⟩, (fun _ => True.intro)⟩, ⟨⟨(by (exact fun h => h)), True.intro⟩, (fun _ => True.intro)⟩, ⟨⟨True.intro, True.intro⟩, (fun _ => True.intro)⟩, ⟨⟨(by (exact fun h => h)), True.intro⟩, (fun _ => True.intro)⟩, ⟨⟨True.intro, True.intro⟩, (fun _ => True.intro)⟩, ⟨⟨(by (exact fun h => h)), ⟨(by (exact fun h => h)), True.intro⟩⟩, (by (intro hg; simp at hg; omega))⟩, ⟨⟨(by (exact fun h => h)), True.intro⟩, (fun _ => True.intro)⟩, ⟨⟨(by (exact fun h => h)), ⟨(by (exact fun h => h)), True.intro⟩⟩, (by (intro hg; simp at hg; omega))⟩, ⟨⟨(by (exact fun h => h)), ⟨(by (exact fun h => h)), True.intro⟩⟩, (fun _ => True.intro)⟩, ⟨True.intro, (by (intro h; rw [h]; rfl))⟩, True.intro⟩ ?_
      refine aops_nil ⟨by kernel_rfl, ?_⟩
      refine xt_n ?_
      refine hK _ ?_
      clear hK K
      refine w_cond rfl (fun hc => ?_) (fun hc => ?_)
      ·
        refine aw_seq_k fun K hK => ?_
        refine w_region (n' := 5) (by kernel_rfl) (by kernel_rfl) ?_
        refine aops_n hTT (M := []) (n := 5) [pv (57 : Nat) (V.i (↑k : Int)), pv (58 : Nat) (V.i ((↑(nearLo k (List.length t)) : Int) + (↑j : Int))), pw ((0 : Nat) + (1 : Nat) ≤ (1 : Nat)) (504 : Nat) (Ob.box (3 : Nat) [V.i (↑k : Int)]), pw ((0 : Nat) + (1 : Nat) ≤ (1 : Nat)) (505 : Nat) (Ob.box (3 : Nat) [V.i ((↑(nearLo k (List.length t)) : Int) + (↑j : Int))]), pw ((0 : Nat) + (1 : Nat) ≤ (1 : Nat)) (506 : Nat) (Ob.box (30 : Nat) [V.i (0 : Int)])] (by kernel_rfl) (by kernel_rfl) ⟨(by omega), (by omega), (by omega), True.intro⟩ ?_
        refine aops_nil ?_
        refine xt_n ?_
        refine hK _ ?_
        clear hK K
        refine aw_ret ?_
        refine xb_r ?_
        refine ⟨_, ⟨rfl, nearLo k t.length + j, hu, ?_, fun j' hj' => ?_, rfl⟩, le_ren [] .nil (.cons ⟨_, rfl, .box rfl⟩ (.cons ⟨_, rfl, .box rfl⟩ (.cons ⟨_, rfl, .box rfl⟩ .nil))) rfl rfl⟩
        · simp only [missB, hd, decide_true, Bool.true_and]
          exact hc
        · by_cases hlo : j' < nearLo k t.length
          · have : ¬ dist j' k < t.length := by unfold nearLo dist at *; omega
            simp [missB, this]
          · have := hok (j' - nearLo k t.length) (by omega)
            rwa [show nearLo k t.length + (j' - nearLo k t.length) = j' by omega] at this
      ·
        refine aw_skip ?_
        refine xb_n ?_
        refine ⟨fun j' hj' => ?_, le_ren [] .nil (.cons ⟨_, rfl, .box rfl⟩ (.cons ⟨_, rfl, .box rfl⟩ (.cons ⟨_, rfl, .box rfl⟩ .nil))) rfl rfl⟩
        by_cases he : j' = j
        · subst he
          simp only [missB, hd, decide_true, Bool.true_and]
          exact hc
        · exact hok j' (by omega)
    · intro hok
      have hlen : (nearV k l.length t.length).length = nearN k l.length t.length := by simp [nearV]
      rw [hlen] at hok
      have hr : missRow t l k = none := find_none fun u hu => by
        by_cases hlo : u < nearLo k t.length
        · have : ¬ dist u k < t.length := by unfold nearLo dist at *; omega
          simp [missB, this]
        · by_cases hhi : u < nearLo k t.length + nearN k l.length t.length
          · have := hok (u - nearLo k t.length) (by omega)
            rwa [show nearLo k t.length + (u - nearLo k t.length) = u by omega] at this
          · have : ¬ dist u k < t.length := by unfold nearN nearLo dist at *; omega
            simp [missB, this]
      refine xb_n ?_
      refine xb_n ?_
      refine xt_n ?_
      refine hK _ ?_
      clear hK K
      refine w_region (n' := 2) (by kernel_rfl) (by kernel_rfl) ?_
      refine aops_n hTT (M := []) (n := 2) [pc (59 : Nat) ((-9223372036854775808 : Int) ≤ (↑k : Int) + (1 : Int) ∧ (↑k : Int) + (1 : Int) ≤ (9223372036854775807 : Int)) (V.i ((↑k : Int) + (1 : Int))), pv (13 : Nat) (V.i ((↑k : Int) + (1 : Int)))] (by kernel_rfl) (by kernel_rfl) ⟨(by omega), True.intro⟩ ?_
      refine aops_nil ?_
      refine xt_n ?_
      refine ⟨k + 1, ⟨by omega, fun i hi => ?_⟩, le_ren [(4, 504), (5, 505), (6, 506)] (.cons rfl (.cons rfl (.cons rfl (.cons rfl (.cons rfl (.cons rfl (.cons rfl (.cons rfl .nil)))))))) (.cons ⟨_, rfl, .box rfl⟩ (.cons ⟨_, rfl, .box rfl⟩ (.cons ⟨_, rfl, .box rfl⟩ .nil))) rfl rfl, by omega⟩
      by_cases he : i = k
      · subst he; exact hr
      · exact hrow i (by omega)
    · rintro j c sx hj ⟨rfl, u, hu, hm, hu2, rfl⟩
      refine aw_ret ?_
      refine xb_r ?_
      refine xb_r ?_
      refine xt_r ?_
      refine xt_r ?_
      refine xb_r ?_
      refine xt_r ?_
      rw [missI_some h hu hm hu2 hrow]
      refine ret_pure (.inr rfl) rfl rfl rfl
  · simp at h
    refine aw_exit ?_
    refine xt_x ?_
    refine xt_x ?_
    refine xb_same ?_
    refine xt_n ?_
    clear hK K
    refine hK _ ?_
    clear hK K
    refine aw_seq_k fun K hK => ?_
    refine w_region (n' := 3) (by kernel_rfl) (by kernel_rfl) ?_
    refine aops_n hTT (M := []) (n := 3) [pw ((0 : Nat) + (1 : Nat) ≤ (1 : Nat)) (4 : Nat) (Ob.box (3 : Nat) [V.i (0 : Int)]), pw ((0 : Nat) + (1 : Nat) ≤ (1 : Nat)) (5 : Nat) (Ob.box (3 : Nat) [V.i (0 : Int)]), pw ((0 : Nat) + (1 : Nat) ≤ (1 : Nat)) (6 : Nat) (Ob.box (30 : Nat) [V.i (5 : Int)])] (by kernel_rfl) (by kernel_rfl) ⟨(by omega), (by omega), (by omega), True.intro⟩ ?_
    refine aops_nil ?_
    refine xt_n ?_
    refine hK _ ?_
    clear hK K
    refine aw_ret ?_
    rw [missI_none fun j hj => hrow j (by omega)]
    refine ret_pure (.inr rfl) rfl rfl rfl
end Go.Proofs.Ytlfaaddoemcokaa

namespace Go.Proofs.Ytlfaaddoemcokaa
open Go.Ab Go.RowKit Go.Dw Go.Shelf

def big : Nat := 4611686018427387904
theorem open_tl {w : World} {L : Nat → Prop} {t : List Int} {l : List Pt} {vs : Array Value} (hL : ∀ b, L b → b < w.heap.size) (h : RV w L ρ0 [.agg [V.ints t], V.pts l] vs.toList) :
    ∃ A c B d, vs = #[.agg #[.slice A t.length c], .slice B l.length d] ∧ IntsAt w A t.length t ∧ PtsAt w B l.length l := by
  obtain ⟨vs⟩ := vs
  obtain ⟨x1, e1, q1⟩ := h.get (i := 0) rfl
  obtain ⟨x2, e2, q2⟩ := h.get (i := 1) rfl
  obtain ⟨xs, rfl, hx⟩ := q1.agg_inv
  obtain ⟨xs⟩ := xs
  obtain ⟨y, e3, q3, _⟩ := hx.get (i := 0) rfl
  obtain ⟨A, c, rfl, _, ha⟩ := R_ints_inv q3 hL
  obtain ⟨B, d, rfl, _, hb⟩ := R_pts_inv q2 hL
  have hn := h.1
  have hm := hx.1
  refine ⟨A, c, B, d, ?_, ha, hb⟩
  match vs, hn, xs, hm with
  | [a, b], _, [x], _ => simp at e1 e2 e3; subst e1 e2 e3; rfl
theorem open_pp {w : World} {L : Nat → Prop} {k l : List Pt} {vs : Array Value} (hL : ∀ b, L b → b < w.heap.size) (h : RV w L ρ0 [V.pts k, V.pts l] vs.toList) :
    ∃ A c B d, vs = #[.slice A k.length c, .slice B l.length d] ∧ PtsAt w A k.length k ∧ PtsAt w B l.length l := by
  obtain ⟨vs⟩ := vs
  obtain ⟨x1, e1, q1⟩ := h.get (i := 0) rfl
  obtain ⟨x2, e2, q2⟩ := h.get (i := 1) rfl
  obtain ⟨A, c, rfl, _, ha⟩ := R_pts_inv q1 hL
  obtain ⟨B, d, rfl, _, hb⟩ := R_pts_inv q2 hL
  have hn := h.1
  refine ⟨A, c, B, d, ?_, ha, hb⟩
  match vs, hn with
  | [a, b], _ => simp at e1 e2; subst e1 e2; rfl
/-- a contract whose answer is a number or a bool -/
theorem ac_of_flat {P : Program} {f : FuncId} {args : List V} {x : Value} (he : ∀ (args : Array Value) (w : World), (callFunc f args).run P w = .ok (.enter f args) w)
    (h : ∀ (L : Nat → Prop) (w : World) (vs : Array Value), (∀ b, L b → b < w.heap.size) → RV w L ρ0 args vs.toList → Calls P f vs w fun e w' => e = .returned x ∧ Below w.heap.size w w') : AC P f args (.c x) [] := by
  refine ac_of_calls he fun L w vs hL hvs => (h L w vs hL hvs).mono ?_
  rintro e w' ⟨rfl, hb⟩
  exact ⟨_, rfl, hb, fun _ => False, fun _ h => h.elim, .c _ _⟩
/-- a contract whose answer is points and an error -/
theorem ac_of_pts {P : Program} {f : FuncId} {args : List V} {e0 : TypeId} {l : List Pt} {n : Nat} {k : Int} (he : ∀ (args : Array Value) (w : World), (callFunc f args).run P w = .ok (.enter f args) w)
    (h : ∀ (L : Nat → Prop) (w : World) (vs : Array Value), (∀ b, L b → b < w.heap.size) → RV w L ρ0 args vs.toList → Calls P f vs w fun e w' => ∃ v, e = .returned (.tuple #[v, .int .i64 k]) ∧ w'.ownsRow w.heap.size e0 2 v n (l.flatMap encP) ∧ Below w.heap.size w w') : AC P f args (.tup [V.pts l, .i k]) [] := by
  refine ac_of_calls he fun L w vs hL hvs => (h L w vs hL hvs).mono ?_
  rintro e w' ⟨v, rfl, ho, hb⟩
  obtain ⟨N, hN, hr⟩ := own_R_pts ho
  exact ⟨_, rfl, hb, N, hN, .tup' (.cons ((hr ρ0).ext ⟨fun b hb => ⟨.inr hb, rfl⟩, fun _ _ h => h⟩) (.cons (.c _ _) .nil))⟩

section
variable (t : List Int) (l : List Pt) (ht : t.length ≤ 4611686018427387904) (hl : l.length ≤ 4611686018427387904)
include ht hl
theorem check_ac : AC Try.prog 58 [.agg [V.ints t], V.pts l] (.i (checkBoth t l)) [] := by
  refine ac_of_flat (enters_of Try.func58 (by kernel_rfl) rfl) fun L w vs hL hvs => ?_
  obtain ⟨A, c, B, d, rfl, ha, hb⟩ := open_tl hL hvs
  exact check_calls A _ c t B _ d l w ha ht hb hl
theorem both_ac : AC Try.prog 68 [.agg [V.ints t], V.pts l] (.i (checkBoth t l)) [] := by
  refine ac_of_flat (enters_of Try.func68 (by kernel_rfl) rfl) fun L w vs hL hvs => ?_
  obtain ⟨A, c, B, d, rfl, ha, hb⟩ := open_tl hL hvs
  exact both_ref_calls A _ c t B _ d l w ha ht hb hl
theorem Read_ac : AC Try.prog 21 [.agg [V.ints t], V.pts l] (.tup [V.pts (wallsR t l), .i (checkBoth t l)]) [] := by
  refine ac_of_pts (e0 := 29) (n := (wallsR t l).length) (enters_of Try.func21 (by kernel_rfl) rfl) fun L w vs hL hvs => ?_
  obtain ⟨A, c, B, d, rfl, ha, hb⟩ := open_tl hL hvs
  exact Read_calls A _ c t B _ d l w ha hb ht hl
theorem Sweep_ac : AC Try.prog 24 [.agg [V.ints t], V.pts l] (.tup [V.pts (wallsS t l), .i (checkBoth t l)]) [] := by
  refine ac_of_pts (e0 := 29) (n := (wallsS t l).length) (enters_of Try.func24 (by kernel_rfl) rfl) fun L w vs hL hvs => ?_
  obtain ⟨A, c, B, d, rfl, ha, hb⟩ := open_tl hL hvs
  exact Sweep_calls A _ c t B _ d l w ha hb ht hl
theorem refRead_ac : AC Try.prog 33 [.agg [V.ints t], V.pts l] (.tup [V.pts (wallsR t l), .i (checkBoth t l)]) [] := by
  refine ac_of_pts (e0 := 29) (n := (wallsR t l).length) (enters_of Try.func33 (by kernel_rfl) rfl) fun L w vs hL hvs => ?_
  obtain ⟨A, c, B, d, rfl, ha, hb⟩ := open_tl hL hvs
  exact refRead_calls A _ c t B _ d l w ha hb ht hl
theorem refSweep_ac : AC Try.prog 34 [.agg [V.ints t], V.pts l] (.tup [V.pts (wallsS t l), .i (checkBoth t l)]) [] := by
  refine ac_of_pts (e0 := 29) (n := (wallsS t l).length) (enters_of Try.func34 (by kernel_rfl) rfl) fun L w vs hL hvs => ?_
  obtain ⟨A, c, B, d, rfl, ha, hb⟩ := open_tl hL hvs
  exact refSweep_calls A _ c t B _ d l w ha hb ht hl
end
theorem same_ac (a b : List Pt) (ha : a.length ≤ 4611686018427387904) (hb : b.length ≤ 4611686018427387904) : AC Try.prog 27 [V.pts a, V.pts b] (.b (decide (a = b))) [] := by
  refine ac_of_flat (enters_of Try.func27 (by kernel_rfl) rfl) fun L w vs hL hvs => ?_
  obtain ⟨A, c, B, d, rfl, h1, h2⟩ := open_pp hL hvs
  exact same_calls A B _ c _ d a b w h1 h2 ha hb
theorem works_ac : AC Try.prog 20 [] (.b true) [] := by
  refine ac_of_flat (enters_of Try.func20 (by kernel_rfl) rfl) fun L w vs hL hvs => ?_
  obtain rfl : vs = #[] := by have := hvs.1; simpa using this.symm
  exact works_calls w
end Go.Proofs.Ytlfaaddoemcokaa

namespace Go.Proofs.Ytlfaaddoemcokaa
open Go.Ab Go.RowKit Go.Dw Go.Shelf

theorem max_dist (u i : Nat) : max ((u : Int) - (i : Int)) ((i : Int) - (u : Int)) = ((dist u i : Nat) : Int) := by unfold dist; omega
theorem missB_form (t : List Int) (l : List Pt) (k u : Nat) : missB t l k u = (decide (max ((u : Int) - (k : Int)) ((k : Int) - (u : Int)) < (t.length : Int)) && (decide ((gp l (u : Int).toNat).2 + gi t (max ((u : Int) - (k : Int)) ((k : Int) - (u : Int))).toNat < (gp l (k : Int).toNat).2) || decide ((gp l (k : Int).toNat).1 < (gp l (u : Int).toNat).1 - gi t (max ((u : Int) - (k : Int)) ((k : Int) - (u : Int))).toNat))) := by
  rw [max_dist]
  simp [missB]
set_option maxRecDepth 100000 in
theorem refmiss_ac (t : List Int) (l : List Pt) (h0 : checkBoth t l = 0) : AC Try.prog 71 [.agg [V.ints t], V.pts l] (.tup [.i (missI t l).1, .i (missI t l).2.1, .b (decide ((missI t l).2.2 = 0))]) [] := by
  obtain ⟨k1, k2⟩ := checkBoth_ok h0
  obtain ⟨m1, m2, _, _, m3⟩ := checkTip_ok k1
  obtain ⟨m4, m5⟩ := checkPts_ok k2
  refine ac_intro hTT hMX (fn := Try.f71) (N := _) ⟨Try.func71, rfl, Try.ntmps71, by kernel_rfl⟩ (by simp) fun C hC hF => ?_
  refine aw_seq_k fun K hK => ?_
  refine w_region (n' := 2) (by kernel_rfl) (by kernel_rfl) ?_
  refine aops_n hTT (M := []) (n := 4) [pv (2 : Nat) (V.ptr [V.sl (1 : Nat) (List.length t) fun (k : Nat) => [V.i (gi t k)]]), pv (4 : Nat) (V.i (0 : Int)), pv (5 : Nat) (V.i (0 : Int)), pv (6 : Nat) (V.b false)] (by kernel_rfl) (by kernel_rfl) True.intro ?_
  refine aops_nil ?_
  refine xt_n ?_
  refine hK _ ?_
  clear hK K
  refine aw_seq_k fun K hK => ?_
  refine aw_seq_k fun K hK => ?_
  refine w_region (n' := 3) (by kernel_rfl) (by kernel_rfl) ?_
  refine aops_n hTT (M := []) (n := 1) [pv (7 : Nat) (V.i (0 : Int))] (by kernel_rfl) (by kernel_rfl) True.intro ?_
  refine aops_nil ?_
  refine xt_n ?_
  refine hK _ ?_
  clear hK K
  refine aw_block ?_
  refine w_loop (fun k : Nat => [(1, V.pts l), (2, .ptr [V.ints t]), (7, .i k)]) (fun k => []) (fun k => k ≤ l.length ∧ ∀ i, i < k → missRow t l i = none) (fun k => l.length - k) 0 ⟨Nat.zero_le _, fun i hi => by omega⟩ ?_ ?_
  · exact le_ren [] (.cons rfl (.cons rfl (.cons rfl .nil))) .nil rfl rfl
  rintro k ⟨hk, hrow⟩
  refine aw_seq_k fun K hK => ?_
  refine aw_seq_k fun K hK => ?_
  refine w_region (n' := 2) (by kernel_rfl) (by kernel_rfl) ?_
  refine aops_n hTT (M := []) (n := 4) [pv (10 : Nat) (V.i (↑k : Int)), pv (11 : Nat) (V.sl (2 : Nat) (List.length l) fun (k : Nat) => [V.i (Prod.fst (gp l k)), V.i (Prod.snd (gp l k))]), pv (12 : Nat) (V.i (↑(List.length l) : Int)), pv (13 : Nat) (V.b (decide ((↑k : Int) < (↑(List.length l) : Int))))] (by kernel_rfl) (by kernel_rfl) True.intro ?_
  refine aops_nil ?_
  refine xt_n ?_
  refine hK _ ?_
  clear hK K
  refine w_cond rfl (fun h => ?_) (fun h => ?_)
  · simp at h
    refine aw_skip ?_
    refine xt_n ?_
    refine hK _ ?_
    clear hK K
    refine aw_seq_k fun K hK => ?_
    refine aw_block ?_
    refine aw_seq_k fun K hK => ?_
    refine w_region (n' := 3) (by kernel_rfl) (by kernel_rfl) ?_
    refine aops_n hTT (M := []) (n := 1) [pv (8 : Nat) (V.i (0 : Int))] (by kernel_rfl) (by kernel_rfl) True.intro ?_
    refine aops_nil ?_
    refine xt_n ?_
    refine hK _ ?_
    clear hK K
    refine aw_block ?_
    refine w_loop (fun u : Nat => [(1, V.pts l), (2, .ptr [V.ints t]), (7, .i k), (8, .i u)]) (fun k => []) (fun u => u ≤ l.length ∧ ∀ j, j < u → missB t l k j = false) (fun u => l.length - u) 0 ⟨Nat.zero_le _, fun i hi => by omega⟩ ?_ ?_
    · exact le_ren [] (.cons rfl (.cons rfl (.cons rfl (.cons rfl .nil)))) .nil rfl rfl
    rintro u ⟨hu, hbad⟩
    refine aw_seq_k fun K hK => ?_
    refine aw_seq_k fun K hK => ?_
    refine w_region (n' := 2) (by kernel_rfl) (by kernel_rfl) ?_
    refine aops_n hTT (M := []) (n := 4) [pv (16 : Nat) (V.i (↑u : Int)), pv (17 : Nat) (V.sl (2 : Nat) (List.length l) fun (k : Nat) => [V.i (Prod.fst (gp l k)), V.i (Prod.snd (gp l k))]), pv (18 : Nat) (V.i (↑(List.length l) : Int)), pv (19 : Nat) (V.b (decide ((↑u : Int) < (↑(List.length l) : Int))))] (by kernel_rfl) (by kernel_rfl) True.intro ?_
    refine aops_nil ?_
    refine xt_n ?_
    refine hK _ ?_
    clear hK K
    refine w_cond rfl (fun hul => ?_) (fun hul => ?_)
    · simp at hul
      have b0 := gp_bd m5 k
      have b1 := gp_bd m5 u
      have b2 := gi_bd m3 (max ((u : Int) - (k : Int)) ((k : Int) - (u : Int))).toNat
      refine aw_skip ?_
      refine xt_n ?_
      refine hK _ ?_
      clear hK K
      refine aw_seq_k fun K hK => ?_
      refine aw_block ?_
      refine aw_seq_k fun K hK => ?_
      refine w_region (n' := 3) (by kernel_rfl) (by kernel_rfl) ?_
      refine aops_n hTT (M := []) (n := 8) [pv (22 : Nat) (V.i (↑u : Int)), pv (23 : Nat) (V.i (↑k : Int)), pc (24 : Nat) ((-9223372036854775808 : Int) ≤ (↑u : Int) - (↑k : Int) ∧ (↑u : Int) - (↑k : Int) ≤ (9223372036854775807 : Int)) (V.i ((↑u : Int) - (↑k : Int))), pv (25 : Nat) (V.i (↑k : Int)), pv (26 : Nat) (V.i (↑u : Int)), pc (27 : Nat) ((-9223372036854775808 : Int) ≤ (↑k : Int) - (↑u : Int) ∧ (↑k : Int) - (↑u : Int) ≤ (9223372036854775807 : Int)) (V.i ((↑k : Int) - (↑u : Int))), pv (28 : Nat) (V.i (max ((↑u : Int) - (↑k : Int)) ((↑k : Int) - (↑u : Int)))), pv (9 : Nat) (V.i (max ((↑u : Int) - (↑k : Int)) ((↑k : Int) - (↑u : Int))))] (by kernel_rfl) (by kernel_rfl) ⟨(by omega), (by omega), True.intro⟩ ?_
      refine aops_nil ?_
      refine xt_n ?_
      refine hK _ ?_
      clear hK K
      refine aw_seq_k fun K hK => ?_
      refine w_regionD (n' := 4) (by kernel_rfl) (by kernel_rfl) ?_
      refine aops_n hTT (M := []) (n := 43) [pv (29 : Nat) (V.i (max ((↑u : Int) - (↑k : Int)) ((↑k : Int) - (↑u : Int)))), pv (30 : Nat) (V.ptr [V.sl (1 : Nat) (List.length t) fun (k : Nat) => [V.i (gi t k)]]), pv (31 : Nat) (V.sl (1 : Nat) (List.length t) fun (k : Nat) => [V.i (gi t k)]), pv (32 : Nat) (V.i (↑(List.length t) : Int)), pv (33 : Nat) (V.b (decide (max ((↑u : Int) - (↑k : Int)) ((↑k : Int) - (↑u : Int)) < (↑(List.length t) : Int)))), pv (34 : Nat) (V.b (decide (max ((↑u : Int) - (↑k : Int)) ((↑k : Int) - (↑u : Int)) < (↑(List.length t) : Int)))), pc (35 : Nat) ((True ∧ True) ∧ ((decide (max ((↑u : Int) - (↑k : Int)) ((↑k : Int) - (↑u : Int)) < (↑(List.length t) : Int)) == true) = true → True)) (V.gd (decide (max ((↑u : Int) - (↑k : Int)) ((↑k : Int) - (↑u : Int)) < (↑(List.length t) : Int)) == true) (V.sl (2 : Nat) (List.length l) fun (k : Nat) => [V.i (Prod.fst (gp l k)), V.i (Prod.snd (gp l k))])), pc (36 : Nat) ((True ∧ True) ∧ ((decide (max ((↑u : Int) - (↑k : Int)) ((↑k : Int) - (↑u : Int)) < (↑(List.length t) : Int)) == true) = true → True)) (V.gd (decide (max ((↑u : Int) - (↑k : Int)) ((↑k : Int) - (↑u : Int)) < (↑(List.length t) : Int)) == true) (V.i (↑k : Int))), pc (37 : Nat) ((((decide (max ((↑u : Int) - (↑k : Int)) ((↑k : Int) - (↑u : Int)) < (↑(List.length t) : Int)) == true) = true → (decide (max ((↑u : Int) - (↑k : Int)) ((↑k : Int) - (↑u : Int)) < (↑(List.length t) : Int)) == true) = true) ∧ ((decide (max ((↑u : Int) - (↑k : Int)) ((↑k : Int) - (↑u : Int)) < (↑(List.length t) : Int)) == true) = true → (decide (max ((↑u : Int) - (↑k : Int)) ((↑k : Int) - (↑u : Int)) < (↑(List.length t) : Int)) == true) = true) ∧ True) ∧ ((decide (max ((↑u : Int) - (↑k : Int)) ((↑k : Int) - (↑u : Int)) < (↑(List.length t) : Int)) == true) = true → (0 : Int) ≤ (↑k : Int) ∧ (↑k : Int) < (↑(List.length l) : Int))) (V.gd (decide (max ((↑u : Int) - (↑k : Int)) ((↑k : Int) - (↑u : Int)) < (↑(List.length t) : Int)) == true) (V.ptr [V.i (Prod.fst (gp l k)), V.i (Prod.snd (gp l k))])), pc (38 : Nat) ((((decide (max ((↑u : Int) - (↑k : Int)) ((↑k : Int) - (↑u : Int)) < (↑(List.length t) : Int)) == true) = true → (decide (max ((↑u : Int) - (↑k : Int)) ((↑k : Int) - (↑u : Int)) < (↑(List.length t) : Int)) == true) = true) ∧ True) ∧ ((decide (max ((↑u : Int) - (↑k : Int)) ((↑k : Int) - (↑u : Int)) < (↑(List.length t) : Int)) == true) = true → True)) (V.gd (decide (max ((↑u : Int) - (↑k : Int)) ((↑k : Int) - (↑u : Int)) < (↑(List.length t) : Int)) == true) (V.ptr [V.i (Prod.snd (gp l k))])), pc (39 : Nat) ((((decide (max ((↑u : Int) - (↑k : Int)) ((↑k : Int) - (↑u : Int)) < (↑(List.length t) : Int)) == true) = true → (decide (max ((↑u : Int) - (↑k : Int)) ((↑k : Int) - (↑u : Int)) < (↑(List.length t) : Int)) == true) = true) ∧ True) ∧ ((decide (max ((↑u : Int) - (↑k : Int)) ((↑k : Int) - (↑u : Int)) < (↑(List.length t) : Int)) == true) = true → True)) (V.gd (decide (max ((↑u : Int) - (↑k : Int)) ((↑k : Int) - (↑u : Int)) < (↑(List.length t) : Int)) == true) (V.i (Prod.snd (gp l k)))), pc (40 : Nat) ((True ∧ True) ∧ ((decide (max ((↑u : Int) - (↑k : Int)) ((↑k : Int) - (↑u : Int)) < (↑(List.length t) : Int)) == true) = true → True)) (V.gd (decide (max ((↑u : Int) - (↑k : Int)) ((↑k : Int) - (↑u : Int)) < (↑(List.length t) : Int)) == true) (V.sl (2 : Nat) (List.length l) fun (k : Nat) => [V.i (Prod.fst (gp l k)), V.i (Prod.snd (gp l k))])), pc (41 : Nat) ((True ∧ True) ∧ ((decide (max ((↑u : Int) - (↑k : Int)) ((↑k : Int) - (↑u : Int)) < (↑(List.length t) : Int)) == true) = true → True)) (V.gd (decide (max ((↑u : Int) - (↑k : Int)) ((↑k : Int) - (↑u : Int)) < (↑(List.length t) : Int)) == true) (V.i (↑u : Int))), pc (42 : Nat) ((((decide (max ((↑u : Int) - (↑k : Int)) ((↑k : Int) - (↑u : Int)) < (↑(List.length t) : Int)) == true) = true → (decide (max ((↑u : Int) - (↑k : Int)) ((↑k : Int) - (↑u : Int)) < (↑(List.length t) : Int)) == true) = true) ∧ ((decide (max ((↑u : Int) - (↑k : Int)) ((↑k : Int) - (↑u : Int)) < (↑(List.length t) : Int)) == true) = true → (decide (max ((↑u : Int) - (↑k : Int)) ((↑k : Int) - (↑u : Int)) < (↑(List.length t) : Int)) == true) = true) ∧ True) ∧ ((decide (max ((↑u : Int) - (↑k : Int)) ((↑k : Int) - (↑u : Int)) < (↑(List.length t) : Int)) == true) = true → (0 : Int) ≤ (↑u : Int) ∧ (↑u : Int) < (↑(List.length l) : Int))) (V.gd (decide (max ((↑u : Int) - (↑k : Int)) ((↑k : Int) - (↑u : Int)) < (↑(List.length t) : Int)) == true) (V.ptr [V.i (Prod.fst (gp l u)), V.i (Prod.snd (gp l u))])), pc (43 : Nat) ((((decide (max ((↑u : Int) - (↑k : Int)) ((↑k : Int) - (↑u : Int)) < (↑(List.length t) : Int)) == true) = true → (decide (max ((↑u : Int) - (↑k : Int)) ((↑k : Int) - (↑u : Int)) < (↑(List.length t) : Int)) == true) = true) ∧ True) ∧ ((decide (max ((↑u : Int) - (↑k : Int)) ((↑k : Int) - (↑u : Int)) < (↑(List.length t) : Int)) == true) = true → True)) (V.gd (decide (max ((↑u : Int) - (↑k : Int)) ((↑k : Int) - (↑u : Int)) < (↑(List.length t) : Int)) == true) (V.ptr [V.i (Prod.snd (gp l u))])), pc (44 : Nat) ((((decide (max ((↑u : Int) - (↑k : Int)) ((↑k : Int) - (↑u : Int)) < (↑(List.length t) : Int)) == true) = true → (decide (max ((↑u : Int) - (↑k : Int)) ((↑k : Int) - (↑u : Int)) < (↑(List.length t) : Int)) == true) = true) ∧ True) ∧ ((decide (max ((↑u : Int) - (↑k : Int)) ((↑k : Int) - (↑u : Int)) < (↑(List.length t) : Int)) == true) = true → True)) (V.gd (decide (max ((↑u : Int) - (↑k : Int)) ((↑k : Int) - (↑u : Int)) < (↑(List.length t) : Int)) == true) (V.i (Prod.snd (gp l u)))), pc (45 : Nat) ((True ∧ True) ∧ ((decide (max ((↑u : Int) - (↑k : Int)) ((↑k : Int) - (↑u : Int)) < (↑(List.length t) : Int)) == true) = true → True)) (V.gd (decide (max ((↑u : Int) - (↑k : Int)) ((↑k : Int) - (↑u : Int)) < (↑(List.length t) : Int)) == true) (V.ptr [V.sl (1 : Nat) (List.length t) fun (k : Nat) => [V.i (gi t k)]])), pc (46 : Nat) ((((decide (max ((↑u : Int) - (↑k : Int)) ((↑k : Int) - (↑u : Int)) < (↑(List.length t) : Int)) == true) = true → (decide (max ((↑u : Int) - (↑k : Int)) ((↑k : Int) - (↑u : Int)) < (↑(List.length t) : Int)) == true) = true) ∧ True) ∧ ((decide (max ((↑u : Int) - (↑k : Int)) ((↑k : Int) - (↑u : Int)) < (↑(List.length t) : Int)) == true) = true → True)) (V.gd (decide (max ((↑u : Int) - (↑k : Int)) ((↑k : Int) - (↑u : Int)) < (↑(List.length t) : Int)) == true) (V.sl (1 : Nat) (List.length t) fun (k : Nat) => [V.i (gi t k)])), pc (47 : Nat) ((True ∧ True) ∧ ((decide (max ((↑u : Int) - (↑k : Int)) ((↑k : Int) - (↑u : Int)) < (↑(List.length t) : Int)) == true) = true → True)) (V.gd (decide (max ((↑u : Int) - (↑k : Int)) ((↑k : Int) - (↑u : Int)) < (↑(List.length t) : Int)) == true) (V.i (max ((↑u : Int) - (↑k : Int)) ((↑k : Int) - (↑u : Int))))), pc (48 : Nat) ((((decide (max ((↑u : Int) - (↑k : Int)) ((↑k : Int) - (↑u : Int)) < (↑(List.length t) : Int)) == true) = true → (decide (max ((↑u : Int) - (↑k : Int)) ((↑k : Int) - (↑u : Int)) < (↑(List.length t) : Int)) == true) = true) ∧ ((decide (max ((↑u : Int) - (↑k : Int)) ((↑k : Int) - (↑u : Int)) < (↑(List.length t) : Int)) == true) = true → (decide (max ((↑u : Int) - (↑k : Int)) ((↑k : Int) - (↑u : Int)) < (↑(List.length t) : Int)) == true) = true) ∧ True) ∧ ((decide (max ((↑u : Int) - (↑k : Int)) ((↑k : Int) - (↑u : Int)) < (↑(List.length t) : Int)) == true) = true → (0 : Int) ≤ max ((↑u : Int) - (↑k : Int)) ((↑k : Int) - (↑u : Int)) ∧ max ((↑u : Int) - (↑k : Int)) ((↑k : Int) - (↑u : Int)) < (↑(List.length t) : Int))) (V.gd (decide (max ((↑u : Int) - (↑k : Int)) ((↑k : Int) - (↑u : Int)) < (↑(List.length t) : Int)) == true) (V.ptr [V.i (gi t (Int.toNat (max ((↑u : Int) - (↑k : Int)) ((↑k : Int) - (↑u : Int)))))])), pc (49 : Nat) ((((decide (max ((↑u : Int) - (↑k : Int)) ((↑k : Int) - (↑u : Int)) < (↑(List.length t) : Int)) == true) = true → (decide (max ((↑u : Int) - (↑k : Int)) ((↑k : Int) - (↑u : Int)) < (↑(List.length t) : Int)) == true) = true) ∧ True) ∧ ((decide (max ((↑u : Int) - (↑k : Int)) ((↑k : Int) - (↑u : Int)) < (↑(List.length t) : Int)) == true) = true → True)) (V.gd (decide (max ((↑u : Int) - (↑k : Int)) ((↑k : Int) - (↑u : Int)) < (↑(List.length t) : Int)) == true) (V.i (gi t (Int.toNat (max ((↑u : Int) - (↑k : Int)) ((↑k : Int) - (↑u : Int))))))), pc (50 : Nat) ((((decide (max ((↑u : Int) - (↑k : Int)) ((↑k : Int) - (↑u : Int)) < (↑(List.length t) : Int)) == true) = true → (decide (max ((↑u : Int) - (↑k : Int)) ((↑k : Int) - (↑u : Int)) < (↑(List.length t) : Int)) == true) = true) ∧ ((decide (max ((↑u : Int) - (↑k : Int)) ((↑k : Int) - (↑u : Int)) < (↑(List.length t) : Int)) == true) = true → (decide (max ((↑u : Int) - (↑k : Int)) ((↑k : Int) - (↑u : Int)) < (↑(List.length t) : Int)) == true) = true) ∧ True) ∧ ((decide (max ((↑u : Int) - (↑k : Int)) ((↑k : Int) - (↑u : Int)) < (↑(List.length t) : Int)) == true) = true → (-9223372036854775808 : Int) ≤ Prod.snd (gp l u) + gi t (Int.toNat (max ((↑u : Int) - (↑k : Int)) ((↑k : Int) - (↑u : Int)))) ∧ Prod.snd (gp l u) + gi t (Int.toNat (max ((↑u : Int) - (↑k : Int)) ((↑k : Int) - (↑u : Int)))) ≤ (9223372036854775807 : Int))) (V.gd (decide (max ((↑u : Int) - (↑k : Int)) ((↑k : Int) - (↑u : Int)) < (↑(List.length t) : Int)) == true) (V.i (Prod.snd (gp l u) + gi t (Int.toNat (max ((↑u : Int) - (↑k : Int)) ((↑k : Int) - (↑u : Int))))))), pc (51 : Nat) ((((decide (max ((↑u : Int) - (↑k : Int)) ((↑k : Int) - (↑u : Int)) < (↑(List.length t) : Int)) == true) = true → (decide (max ((↑u : Int) - (↑k : Int)) ((↑k : Int) - (↑u : Int)) < (↑(List.length t) : Int)) == true) = true) ∧ ((decide (max ((↑u : Int) - (↑k : Int)) ((↑k : Int) - (↑u : Int)) < (↑(List.length t) : Int)) == true) = true → (decide (max ((↑u : Int) - (↑k : Int)) ((↑k : Int) - (↑u : Int)) < (↑(List.length t) : Int)) == true) = true) ∧ True) ∧ ((decide (max ((↑u : Int) - (↑k : Int)) ((↑k : Int) - (↑u : Int)) < (↑(List.length t) : Int)) == true) = true → True)) (V.gd (decide (max ((↑u : Int) - (↑k : Int)) ((↑k : Int) - (↑u : Int)) < (↑(List.length t) : Int)) == true) (V.b (decide (Prod.snd (gp l u) + gi t (Int.toNat (max ((↑u : Int) - (↑k : Int)) ((↑k : Int) - (↑u : Int)))) < Prod.snd (gp l k))))), pc (52 : Nat) ((((decide (max ((↑u : Int) - (↑k : Int)) ((↑k : Int) - (↑u : Int)) < (↑(List.length t) : Int)) == true) = true → (decide (max ((↑u : Int) - (↑k : Int)) ((↑k : Int) - (↑u : Int)) < (↑(List.length t) : Int)) == true) = true) ∧ True) ∧ ((decide (max ((↑u : Int) - (↑k : Int)) ((↑k : Int) - (↑u : Int)) < (↑(List.length t) : Int)) == true) = true → True)) (V.gd (decide (max ((↑u : Int) - (↑k : Int)) ((↑k : Int) - (↑u : Int)) < (↑(List.length t) : Int)) == true) (V.b (decide (Prod.snd (gp l u) + gi t (Int.toNat (max ((↑u : Int) - (↑k : Int)) ((↑k : Int) - (↑u : Int)))) < Prod.snd (gp l k))))), pc (53 : Nat) ((True ∧ True) ∧ ((decide (max ((↑u : Int) - (↑k : Int)) ((↑k : Int) - (↑u : Int)) < (↑(List.length t) : Int)) == true && decide (Prod.snd (gp l u) + gi t (Int.toNat (max ((↑u : Int) - (↑k : Int)) ((↑k : Int) - (↑u : Int)))) < Prod.snd (gp l k)) == false) = true → True)) (V.gd (decide (max ((↑u : Int) - (↑k : Int)) ((↑k : Int) - (↑u : Int)) < (↑(List.length t) : Int)) == true && decide (Prod.snd (gp l u) + gi t (Int.toNat (max ((↑u : Int) - (↑k : Int)) ((↑k : Int) - (↑u : Int)))) < Prod.snd (gp l k)) == false) (V.sl (2 : Nat) (List.length l) fun (k : Nat) => [V.i (Prod.fst (gp l k)), V.i (Prod.snd (gp l k))])), pc (54 : Nat) ((True ∧ True) ∧ ((decide (max ((↑u : Int) - (↑k : Int)) ((↑k : Int) - (↑u : Int)) < (↑(List.length t) : Int)) == true && decide (Prod.snd (gp l u) + gi t (Int.toNat (max ((↑u : Int) - (↑k : Int)) ((↑k : Int) - (↑u : Int)))) < Prod.snd (gp l k)) == false) = true → True)) (V.gd (decide (max ((↑u : Int) - (↑k : Int)) ((↑k : Int) - (↑u : Int)) < (↑(List.length t) : Int)) == true && decide (Prod.snd (gp l u) + gi t (Int.toNat (max ((↑u : Int) - (↑k : Int)) ((↑k : Int) - (↑u : Int)))) < Prod.snd (gp l k)) == false) (V.i (↑k : Int))), pc (55 : Nat) ((((decide (max ((↑u : Int) - (↑k : Int)) ((↑k : Int) - (↑u : Int)) < (↑(List.length t) : Int)) == true && decide (Prod.snd (gp l u) + gi t (Int.toNat (max ((↑u : Int) - (↑k : Int)) ((↑k : Int) - (↑u : Int)))) < Prod.snd (gp l k)) == false) = true → (decide (max ((↑u : Int) - (↑k : Int)) ((↑k : Int) - (↑u : Int)) < (↑(List.length t) : Int)) == true && decide (Prod.snd (gp l u) + gi t (Int.toNat (max ((↑u : Int) - (↑k : Int)) ((↑k : Int) - (↑u : Int)))) < Prod.snd (gp l k)) == false) = true) ∧ ((decide (max ((↑u : Int) - (↑k : Int)) ((↑k : Int) - (↑u : Int)) < (↑(List.length t) : Int)) == true && decide (Prod.snd (gp l u) + gi t (Int.toNat (max ((↑u : Int) - (↑k : Int)) ((↑k : Int) - (↑u : Int)))) < Prod.snd (gp l k)) == false) = true → (decide (max ((↑u : Int) - (↑k : Int)) ((↑k : Int) - (↑u : Int)) < (↑(List.length t) : Int)) == true && decide (Prod.snd (gp l u) + gi t (Int.toNat (max ((↑u : Int) - (↑k : Int)) ((↑k : Int) - (↑u : Int)))) < Prod.snd (gp l k)) == false) = true) ∧ True) ∧ ((decide (max ((↑u : Int) - (↑k : Int)) ((↑k : Int) - (↑u : Int)) < (↑(List.length t) : Int)) == true && decide (Prod.snd (gp l u) + gi t (Int.toNat (max ((↑u : Int) - (↑k : Int)) ((↑k : Int) - (↑u : Int)))) < Prod.snd (gp l k)) == false) = true → (0 : Int) ≤ (↑k : Int) ∧ (↑k : Int) < (↑(List.length l) : Int))) (V.gd (decide (max ((↑u : Int) - (↑k : Int)) ((↑k : Int) - (↑u : Int)) < (↑(List.length t) : Int)) == true && decide (Prod.snd (gp l u) + gi t (Int.toNat (max ((↑u : Int) - (↑k : Int)) ((↑k : Int) - (↑u : Int)))) < Prod.snd (gp l k)) == false) (V.ptr [V.i (Prod.fst (gp l k)), V.i (Prod.snd (gp l k))])), pc (56 : Nat) ((((decide (max ((↑u : Int) - (↑k : Int)) ((↑k : Int) - (↑u : Int)) < (↑(List.length t) : Int)) == true && decide (Prod.snd (gp l u) + gi t (Int.toNat (max ((↑u : Int) - (↑k : Int)) ((↑k : Int) - (↑u : Int)))) < Prod.snd (gp l k)) == false) = true → (decide (max ((↑u : Int) - (↑k : Int)) ((↑k : Int) - (↑u : Int)) < (↑(List.length t) : Int)) == true && decide (Prod.snd (gp l u) + gi t (Int.toNat (max ((↑u : Int) - (↑k : Int)) ((↑k : Int) - (↑u : Int)))) < Prod.snd (gp l k)) == false) = true) ∧ True) ∧ ((decide (max ((↑u : Int) - (↑k : Int)) ((↑k : Int) - (↑u : Int)) < (↑(List.length t) : Int)) == true && decide (Prod.snd (gp l u) + gi t (Int.toNat (max ((↑u : Int) - (↑k : Int)) ((↑k : Int) - (↑u : Int)))) < Prod.snd (gp l k)) == false) = true → True)) (V.gd (decide (max ((↑u : Int) - (↑k : Int)) ((↑k : Int) - (↑u : Int)) < (↑(List.length t) : Int)) == true && decide (Prod.snd (gp l u) + gi t (Int.toNat (max ((↑u : Int) - (↑k : Int)) ((↑k : Int) - (↑u : Int)))) < Prod.snd (gp l k)) == false) (V.ptr [V.i (Prod.fst (gp l k)), V.i (Prod.snd (gp l k))])), pc (57 : Nat) ((((decide (max ((↑u : Int) - (↑k : Int)) ((↑k : Int) - (↑u : Int)) < (↑(List.length t) : Int)) == true && decide (Prod.snd (gp l u) + gi t (Int.toNat (max ((↑u : Int) - (↑k : Int)) ((↑k : Int) - (↑u : Int)))) < Prod.snd (gp l k)) == false) = true → (decide (max ((↑u : Int) - (↑k : Int)) ((↑k : Int) - (↑u : Int)) < (↑(List.length t) : Int)) == true && decide (Prod.snd (gp l u) + gi t (Int.toNat (max ((↑u : Int) - (↑k : Int)) ((↑k : Int) - (↑u : Int)))) < Prod.snd (gp l k)) == false) = true) ∧ True) ∧ ((decide (max ((↑u : Int) - (↑k : Int)) ((↑k : Int) - (↑u : Int)) < (↑(List.length t) : Int)) == true && decide (Prod.snd (gp l u) + gi t (Int.toNat (max ((↑u : Int) - (↑k : Int)) ((↑k : Int) - (↑u : Int)))) < Prod.snd (gp l k)) == false) = true → True)) (V.gd (decide (max ((↑u : Int) - (↑k : Int)) ((↑k : Int) - (↑u : Int)) < (↑(List.length t) : Int)) == true && decide (Prod.snd (gp l u) + gi t (Int.toNat (max ((↑u : Int) - (↑k : Int)) ((↑k : Int) - (↑u : Int)))) < Prod.snd (gp l k)) == false) (V.i (Prod.fst (gp l k)))), pc (58 : Nat) ((True ∧ True) ∧ ((decide (max ((↑u : Int) - (↑k : Int)) ((↑k : Int) - (↑u : Int)) < (↑(List.length t) : Int)) == true && decide (Prod.snd (gp l u) + gi t (Int.toNat (max ((↑u : Int) - (↑k : Int)) ((↑k : Int) - (↑u : Int)))) < Prod.snd (gp l k)) == false) = true → True)) (V.gd (decide (max ((↑u : Int) - (↑k : Int)) ((↑k : Int) - (↑u : Int)) < (↑(List.length t) : Int)) == true && decide (Prod.snd (gp l u) + gi t (Int.toNat (max ((↑u : Int) - (↑k : Int)) ((↑k : Int) - (↑u : Int)))) < Prod.snd (gp l k)) == false) (V.sl (2 : Nat) (List.length l) fun (k : Nat) => [V.i (Prod.fst (gp l k)), V.i (Prod.snd (gp l k))])), pc (59 : Nat) ((True ∧ True) ∧ ((decide (max ((↑u : Int) - (↑k : Int)) ((↑k : Int) - (↑u : Int)) < (↑(List.length t) : Int)) == true && decide (Prod.snd (gp l u) + gi t (Int.toNat (max ((↑u : Int) - (↑k : Int)) ((↑k : Int) - (↑u : Int)))) < Prod.snd (gp l k)) == false) = true → True)) (V.gd (decide (max ((↑u : Int) - (↑k : Int)) ((↑k : Int) - (↑u : Int)) < (↑(List.length t) : Int)) == true && decide (Prod.snd (gp l u) + gi t (Int.toNat (max ((↑u : Int) - (↑k : Int)) ((↑k : Int) - (↑u : Int)))) < Prod.snd (gp l k)) == false) (V.i (↑u : Int))), pc (60 : Nat) ((((decide (max ((↑u : Int) - (↑k : Int)) ((↑k : Int) - (↑u : Int)) < (↑(List.length t) : Int)) == true && decide (Prod.snd (gp l u) + gi t (Int.toNat (max ((↑u : Int) - (↑k : Int)) ((↑k : Int) - (↑u : Int)))) < Prod.snd (gp l k)) == false) = true → (decide (max ((↑u : Int) - (↑k : Int)) ((↑k : Int) - (↑u : Int)) < (↑(List.length t) : Int)) == true && decide (Prod.snd (gp l u) + gi t (Int.toNat (max ((↑u : Int) - (↑k : Int)) ((↑k : Int) - (↑u : Int)))) < Prod.snd (gp l k)) == false) = true) ∧ ((decide (max ((↑u : Int) - (↑k : Int)) ((↑k : Int) - (↑u : Int)) < (↑(List.length t) : Int)) == true && decide (Prod.snd (gp l u) + gi t (Int.toNat (max ((↑u : Int) - (↑k : Int)) ((↑k : Int) - (↑u : Int)))) < Prod.snd (gp l k)) == false) = true → (decide (max ((↑u : Int) - (↑k : Int)) ((↑k : Int) - (↑u : Int)) < (↑(List.length t) : Int)) == true && decide (Prod.snd (gp l u) + gi t (Int.toNat (max ((↑u : Int) - (↑k : Int)) ((↑k : Int) - (↑u : Int)))) < Prod.snd (gp l k)) == false) = true) ∧ True) ∧ ((decide (max ((↑u : Int) - (↑k : Int)) ((↑k : Int) - (↑u : Int)) < (↑(List.length t) : Int)) == true && decide (Prod.snd (gp l u) + gi t (Int.toNat (max ((↑u : Int) - (↑k : Int)) ((↑k : Int) - (↑u : Int)))) < Prod.snd (gp l k)) == false) = true → (0 : Int) ≤ (↑u : Int) ∧ (↑u : Int) < (↑(List.length l) : Int))) (V.gd (decide (max ((↑u : Int) - (↑k : Int)) ((↑k : Int) - (↑u : Int)) < (↑(List.length t) : Int)) == true && decide (Prod.snd (gp l u) + gi t (Int.toNat (max ((↑u : Int) - (↑k : Int)) ((↑k : Int) - (↑u : Int)))) < Prod.snd (gp l k)) == false) (V.ptr [V.i (Prod.fst (gp l u)), V.i (Prod.snd (gp l u))])), pc (61 : Nat) ((((decide (max ((↑u : Int) - (↑k : Int)) ((↑k : Int) - (↑u : Int)) < (↑(List.length t) : Int)) == true && decide (Prod.snd (gp l u) + gi t (Int.toNat (max ((↑u : Int) - (↑k : Int)) ((↑k : Int) - (↑u : Int)))) < Prod.snd (gp l k)) == false) = true → (decide (max ((↑u : Int) - (↑k : Int)) ((↑k : Int) - (↑u : Int)) < (↑(List.length t) : Int)) == true && decide (Prod.snd (gp l u) + gi t (Int.toNat (max ((↑u : Int) - (↑k : Int)) ((↑k : Int) - (↑u : Int)))) < Prod.snd (gp l k)) == false) = true) ∧ True) ∧ ((decide (max ((↑u : Int) - (↑k : Int)) ((↑k : Int) - (↑u : Int)) < (↑(List.length t) : Int)) == true && decide (Prod.snd (gp l u) + gi t (Int.toNat (max ((↑u : Int) - (↑k : Int)) ((↑k : Int) - (↑u : Int)))) < Prod.snd (gp l k)) == false) = true → True)) (V.gd (decide (max ((↑u : Int) - (↑k : Int)) ((↑k : Int) - (↑u : Int)) < (↑(List.length t) : Int)) == true && decide (Prod.snd (gp l u) + gi t (Int.toNat (max ((↑u : Int) - (↑k : Int)) ((↑k : Int) - (↑u : Int)))) < Prod.snd (gp l k)) == false) (V.ptr [V.i (Prod.fst (gp l u)), V.i (Prod.snd (gp l u))])), pc (62 : Nat) ((((decide (max ((↑u : Int) - (↑k : Int)) ((↑k : Int) - (↑u : Int)) < (↑(List.length t) : Int)) == true && decide (Prod.snd (gp l u) + gi t (Int.toNat (max ((↑u : Int) - (↑k : Int)) ((↑k : Int) - (↑u : Int)))) < Prod.snd (gp l k)) == false) = true → (decide (max ((↑u : Int) - (↑k : Int)) ((↑k : Int) - (↑u : Int)) < (↑(List.length t) : Int)) == true && decide (Prod.snd (gp l u) + gi t (Int.toNat (max ((↑u : Int) - (↑k : Int)) ((↑k : Int) - (↑u : Int)))) < Prod.snd (gp l k)) == false) = true) ∧ True) ∧ ((decide (max ((↑u : Int) - (↑k : Int)) ((↑k : Int) - (↑u : Int)) < (↑(List.length t) : Int)) == true && decide (Prod.snd (gp l u) + gi t (Int.toNat (max ((↑u : Int) - (↑k : Int)) ((↑k : Int) - (↑u : Int)))) < Prod.snd (gp l k)) == false) = true → True)) (V.gd (decide (max ((↑u : Int) - (↑k : Int)) ((↑k : Int) - (↑u : Int)) < (↑(List.length t) : Int)) == true && decide (Prod.snd (gp l u) + gi t (Int.toNat (max ((↑u : Int) - (↑k : Int)) ((↑k : Int) - (↑u : Int)))) < Prod.snd (gp l k)) == false) (V.i (Prod.fst (gp l u)))), pc (63 : Nat) ((True ∧ True) ∧ ((decide (max ((↑u : Int) - (↑k : Int)) ((↑k : Int) - (↑u : Int)) < (↑(List.length t) : Int)) == true && decide (Prod.snd (gp l u) + gi t (Int.toNat (max ((↑u : Int) - (↑k : Int)) ((↑k : Int) - (↑u : Int)))) < Prod.snd (gp l k)) == false) = true → True)) (V.gd (decide (max ((↑u : Int) - (↑k : Int)) ((↑k : Int) - (↑u : Int)) < (↑(List.length t) : Int)) == true && decide (Prod.snd (gp l u) + gi t (Int.toNat (max ((↑u : Int) - (↑k : Int)) ((↑k : Int) - (↑u : Int)))) < Prod.snd (gp l k)) == false) (V.ptr [V.sl (1 : Nat) (List.length t) fun (k : Nat) => [V.i (gi t k)]])), pc (64 : Nat) ((((decide (max ((↑u : Int) - (↑k : Int)) ((↑k : Int) - (↑u : Int)) < (↑(List.length t) : Int)) == true && decide (Prod.snd (gp l u) + gi t (Int.toNat (max ((↑u : Int) - (↑k : Int)) ((↑k : Int) - (↑u : Int)))) < Prod.snd (gp l k)) == false) = true → (decide (max ((↑u : Int) - (↑k : Int)) ((↑k : Int) - (↑u : Int)) < (↑(List.length t) : Int)) == true && decide (Prod.snd (gp l u) + gi t (Int.toNat (max ((↑u : Int) - (↑k : Int)) ((↑k : Int) - (↑u : Int)))) < Prod.snd (gp l k)) == false) = true) ∧ True) ∧ ((decide (max ((↑u : Int) - (↑k : Int)) ((↑k : Int) - (↑u : Int)) < (↑(List.length t) : Int)) == true && decide (Prod.snd (gp l u) + gi t (Int.toNat (max ((↑u : Int) - (↑k : Int)) ((↑k : Int) - (↑u : Int)))) < Prod.snd (gp l k)) == false) = true → True)) (V.gd (decide (max ((↑u : Int) - (↑k : Int)) ((↑k : Int) - (↑u : Int)) < (↑(List.length t) : Int)) == true && decide (Prod.snd (gp l u) + gi t (Int.toNat (max ((↑u : Int) - (↑k : Int)) ((↑k : Int) - (↑u : Int)))) < Prod.snd (gp l k)) == false) (V.sl (1 : Nat) (List.length t) fun (k : Nat) => [V.i (gi t k)])), pc (65 : Nat) ((True ∧ True) ∧ ((decide (max ((↑u : Int) - (↑k : Int)) ((↑k : Int) - (↑u : Int)) < (↑(List.length t) : Int)) == true && decide (Prod.snd (gp l u) + gi t (Int.toNat (max ((↑u : Int) - (↑k : Int)) ((↑k : Int) - (↑u : Int)))) < Prod.snd (gp l k)) == false) = true → True)) (V.gd (decide (max ((↑u : Int) - (↑k : Int)) ((↑k : Int) - (↑u : Int)) < (↑(List.length t) : Int)) == true && decide (Prod.snd (gp l u) + gi t (Int.toNat (max ((↑u : Int) - (↑k : Int)) ((↑k : Int) - (↑u : Int)))) < Prod.snd (gp l k)) == false) (V.i (max ((↑u : Int) - (↑k : Int)) ((↑k : Int) - (↑u : Int))))), pc (66 : Nat) ((((decide (max ((↑u : Int) - (↑k : Int)) ((↑k : Int) - (↑u : Int)) < (↑(List.length t) : Int)) == true && decide (Prod.snd (gp l u) + gi t (Int.toNat (max ((↑u : Int) - (↑k : Int)) ((↑k : Int) - (↑u : Int)))) < Prod.snd (gp l k)) == false) = true → (decide (max ((↑u : Int) - (↑k : Int)) ((↑k : Int) - (↑u : Int)) < (↑(List.length t) : Int)) == true && decide (Prod.snd (gp l u) + gi t (Int.toNat (max ((↑u : Int) - (↑k : Int)) ((↑k : Int) - (↑u : Int)))) < Prod.snd (gp l k)) == false) = true) ∧ ((decide (max ((↑u : Int) - (↑k : Int)) ((↑k : Int) - (↑u : Int)) < (↑(List.length t) : Int)) == true && decide (Prod.snd (gp l u) + gi t (Int.toNat (max ((↑u : Int) - (↑k : Int)) ((↑k : Int) - (↑u : Int)))) < Prod.snd (gp l k)) == false) = true → (decide (max ((↑u : Int) - (↑k : Int)) ((↑k : Int) - (↑u : Int)) < (↑(List.length t) : Int)) == true && decide (Prod.snd (gp l u) + gi t (Int.toNat (max ((↑u : Int) - (↑k : Int)) ((↑k : Int) - (↑u : Int)))) < Prod.snd (gp l k)) == false) = true) ∧ True) ∧ ((decide (max ((↑u : Int) - (↑k : Int)) ((↑k : Int) - (↑u : Int)) < (↑(List.length t) : Int)) == true && decide (Prod.snd (gp l u) + gi t (Int.toNat (max ((↑u : Int) - (↑k : Int)) ((↑k : Int) - (↑u : Int)))) < Prod.snd (gp l k)) == false) = true → (0 : Int) ≤ max ((↑u : Int) - (↑k : Int)) ((↑k : Int) - (↑u : Int)) ∧ max ((↑u : Int) - (↑k : Int)) ((↑k : Int) - (↑u : Int)) < (↑(List.length t) : Int))) (V.gd (decide (max ((↑u : Int) - (↑k : Int)) ((↑k : Int) - (↑u : Int)) < (↑(List.length t) : Int)) == true && decide (Prod.snd (gp l u) + gi t (Int.toNat (max ((↑u : Int) - (↑k : Int)) ((↑k : Int) - (↑u : Int)))) < Prod.snd (gp l k)) == false) (V.ptr [V.i (gi t (Int.toNat (max ((↑u : Int) - (↑k : Int)) ((↑k : Int) - (↑u : Int)))))])), pc (67 : Nat) ((((decide (max ((↑u : Int) - (↑k : Int)) ((↑k : Int) - (↑u : Int)) < (↑(List.length t) : Int)) == true && decide (Prod.snd (gp l u) + gi t (Int.toNat (max ((↑u : Int) - (↑k : Int)) ((↑k : Int) - (↑u : Int)))) < Prod.snd (gp l k)) == false) = true → (decide (max ((↑u : Int) - (↑k : Int)) ((↑k : Int) - (↑u : Int)) < (↑(List.length t) : Int)) == true && decide (Prod.snd (gp l u) + gi t (Int.toNat (max ((↑u : Int) - (↑k : Int)) ((↑k : Int) - (↑u : Int)))) < Prod.snd (gp l k)) == false) = true) ∧ True) ∧ ((decide (max ((↑u : Int) - (↑k : Int)) ((↑k : Int) - (↑u : Int)) < (↑(List.length t) : Int)) == true && decide (Prod.snd (gp l u) + gi t (Int.toNat (max ((↑u : Int) - (↑k : Int)) ((↑k : Int) - (↑u : Int)))) < Prod.snd (gp l k)) == false) = true → True)) (V.gd (decide (max ((↑u : Int) - (↑k : Int)) ((↑k : Int) - (↑u : Int)) < (↑(List.length t) : Int)) == true && decide (Prod.snd (gp l u) + gi t (Int.toNat (max ((↑u : Int) - (↑k : Int)) ((↑k : Int) - (↑u : Int)))) < Prod.snd (gp l k)) == false) (V.i (gi t (Int.toNat (max ((↑u : Int) - (↑k : Int)) ((↑k : Int) - (↑u : Int))))))), pc (68 : Nat) ((((decide (max ((↑u : Int) - (↑k : Int)) ((↑k : Int) - (↑u : Int)) < (↑(List.length t) : Int)) == true && decide (Prod.snd (gp l u) + gi t (Int.toNat (max ((↑u : Int) - (↑k : Int)) ((↑k : Int) - (↑u : Int)))) < Prod.snd (gp l k)) == false) = true → (decide (max ((↑u : Int) - (↑k : Int)) ((↑k : Int) - (↑u : Int)) < (↑(List.length t) : Int)) == true && decide (Prod.snd (gp l u) + gi t (Int.toNat (max ((↑u : Int) - (↑k : Int)) ((↑k : Int) - (↑u : Int)))) < Prod.snd (gp l k)) == false) = true) ∧ ((decide (max ((↑u : Int) - (↑k : Int)) ((↑k : Int) - (↑u : Int)) < (↑(List.length t) : Int)) == true && decide (Prod.snd (gp l u) + gi t (Int.toNat (max ((↑u : Int) - (↑k : Int)) ((↑k : Int) - (↑u : Int)))) < Prod.snd (gp l k)) == false) = true → (decide (max ((↑u : Int) - (↑k : Int)) ((↑k : Int) - (↑u : Int)) < (↑(List.length t) : Int)) == true && decide (Prod.snd (gp l u) + gi t (Int.toNat (max ((↑u : Int) - (↑k : Int)) ((↑k : Int) - (↑u : Int)))) < Prod.snd (gp l k)) == false) = true) ∧ True) ∧ ((decide (max ((↑u : Int) - (↑k : Int)) ((↑k : Int) - (↑u : Int)) < (↑(List.length t) : Int)) == true && decide (Prod.snd (gp l u) + gi t (Int.toNat (max ((↑u : Int) - (↑k : Int)) ((↑k : Int) - (↑u : Int)))) < Prod.snd (gp l k)) == false) = true → (-9223372036854775808 : Int) ≤ Prod.fst (gp l u) - gi t (Int.toNat (max ((↑u : Int) - (↑k : Int)) ((↑k : Int) - (↑u : Int)))) ∧ Prod.fst (gp l u) - gi t (Int.toNat (max ((↑u : Int) - (↑k : Int)) ((↑k : Int) - (↑u : Int)))) ≤ (9223372036854775807 : Int))) (V.gd (decide (max ((↑u : Int) - (↑k : Int)) ((↑k : Int) - (↑u : Int)) < (↑(List.length t) : Int)) == true && decide (Prod.snd (gp l u) + gi t (Int.toNat (max ((↑u : Int) - (↑k : Int)) ((↑k : Int) - (↑u : Int)))) < Prod.snd (gp l k)) == false) (V.i (Prod.fst (gp l u) - gi t (Int.toNat (max ((↑u : Int) - (↑k : Int)) ((↑k : Int) - (↑u : Int))))))), pc (69 : Nat) ((((decide (max ((↑u : Int) - (↑k : Int)) ((↑k : Int) - (↑u : Int)) < (↑(List.length t) : Int)) == true && decide (Prod.snd (gp l u) + gi t (Int.toNat (max ((↑u : Int) - (↑k : Int)) ((↑k : Int) - (↑u : Int)))) < Prod.snd (gp l k)) == false) = true → (decide (max ((↑u : Int) - (↑k : Int)) ((↑k : Int) - (↑u : Int)) < (↑(List.length t) : Int)) == true && decide (Prod.snd (gp l u) + gi t (Int.toNat (max ((↑u : Int) - (↑k : Int)) ((↑k : Int) - (↑u : Int)))) < Prod.snd (gp l k)) == false) = true) ∧ ((decide (max ((↑u : Int) - (↑k : Int)) ((↑k : Int) - (↑u : Int)) < (↑(List.length t) : Int)) == true && decide (Prod.snd (gp l u) + gi t (Int.toNat (max ((↑u : Int) - (↑k : Int)) ((↑k : Int) - (↑u : Int)))) < Prod.snd (gp l k)) == false) = true → (decide (max ((↑u : Int) - (↑k : Int)) ((↑k : Int) - (↑u : Int)) < (↑(List.length t) : Int)) == true && decide (Prod.snd (gp l u) + gi t (Int.toNat (max ((↑u : Int) - (↑k : Int)) ((↑k : Int) - (↑u : Int)))) < Prod.snd (gp l k)) == false) = true) ∧ True) ∧ ((decide (max ((↑u : Int) - (↑k : Int)) ((↑k : Int) - (↑u : Int)) < (↑(List.length t) : Int)) == true && decide (Prod.snd (gp l u) + gi t (Int.toNat (max ((↑u : Int) - (↑k : Int)) ((↑k : Int) - (↑u : Int)))) < Prod.snd (gp l k)) == false) = true → True)) (V.gd (decide (max ((↑u : Int) - (↑k : Int)) ((↑k : Int) - (↑u : Int)) < (↑(List.length t) : Int)) == true && decide (Prod.snd (gp l u) + gi t (Int.toNat (max ((↑u : Int) - (↑k : Int)) ((↑k : Int) - (↑u : Int)))) < Prod.snd (gp l k)) == false) (V.b (decide (Prod.fst (gp l k) < Prod.fst (gp l u) - gi t (Int.toNat (max ((↑u : Int) - (↑k : Int)) ((↑k : Int) - (↑u : Int)))))))), pc (70 : Nat) (((decide (max ((↑u : Int) - (↑k : Int)) ((↑k : Int) - (↑u : Int)) < (↑(List.length t) : Int)) == true) = true → (decide (max ((↑u : Int) - (↑k : Int)) ((↑k : Int) - (↑u : Int)) < (↑(List.length t) : Int)) == true) = true) ∧ ((decide (max ((↑u : Int) - (↑k : Int)) ((↑k : Int) - (↑u : Int)) < (↑(List.length t) : Int)) == true) = true → True) ∧ ((decide (max ((↑u : Int) - (↑k : Int)) ((↑k : Int) - (↑u : Int)) < (↑(List.length t) : Int)) == true) = true → decide (Prod.snd (gp l u) + gi t (Int.toNat (max ((↑u : Int) - (↑k : Int)) ((↑k : Int) - (↑u : Int)))) < Prod.snd (gp l k)) = false → (decide (max ((↑u : Int) - (↑k : Int)) ((↑k : Int) - (↑u : Int)) < (↑(List.length t) : Int)) == true && decide (Prod.snd (gp l u) + gi t (Int.toNat (max ((↑u : Int) - (↑k : Int)) ((↑k : Int) - (↑u : Int)))) < Prod.snd (gp l k)) == false) = true)) (V.gd (decide (max ((↑u : Int) - (↑k : Int)) ((↑k : Int) - (↑u : Int)) < (↑(List.length t) : Int)) == true) (V.b (decide (Prod.snd (gp l u) + gi t (Int.toNat (max ((↑u : Int) - (↑k : Int)) ((↑k : Int) - (↑u : Int)))) < Prod.snd (gp l k)) || decide (Prod.fst (gp l k) < Prod.fst (gp l u) - gi t (Int.toNat (max ((↑u : Int) - (↑k : Int)) ((↑k : Int) - (↑u : Int)))))))), pc (71 : Nat) ((decide (max ((↑u : Int) - (↑k : Int)) ((↑k : Int) - (↑u : Int)) < (↑(List.length t) : Int)) = true → (decide (max ((↑u : Int) - (↑k : Int)) ((↑k : Int) - (↑u : Int)) < (↑(List.length t) : Int)) == true) = true) ∧ True) (V.b (decide (max ((↑u : Int) - (↑k : Int)) ((↑k : Int) - (↑u : Int)) < (↑(List.length t) : Int)) && (decide (Prod.snd (gp l u) + gi t (Int.toNat (max ((↑u : Int) - (↑k : Int)) ((↑k : Int) - (↑u : Int)))) < Prod.snd (gp l k)) || decide (Prod.fst (gp l k) < Prod.fst (gp l u) - gi t (Int.toNat (max ((↑u : Int) - (↑k : Int)) ((↑k : Int) - (↑u : Int))))))))] (by kernel_rfl) (by kernel_rfl) ⟨⟨⟨True.intro, True.intro⟩, (fun _ => True.intro)⟩, ⟨⟨True.intro, True.intro⟩, (fun _ => True.intro)⟩, ⟨⟨(by (exact fun h => h)), ⟨(by (exact fun h => h)), True.intro⟩⟩, (by (intro hg; simp at hg; omega))⟩, ⟨⟨(by (exact fun h => h)), True.intro⟩, (fun _ => True.intro)⟩, ⟨⟨(by (exact fun h => h)), True.intro⟩, (fun _ => True.intro)⟩, ⟨⟨True.intro, True.intro⟩, (fun _ => True.intro)⟩, ⟨⟨True.intro, True.intro⟩, (fun _ => True.intro)⟩, ⟨⟨(by (exact fun h => h)), ⟨(by (exact fun h => h)), True.intro⟩⟩, (by (intro hg; simp at hg; omega))⟩, ⟨⟨(by (exact fun h => h)), True.intro⟩, (fun _ => True.intro)⟩, ⟨⟨(by (exact fun h => h)), True.intro⟩, (fun _ => True.intro)⟩, ⟨⟨True.intro, True.intro⟩, (fun _ => True.intro)⟩, ⟨⟨(by (exact fun h => h)), True.intro⟩, (fun _ => True.intro)⟩, ⟨⟨True.intro, True.intro⟩, (fun _ => True.intro)⟩, ⟨⟨(by (exact fun h => h)), ⟨(by (exact fun h => h)), True.intro⟩⟩, (by (intro hg; simp at hg; omega))⟩, ⟨⟨(by (exact fun h => h)), True.intro⟩, (fun _ => True.intro)⟩, ⟨⟨(by (exact fun h => h)), ⟨(by (exact fun h => h)), True.intro⟩⟩, (by (intro hg; simp at hg; omega))⟩, ⟨⟨(by (exact fun h => h)), ⟨(by (exact fun h => h)), True.intro⟩⟩, (fun _ => True.intro)⟩, ⟨⟨(by (exact fun h => h)), True.intro⟩, (fun _ => True.intro)⟩, ⟨⟨True.intro, True.intro⟩, (fun _ => True.intro)⟩, ⟨⟨True.intro, True.intro⟩, (fun _ => True.intro)⟩, ⟨⟨(by (exact fun h => h)), ⟨(by (exact fun h => h)), True.intro⟩⟩, (by (intro hg; simp at hg; omega))⟩, ⟨⟨(by (exact fun h => h)), True.intro⟩, (fun _ => True.intro)⟩, ⟨⟨(by (exact fun h => h)), True.intro⟩, (fun _ => True.intro)⟩, ⟨⟨True.intro, True.intro⟩, (fun _ => True.intro)⟩, ⟨⟨True.intro, True.intro⟩, (fun _ => True.intro)⟩, ⟨⟨(by (exact fun h => h)), ⟨(by (exact fun h => h)), True.intro⟩⟩, (by (intro hg; simp at hg; omega))⟩, ⟨⟨(by (exact fun h => h)), True.intro⟩, (fun _ => True.intro)⟩, ⟨⟨(by (exact fun h => h)), True.intro⟩, (fun _ => True.intro)⟩, ⟨⟨True.intro, True.intro⟩, (fun _ => True.intro)⟩, ⟨⟨(by (exact fun h => h)), True.intro⟩, (fun _ => True.intro)⟩, ⟨⟨True.intro, True.intro⟩, (fun _ => True.intro)⟩, ⟨⟨(by (exact fun h => h)), ⟨(by (exact fun h => h)), True.intro⟩⟩, (by (intro hg; simp at hg; omega))⟩, ⟨⟨(by (exact fun h => h)), True.intro⟩, (fun _ => True.intro)⟩, ⟨⟨(by (exact fun h => h)), ⟨(by (exact fun h => h)), True.intro⟩⟩, (by (intro hg; simp at hg; omega))⟩, ⟨⟨(by (exact fun h => h)), ⟨(by (exact fun h => h)), True.intro⟩⟩, (fun _ => True.intro)⟩, ⟨(by (exact fun h => h)), ⟨(fun _ => True.intro), (by (simp; omega))⟩⟩, ⟨(by (intro h; rw [h]; rfl)), True.intro⟩, True.intro⟩ ?_
      refine aops_nil ⟨by kernel_rfl, ?_⟩
      refine xt_n ?_
      refine hK _ ?_
      clear hK K
      refine w_cond rfl (fun hc => ?_) (fun hc => ?_)
      · have hm : missB t l k u = true := by rw [missB_form]; exact hc
        refine aw_seq_k fun K hK => ?_
        refine w_region (n' := 5) (by kernel_rfl) (by kernel_rfl) ?_
        refine aops_n hTT (M := []) (n := 5) [pv (72 : Nat) (V.i (↑k : Int)), pv (73 : Nat) (V.i (↑u : Int)), pv (4 : Nat) (V.i (↑k : Int)), pv (5 : Nat) (V.i (↑u : Int)), pv (6 : Nat) (V.b true)] (by kernel_rfl) (by kernel_rfl) True.intro ?_
        refine aops_nil ?_
        refine xt_n ?_
        refine hK _ ?_
        clear hK K
        refine aw_ret ?_
        refine xb_r ?_
        refine xt_r ?_
        refine xt_r ?_
        refine xb_r ?_
        refine xb_r ?_
        refine xt_r ?_
        refine xt_r ?_
        refine xb_r ?_
        refine xt_r ?_
        rw [missI_some h hul hm hbad hrow]
        refine ret_pure (.inr rfl) rfl rfl rfl
      · have hm : missB t l k u = false := by rw [missB_form]; exact hc
        refine aw_skip ?_
        refine xb_n ?_
        refine xt_n ?_
        refine hK _ ?_
        clear hK K
        refine w_region (n' := 5) (by kernel_rfl) (by kernel_rfl) ?_
        refine aops_n hTT (M := []) (n := 3) [pv (20 : Nat) (V.i (↑u : Int)), pc (21 : Nat) ((-9223372036854775808 : Int) ≤ (↑u : Int) + (1 : Int) ∧ (↑u : Int) + (1 : Int) ≤ (9223372036854775807 : Int)) (V.i ((↑u : Int) + (1 : Int))), pv (8 : Nat) (V.i ((↑u : Int) + (1 : Int)))] (by kernel_rfl) (by kernel_rfl) ⟨(by omega), True.intro⟩ ?_
        refine aops_nil ?_
        refine xt_n ?_
        refine ⟨u + 1, ⟨by omega, fun j hj => ?_⟩, le_ren [] (.cons rfl (.cons rfl (.cons rfl (.cons rfl .nil)))) .nil rfl rfl, by omega⟩
        by_cases he : j = u
        · subst he; exact hm
        · exact hbad j (by omega)
    · simp at hul
      have hr : missRow t l k = none := find_none fun j hj => hbad j (by omega)
      refine aw_exit ?_
      refine xt_x ?_
      refine xt_x ?_
      refine xb_same ?_
      refine xb_n ?_
      refine xt_n ?_
      clear hK K
      refine hK _ ?_
      clear hK K
      refine w_region (n' := 3) (by kernel_rfl) (by kernel_rfl) ?_
      refine aops_n hTT (M := []) (n := 3) [pv (14 : Nat) (V.i (↑k : Int)), pc (15 : Nat) ((-9223372036854775808 : Int) ≤ (↑k : Int) + (1 : Int) ∧ (↑k : Int) + (1 : Int) ≤ (9223372036854775807 : Int)) (V.i ((↑k : Int) + (1 : Int))), pv (7 : Nat) (V.i ((↑k : Int) + (1 : Int)))] (by kernel_rfl) (by kernel_rfl) ⟨(by omega), True.intro⟩ ?_
      refine aops_nil ?_
      refine xt_n ?_
      refine ⟨k + 1, ⟨by omega, fun i hi => ?_⟩, le_ren [] (.cons rfl (.cons rfl (.cons rfl .nil))) .nil rfl rfl, by omega⟩
      by_cases he : i = k
      · subst he; exact hr
      · exact hrow i (by omega)
  · simp at h
    refine aw_exit ?_
    refine xt_x ?_
    refine xt_x ?_
    refine xb_same ?_
    refine xt_n ?_
    clear hK K
    refine hK _ ?_
    clear hK K
    refine aw_seq_k fun K hK => ?_
    refine w_region (n' := 3) (by kernel_rfl) (by kernel_rfl) ?_
    refine aops_n hTT (M := []) (n := 3) [pv (4 : Nat) (V.i (0 : Int)), pv (5 : Nat) (V.i (0 : Int)), pv (6 : Nat) (V.b false)] (by kernel_rfl) (by kernel_rfl) True.intro ?_
    refine aops_nil ?_
    refine xt_n ?_
    refine hK _ ?_
    clear hK K
    refine aw_ret ?_
    rw [missI_none fun j hj => hrow j (by omega)]
    refine ret_pure (.inr rfl) rfl rfl rfl

/-- what Miss returns -/
def missO (t : List Int) (l : List Pt) : Int × Int × Int := if checkBoth t l = 0 then missI t l else (0, 0, checkBoth t l)
set_option maxRecDepth 100000 in
theorem Miss_ac (t : List Int) (l : List Pt) (ht : t.length ≤ 4611686018427387904) (hl : l.length ≤ 4611686018427387904) : AC Try.prog 35 [.agg [V.ints t], V.pts l] (.tup [.i (missO t l).1, .i (missO t l).2.1, .i (missO t l).2.2]) [] := by
  refine ac_intro hTT hMX (fn := Try.f35) (N := _) ⟨Try.func35, rfl, Try.ntmps35, by kernel_rfl⟩ (by simp) fun C hC hF => ?_
  refine aw_seq_k fun K hK => ?_
  refine w_region (n' := 2) (by kernel_rfl) (by kernel_rfl) ?_
  refine aops_n hTT (M := []) (n := 4) [pv (2 : Nat) (V.ptr [V.sl (1 : Nat) (List.length t) fun (k : Nat) => [V.i (gi t k)]]), pv (4 : Nat) (V.i (0 : Int)), pv (5 : Nat) (V.i (0 : Int)), pv (6 : Nat) (V.i (0 : Int))] (by kernel_rfl) (by kernel_rfl) True.intro ?_
  refine aops_nil ?_
  refine xt_n ?_
  refine hK _ ?_
  clear hK K
  refine aw_seq_k fun K hK => ?_
  refine aw_seq_k fun K hK => ?_
  refine w_region (n' := 3) (by kernel_rfl) (by kernel_rfl) ?_
  refine aops_n hTT (M := []) (n := 2) [pv (8 : Nat) (V.agg [V.sl (1 : Nat) (List.length t) fun (k : Nat) => [V.i (gi t k)]]), pv (9 : Nat) (V.sl (2 : Nat) (List.length l) fun (k : Nat) => [V.i (Prod.fst (gp l k)), V.i (Prod.snd (gp l k))])] (by kernel_rfl) (by kernel_rfl) True.intro ?_
  refine e_call (check_ac t l ht hl) rfl rfl rfl rfl rfl ?_
  refine aops_n hTT (M := []) (n := 1) [pv (7 : Nat) (V.i (checkBoth t l))] (by kernel_rfl) (by kernel_rfl) True.intro ?_
  refine aops_nil ?_
  refine xt_n ?_
  refine hK _ ?_
  clear hK K
  refine aw_seq_k fun K hK => ?_
  refine w_region (n' := 4) (by kernel_rfl) (by kernel_rfl) ?_
  refine aops_n hTT (M := []) (n := 2) [pv (11 : Nat) (V.i (checkBoth t l)), pv (12 : Nat) (V.b !decide (checkBoth t l = (0 : Int)))] (by kernel_rfl) (by kernel_rfl) True.intro ?_
  refine aops_nil ?_
  refine xt_n ?_
  refine hK _ ?_
  clear hK K
  refine w_cond rfl (fun h => ?_) (fun h => ?_)
  · simp at h
    refine aw_seq_k fun K hK => ?_
    refine w_region (n' := 5) (by kernel_rfl) (by kernel_rfl) ?_
    refine aops_n hTT (M := []) (n := 4) [pv (13 : Nat) (V.i (checkBoth t l)), pv (4 : Nat) (V.i (0 : Int)), pv (5 : Nat) (V.i (0 : Int)), pv (6 : Nat) (V.i (checkBoth t l))] (by kernel_rfl) (by kernel_rfl) True.intro ?_
    refine aops_nil ?_
    refine xt_n ?_
    refine hK _ ?_
    clear hK K
    refine aw_ret ?_
    refine xt_r ?_
    rw [missO, if_neg h]
    refine ret_pure (.inr rfl) rfl rfl rfl
  · simp at h
    refine aw_skip ?_
    refine xt_n ?_
    refine hK _ ?_
    clear hK K
    refine aw_seq_k fun K hK => ?_
    refine w_region (n' := 5) (by kernel_rfl) (by kernel_rfl) ?_
    refine aops_n hTT (M := []) (n := 2) [pv (14 : Nat) (V.agg [V.sl (1 : Nat) (List.length t) fun (k : Nat) => [V.i (gi t k)]]), pv (15 : Nat) (V.sl (2 : Nat) (List.length l) fun (k : Nat) => [V.i (Prod.fst (gp l k)), V.i (Prod.snd (gp l k))])] (by kernel_rfl) (by kernel_rfl) True.intro ?_
    refine e_call (miss_ac t l h) rfl rfl rfl rfl rfl ?_
    refine aops_n hTT (M := []) (n := 6) [pv (17 : Nat) (V.i (Prod.fst (missI t l))), pv (18 : Nat) (V.i (Prod.fst (Prod.snd (missI t l)))), pv (19 : Nat) (V.i (Prod.snd (Prod.snd (missI t l)))), pv (4 : Nat) (V.i (Prod.fst (missI t l))), pv (5 : Nat) (V.i (Prod.fst (Prod.snd (missI t l)))), pv (6 : Nat) (V.i (Prod.snd (Prod.snd (missI t l))))] (by kernel_rfl) (by kernel_rfl) True.intro ?_
    refine aops_nil ?_
    refine xt_n ?_
    refine hK _ ?_
    clear hK K
    refine aw_ret ?_
    rw [missO, if_pos h]
    refine ret_pure (.inr rfl) rfl rfl rfl
theorem missI_cases (t : List Int) (l : List Pt) : (missI t l).2.2 = 0 ∨ missI t l = (0, 0, 5) := by
  unfold missI
  cases missP t l with
  | none => exact .inr rfl
  | some p => exact .inl rfl
set_option maxRecDepth 100000 in
theorem refMiss_ac (t : List Int) (l : List Pt) (ht : t.length ≤ 4611686018427387904) (hl : l.length ≤ 4611686018427387904) : AC Try.prog 36 [.agg [V.ints t], V.pts l] (.tup [.i (missO t l).1, .i (missO t l).2.1, .i (missO t l).2.2]) [] := by
  refine ac_intro hTT hMX (fn := Try.f36) (N := _) ⟨Try.func36, rfl, Try.ntmps36, by kernel_rfl⟩ (by simp) fun C hC hF => ?_
  refine aw_seq_k fun K hK => ?_
  refine w_region (n' := 2) (by kernel_rfl) (by kernel_rfl) ?_
  refine aops_n hTT (M := []) (n := 4) [pv (2 : Nat) (V.ptr [V.sl (1 : Nat) (List.length t) fun (k : Nat) => [V.i (gi t k)]]), pv (4 : Nat) (V.i (0 : Int)), pv (5 : Nat) (V.i (0 : Int)), pv (6 : Nat) (V.i (0 : Int))] (by kernel_rfl) (by kernel_rfl) True.intro ?_
  refine aops_nil ?_
  refine xt_n ?_
  refine hK _ ?_
  clear hK K
  refine aw_seq_k fun K hK => ?_
  refine w_region (n' := 3) (by kernel_rfl) (by kernel_rfl) ?_
  refine aops_n hTT (M := []) (n := 2) [pv (11 : Nat) (V.agg [V.sl (1 : Nat) (List.length t) fun (k : Nat) => [V.i (gi t k)]]), pv (12 : Nat) (V.sl (2 : Nat) (List.length l) fun (k : Nat) => [V.i (Prod.fst (gp l k)), V.i (Prod.snd (gp l k))])] (by kernel_rfl) (by kernel_rfl) True.intro ?_
  refine e_call (both_ac t l ht hl) rfl rfl rfl rfl rfl ?_
  refine aops_n hTT (M := []) (n := 1) [pv (7 : Nat) (V.i (checkBoth t l))] (by kernel_rfl) (by kernel_rfl) True.intro ?_
  refine aops_nil ?_
  refine xt_n ?_
  refine hK _ ?_
  clear hK K
  refine aw_seq_k fun K hK => ?_
  refine aw_seq_k fun K hK => ?_
  refine w_region (n' := 4) (by kernel_rfl) (by kernel_rfl) ?_
  refine aops_n hTT (M := []) (n := 2) [pv (14 : Nat) (V.i (checkBoth t l)), pv (15 : Nat) (V.b !decide (checkBoth t l = (0 : Int)))] (by kernel_rfl) (by kernel_rfl) True.intro ?_
  refine aops_nil ?_
  refine xt_n ?_
  refine hK _ ?_
  clear hK K
  refine w_cond rfl (fun h => ?_) (fun h => ?_)
  · simp at h
    refine aw_seq_k fun K hK => ?_
    refine w_region (n' := 5) (by kernel_rfl) (by kernel_rfl) ?_
    refine aops_n hTT (M := []) (n := 4) [pv (16 : Nat) (V.i (checkBoth t l)), pv (4 : Nat) (V.i (0 : Int)), pv (5 : Nat) (V.i (0 : Int)), pv (6 : Nat) (V.i (checkBoth t l))] (by kernel_rfl) (by kernel_rfl) True.intro ?_
    refine aops_nil ?_
    refine xt_n ?_
    refine hK _ ?_
    clear hK K
    refine aw_ret ?_
    refine xt_r ?_
    rw [missO, if_neg h]
    refine ret_pure (.inr rfl) rfl rfl rfl
  · simp at h
    refine aw_skip ?_
    refine xt_n ?_
    refine hK _ ?_
    clear hK K
    refine aw_seq_k fun K hK => ?_
    refine w_region (n' := 5) (by kernel_rfl) (by kernel_rfl) ?_
    refine aops_n hTT (M := []) (n := 2) [pv (18 : Nat) (V.agg [V.sl (1 : Nat) (List.length t) fun (k : Nat) => [V.i (gi t k)]]), pv (19 : Nat) (V.sl (2 : Nat) (List.length l) fun (k : Nat) => [V.i (Prod.fst (gp l k)), V.i (Prod.snd (gp l k))])] (by kernel_rfl) (by kernel_rfl) True.intro ?_
    refine e_call (refmiss_ac t l h) rfl rfl rfl rfl rfl ?_
    refine aops_n hTT (M := []) (n := 7) [pv (17 : Nat) (V.tup [V.i (Prod.fst (missI t l)), V.i (Prod.fst (Prod.snd (missI t l))), V.b (decide (Prod.snd (Prod.snd (missI t l)) = (0 : Int)))]), pv (21 : Nat) (V.i (Prod.fst (missI t l))), pv (22 : Nat) (V.i (Prod.fst (Prod.snd (missI t l)))), pv (23 : Nat) (V.b (decide (Prod.snd (Prod.snd (missI t l)) = (0 : Int)))), pv (8 : Nat) (V.i (Prod.fst (missI t l))), pv (9 : Nat) (V.i (Prod.fst (Prod.snd (missI t l)))), pv (10 : Nat) (V.b (decide (Prod.snd (Prod.snd (missI t l)) = (0 : Int))))] (by kernel_rfl) (by kernel_rfl) True.intro ?_
    refine aops_nil ?_
    refine xt_n ?_
    refine hK _ ?_
    clear hK K
    refine aw_seq_k fun K hK => ?_
    refine aw_seq_k fun K hK => ?_
    refine w_region (n' := 6) (by kernel_rfl) (by kernel_rfl) ?_
    refine aops_n hTT (M := []) (n := 2) [pv (24 : Nat) (V.b (decide (Prod.snd (Prod.snd (missI t l)) = (0 : Int)))), pv (25 : Nat) (V.b !decide (Prod.snd (Prod.snd (missI t l)) = (0 : Int)))] (by kernel_rfl) (by kernel_rfl) True.intro ?_
    refine aops_nil ?_
    refine xt_n ?_
    refine hK _ ?_
    clear hK K
    refine w_cond rfl (fun h2 => ?_) (fun h2 => ?_)
    · simp at h2
      have h3 := (missI_cases t l).resolve_left h2
      refine aw_seq_k fun K hK => ?_
      refine w_region (n' := 7) (by kernel_rfl) (by kernel_rfl) ?_
      refine aops_n hTT (M := []) (n := 3) [pv (4 : Nat) (V.i (0 : Int)), pv (5 : Nat) (V.i (0 : Int)), pv (6 : Nat) (V.i (5 : Int))] (by kernel_rfl) (by kernel_rfl) True.intro ?_
      refine aops_nil ?_
      refine xt_n ?_
      refine hK _ ?_
      clear hK K
      refine aw_ret ?_
      refine xt_r ?_
      rw [missO, if_pos h, h3]
      refine ret_pure (.inr rfl) rfl rfl rfl
    · simp at h2
      refine aw_skip ?_
      refine xt_n ?_
      refine hK _ ?_
      clear hK K
      refine aw_seq_k fun K hK => ?_
      refine w_region (n' := 7) (by kernel_rfl) (by kernel_rfl) ?_
      refine aops_n hTT (M := []) (n := 5) [pv (26 : Nat) (V.i (Prod.fst (missI t l))), pv (27 : Nat) (V.i (Prod.fst (Prod.snd (missI t l)))), pv (4 : Nat) (V.i (Prod.fst (missI t l))), pv (5 : Nat) (V.i (Prod.fst (Prod.snd (missI t l)))), pv (6 : Nat) (V.i (0 : Int))] (by kernel_rfl) (by kernel_rfl) True.intro ?_
      refine aops_nil ?_
      refine xt_n ?_
      refine hK _ ?_
      clear hK K
      refine aw_ret ?_
      rw [missO, if_pos h, h2]
      refine ret_pure (.inr rfl) rfl rfl rfl
end Go.Proofs.Ytlfaaddoemcokaa

namespace Go.Proofs.Ytlfaaddoemcokaa
open Go.Ab Go.RowKit Go.Dw Go.Shelf

theorem gp_readP {t : List Int} {l : List Pt} {i : Nat} (hi : i < l.length) : gp (readP t l) i = readPt t l i l.length := by
  rw [← readPts_eq, readPts, gp_eq (by simpa using hi)]
  simp
theorem le_out {t : List Int} {l : List Pt} {i : Nat} (hi : i < l.length) {x : Int} : x ≤ (gp (readP t l) i).2 ↔ x ≤ (gp l i).2 ∧ ∀ u, u < l.length → dist u i < t.length → x ≤ (gp l u).2 + gi t (dist u i) := by
  rw [gp_readP hi]; exact le_readPt l.length
theorem in_le {t : List Int} {l : List Pt} {i : Nat} (hi : i < l.length) {x : Int} : (gp (readP t l) i).1 ≤ x ↔ (gp l i).1 ≤ x ∧ ∀ u, u < l.length → dist u i < t.length → (gp l u).1 - gi t (dist u i) ≤ x := by
  rw [gp_readP hi]; exact readPt_le l.length
theorem missB_false {t : List Int} {l : List Pt} {i u : Nat} : missB t l i u = false ↔ (dist u i < t.length → (gp l i).2 ≤ (gp l u).2 + gi t (dist u i) ∧ (gp l u).1 - gi t (dist u i) ≤ (gp l i).1) := by
  simp [missB]
theorem row_none {t : List Int} {l : List Pt} {i : Nat} : missRow t l i = none ↔ ∀ u, u < l.length → missB t l i u = false := by
  constructor
  · intro h u hu
    unfold missRow at h
    rw [List.find?_eq_none] at h
    simpa using h u (by simpa using hu)
  · exact find_none
theorem row_none_iff {t : List Int} {l : List Pt} {i : Nat} (hi : i < l.length) : missRow t l i = none ↔ gp (readP t l) i = gp l i := by
  rw [row_none]
  have a1 : (gp (readP t l) i).2 ≤ (gp l i).2 := ((le_out hi).1 (Int.le_refl _)).1
  have a2 : (gp l i).1 ≤ (gp (readP t l) i).1 := ((in_le hi).1 (Int.le_refl _)).1
  constructor
  · intro h
    have b1 : (gp l i).2 ≤ (gp (readP t l) i).2 := (le_out hi).2 ⟨Int.le_refl _, fun u hu hd => (missB_false.1 (h u hu) hd).1⟩
    have b2 : (gp (readP t l) i).1 ≤ (gp l i).1 := (in_le hi).2 ⟨Int.le_refl _, fun u hu hd => (missB_false.1 (h u hu) hd).2⟩
    exact Prod.ext (Int.le_antisymm b2 a2) (Int.le_antisymm a1 b1)
  · intro h u hu
    refine missB_false.2 fun hd => ⟨((le_out hi).1 (by rw [h]; exact Int.le_refl _)).2 u hu hd, ((in_le hi).1 (by rw [h]; exact Int.le_refl _)).2 u hu hd⟩
theorem findSome_range {β : Type} {f : Nat → Option β} {y : β} : ∀ {n : Nat}, (List.range n).findSome? f = some y → ∃ k, k < n ∧ f k = some y ∧ ∀ j, j < k → f j = none
  | 0, h => by simp at h
  | n + 1, h => by
    rw [List.range_succ, List.findSome?_append] at h
    cases hn : (List.range n).findSome? f with
    | some z =>
      rw [hn] at h
      obtain ⟨k, h1, h2, h3⟩ := findSome_range hn
      simp at h
      exact ⟨k, by omega, by rw [h2, h], h3⟩
    | none =>
      rw [hn] at h
      rw [List.findSome?_eq_none_iff] at hn
      refine ⟨n, by omega, by simpa using h, fun j hj => hn j (by simpa using hj)⟩
theorem missP_none {t : List Int} {l : List Pt} : missP t l = none ↔ ∀ i, i < l.length → missRow t l i = none := by
  unfold missP
  rw [List.findSome?_eq_none_iff]
  simp
theorem exact_none {t : List Int} {l : List Pt} (h : missP t l = none) : readP t l = l ∧ sweepP t l = l := by
  have hr : readP t l = l := list_ext_gp (readP_length t l) fun k hk => by
    rw [readP_length] at hk
    exact (row_none_iff hk).1 (missP_none.1 h k hk)
  refine ⟨hr, pts_ext fun inn => ?_⟩
  have h1 := inside_iff.1 (sweepP_in t l) inn
  have h2 := inside_iff.1 (readP_in_sweepP t l) inn
  rw [hr] at h2
  exact h1.antisymm h2
theorem exact_some {t : List Int} {l : List Pt} {p : Nat × Nat} (h : missP t l = some p) : p.1 < l.length ∧ p.2 < l.length ∧ missB t l p.1 p.2 = true ∧ gp (readP t l) p.1 ≠ gp l p.1 ∧ ∀ j, j < p.1 → gp (readP t l) j = gp l j := by
  obtain ⟨k, h1, h2, h3⟩ := findSome_range h
  cases hr : missRow t l k with
  | none => rw [hr] at h2; cases h2
  | some u =>
    rw [hr] at h2
    simp only [Option.map_some, Option.some.injEq] at h2
    subst h2
    have hr' := hr
    unfold missRow at hr'
    rw [List.find?_range_eq_some] at hr'
    refine ⟨h1, by simpa using hr'.2.1, hr'.1, fun he => ?_, fun j hj => ?_⟩
    · rw [(row_none_iff h1).2 he] at hr; cases hr
    · have := h3 j hj
      have hn : missRow t l j = none := by
        cases hq : missRow t l j with
        | none => rfl
        | some v => rw [hq] at this; cases this
      exact (row_none_iff (by simp at hj; omega)).1 hn
theorem miss_zero (l : List Pt) : missP [0] l = none := missP_none.2 fun i _ => row_none.2 fun u _ => missB_false.2 fun hd => by
  have : u = i := by simp [dist] at hd; omega
  subst this
  simp [dist, gi]
theorem miss_sharper {s t : List Int} {l : List Pt} (hs : Sharper s t) (h : missP t l = none) : missP s l = none := missP_none.2 fun i hi => row_none.2 fun u hu => missB_false.2 fun hd => by
  have := missB_false.1 (row_none.1 (missP_none.1 h i hi) u hu) (by have := hs.1; omega)
  have := hs.2 _ hd
  omega
end Go.Proofs.Ytlfaaddoemcokaa

namespace Go.Proofs.Ytlfaaddoemcokaa
open Go.Ab Go.RowKit Go.Dw Go.Shelf

theorem R_slEq {w : World} {L : Nat → Prop} {ρ : Nat → Option Value} {sz n : Nat} {row row' : Nat → List V} {x : Value} (h : R w L ρ (.sl sz n row) x) (he : ∀ i, i < n → row i = row' i) : R w L ρ (.sl sz n row') x := by
  obtain ⟨A, c, rfl, h'⟩ := h.sl_inv
  refine .sl' h.sl_cap fun hn => ?_
  obtain ⟨b, o, hA, hb, hlen, hc⟩ := h' hn
  exact ⟨b, o, hA, hb, fun i hi => by rw [← he i hi]; exact hlen i hi, fun i j u hi hu => hc i j u hi (by rw [he i hi]; exact hu)⟩
theorem AC.args {P : Program} {f : FuncId} {args args' : List V} {v : V} {obs : List Ob} (h : AC P f args v obs) (hc : ∀ (w : World) (L : Nat → Prop) (vs : List Value), RV w L ρ0 args' vs → RV w L ρ0 args vs) : AC P f args' v obs :=
  ⟨h.1, fun L w vs hL hv => h.2 L w vs hL (hc w L _ hv)⟩
theorem RV_map {w : World} {L : Nat → Prop} {ρ : Nat → Option Value} {us us' : List V} {xs : List Value} (h : RV w L ρ us xs) (hl : us.length = us'.length) (hc : ∀ (i : Nat) u u' x, us[i]? = some u → us'[i]? = some u' → R w L ρ u x → R w L ρ u' x) : RV w L ρ us' xs := by
  refine ⟨by rw [← hl]; exact h.1, fun i u' x hu' hx => ?_⟩
  have hi : i < us.length := by have := (List.getElem?_eq_some_iff.1 hu').1; omega
  exact hc i us[i] u' x (List.getElem?_eq_getElem hi) hu' (h.2 i _ x (List.getElem?_eq_getElem hi) hx)
theorem same_take_ac (a b : List Pt) (i : Nat) (ha : i ≤ a.length) (hb : i ≤ b.length) (hi : i ≤ 4611686018427387904) (he : ∀ j, j < i → gp a j = gp b j) :
    AC Try.prog 27 [.sl 2 i fun k => [.i (gp a k).1, .i (gp a k).2], .sl 2 i fun k => [.i (gp b k).1, .i (gp b k).2]] (.b true) [] := by
  have hla : (a.take i).length = i := by simp; omega
  have hlb : (b.take i).length = i := by simp; omega
  have hg : ∀ (l : List Pt) (k : Nat), k < i → gp (l.take i) k = gp l k := fun l k hk => by simp [gp, List.getD_eq_getElem?_getD, List.getElem?_take, hk]
  have heq : a.take i = b.take i := list_ext_gp (by rw [hla, hlb]) fun k hk => by rw [hla] at hk; rw [hg a k hk, hg b k hk]; exact he k hk
  have := same_ac (a.take i) (b.take i) (by omega) (by omega)
  rw [decide_eq_true heq] at this
  refine AC.args this fun w L vs hv => RV_map hv rfl ?_
  intro j u u' x hu hu' hr
  have conv : ∀ l : List Pt, (l.take i).length = i → R w L ρ0 (.sl 2 i fun k => [.i (gp l k).1, .i (gp l k).2]) x → R w L ρ0 (V.pts (l.take i)) x := fun l hl h => by
    unfold V.pts
    rw [hl]
    exact R_slEq h fun k hk => by rw [hg l k hk]
  match j, hu, hu' with
  | 0, hu, hu' => simp at hu hu'; subst hu hu'; exact conv a hla hr
  | 1, hu, hu' => simp at hu hu'; subst hu hu'; exact conv b hlb hr
  | j + 2, hu, _ => simp at hu
theorem valid_ac (t : List Int) (l : List Pt) (most : Int) (ht : t.length ≤ 4611686018427387904) (hl : l.length ≤ 4611686018427387904) : AC Try.prog 19 [.agg [V.ints t], V.pts l, .i most] (.b (validB t l most)) [] := by
  refine ac_of_flat (enters_of Try.func19 (by kernel_rfl) rfl) fun L w vs hL hvs => ?_
  obtain ⟨vs⟩ := vs
  obtain ⟨x1, e1, q1⟩ := hvs.get (i := 0) rfl
  obtain ⟨x2, e2, q2⟩ := hvs.get (i := 1) rfl
  obtain ⟨x3, e3, q3⟩ := hvs.get (i := 2) rfl
  obtain ⟨xs, rfl, hx⟩ := q1.agg_inv
  obtain ⟨xs⟩ := xs
  obtain ⟨y, e4, q4, _⟩ := hx.get (i := 0) rfl
  obtain ⟨A, c, rfl, _, ha⟩ := R_ints_inv q4 hL
  obtain ⟨B, d, rfl, _, hb⟩ := R_pts_inv q2 hL
  have hn := hvs.1
  have hm := hx.1
  obtain rfl := q3.c_inv
  have hvs' : vs = [.agg #[.slice A t.length c], .slice B l.length d, .int .i64 most] := by
    match vs, hn, xs, hm with
    | [a, b, c], _, [x], _ => simp at e1 e2 e3 e4; subst e1 e2 e3 e4; rfl
  subst hvs'
  exact valid_calls A _ c t B _ d l most w ha hb ht hl
theorem sharper_ac (t bs : List Int) (less : Int) (hm : bs.length ≤ 4611686018427387904) (hck : checkTip t = 0) (hbb : ∀ x ∈ bs, 0 ≤ x ∧ x ≤ 255) (hle : 0 ≤ less ∧ less ≤ 255) :
    AC Try.prog 26 [.agg [V.ints t], V.nums .u8 bs, .c (.int .u8 less)] (.agg [V.ints (sharpL t bs less)]) [] := by
  refine ac_of_calls (enters_of Try.func26 (by kernel_rfl) rfl) fun L w vs hL hvs => ?_
  obtain ⟨vs⟩ := vs
  obtain ⟨x1, e1, q1⟩ := hvs.get (i := 0) rfl
  obtain ⟨x2, e2, q2⟩ := hvs.get (i := 1) rfl
  obtain ⟨x3, e3, q3⟩ := hvs.get (i := 2) rfl
  obtain ⟨xs, rfl, hx⟩ := q1.agg_inv
  obtain ⟨xs⟩ := xs
  obtain ⟨y, e4, q4, _⟩ := hx.get (i := 0) rfl
  obtain ⟨A, c, rfl, _, ha⟩ := R_ints_inv q4 hL
  obtain ⟨B, d, rfl, _, hb⟩ := R_nums_inv q2 hL
  have hn := hvs.1
  have hxm := hx.1
  obtain rfl := q3.c_inv
  have hvs' : vs = [.agg #[.slice A t.length c], .slice B bs.length d, .int .u8 less] := by
    match vs, hn, xs, hxm with
    | [a, b, c], _, [x], _ => simp at e1 e2 e3 e4; subst e1 e2 e3 e4; rfl
  subst hvs'
  refine (sharper_calls A B _ c _ d t bs less w ha hb hm hck hbb hle).mono ?_
  rintro e w' ⟨v, rfl, ho, hb'⟩
  obtain ⟨N, hN, hr⟩ := own_R_ints ho
  have hone : v.oneCell' = true := by
    obtain ⟨A', c', rfl⟩ := own_form ho
    rfl
  exact ⟨_, rfl, hb', N, hN, .agg' (.cons ((hr ρ0).ext ⟨fun b hb => ⟨.inr hb, rfl⟩, fun _ _ h => h⟩) hone .nil)⟩
/-- a tip of one element 0, as a literal makes it -/
theorem zero_ac (f : FuncId) (l : List Pt) {v : V} (h : AC Try.prog f [.agg [V.ints [0]], V.pts l] v []) : AC Try.prog f [.agg [.sl 1 1 fun i => ([V.c (.int .i64 0)].drop (i * 1)).take 1], V.pts l] v [] := by
  refine AC.args h fun w L vs hv => RV_map hv rfl ?_
  intro j u u' x hu hu' hr
  match j, hu, hu' with
  | 0, hu, hu' =>
    simp at hu hu'
    subst hu hu'
    obtain ⟨xs, rfl, hx⟩ := hr.agg_inv
    refine .agg' ⟨hx.1, fun i u y hu hy => ?_⟩
    match i, hu with
    | 0, hu =>
      simp at hu; subst hu
      have := hx.2 0 _ y rfl hy
      refine ⟨R_slEq (n := 1) this.1 fun i hi => ?_, this.2⟩
      obtain rfl : i = 0 := by omega
      rfl
    | i + 1, hu => simp at hu
  | 1, hu, hu' => simp at hu hu'; subst hu hu'; exact hr
  | j + 2, hu, _ => simp at hu
end Go.Proofs.Ytlfaaddoemcokaa
