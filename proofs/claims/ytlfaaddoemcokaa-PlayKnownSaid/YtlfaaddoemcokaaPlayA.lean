/-
  The iterators and the fold by which package play reads a wall: near, the closure of walk, fold. Conditions: lengths of at most 65536, heights and elements of at most 16777216.
-/
import Derived.Test.YtlfaaddoemcokaaProg
import Derived.Test.YtlfaaddoemcokaaStill
namespace Go.Proofs.Ytlfaaddoemcokaa
open Go.RowKit Go.Dw Go.Shelf
attribute [local go_sem] Oper.semAt_some

def dist (u i : Nat) : Nat := max (u - i) (i - u)
def nearLo (i r : Nat) : Nat := i + 1 - r
def nearN (i n r : Nat) : Nat := min n (i + r) - nearLo i r
def nearE (i r k : Nat) : Array Value := #[.int .i64 ((nearLo i r : Int) + (k : Int)), .int .i64 (dist (nearLo i r + k) i : Nat)]
def nearEs (i n r : Nat) : List (Array Value) := (List.range (nearN i n r)).map (nearE i r)

set_option maxHeartbeats 1000000 in
theorem near_iter (bi br bn i n r : Nat) (hi : i ≤ 65536) (hn : n ≤ 65536) (hr : r ≤ 65536) (w : World) (R : Nat → Prop)
    (h1 : Box w bi 3 #[.int .i64 i]) (h2 : Box w br 3 #[.int .i64 r]) (h3 : Box w bn 3 #[.int .i64 n]) (r1 : ¬ R bi) (r2 : ¬ R br) (r3 : ¬ R bn) :
    Iter Try.prog 100 #[.pointer (some ⟨bi, 0, none⟩), .pointer (some ⟨br, 0, none⟩), .pointer (some ⟨bn, 0, none⟩)] (nearEs i n r) R w := by
  intro l J Jx W hT hl hlW hJ hJx hY h0
  have hb : ∀ wr, Tch (fun k => R k ∨ k = l) W wr → wr.cell? ⟨bi, 0, none⟩ = some (.int .i64 i) ∧ wr.cell? ⟨br, 0, none⟩ = some (.int .i64 r) ∧ wr.cell? ⟨bn, 0, none⟩ = some (.int .i64 n) := fun wr ht =>
    ⟨(ht.box (hT.box h1 r1) (by rintro (e | e); exact r1 e; have := h1.lt; omega)).cell 0, (ht.box (hT.box h2 r2) (by rintro (e | e); exact r2 e; have := h2.lt; omega)).cell 0,
      (ht.box (hT.box h3 r3) (by rintro (e | e); exact r3 e; have := h3.lt; omega)).cell 0⟩
  obtain ⟨c1, c2, c3⟩ := hb W (Tch.refl _ _)
  have e1 : max (0 : Int) ((i : Int) - (r : Int) + 1) = ((nearLo i r : Nat) : Int) := by unfold nearLo; omega
  refine callsIn_of_wp Try.func100 rfl trivial ?_ rfl
  simp only [Try.ntmps100, List.size_toArray, List.length_cons, List.length_nil, Nat.reduceAdd, Nat.reduceSub, Array.replicate_succ, Array.replicate_zero, List.push_toArray, List.append_toArray, List.nil_append, List.cons_append]
  gi_wp2
  gi_loopw [5] (fun u wr => ∃ k : Nat, k ≤ nearN i n r ∧ u = .int .i64 ((nearLo i r : Int) + (k : Int)) ∧ J k wr ∧ Tch (fun k => R k ∨ k = l) W wr) (fun u wr => n - (intOf u).toNat)
  case atStart => exact ⟨0, Nat.zero_le _, rfl, h0, Tch.refl _ _⟩
  case round =>
    obtain ⟨k, hk, rfl, hJk, hTk⟩ := hrel
    obtain ⟨d1, d2, d3⟩ := hb wr hTk
    have e2 : min (n : Int) ((i : Int) + (r : Int)) = ((min n (i + r) : Nat) : Int) := by omega
    by_cases hlt : k < nearN i n r
    · obtain ⟨fn, tmps, assign, body, hy, hR⟩ := hY k (nearE i r k) wr (by simp [nearEs, hlt]) hTk.size hJk
      have e3 : max ((nearLo i r : Int) + (k : Int) - (i : Int)) ((i : Int) - ((nearLo i r : Int) + (k : Int))) = ((dist (nearLo i r + k) i : Nat) : Int) := by unfold dist; omega
      have hlt' : nearLo i r + k < min n (i + r) := by unfold nearN at hlt; omega
      unfold nearE at hy
      gi_wp2
      refine hR.mono ?_
      rintro e W2 ⟨bb, rfl, hT2, hJ2, hJ3⟩
      cases bb
      rotate_left
      · gi_wp2
        go_roundw
        case rel => exact ⟨k + 1, by omega, by go_num, hJ2 (by simp), hTk.trans hT2⟩
        case measure => simp [intOf]; omega
      · gi_wp2
        refine bodyPost_ret (results_none rfl _ _ _) rfl ?_
        exact ⟨⟨_, rfl⟩, .inr ⟨k, by simpa [nearEs] using hlt, hJ3 (by simp)⟩⟩
    · have hge : min n (i + r) ≤ nearLo i r + k := by unfold nearN at hlt; omega
      have hk2 : k = nearN i n r := by omega
      subst hk2
      gi_wp2
      go_end0
      exact ⟨⟨_, rfl⟩, .inl (by simpa [nearEs] using hJk)⟩
theorem near_calls (i n r : Int) (w : World) : Calls Try.prog 77 #[.int .i64 i, .int .i64 n, .int .i64 r] w fun e w' =>
    e = .returned (.func (.func 100) #[] #[.pointer (some ⟨w.heap.size, 0, none⟩), .pointer (some ⟨w.heap.size + 2, 0, none⟩), .pointer (some ⟨w.heap.size + 1, 0, none⟩)]) ∧
    Box w' w.heap.size 3 #[.int .i64 i] ∧ Box w' (w.heap.size + 2) 3 #[.int .i64 r] ∧ Box w' (w.heap.size + 1) 3 #[.int .i64 n] ∧ Below w.heap.size w w' ∧ w'.heap.size = w.heap.size + 3 := by
  go_enter Try.func77, Try.ntmps77
  go_wp2
  go_ret
  have b1 := Box.new w 3 #[.int .i64 i]
  have b2 := Box.new (w.alloc (.cells #[.int .i64 i] 3)) 3 #[.int .i64 n]
  have b3 := Box.new ((w.alloc (.cells #[.int .i64 i] 3)).alloc (.cells #[.int .i64 n] 3)) 3 #[.int .i64 r]
  simp only [World.size_alloc] at b2 b3
  exact ⟨rfl, (b1.alloc _).alloc _, b3, b2.alloc _, (((Below.refl _ _).alloc (Nat.le_refl _) _).alloc (by simp) _).alloc (by simp; omega) _, by simp⟩

def numE (h t : List Int) (down : Bool) (i k : Nat) : Array Value :=
  #[.int .i64 (gi h (nearLo i t.length + k) + (if down then - gi t (dist (nearLo i t.length + k) i) else gi t (dist (nearLo i t.length + k) i)))]
def numEs (h t : List Int) (down : Bool) (i : Nat) : List (Array Value) := (List.range (nearN i h.length t.length)).map (numE h t down i)

set_option maxRecDepth 100000 in
set_option maxHeartbeats 1000000 in
theorem numbers_iter (bi bh bt bd i : Nat) (Ah At : Option Addr) (n ch r ct : Nat) (h t : List Int) (down : Bool) (w : World) (R : Nat → Prop)
    (hi : i < n) (hn : n ≤ 65536) (hr : r ≤ 65536)
    (h1 : Box w bi 3 #[.int .i64 i]) (h2 : Box w bh 22 #[.slice Ah n ch]) (h3 : Box w bt 24 #[.slice At r ct]) (h4 : Box w bd 4 #[.bool down])
    (hh : IntsAt w Ah n h) (ht : IntsAt w At r t) (hhb : ∀ x ∈ h, -16777216 ≤ x ∧ x ≤ 16777216) (htb : ∀ x ∈ t, 0 ≤ x ∧ x ≤ 16777216)
    (r1 : ¬ R bi) (r2 : ¬ R bh) (r3 : ¬ R bt) (r4 : ¬ R bd) (r5 : ∀ b, Ah.map (·.block) = some b → ¬ R b) (r6 : 0 < r → ∀ b, At.map (·.block) = some b → ¬ R b) (hR : ∀ k, R k → k < w.heap.size) :
    Iter Try.prog 93 #[.pointer (some ⟨bi, 0, none⟩), .pointer (some ⟨bh, 0, none⟩), .pointer (some ⟨bt, 0, none⟩), .pointer (some ⟨bd, 0, none⟩)] (numEs h t down i) R w := by
  intro l J Jx W hT hl hlW hJ hJx hY h0
  have nl : ∀ b, b < w.heap.size → b ≠ l := fun b hb => by omega
  have tb : ∀ {wr : World} {b ty} {cs}, Tch (fun k => R k ∨ k = l) W wr → Box w b ty cs → ¬ R b → Box wr b ty cs := fun ht hb hr => ht.box (hT.box hb hr) (by rintro (e | e); exact hr e; exact nl _ hb.lt e)
  have c1 : W.cell? ⟨bi, 0, none⟩ = some (.int .i64 i) := (hT.box h1 r1).cell 0
  have c2 : W.cell? ⟨bh, 0, none⟩ = some (.slice Ah n ch) := (hT.box h2 r2).cell 0
  have c3 : W.cell? ⟨bt, 0, none⟩ = some (.slice At r ct) := (hT.box h3 r3).cell 0
  have hbW := Box.new W 108 #[.func (.yield l) #[] #[]]
  have hb0 := below_new W (.cells #[.func (.yield l) #[] #[]] 108)
  have d1 := (World.cell?_alloc_lt W (.cells #[.func (.yield l) #[] #[]] 108) ⟨bi, 0, none⟩ (by have := (hT.box h1 r1).lt; exact this)).trans c1
  have d2 := (World.cell?_alloc_lt W (.cells #[.func (.yield l) #[] #[]] 108) ⟨bh, 0, none⟩ (by have := (hT.box h2 r2).lt; exact this)).trans c2
  have d3 := (World.cell?_alloc_lt W (.cells #[.func (.yield l) #[] #[]] 108) ⟨bt, 0, none⟩ (by have := (hT.box h3 r3).lt; exact this)).trans c3
  refine callsIn_of_wp_marks Try.func93 rfl trivial ?_ rfl
  simp only [Try.ntmps93, List.size_toArray, List.length_cons, List.length_nil, Nat.reduceAdd, Nat.reduceSub, Array.replicate_succ, Array.replicate_zero, List.push_toArray, List.append_toArray, List.nil_append, List.cons_append]
  gi_wp2_with (gi_at_call 77; refine (callsIn_wide.2 (near_calls _ _ _ _)).mono ?_; rintro e w' ⟨rfl, e1, e2, e3, e4, e5⟩)
  have hT' : Tch (fun k => R k ∨ k = l) W w' := Tch.of_new (below_then hb0 e4 (by simp))
  have hBW : Box w' W.heap.size 108 #[.func (.yield l) #[] #[]] := hbW.below' e4
  rw [World.size_alloc] at *
  refine wp_range (gf := 100) rfl (enters_of Try.func100 (by kernel_rfl) rfl)
    (near_iter _ _ _ i n r (by omega) (by omega) (by omega) w' (fun k => R k ∨ k = l) e1 e2 e3
      (by rintro (e | e); have := hR _ e; have := hT.size; omega; omega) (by rintro (e | e); have := hR _ e; have := hT.size; omega; omega) (by rintro (e | e); have := hR _ e; have := hT.size; omega; omega))
    (by rintro k (e | e); have := hR _ e; have := hT.size; omega; omega) (by intro x hx; simp [nearEs] at hx; obtain ⟨k, _, rfl⟩ := hx; rfl)
    (fun k W' => J k W' ∧ Tch (fun k => R k ∨ k = l) W W' ∧ Box W' W.heap.size 108 #[.func (.yield l) #[] #[]]) (fun k c W' => c = .ret ∧ Jx k W')
    (fun k W1 W2 h hb => ⟨hJ k W1 W2 h.1 (hb.mono (by omega)), h.2.1.later hb (by omega), h.2.2.below hb (by omega)⟩)
    (fun k c W1 W2 h hb => ⟨h.1, hJx k W1 W2 h.2 (hb.mono (by omega))⟩) ⟨hJ 0 W w' h0 (below_then hb0 (by rw [World.size_alloc]; exact e4) (by simp)), hT', hBW⟩ ?hround ?hdone ?hstop
  case hround =>
    rintro l2 k x W2 hl2 hl2' hx ⟨hJ2, hT2, hB2⟩
    obtain ⟨hk, rfl⟩ : k < nearN i n r ∧ nearE i r k = x := by
      unfold nearEs at hx
      rw [List.getElem?_map] at hx
      by_cases hk : k < nearN i n r
      · rw [List.getElem?_range hk] at hx; exact ⟨hk, by simpa using hx⟩
      · rw [List.getElem?_eq_none (by simpa using hk)] at hx; cases hx
    unfold nearE
    gi_wp2
    refine ⟨Tch.refl _ _, fun W3 hT3 => ?_⟩
    have hb3 : Below w'.heap.size W2 W3 := hT3.below (by have := hT2.size; omega) (fun q hq => by omega)
    have hT3' : Tch (fun q => R q ∨ q = l) W W3 := hT2.later hb3 (by omega)
    have hB3 := hB2.below hb3 (by omega)
    have hJ3 := hJ k W2 W3.drew hJ2 (hb3.mono (by omega)).drew
    have nl' : ∀ {A : Option Addr} {b}, A.map (·.block) = some b → (∃ b o, A = some (⟨b, o, none⟩ : Addr) ∧ b < w.heap.size) → b ≠ l := by
      rintro A b hA ⟨b', o, rfl, hb⟩; simp at hA; omega
    have hdk : dist (nearLo i r + k) i < r := by unfold dist nearLo nearN nearLo at *; omega
    have hlk : nearLo i r + k < n := by unfold nearN nearLo at *; omega
    obtain ⟨bH, oH, rfl, hbH, hcH⟩ := ints_at hh hlk
    obtain ⟨bT, oT, rfl, hbT, hcT⟩ := ints_at ht hdk
    have f1 : W3.cell? ⟨bh, 0, none⟩ = some (.slice (some ⟨bH, oH, none⟩) n ch) := (tb hT3' h2 r2).cell 0
    have f2 : W3.cell? ⟨bt, 0, none⟩ = some (.slice (some ⟨bT, oT, none⟩) r ct) := (tb hT3' h3 r3).cell 0
    have f3 : W3.cell? ⟨bd, 0, none⟩ = some (.bool down) := (tb hT3' h4 r4).cell 0
    have f4 : W3.cell? ⟨W.heap.size, 0, none⟩ = some (.func (.yield l) #[] #[]) := hB3.cell 0
    have f5 : W3.cell? ⟨bH, oH + (nearLo i r + k), none⟩ = some (.int .i64 (gi h (nearLo i r + k))) :=
      ((hT3'.cell (p := ⟨bH, oH + (nearLo i r + k), none⟩) (by have := hT.size; exact Nat.lt_of_lt_of_le hbH this) (by rintro (e | e); exact r5 _ rfl e; exact nl _ hbH e)).trans (hT.cell (p := ⟨bH, oH + (nearLo i r + k), none⟩) hbH (r5 _ rfl))).trans hcH
    have f6 : W3.cell? ⟨bT, oT + dist (nearLo i r + k) i, none⟩ = some (.int .i64 (gi t (dist (nearLo i r + k) i))) :=
      ((hT3'.cell (p := ⟨bT, oT + dist (nearLo i r + k) i, none⟩) (by have := hT.size; exact Nat.lt_of_lt_of_le hbT this) (by rintro (e | e); exact r6 (by omega) _ rfl e; exact nl _ hbT e)).trans (hT.cell (p := ⟨bT, oT + dist (nearLo i r + k) i, none⟩) hbT (r6 (by omega) _ rfl))).trans hcT
    have hl1 := hh.1
    have hl2 := ht.1
    have g1 := (forall_gi.1 hhb) (nearLo i r + k) (by omega)
    have g2 := (forall_gi.1 htb) (dist (nearLo i r + k) i) (by omega)
    obtain ⟨fn, tmps, assign, body, hy, hRd⟩ := hY k (numE h t down i k) W3.drew (by subst hl2; subst hl1; simp [numEs, hk]) hT3'.size hJ3
    unfold numE at hy
    rw [hl2] at hy
    have hw1 : IntKind.i64.wrap (gi h (nearLo i r + k) + gi t (dist (nearLo i r + k) i)) = gi h (nearLo i r + k) + gi t (dist (nearLo i r + k) i) := IntWalk.i64_in _ (by omega)
    have hw2 : IntKind.i64.wrap (gi h (nearLo i r + k) + -gi t (dist (nearLo i r + k) i)) = gi h (nearLo i r + k) + -gi t (dist (nearLo i r + k) i) := IntWalk.i64_in _ (by omega)
    have x1 : (0 : Int) ≤ (nearLo i r : Int) + (k : Int) := by omega
    have x2 : (nearLo i r : Int) + (k : Int) < (n : Int) := by omega
    have x3 : ((nearLo i r : Int) + (k : Int)).toNat = nearLo i r + k := by omega
    have HL1 := Lib.hid hl1
    have HL2 := Lib.hid hl2
    clear hl1 hl2 hcH hcT c1 c2 c3 d1 d2 d3
    cases down
    all_goals
      simp only [Bool.false_eq_true, if_false, if_true] at hy
      gi_wp2
      refine wpIn_round_still_tail 7 (by kernel_rfl) (by kernel_rfl) ?_
      simp only [List.take_succ_cons, List.take_zero, List.drop_succ_cons, List.drop_zero]
      repeat still_step
      refine wpStill_nil ?_
      gi_wp2
      refine (round_inRound l2 hRd).mono ?_
      rintro e W4 ⟨bb, rfl, hT4, hJ4, hJ5⟩
      have hT4' : Tch (fun k => R k ∨ k = l) W3 W4 := ⟨hT4.os, hT4.tape, hT4.output, hT4.size, hT4.block⟩
      cases bb
      · gi_wp2
        exact ⟨hT4', rfl, hJ5 (by simp)⟩
      · gi_wp2
        exact ⟨hT4', hJ4 (by simp), hT3'.trans hT4', hT4'.box hB3 (by rintro (e | e); have := hR _ e; have := hT.size; omega; omega)⟩
  case hdone =>
    rintro D W2 ⟨hJ2, hT2, hB2⟩ hD hDd
    gi_wp2
    refine end_marks [D] (.inl rfl) rfl (by simp) (by simpa using hDd) (fun w => results_none rfl _ _ _) (fun w4 ht4 => ⟨⟨_, rfl⟩, .inl ?_⟩)
    have e : (numEs h t down i).length = (nearEs i n r).length := by simp [numEs, nearEs, hh.1, ht.1]
    rw [e]
    exact hJ _ _ _ hJ2 (ht4.below (by have := hT2.size; omega) (fun q hq => by simp; omega))
  case hstop =>
    rintro D k c W2 hk ⟨rfl, hJ2⟩ hD hDd
    gi_wp2
    have hDl : D < W2.heap.size := (Array.getElem?_eq_some_iff.1 hDd).1
    refine end_marks [D] (.inr rfl) rfl (by simp) (by simpa using hDd) (fun w => results_none rfl _ _ _) (fun w4 ht4 => ⟨⟨_, rfl⟩, .inr ⟨k, ?_, ?_⟩⟩)
    · have e : (numEs h t down i).length = (nearEs i n r).length := by simp [numEs, nearEs, hh.1, ht.1]
      rw [e]; exact hk
    · exact hJx _ _ _ hJ2 (ht4.below (by omega) (fun q hq => by simp; omega))

theorem less_calls (a b : Int) (w : World) : Calls Try.prog 96 #[.int .i64 a, .int .i64 b] w fun e w' => e = .returned (.bool (decide (a < b))) ∧ w = w' := by
  go_enter Try.func96, Try.ntmps96
  go_wp2
  go_ret
  exact ⟨rfl, rfl⟩
theorem more_calls (a b : Int) (w : World) : Calls Try.prog 95 #[.int .i64 a, .int .i64 b] w fun e w' => e = .returned (.bool (decide (b < a))) ∧ w = w' := by
  go_enter Try.func95, Try.ntmps95
  go_wp2
  go_ret
  exact ⟨rfl, rfl⟩

def pickB (down : Bool) (x acc : Int) : Int := if down then max acc x else min acc x
def foldB (down : Bool) (f : Int) (l : List Int) : Int := l.foldl (fun acc x => pickB down x acc) f

set_option maxRecDepth 100000 in
set_option maxHeartbeats 1000000 in
theorem fold_calls (down : Bool) (bf : Nat) (hbf : bf = 95 ∧ down = true ∨ bf = 96 ∧ down = false) (f : Int) (vs : List Int) (gf : Nat) (lb : Array Value) (w : World) (eg : ∀ args w, (callFunc gf args).run Try.prog w = .ok (.enter gf args) w)
    (hit : ∀ R w', Below w.heap.size w w' → (∀ k, R k → w.heap.size ≤ k ∧ k < w'.heap.size) → Iter Try.prog gf lb (vs.map fun v => #[.int .i64 v]) R w') :
    Calls Try.prog 94 #[.int .i64 f, .func (.func gf) #[] lb, .func (.func bf) #[] #[]] w fun e w' => e = .returned (.int .i64 (foldB down f vs)) ∧ Below w.heap.size w w' := by
  refine (callsIn_wide (n := 0)).1 ?_
  refine callsIn_of_wp_marks Try.func94 rfl trivial ?_ rfl
  simp only [Try.ntmps94, List.size_toArray, List.length_cons, List.length_nil, Nat.reduceAdd, Nat.reduceSub, Array.replicate_succ, Array.replicate_zero, List.push_toArray, List.append_toArray, List.nil_append, List.cons_append]
  gi_wp2
  have hb1 := Box.new w 2 #[.int .i64 f]
  have hb2 := Box.new (w.alloc (.cells #[.int .i64 f] 2)) 132 #[.func (.func bf) #[] #[]]
  have hb1' := hb1.alloc (.cells #[.func (.func bf) #[] #[]] 132)
  have hbl := (below_new w (.cells #[.int .i64 f] 2)).alloc (by simp) (.cells #[.func (.func bf) #[] #[]] 132)
  have hsz : ((w.alloc (.cells #[.int .i64 f] 2)).alloc (.cells #[.func (.func bf) #[] #[]] 132)).heap.size = w.heap.size + 2 := by simp
  rw [World.size_alloc] at hb2
  generalize (w.alloc (.cells #[.int .i64 f] 2)).alloc (.cells #[.func (.func bf) #[] #[]] 132) = w0 at *
  refine wp_range (gf := gf) rfl eg (hit (· = w.heap.size) w0 hbl (by intro k e; omega)) (by intro k e; omega) (by intro x hx; simp at hx; obtain ⟨v, _, rfl⟩ := hx; rfl)
    (fun k W => Box W w.heap.size 2 #[.int .i64 (foldB down f (vs.take k))] ∧ Box W (w.heap.size + 1) 132 #[.func (.func bf) #[] #[]] ∧ Below w.heap.size w W) (fun _ _ _ => False)
    (fun k W1 W2 h hb => ⟨h.1.below hb (by omega), h.2.1.below hb (by omega), h.2.2.trans (hb.mono (by omega))⟩) (fun _ _ _ _ h _ => h) ⟨by simpa [foldB] using hb1', hb2, hbl⟩ ?hround ?hdone (fun _ _ _ _ _ h => h.elim)
  case hround =>
    rintro l k x W hl hl' hx ⟨h1, h2, h3⟩
    obtain ⟨hk, rfl⟩ : ∃ hk : k < vs.length, #[.int .i64 vs[k]] = x := by
      rw [List.getElem?_map] at hx
      by_cases hk : k < vs.length
      · rw [List.getElem?_eq_getElem hk] at hx; exact ⟨hk, by simpa using hx⟩
      · rw [List.getElem?_eq_none (by omega)] at hx; cases hx
    gi_wp2
    refine ⟨Tch.refl _ _, fun W3 hT3 => ?_⟩
    have h1' := hT3.box h1 (by omega)
    have h2' := hT3.box h2 (by omega)
    have h3' : Below w.heap.size w W3 := h3.trans (hT3.below (by have := h3.size; omega) (fun q hq => by omega))
    have c1 := h1'.cell 0
    have c2 := h2'.cell 0
    have c3 := h1'.frozen 0
    have hs : foldB down f (vs.take (k + 1)) = pickB down vs[k] (foldB down f (vs.take k)) := by
      rw [List.take_succ_eq_append_getElem hk, foldB, List.foldl_append]; rfl
    have HS := Lib.hid hs
    clear hs hx
    simp only [List.getElem?_toArray, List.getElem?_cons_zero] at c1 c2
    generalize hacc : foldB down f (vs.take k) = acc at *
    generalize vs[k] = x at *
    have Hacc := Lib.hid hacc
    clear hacc
    rcases hbf with ⟨rfl, rfl⟩ | ⟨rfl, rfl⟩
    · by_cases hlt : acc < x
      · have hd : decide (acc < x) = true := by simpa using hlt
        gi_wp2_with (gi_at_call 95; refine (callsIn_wide.2 (more_calls _ _ _)).mono ?_; rintro e w' ⟨rfl, rfl⟩)
        refine ⟨Tch.setCell (R := (· = w.heap.size)) (p := ⟨w.heap.size, 0, none⟩) (Tch.refl _ _) (fun _ => rfl) _, ?_, h2'.far (by simp) _, h3'.setCell (Nat.le_refl _) _⟩
        have hb := h1'.set 0 (.int .i64 x)
        simp only [List.setIfInBounds_toArray, List.set_cons_zero] at hb
        rw [HS.out, show pickB true x acc = x by simp [pickB]; omega]
        exact hb
      · have hd : decide (acc < x) = false := by simpa using hlt
        gi_wp2_with (gi_at_call 95; refine (callsIn_wide.2 (more_calls _ _ _)).mono ?_; rintro e w' ⟨rfl, rfl⟩)
        refine ⟨Tch.refl _ _, ?_, h2', h3'⟩
        rw [HS.out, show pickB true x acc = acc by simp [pickB]; omega]
        exact h1'
    · by_cases hlt : x < acc
      · have hd : decide (x < acc) = true := by simpa using hlt
        gi_wp2_with (gi_at_call 96; refine (callsIn_wide.2 (less_calls _ _ _)).mono ?_; rintro e w' ⟨rfl, rfl⟩)
        refine ⟨Tch.setCell (R := (· = w.heap.size)) (p := ⟨w.heap.size, 0, none⟩) (Tch.refl _ _) (fun _ => rfl) _, ?_, h2'.far (by simp) _, h3'.setCell (Nat.le_refl _) _⟩
        have hb := h1'.set 0 (.int .i64 x)
        simp only [List.setIfInBounds_toArray, List.set_cons_zero] at hb
        rw [HS.out, show pickB false x acc = x by simp [pickB]; omega]
        exact hb
      · have hd : decide (x < acc) = false := by simpa using hlt
        gi_wp2_with (gi_at_call 96; refine (callsIn_wide.2 (less_calls _ _ _)).mono ?_; rintro e w' ⟨rfl, rfl⟩)
        refine ⟨Tch.refl _ _, ?_, h2', h3'⟩
        rw [HS.out, show pickB false x acc = acc by simp [pickB]; omega]
        exact h1'
  case hdone =>
    rintro D W ⟨h1, h2, h3⟩ hD hDd
    have c1 := h1.cell 0
    simp only [List.getElem?_toArray, List.getElem?_cons_zero, List.length_map, List.take_length] at c1
    gi_wp2
    refine end_marks [D] (.inr rfl) rfl (by simp) (by simpa using hDd) (fun w => results_tmp rfl _ _ _) (fun w4 ht4 => ⟨rfl, ?_⟩)
    exact h3.trans (ht4.below (by have := h3.size; omega) (fun q hq => by simp; omega))
end Go.Proofs.Ytlfaaddoemcokaa
