/-
  Several texts in one: A region that draws its order, in a round of a range over a function: all its operations but the last few only read. The head is walked once, in the order of the text. No condition. .. What a tip reads and sweeps: the exported Read and Sweep. No condition but the sizes of slices.
-/
import Derived.Test.YtpmchnojeloohaaGreatDoorProg
import Derived.Deep.RegionWith
import Derived.Deep.DeepMust
import Derived.Deep.RegionLaw
import Derived.Test.YtpmchnojeloohaaGreatDoorMA
namespace Go.Dw
open Go.RowKit Go.Shelf
def wideR (r : Option Nat) : Fence := { Fence.wide with round := r }
section
variable {P : Program} {ops : Array Oper} {md : Region.Mode} {w : World} {r : Option Nat} {m : Nat}
theorem uponIn_of_still {o : Oper} {a : Act} {K : Act → Prop} {K' : Act → World → Prop} {Q' : Exit → Act → World → Prop} (h : ∀ a, K a → K' a w) (hh : o.still P a w K) : o.wpIn (wideR r) m P a w K' Q' := by
 refine ⟨fun _ _ => trivial, ?_⟩
 have hs : o.semAt (wideR r).round a.eval = execOp a.eval o ∨ ∃ c, o.op = .defer c := by
  cases r with
  | none => exact .inl rfl
  | some l =>
   by_cases hd : ∃ c, o.op = .defer c
   ·
    exact .inr hd
   ·
    exact .inl (Oper.semAt_some l a.eval o (fun c e => hd ⟨c, e⟩))
 unfold Oper.still at hh
 rcases hs with hs | ⟨c, hc⟩
 ·
  rw [hs]
  generalize (execOp a.eval o).run P w = x at *
  cases x with
  | ok n w' =>
   cases n <;> simp only [Oper.stillUpon] at hh <;> simp only [Oper.uponIn]
   case enter f args =>
    obtain ⟨rfl, v, hc, hn⟩ := hh
    refine ⟨fun h => by simp [wideR, Fence.wide] at h, ?_⟩
    show CallsIn Fence.wide (m - 1) P f args w' _
    exact callsIn_wide.2 (hc.mono fun e w'' ⟨he, hw⟩ => by subst he; subst hw; exact h _ hn)
   all_goals (obtain ⟨rfl, h2⟩ := hh; exact h _ h2)
  | halt x w' => simp only [Oper.stillUpon] at hh
 ·
  exfalso
  unfold execOp at hh
  rw [hc] at hh
  simp only [Sem.run_bind] at hh
  generalize (resolve a.eval c o.type).run P w = x at hh
  cases x with
  | ok d w' => simp [Result.andThen, Oper.stillUpon] at hh
  | halt x w' => simp [Result.andThen, Oper.stillUpon] at hh
theorem wpOpIn_of_stOp {i : Nat} {a : Act} {K : Act → Prop} {K' : Act → World → Prop} {Q' : Exit → Act → World → Prop} (h : ∀ a, K a → K' a w) (hh : stOp P ops w i K a) : wpOpIn (wideR r) m P ops Q' i K' a w := by
 unfold stOp at hh
 unfold wpOpIn
 split
 ·
  rename_i ho; simp only [ho] at hh; exact h _ hh
 ·
  rename_i o ho
  simp only [ho] at hh
  split
  ·
   rename_i hw; simp only [hw, if_true] at hh; exact uponIn_of_still h hh
  ·
   rename_i hw; simp only [hw] at hh; exact ⟨fun _ _ => trivial, h _ hh⟩
theorem wpAnyIn_of_head {n g : Nat} {L : Array Bool → Act → Prop} {Q' : Exit → Act → World → Prop} (hL : ∀ listed a, L listed a → wpAnyIn (wideR r) m P md ops Q' g listed a w) :
  ∀ (f : Nat) (listed : Array Bool) (a : Act), wpAnyL P md ops w n L f listed a → wpAnyIn (wideR r) m P md ops Q' (f + g) listed a w
 | 0, listed, a, h => by rw [Nat.zero_add]; exact hL _ _ h
 | f + 1, listed, a, h => by
  rw [show f + 1 + g = (f + g) + 1 by omega]
  exact ⟨fun h0 => absurd h0 h.1, fun i hi => wpOpIn_of_stOp (fun a' h' => wpAnyIn_of_head hL f _ a' h') (h.2 i hi).2⟩
theorem wpAnyIn_of_seq {Q' : Exit → Act → World → Prop} : ∀ (l : List Oper) (k : Nat) (listed : Array Bool) (a : Act) (w : World), (∀ j, l[j]? = ops[k + j]?) →
  Region.seqB md ops l.length k listed = true → wpListIn (wideR r) m P ops Q' l a w → wpAnyIn (wideR r) m P md ops Q' l.length listed a w
 | [], _, _, _, _, _, hB, h => ⟨by simpa [Region.seqB] using hB, h⟩
 | o :: l, k, listed, a, w, hl, hB, h => by
  have h0 : ops[k]? = some o := by simpa using (hl 0).symm
  simp only [List.length_cons, Region.seqB, Bool.and_eq_true, decide_eq_true_eq] at hB
  refine ⟨fun h1 => (by rw [hB.1] at h1; cases h1), fun i hi => ?_⟩
  rw [hB.1] at hi
  have hik : i = k := by simpa using hi
  subst hik
  have hw : wpOpIn (wideR r) m P ops Q' i (wpListIn (wideR r) m P ops Q' l) a w := by unfold wpOpIn; simp only [h0]; exact h
  exact wpOpIn_mono (fun a' w' h' => wpAnyIn_of_seq l (i + 1) _ a' w' (fun j => by have := hl (j + 1); simpa [Nat.add_assoc, Nat.add_comm 1 j] using this) hB.2 h') hw
theorem wpIn_region_still_tailR {id : Nat} {Q : Exit → Act → World → Prop} {a : Act} {w : World} {l : List Oper} (n : Nat) (hm : P.follows .mixedOrders = true) (hB : Region.lexTailB .any l.toArray n = true)
  (h : wpStill P l.toArray w.drew (fun a' => wpListIn (wideR r) m P l.toArray Q (l.drop n) a' w.drew) (l.take n) a) : (Code.region id l.toArray true).wpIn (wideR r) m P Q a w := by
 simp only [Region.lexTailB, Bool.and_eq_true, decide_eq_true_eq] at hB
 obtain ⟨⟨⟨⟨hsel, hn⟩, hs⟩, hc⟩, hlex⟩ := hB
 have hn' : n < l.length := by simpa using hn
 have htl : (l.take n).length = n := by simp; omega
 have hdl : (l.drop n).length = l.toArray.size - n := by simp
 have inv0 : HeadInv .any l.toArray n (Array.replicate l.toArray.size false) :=
  ⟨by simp, fun j oj _ hl => (by rw [getD_replicate_false] at hl; cases hl), fun t _ ht => getD_in (by simpa using ht) (getD_replicate_false _ _)⟩
 have H := wpAnyL_lex (md := .any) (g := l.toArray.size - n) hsel hs hc hn (l.take n) 0 _ a (fun j hj => by
  have hj' : j < n := by rw [htl] at hj; exact hj
  simp [hj']) (by simpa using htl) inv0 (by rw [htl]; exact hlex) h
 refine wpIn_region_any hm ?_
 have := wpAnyIn_of_head (r := r) (m := m) (Q' := Q) (g := l.toArray.size - n) (fun listed a' hL => by
  have := wpAnyIn_of_seq (r := r) (m := m) (md := .any) (Q' := Q) (l.drop n) n listed a' w.drew (fun j => by simp [List.getElem?_drop]) (by rw [hdl]; exact hL.1) hL.2
  rwa [hdl] at this) _ _ _ H
 rw [htl, show n + (l.toArray.size - n) = l.toArray.size by omega] at this
 exact this
theorem wpIn_round_still_tail {id lp : Nat} {Q : Exit → Act → World → Prop} {a : Act} {w : World} {l : List Oper} (n : Nat) (hm : P.follows .mixedOrders = true) (hB : Region.lexTailB .any l.toArray n = true)
  (h : wpStill P l.toArray w.drew (fun a' => wpListIn (Fence.wide.inRound lp) m P l.toArray Q (l.drop n) a' w.drew) (l.take n) a) : (Code.region id l.toArray true).wpIn (Fence.wide.inRound lp) m P Q a w :=
 wpIn_region_still_tailR (r := some lp) n hm hB h
end
end Go.Dw

namespace Go.Proofs.YtpmchnojeloohaaGreatDoor
open Go.RowKit Go.Dw Go.Shelf
attribute [local go_sem] Oper.semAt_some
def dist (u i : Nat) : Nat := max (u - i) (i - u)
def nearLo (i r : Nat) : Nat := i + 1 - r
def nearN (i n r : Nat) : Nat := min n (i + r) - nearLo i r
def nearE (i r k : Nat) : Array Value := #[.int .i64 ((nearLo i r : Int) + (k : Int)), .int .i64 (dist (nearLo i r + k) i : Nat)]
def nearEs (i n r : Nat) : List (Array Value) := (List.range (nearN i n r)).map (nearE i r)
set_option maxHeartbeats 1000000 in
theorem near_iter (bi br bn i n r : Nat) (hi : i ≤ 65536) (hn : n ≤ 65536) (hr : r ≤ 65536) (w : World) (R : Nat → Prop)
  (h1 : Box w bi 3 #[.int .i64 i]) (h2 : Box w br 3 #[.int .i64 r]) (h3 : Box w bn 3 #[.int .i64 n]) (r1 : ¬ R bi) (r2 : ¬ R br) (r3 : ¬ R bn) :
  Iter Tryz.prog 104 #[.pointer (some ⟨bi, 0, none⟩), .pointer (some ⟨br, 0, none⟩), .pointer (some ⟨bn, 0, none⟩)] (nearEs i n r) R w := by
 intro l J Jx W hT hl hlW hJ hJx hY h0
 have hb : ∀ wr, Tch (fun k => R k ∨ k = l) W wr → wr.cell? ⟨bi, 0, none⟩ = some (.int .i64 i) ∧ wr.cell? ⟨br, 0, none⟩ = some (.int .i64 r) ∧ wr.cell? ⟨bn, 0, none⟩ = some (.int .i64 n) := fun wr ht =>
  ⟨(ht.box (hT.box h1 r1) (by rintro (e | e); exact r1 e; have := h1.lt; omega)).cell 0, (ht.box (hT.box h2 r2) (by rintro (e | e); exact r2 e; have := h2.lt; omega)).cell 0,
   (ht.box (hT.box h3 r3) (by rintro (e | e); exact r3 e; have := h3.lt; omega)).cell 0⟩
 obtain ⟨c1, c2, c3⟩ := hb W (Tch.refl _ _)
 have e1 : max (0 : Int) ((i : Int) - (r : Int) + 1) = ((nearLo i r : Nat) : Int) := by unfold nearLo; omega
 refine callsIn_of_wp Tryz.func104 rfl trivial ?_ rfl
 simp only [Tryz.ntmps104, List.size_toArray, List.length_cons, List.length_nil, Nat.reduceAdd, Nat.reduceSub, Array.replicate_succ, Array.replicate_zero, List.push_toArray, List.append_toArray, List.nil_append, List.cons_append]
 gi_wp2
 gi_loopw [5] (fun u wr => ∃ k : Nat, k ≤ nearN i n r ∧ u = .int .i64 ((nearLo i r : Int) + (k : Int)) ∧ J k wr ∧ Tch (fun k => R k ∨ k = l) W wr) (fun u wr => n - (intOf u).toNat)
 case atStart => exact ⟨0, Nat.zero_le _, rfl, h0, Tch.refl _ _⟩
 case round =>
  obtain ⟨k, hk, rfl, hJk, hTk⟩ := hrel
  obtain ⟨d1, d2, d3⟩ := hb wr hTk
  have e2 : min (n : Int) ((i : Int) + (r : Int)) = ((min n (i + r) : Nat) : Int) := by omega
  by_cases hlt : k < nearN i n r
  ·
   obtain ⟨fn, tmps, assign, body, hy, hR⟩ := hY k (nearE i r k) wr (by simp [nearEs, hlt]) hTk.size hJk
   have e3 : max ((nearLo i r : Int) + (k : Int) - (i : Int)) ((i : Int) - ((nearLo i r : Int) + (k : Int))) = ((dist (nearLo i r + k) i : Nat) : Int) := by unfold dist; omega
   have hlt' : nearLo i r + k < min n (i + r) := by unfold nearN at hlt; omega
   unfold nearE at hy
   gi_wp2
   refine hR.mono ?_
   rintro e W2 ⟨bb, rfl, hT2, hJ2, hJ3⟩
   cases bb
   rotate_left
   ·
    gi_wp2
    go_roundw
    case rel => exact ⟨k + 1, by omega, by go_num, hJ2 (by simp), hTk.trans hT2⟩
    case measure => simp [intOf]; omega
   ·
    gi_wp2
    refine bodyPost_ret (results_none rfl _ _ _) rfl ?_
    exact ⟨⟨_, rfl⟩, .inr ⟨k, by simpa [nearEs] using hlt, hJ3 (by simp)⟩⟩
  ·
   have hge : min n (i + r) ≤ nearLo i r + k := by unfold nearN at hlt; omega
   have hk2 : k = nearN i n r := by omega
   subst hk2
   gi_wp2
   go_end0
   exact ⟨⟨_, rfl⟩, .inl (by simpa [nearEs] using hJk)⟩
theorem near_calls (i n r : Int) (w : World) : Calls Tryz.prog 76 #[.int .i64 i, .int .i64 n, .int .i64 r] w fun e w' =>
  e = .returned (.func (.func 104) #[] #[.pointer (some ⟨w.heap.size, 0, none⟩), .pointer (some ⟨w.heap.size + 2, 0, none⟩), .pointer (some ⟨w.heap.size + 1, 0, none⟩)]) ∧
  Box w' w.heap.size 3 #[.int .i64 i] ∧ Box w' (w.heap.size + 2) 3 #[.int .i64 r] ∧ Box w' (w.heap.size + 1) 3 #[.int .i64 n] ∧ Below w.heap.size w w' ∧ w'.heap.size = w.heap.size + 3 := by
 go_enter Tryz.func76, Tryz.ntmps76
 go_wp2
 go_ret
 have b1 := Box.new w 3 #[.int .i64 i]
 have b2 := Box.new (w.alloc (.cells #[.int .i64 i] 3)) 3 #[.int .i64 n]
 have b3 := Box.new ((w.alloc (.cells #[.int .i64 i] 3)).alloc (.cells #[.int .i64 n] 3)) 3 #[.int .i64 r]
 simp only [World.size_alloc] at b2 b3
 exact ⟨rfl, (b1.alloc _).alloc _, b3, b2.alloc _, (((Below.refl _ _).alloc (Nat.le_refl _) _).alloc (by simp) _).alloc (by simp; omega) _, by simp⟩
def numE (h t : List Int) (down : Bool) (i k : Nat) : Array Value :=
 #[.int .i64 (gi h (nearLo i t.length + k) + (if down then - gi t (dist (nearLo i t.length + k) i) else gi t (dist (nearLo i t.length + k) i)))]
def numEs (h t : List Int) (down : Bool) (i : Nat) : List (Array Value) := (List.range (nearN i h.length t.length)).map (numE h t down i)
set_option maxRecDepth 100000 in
set_option maxHeartbeats 1000000 in
theorem numbers_iter (bi bh bt bd i : Nat) (Ah At : Option Addr) (n ch r ct : Nat) (h t : List Int) (down : Bool) (w : World) (R : Nat → Prop)
  (hi : i < n) (hn : n ≤ 65536) (hr : r ≤ 65536)
  (h1 : Box w bi 3 #[.int .i64 i]) (h2 : Box w bh 38 #[.slice Ah n ch]) (h3 : Box w bt 51 #[.slice At r ct]) (h4 : Box w bd 4 #[.bool down])
  (hh : IntsAt w Ah n h) (ht : IntsAt w At r t) (hhb : ∀ x ∈ h, -16777216 ≤ x ∧ x ≤ 16777216) (htb : ∀ x ∈ t, 0 ≤ x ∧ x ≤ 16777216)
  (r1 : ¬ R bi) (r2 : ¬ R bh) (r3 : ¬ R bt) (r4 : ¬ R bd) (r5 : ∀ b, Ah.map (·.block) = some b → ¬ R b) (r6 : 0 < r → ∀ b, At.map (·.block) = some b → ¬ R b) (hR : ∀ k, R k → k < w.heap.size) :
  Iter Tryz.prog 106 #[.pointer (some ⟨bi, 0, none⟩), .pointer (some ⟨bh, 0, none⟩), .pointer (some ⟨bt, 0, none⟩), .pointer (some ⟨bd, 0, none⟩)] (numEs h t down i) R w := by
 intro l J Jx W hT hl hlW hJ hJx hY h0
 have nl : ∀ b, b < w.heap.size → b ≠ l := fun b hb => by omega
 have tb : ∀ {wr : World} {b ty} {cs}, Tch (fun k => R k ∨ k = l) W wr → Box w b ty cs → ¬ R b → Box wr b ty cs := fun ht hb hr => ht.box (hT.box hb hr) (by rintro (e | e); exact hr e; exact nl _ hb.lt e)
 have c1 : W.cell? ⟨bi, 0, none⟩ = some (.int .i64 i) := (hT.box h1 r1).cell 0
 have c2 : W.cell? ⟨bh, 0, none⟩ = some (.slice Ah n ch) := (hT.box h2 r2).cell 0
 have c3 : W.cell? ⟨bt, 0, none⟩ = some (.slice At r ct) := (hT.box h3 r3).cell 0
 have hbW := Box.new W 107 #[.func (.yield l) #[] #[]]
 have hb0 := below_new W (.cells #[.func (.yield l) #[] #[]] 107)
 have d1 := (World.cell?_alloc_lt W (.cells #[.func (.yield l) #[] #[]] 107) ⟨bi, 0, none⟩ (by have := (hT.box h1 r1).lt; exact this)).trans c1
 have d2 := (World.cell?_alloc_lt W (.cells #[.func (.yield l) #[] #[]] 107) ⟨bh, 0, none⟩ (by have := (hT.box h2 r2).lt; exact this)).trans c2
 have d3 := (World.cell?_alloc_lt W (.cells #[.func (.yield l) #[] #[]] 107) ⟨bt, 0, none⟩ (by have := (hT.box h3 r3).lt; exact this)).trans c3
 refine callsIn_of_wp_marks Tryz.func106 rfl trivial ?_ rfl
 simp only [Tryz.ntmps106, List.size_toArray, List.length_cons, List.length_nil, Nat.reduceAdd, Nat.reduceSub, Array.replicate_succ, Array.replicate_zero, List.push_toArray, List.append_toArray, List.nil_append, List.cons_append]
 gi_wp2_with (gi_at_call 76; refine (callsIn_wide.2 (near_calls _ _ _ _)).mono ?_; rintro e w' ⟨rfl, e1, e2, e3, e4, e5⟩)
 have hT' : Tch (fun k => R k ∨ k = l) W w' := Tch.of_new (below_then hb0 e4 (by simp))
 have hBW : Box w' W.heap.size 107 #[.func (.yield l) #[] #[]] := hbW.below' e4
 rw [World.size_alloc] at *
 refine wp_range (gf := 104) rfl (enters_of Tryz.func104 kR rfl)
  (near_iter _ _ _ i n r oM oM oM w' (fun k => R k ∨ k = l) e1 e2 e3
   (by rintro (e | e); have := hR _ e; have := hT.size; omega; omega) (by rintro (e | e); have := hR _ e; have := hT.size; omega; omega) (by rintro (e | e); have := hR _ e; have := hT.size; omega; omega))
  (by rintro k (e | e); have := hR _ e; have := hT.size; omega; omega) (by intro x hx; simp [nearEs] at hx; obtain ⟨k, _, rfl⟩ := hx; rfl)
  (fun k W' => J k W' ∧ Tch (fun k => R k ∨ k = l) W W' ∧ Box W' W.heap.size 107 #[.func (.yield l) #[] #[]]) (fun k c W' => c = .ret ∧ Jx k W')
  (fun k W1 W2 h hb => ⟨hJ k W1 W2 h.1 (hb.mono oM), h.2.1.later hb oM, h.2.2.below hb oM⟩)
  (fun k c W1 W2 h hb => ⟨h.1, hJx k W1 W2 h.2 (hb.mono oM)⟩) ⟨hJ 0 W w' h0 (below_then hb0 (by rw [World.size_alloc]; exact e4) (by simp)), hT', hBW⟩ ?hround ?hdone ?hstop
 case hround =>
  rintro l2 k x W2 hl2 hl2' hx ⟨hJ2, hT2, hB2⟩
  obtain ⟨hk, rfl⟩ : k < nearN i n r ∧ nearE i r k = x := by
   unfold nearEs at hx
   rw [List.getElem?_map] at hx
   by_cases hk : k < nearN i n r
   ·
    rw [List.getElem?_range hk] at hx; exact ⟨hk, by simpa using hx⟩
   ·
    rw [List.getElem?_eq_none (by simpa using hk)] at hx; cases hx
  unfold nearE
  gi_wp2
  refine ⟨Tch.refl _ _, fun W3 hT3 => ?_⟩
  have hb3 : Below w'.heap.size W2 W3 := hT3.below (by have := hT2.size; omega) (fun q hq => by omega)
  have hT3' : Tch (fun q => R q ∨ q = l) W W3 := hT2.later hb3 oM
  have hB3 := hB2.below hb3 oM
  have hJ3 := hJ k W2 W3.drew hJ2 (hb3.mono oM).drew
  have nl' : ∀ {A : Option Addr} {b}, A.map (·.block) = some b → (∃ b o, A = some (⟨b, o, none⟩ : Addr) ∧ b < w.heap.size) → b ≠ l := by
   rintro A b hA ⟨b', o, rfl, hb⟩; simp at hA; omega
  have hdk : dist (nearLo i r + k) i < r := by unfold dist nearLo nearN nearLo at *; omega
  have hlk : nearLo i r + k < n := by unfold nearN nearLo at *; omega
  obtain ⟨bH, oH, rfl, hbH, hcH⟩ := ints_at hh hlk
  obtain ⟨bT, oT, rfl, hbT, hcT⟩ := ints_at ht hdk
  have f1 : W3.cell? ⟨bh, 0, none⟩ = some (.slice (some ⟨bH, oH, none⟩) n ch) := (tb hT3' h2 r2).cell 0
  have f2 : W3.cell? ⟨bt, 0, none⟩ = some (.slice (some ⟨bT, oT, none⟩) r ct) := (tb hT3' h3 r3).cell 0
  have f3 : W3.cell? ⟨bd, 0, none⟩ = some (.bool down) := (tb hT3' h4 r4).cell 0
  have f4 : W3.cell? ⟨W.heap.size, 0, none⟩ = some (.func (.yield l) #[] #[]) := hB3.cell 0
  have f5 : W3.cell? ⟨bH, oH + (nearLo i r + k), none⟩ = some (.int .i64 (gi h (nearLo i r + k))) :=
   ((hT3'.cell (p := ⟨bH, oH + (nearLo i r + k), none⟩) (by have := hT.size; exact Nat.lt_of_lt_of_le hbH this) (by rintro (e | e); exact r5 _ rfl e; exact nl _ hbH e)).trans (hT.cell (p := ⟨bH, oH + (nearLo i r + k), none⟩) hbH (r5 _ rfl))).trans hcH
  have f6 : W3.cell? ⟨bT, oT + dist (nearLo i r + k) i, none⟩ = some (.int .i64 (gi t (dist (nearLo i r + k) i))) :=
   ((hT3'.cell (p := ⟨bT, oT + dist (nearLo i r + k) i, none⟩) (by have := hT.size; exact Nat.lt_of_lt_of_le hbT this) (by rintro (e | e); exact r6 oM _ rfl e; exact nl _ hbT e)).trans (hT.cell (p := ⟨bT, oT + dist (nearLo i r + k) i, none⟩) hbT (r6 oM _ rfl))).trans hcT
  have hl1 := hh.1
  have hl2 := ht.1
  have g1 := (forall_gi.1 hhb) (nearLo i r + k) oM
  have g2 := (forall_gi.1 htb) (dist (nearLo i r + k) i) oM
  obtain ⟨fn, tmps, assign, body, hy, hRd⟩ := hY k (numE h t down i k) W3.drew (by subst hl2; subst hl1; simp [numEs, hk]) hT3'.size hJ3
  unfold numE at hy
  rw [hl2] at hy
  have hw1 : IntKind.i64.wrap (gi h (nearLo i r + k) + gi t (dist (nearLo i r + k) i)) = gi h (nearLo i r + k) + gi t (dist (nearLo i r + k) i) := IntWalk.i64_in _ oM
  have hw2 : IntKind.i64.wrap (gi h (nearLo i r + k) + -gi t (dist (nearLo i r + k) i)) = gi h (nearLo i r + k) + -gi t (dist (nearLo i r + k) i) := IntWalk.i64_in _ oM
  have x1 : (0 : Int) ≤ (nearLo i r : Int) + (k : Int) := by omega
  have x2 : (nearLo i r : Int) + (k : Int) < (n : Int) := by omega
  have x3 : ((nearLo i r : Int) + (k : Int)).toNat = nearLo i r + k := by omega
  have HL1 := Lib.hid hl1
  have HL2 := Lib.hid hl2
  clear hl1 hl2 hcH hcT c1 c2 c3 d1 d2 d3
  cases down
  all_goals
   simp only [Bool.false_eq_true, if_false, if_true] at hy
   gi_wp2
   refine wpIn_round_still_tail 7 kR kR ?_
   simp only [List.take_succ_cons, List.take_zero, List.drop_succ_cons, List.drop_zero]
   repeat still_step
   refine wpStill_nil ?_
   gi_wp2
   refine (round_inRound l2 hRd).mono ?_
   rintro e W4 ⟨bb, rfl, hT4, hJ4, hJ5⟩
   have hT4' : Tch (fun k => R k ∨ k = l) W3 W4 := ⟨hT4.os, hT4.tape, hT4.output, hT4.size, hT4.block⟩
   cases bb
   ·
    gi_wp2
    exact ⟨hT4', rfl, hJ5 (by simp)⟩
   ·
    gi_wp2
    exact ⟨hT4', hJ4 (by simp), hT3'.trans hT4', hT4'.box hB3 (by rintro (e | e); have := hR _ e; have := hT.size; omega; omega)⟩
 case hdone =>
  rintro D W2 ⟨hJ2, hT2, hB2⟩ hD hDd
  gi_wp2
  refine end_marks [D] (.inl rfl) rfl (by simp) (by simpa using hDd) (fun w => results_none rfl _ _ _) (fun w4 ht4 => ⟨⟨_, rfl⟩, .inl ?_⟩)
  have e : (numEs h t down i).length = (nearEs i n r).length := by simp [numEs, nearEs, hh.1, ht.1]
  rw [e]
  exact hJ _ _ _ hJ2 (ht4.below (by have := hT2.size; omega) (fun q hq => by simp; omega))
 case hstop =>
  rintro D k c W2 hk ⟨rfl, hJ2⟩ hD hDd
  gi_wp2
  have hDl : D < W2.heap.size := (Array.getElem?_eq_some_iff.1 hDd).1
  refine end_marks [D] (.inr rfl) rfl (by simp) (by simpa using hDd) (fun w => results_none rfl _ _ _) (fun w4 ht4 => ⟨⟨_, rfl⟩, .inr ⟨k, ?_, ?_⟩⟩)
  ·
   have e : (numEs h t down i).length = (nearEs i n r).length := by simp [numEs, nearEs, hh.1, ht.1]
   rw [e]; exact hk
  ·
   exact hJx _ _ _ hJ2 (ht4.below oM (fun q hq => by simp; omega))
theorem less_calls (a b : Int) (w : World) : Calls Tryz.prog 109 #[.int .i64 a, .int .i64 b] w fun e w' => e = .returned (.bool (decide (a < b))) ∧ w = w' := by
 go_enter Tryz.func109, Tryz.ntmps109
 go_wp2
 go_ret
 exact ⟨rfl, rfl⟩
theorem more_calls (a b : Int) (w : World) : Calls Tryz.prog 108 #[.int .i64 a, .int .i64 b] w fun e w' => e = .returned (.bool (decide (b < a))) ∧ w = w' := by
 go_enter Tryz.func108, Tryz.ntmps108
 go_wp2
 go_ret
 exact ⟨rfl, rfl⟩
def pickB (down : Bool) (x acc : Int) : Int := if down then max acc x else min acc x
def foldB (down : Bool) (f : Int) (l : List Int) : Int := l.foldl (fun acc x => pickB down x acc) f
set_option maxRecDepth 100000 in
set_option maxHeartbeats 1000000 in
theorem fold_calls (down : Bool) (bf : Nat) (hbf : bf = 108 ∧ down = true ∨ bf = 109 ∧ down = false) (f : Int) (vs : List Int) (gf : Nat) (lb : Array Value) (w : World) (eg : ∀ args w, (callFunc gf args).run Tryz.prog w = .ok (.enter gf args) w)
  (hit : ∀ R w', Below w.heap.size w w' → (∀ k, R k → w.heap.size ≤ k ∧ k < w'.heap.size) → Iter Tryz.prog gf lb (vs.map fun v => #[.int .i64 v]) R w') :
  Calls Tryz.prog 107 #[.int .i64 f, .func (.func gf) #[] lb, .func (.func bf) #[] #[]] w fun e w' => e = .returned (.int .i64 (foldB down f vs)) ∧ Below w.heap.size w w' := by
 refine (callsIn_wide (n := 0)).1 ?_
 refine callsIn_of_wp_marks Tryz.func107 rfl trivial ?_ rfl
 simp only [Tryz.ntmps107, List.size_toArray, List.length_cons, List.length_nil, Nat.reduceAdd, Nat.reduceSub, Array.replicate_succ, Array.replicate_zero, List.push_toArray, List.append_toArray, List.nil_append, List.cons_append]
 gi_wp2
 have hb1 := Box.new w 2 #[.int .i64 f]
 have hb2 := Box.new (w.alloc (.cells #[.int .i64 f] 2)) 196 #[.func (.func bf) #[] #[]]
 have hb1' := hb1.alloc (.cells #[.func (.func bf) #[] #[]] 196)
 have hbl := (below_new w (.cells #[.int .i64 f] 2)).alloc (by simp) (.cells #[.func (.func bf) #[] #[]] 196)
 have hsz : ((w.alloc (.cells #[.int .i64 f] 2)).alloc (.cells #[.func (.func bf) #[] #[]] 196)).heap.size = w.heap.size + 2 := by simp
 rw [World.size_alloc] at hb2
 generalize (w.alloc (.cells #[.int .i64 f] 2)).alloc (.cells #[.func (.func bf) #[] #[]] 196) = w0 at *
 refine wp_range (gf := gf) rfl eg (hit (· = w.heap.size) w0 hbl (by intro k e; omega)) (by intro k e; omega) (by intro x hx; simp at hx; obtain ⟨v, _, rfl⟩ := hx; rfl)
  (fun k W => Box W w.heap.size 2 #[.int .i64 (foldB down f (vs.take k))] ∧ Box W (w.heap.size + 1) 196 #[.func (.func bf) #[] #[]] ∧ Below w.heap.size w W) (fun _ _ _ => False)
  (fun k W1 W2 h hb => ⟨h.1.below hb oM, h.2.1.below hb oM, h.2.2.trans (hb.mono oM)⟩) (fun _ _ _ _ h _ => h) ⟨by simpa [foldB] using hb1', hb2, hbl⟩ ?hround ?hdone (fun _ _ _ _ _ h => h.elim)
 case hround =>
  rintro l k x W hl hl' hx ⟨h1, h2, h3⟩
  obtain ⟨hk, rfl⟩ : ∃ hk : k < vs.length, #[.int .i64 vs[k]] = x := by
   rw [List.getElem?_map] at hx
   by_cases hk : k < vs.length
   ·
    rw [List.getElem?_eq_getElem hk] at hx; exact ⟨hk, by simpa using hx⟩
   ·
    rw [List.getElem?_eq_none oM] at hx; cases hx
  gi_wp2
  refine ⟨Tch.refl _ _, fun W3 hT3 => ?_⟩
  have h1' := hT3.box h1 oM
  have h2' := hT3.box h2 oM
  have h3' : Below w.heap.size w W3 := h3.trans (hT3.below (by have := h3.size; omega) (fun q hq => by omega))
  have c1 := h1'.cell 0
  have c2 := h2'.cell 0
  have c3 := h1'.frozen 0
  have hs : foldB down f (vs.take (k + 1)) = pickB down vs[k] (foldB down f (vs.take k)) := by
   rw [List.take_succ_eq_append_getElem hk, foldB, List.foldl_append]; rfl
  have HS := Lib.hid hs
  clear hs hx
  simp only [List.getElem?_toArray, List.getElem?_cons_zero] at c1 c2
  generalize hacc : foldB down f (vs.take k) = acc at *
  generalize vs[k] = x at *
  have Hacc := Lib.hid hacc
  clear hacc
  rcases hbf with ⟨rfl, rfl⟩ | ⟨rfl, rfl⟩
  ·
   by_cases hlt : acc < x
   ·
    have hd : decide (acc < x) = true := by simpa using hlt
    gi_wp2_with (gi_at_call 108; refine (callsIn_wide.2 (more_calls _ _ _)).mono ?_; rintro e w' ⟨rfl, rfl⟩)
    refine ⟨Tch.setCell (R := (· = w.heap.size)) (p := ⟨w.heap.size, 0, none⟩) (Tch.refl _ _) (fun _ => rfl) _, ?_, h2'.far (by simp) _, h3'.setCell (Nat.le_refl _) _⟩
    have hb := h1'.set 0 (.int .i64 x)
    simp only [List.setIfInBounds_toArray, List.set_cons_zero] at hb
    rw [HS.out, show pickB true x acc = x by simp [pickB]; omega]
    exact hb
   ·
    have hd : decide (acc < x) = false := by simpa using hlt
    gi_wp2_with (gi_at_call 108; refine (callsIn_wide.2 (more_calls _ _ _)).mono ?_; rintro e w' ⟨rfl, rfl⟩)
    refine ⟨Tch.refl _ _, ?_, h2', h3'⟩
    rw [HS.out, show pickB true x acc = acc by simp [pickB]; omega]
    exact h1'
  ·
   by_cases hlt : x < acc
   ·
    have hd : decide (x < acc) = true := by simpa using hlt
    gi_wp2_with (gi_at_call 109; refine (callsIn_wide.2 (less_calls _ _ _)).mono ?_; rintro e w' ⟨rfl, rfl⟩)
    refine ⟨Tch.setCell (R := (· = w.heap.size)) (p := ⟨w.heap.size, 0, none⟩) (Tch.refl _ _) (fun _ => rfl) _, ?_, h2'.far (by simp) _, h3'.setCell (Nat.le_refl _) _⟩
    have hb := h1'.set 0 (.int .i64 x)
    simp only [List.setIfInBounds_toArray, List.set_cons_zero] at hb
    rw [HS.out, show pickB false x acc = x by simp [pickB]; omega]
    exact hb
   ·
    have hd : decide (x < acc) = false := by simpa using hlt
    gi_wp2_with (gi_at_call 109; refine (callsIn_wide.2 (less_calls _ _ _)).mono ?_; rintro e w' ⟨rfl, rfl⟩)
    refine ⟨Tch.refl _ _, ?_, h2', h3'⟩
    rw [HS.out, show pickB false x acc = acc by simp [pickB]; omega]
    exact h1'
 case hdone =>
  rintro D W ⟨h1, h2, h3⟩ hD hDd
  have c1 := h1.cell 0
  simp only [List.getElem?_toArray, List.getElem?_cons_zero, List.length_map, List.take_length] at c1
  gi_wp2
  refine end_marks [D] (.inr rfl) rfl (by simp) (by simpa using hDd) (fun w => results_tmp rfl _ _ _) (fun w4 ht4 => ⟨rfl, ?_⟩)
  exact h3.trans (ht4.below (by have := h3.size; omega) (fun q hq => by simp; omega))
end Go.Proofs.YtpmchnojeloohaaGreatDoor

namespace Go.Proofs.YtpmchnojeloohaaGreatDoor
open Go.RowKit Go.Dw Go.Shelf
theorem el_i64 : ∃ i, ElemT Tryz.prog 38 2 i (.int .i64 0) 1 8 := elemT Tryz.underlying38 kR rfl (by decide)
def walkAt (t h : List Int) (down : Bool) (i : Nat) : Int :=
 foldB down (gi h i) ((List.range (nearN i h.length t.length)).map fun k => gi h (nearLo i t.length + k) + (if down then - gi t (dist (nearLo i t.length + k) i) else gi t (dist (nearLo i t.length + k) i)))
def walkL (t h : List Int) (down : Bool) : List Int := (List.range h.length).map (walkAt t h down)
def walkTo (t h : List Int) (down : Bool) (k : Nat) : List Int := (List.range h.length).map fun i => if i < k then walkAt t h down i else 0
theorem walkTo_zero (t h : List Int) (down : Bool) : walkTo t h down 0 = List.replicate h.length 0 := by
 apply List.ext_getElem <;> simp [walkTo]
theorem walkTo_all (t h : List Int) (down : Bool) : walkTo t h down h.length = walkL t h down := by
 apply List.ext_getElem
 ·
  simp [walkTo, walkL]
 ·
  intro i h1 h2
  simp [walkTo, walkL] at h1 ⊢
  omega
theorem walkTo_set (t h : List Int) (down : Bool) (k : Nat) : (walkTo t h down k).set k (walkAt t h down k) = walkTo t h down (k + 1) := by
 apply List.ext_getElem
 ·
  simp [walkTo]
 ·
  intro i h1 h2
  simp [walkTo] at h1 h2 ⊢
  rw [List.getElem_set]
  by_cases e : k = i
  ·
   subst e; simp
  ·
   simp [e]
   by_cases h3 : i < k
   ·
    simp [h3]; intro h4; omega
   ·
    simp [h3]; intro h4; omega
theorem walkTo_length (t h : List Int) (down : Bool) (k : Nat) : (walkTo t h down k).length = h.length := by simp [walkTo]
theorem numEs_eq (h t : List Int) (down : Bool) (i : Nat) :
  numEs h t down i = ((List.range (nearN i h.length t.length)).map fun k => gi h (nearLo i t.length + k) + (if down then - gi t (dist (nearLo i t.length + k) i) else gi t (dist (nearLo i t.length + k) i))).map fun v => #[.int .i64 v] := by
 simp [numEs, numE]
set_option maxRecDepth 100000 in
set_option maxHeartbeats 2000000 in
theorem walk_calls (At Ah : Option Addr) (r ct n ch : Nat) (t h : List Int) (down : Bool) (w : World) (hn : n ≤ 65536) (hr : r ≤ 65536) (ht : IntsAt w At r t) (hh : IntsAt w Ah n h)
  (hhb : ∀ x ∈ h, -16777216 ≤ x ∧ x ≤ 16777216) (htb : ∀ x ∈ t, 0 ≤ x ∧ x ≤ 16777216) :
  Calls Tryz.prog 80 #[.agg #[.slice At r ct], .slice Ah n ch, .bool down] w fun e w' => ∃ g, w.heap.size ≤ g ∧ e = .returned (.slice (some ⟨g, 0, none⟩) n n) ∧
   Box w' g 2 (intCells (walkL t h down)) ∧ Below w.heap.size w w' := by
 obtain ⟨i0, hel⟩ := el_i64
 have hmk := fun W => make_ints hel n oM oM W
 go_enter Tryz.func80, Tryz.ntmps80
 go_wp2
 have b1 := ((Box.new w 51 #[.slice At r ct]).alloc (.cells #[.slice Ah n ch] 38)).alloc (.cells #[.bool down] 4) |>.alloc (.cells (intCells (List.replicate n 0)) 2)
 have b2 := ((Box.new (w.alloc (.cells #[.slice At r ct] 51)) 38 #[.slice Ah n ch]).alloc (.cells #[.bool down] 4)).alloc (.cells (intCells (List.replicate n 0)) 2)
 have b3 := (Box.new ((w.alloc (.cells #[.slice At r ct] 51)).alloc (.cells #[.slice Ah n ch] 38)) 4 #[.bool down]).alloc (.cells (intCells (List.replicate n 0)) 2)
 have b4 := Box.new (((w.alloc (.cells #[.slice At r ct] 51)).alloc (.cells #[.slice Ah n ch] 38)).alloc (.cells #[.bool down] 4)) 2 (intCells (List.replicate n 0))
 have hb0 := (((below_new w (.cells #[.slice At r ct] 51)).alloc (by simp) (.cells #[.slice Ah n ch] 38)).alloc (by simp; omega) (.cells #[.bool down] 4)).alloc (by simp; omega) (.cells (intCells (List.replicate n 0)) 2)
 have hs0 : ((((w.alloc (.cells #[.slice At r ct] 51)).alloc (.cells #[.slice Ah n ch] 38)).alloc (.cells #[.bool down] 4)).alloc (.cells (intCells (List.replicate n 0)) 2)).heap.size = w.heap.size + 1 + 1 + 1 + 1 := by simp
 simp only [World.size_alloc] at b1 b2 b3 b4
 generalize (((w.alloc (.cells #[.slice At r ct] 51)).alloc (.cells #[.slice Ah n ch] 38)).alloc (.cells #[.bool down] 4)).alloc (.cells (intCells (List.replicate n 0)) 2) = w0 at *
 have hl1 : h.length = n := hh.1
 rw [← hl1, ← walkTo_zero t h down] at b4
 have Hl1 := Lib.hid hl1
 clear hl1 hmk
 have hh0 := hh.below' hb0
 have ht0 := ht.below' hb0
 have nA : ∀ b, Ah.map (·.block) = some b → 0 < n → b < w.heap.size := fun b hb hn0 => by
  obtain ⟨b', o, rfl, hb', _⟩ := hh.2.2 hn0; simp at hb; omega
 go_loopw [16] (fun kv wr => ∃ k : Nat, k ≤ n ∧ kv = .int .i64 k ∧ Box wr (w.heap.size + 1 + 1 + 1) 2 (intCells (walkTo t h down k)) ∧ Tch (· = w.heap.size + 1 + 1 + 1) w0 wr) (fun kv wr => n - (intOf kv).toNat)
 case atStart => exact ⟨0, Nat.zero_le _, rfl, b4, Tch.refl _ _⟩
 case round =>
  obtain ⟨k, hk, rfl, hbo, hT⟩ := hrel
  have c1 := hT.box b1 oM
  have c2 := hT.box b2 oM
  have c3 := hT.box b3 oM
  have hbw : Below w.heap.size w wr := hb0.trans (hT.below oM (fun q hq => by omega))
  by_cases hlt : k < n
  ·
   have hhw := hh.below' hbw
   have htw := ht.below' hbw
   obtain ⟨bH, oH, rfl, hbH, hcH⟩ := ints_at hhw hlt
   have d3 : wr.cell? ⟨w.heap.size + 1 + 1, 0, none⟩ = some (.bool down) := c3.cell 0
   have d2 : wr.cell? ⟨w.heap.size + 1, 0, none⟩ = some (.slice (some ⟨bH, oH, none⟩) n ch) := c2.cell 0
   have l1 := c1.lt
   have l2 := c2.lt
   have l3 := c3.lt
   have l4 := hbo.lt
   have hx1 : Box (wr.alloc (.cells #[.int .i64 k] 3)) wr.heap.size 3 #[.int .i64 k] := Box.new _ _ _
   have hx2 := below_new wr (.cells #[.int .i64 k] 3)
   have hx3 := size_new wr (.cells #[.int .i64 k] 3)
   cases down
   ·
    go_wp2
    generalize wr.alloc (.cells #[.int .i64 k] 3) = wx at *
    have e1 := c1.below hx2 l1
    have e2 := c2.below hx2 l2
    have e3 := c3.below hx2 l3
    have e4 := hbo.below hx2 l4
    have hi : wx.cell? ⟨wr.heap.size, 0, none⟩ = some (.int .i64 k) := hx1.cell 0
    have hbx : Below w.heap.size w wx := hbw.trans (hx2.mono oM)
    have hit : ∀ (R : Nat → Prop) (w' : World), Below wx.drew.heap.size wx.drew w' → (∀ k, R k → wx.drew.heap.size ≤ k ∧ k < w'.heap.size) →
      Iter Tryz.prog 106 #[.pointer (some ⟨wr.heap.size, 0, none⟩), .pointer (some ⟨w.heap.size + 1, 0, none⟩), .pointer (some ⟨w.heap.size, 0, none⟩), .pointer (some ⟨w.heap.size + 1 + 1, 0, none⟩)]
       (((List.range (nearN k h.length t.length)).map fun q => gi h (nearLo k t.length + q) + (if false then - gi t (dist (nearLo k t.length + q) k) else gi t (dist (nearLo k t.length + q) k))).map fun v => #[.int .i64 v]) R w' := fun R w' hb hR => by
     have hb' : Below wx.heap.size wx w' := below_undrew hb
     have hsx : ∀ q, q < wx.heap.size → ¬ R q := fun q hq e => by have := (hR q e).1; have : wx.heap.size ≤ q := this; omega
     have := hx1.lt
     rw [← numEs_eq]
     refine numbers_iter _ _ _ _ k (some ⟨bH, oH, none⟩) At n ch r ct h t false w' R hlt hn hr (hx1.below hb' oM) (e2.below hb' oM) (e1.below hb' oM) (e3.below hb' oM)
      ((hh.below' hbx).below hb' (Nat.le_refl _)) ((ht.below' hbx).below hb' (Nat.le_refl _)) hhb htb (hsx _ oM) (hsx _ oM) (hsx _ oM) (hsx _ oM) ?_ ?_ (fun q e => (hR q e).2)
     ·
      intro b hb2; simp at hb2; exact hsx _ oM
     ·
      intro hr0 b hb2
      obtain ⟨b', o, rfl, hb3, _⟩ := ht.2.2 hr0
      simp at hb2; exact hsx _ (by have := hbx.size; omega)
    have Hit := Lib.hid hit
    clear hit
    go_region_with (go_at_call 107; refine (fold_calls false 109 (.inr ⟨rfl, rfl⟩) _ _ 106 _ wx.drew (enters_of Tryz.func106 kR rfl) Hit.out).mono ?_; rintro e w' ⟨rfl, hbw'⟩; have q1 : w'.cell? ⟨wr.heap.size, 0, none⟩ = some (.int .i64 k) := (hx1.below (w := wx.drew) hbw' hx1.lt).cell 0; have q2 : w'.cell? ⟨w.heap.size + 1 + 1 + 1, k, none⟩ = some (.int .i64 (gi (walkTo t h false k) k)) := ((e4.below (w := wx.drew) hbw' e4.lt).cell k).trans (intCells_get _ _ (by rw [walkTo_length, Hl1.out]; exact hlt)); have q3 : w'.frozen? ⟨w.heap.size + 1 + 1 + 1, k, none⟩ = false := (e4.below (w := wx.drew) hbw' e4.lt).frozen k)
    all_goals
     have hbw2 : Below wx.heap.size wx w' := below_undrew hbw'
     go_wp2
     go_roundw
     case rel =>
      refine ⟨k + 1, by omega, by go_num, ?_, ?_⟩
      ·
       have hs := (e4.below hbw2 e4.lt).set k (.int .i64 (walkAt t h false k))
       rw [intCells_set, walkTo_set] at hs
       simpa [walkAt] using hs
      ·
       exact ((hT.trans (Tch.of_new hx2)).trans (Tch.of_new hbw2)).setCell (fun _ => rfl) _
     case measure => simp [intOf]; omega
   ·
    go_wp2
    generalize wr.alloc (.cells #[.int .i64 k] 3) = wx at *
    have e1 := c1.below hx2 l1
    have e2 := c2.below hx2 l2
    have e3 := c3.below hx2 l3
    have e4 := hbo.below hx2 l4
    have hi : wx.cell? ⟨wr.heap.size, 0, none⟩ = some (.int .i64 k) := hx1.cell 0
    have hbx : Below w.heap.size w wx := hbw.trans (hx2.mono oM)
    have hit : ∀ (R : Nat → Prop) (w' : World), Below wx.drew.heap.size wx.drew w' → (∀ k, R k → wx.drew.heap.size ≤ k ∧ k < w'.heap.size) →
      Iter Tryz.prog 106 #[.pointer (some ⟨wr.heap.size, 0, none⟩), .pointer (some ⟨w.heap.size + 1, 0, none⟩), .pointer (some ⟨w.heap.size, 0, none⟩), .pointer (some ⟨w.heap.size + 1 + 1, 0, none⟩)]
       (((List.range (nearN k h.length t.length)).map fun q => gi h (nearLo k t.length + q) + (if true then - gi t (dist (nearLo k t.length + q) k) else gi t (dist (nearLo k t.length + q) k))).map fun v => #[.int .i64 v]) R w' := fun R w' hb hR => by
     have hb' : Below wx.heap.size wx w' := below_undrew hb
     have hsx : ∀ q, q < wx.heap.size → ¬ R q := fun q hq e => by have := (hR q e).1; have : wx.heap.size ≤ q := this; omega
     have := hx1.lt
     rw [← numEs_eq]
     refine numbers_iter _ _ _ _ k (some ⟨bH, oH, none⟩) At n ch r ct h t true w' R hlt hn hr (hx1.below hb' oM) (e2.below hb' oM) (e1.below hb' oM) (e3.below hb' oM)
      ((hh.below' hbx).below hb' (Nat.le_refl _)) ((ht.below' hbx).below hb' (Nat.le_refl _)) hhb htb (hsx _ oM) (hsx _ oM) (hsx _ oM) (hsx _ oM) ?_ ?_ (fun q e => (hR q e).2)
     ·
      intro b hb2; simp at hb2; exact hsx _ oM
     ·
      intro hr0 b hb2
      obtain ⟨b', o, rfl, hb3, _⟩ := ht.2.2 hr0
      simp at hb2; exact hsx _ (by have := hbx.size; omega)
    have Hit := Lib.hid hit
    clear hit
    go_region_with (go_at_call 107; refine (fold_calls true 108 (.inl ⟨rfl, rfl⟩) _ _ 106 _ wx.drew (enters_of Tryz.func106 kR rfl) Hit.out).mono ?_; rintro e w' ⟨rfl, hbw'⟩; have q1 : w'.cell? ⟨wr.heap.size, 0, none⟩ = some (.int .i64 k) := (hx1.below (w := wx.drew) hbw' hx1.lt).cell 0; have q2 : w'.cell? ⟨w.heap.size + 1 + 1 + 1, k, none⟩ = some (.int .i64 (gi (walkTo t h true k) k)) := ((e4.below (w := wx.drew) hbw' e4.lt).cell k).trans (intCells_get _ _ (by rw [walkTo_length, Hl1.out]; exact hlt)); have q3 : w'.frozen? ⟨w.heap.size + 1 + 1 + 1, k, none⟩ = false := (e4.below (w := wx.drew) hbw' e4.lt).frozen k)
    all_goals
     have hbw2 : Below wx.heap.size wx w' := below_undrew hbw'
     go_wp2
     go_roundw
     case rel =>
      refine ⟨k + 1, by omega, by go_num, ?_, ?_⟩
      ·
       have hs := (e4.below hbw2 e4.lt).set k (.int .i64 (walkAt t h true k))
       rw [intCells_set, walkTo_set] at hs
       simpa [walkAt] using hs
      ·
       exact ((hT.trans (Tch.of_new hx2)).trans (Tch.of_new hbw2)).setCell (fun _ => rfl) _
     case measure => simp [intOf]; omega
  ·
   obtain rfl : k = n := by omega
   go_wp2
   go_ret
   refine ⟨_, ?_, rfl, ?_, hbw⟩
   ·
    omega
   ·
    rw [← Hl1.out, walkTo_all] at hbo; exact hbo
end Go.Proofs.YtpmchnojeloohaaGreatDoor

namespace Go.Proofs.YtpmchnojeloohaaGreatDoor
open Go.RowKit Go.Dw Go.Shelf
def ofE (inn : Bool) (p : Pt) : Int := if inn then - p.1 else p.2
def backE (inn : Bool) (n : Int) : Int := if inn then - n else n
theorem outer_of (a b : Int) (w : World) : Calls Tryz.prog 216 #[.agg #[], .agg #[.int .i64 a, .int .i64 b]] w fun e w' => e = .returned (.int .i64 (ofE false (a, b))) ∧ Below w.heap.size w w' := by
 go_enter Tryz.func216, Tryz.ntmps216
 go_wp2
 go_ret
 exact ⟨rfl, (below_new _ _).alloc (by simp) _⟩
theorem outer_back (n : Int) (w : World) : Calls Tryz.prog 215 #[.agg #[], .int .i64 n] w fun e w' => e = .returned (.int .i64 (backE false n)) ∧ Below w.heap.size w w' := by
 go_enter Tryz.func215, Tryz.ntmps215
 go_wp2
 go_ret
 exact ⟨rfl, below_new _ _⟩
theorem inner_of (a b : Int) (w : World) (h : -1099511627776 ≤ a ∧ a ≤ 1099511627776) : Calls Tryz.prog 218 #[.agg #[], .agg #[.int .i64 a, .int .i64 b]] w fun e w' => e = .returned (.int .i64 (ofE true (a, b))) ∧ Below w.heap.size w w' := by
 go_enter Tryz.func218, Tryz.ntmps218
 go_wp2
 go_ret
 exact ⟨rfl, (below_new _ _).alloc (by simp) _⟩
theorem inner_back (n : Int) (w : World) (h : -1099511627776 ≤ n ∧ n ≤ 1099511627776) : Calls Tryz.prog 217 #[.agg #[], .int .i64 n] w fun e w' => e = .returned (.int .i64 (backE true n)) ∧ Below w.heap.size w w' := by
 go_enter Tryz.func217, Tryz.ntmps217
 go_wp2
 go_ret
 exact ⟨rfl, below_new _ _⟩
theorem meth_of_outer (w : World) : (method 410 192 (.agg #[]) "deadwax/play.of").run Tryz.prog w = .ok (216, .agg #[]) w := by kernel_rfl
theorem meth_back_outer (w : World) : (method 410 192 (.agg #[]) "deadwax/play.back").run Tryz.prog w = .ok (215, .agg #[]) w := by kernel_rfl
theorem meth_of_inner (w : World) : (method 410 193 (.agg #[]) "deadwax/play.of").run Tryz.prog w = .ok (218, .agg #[]) w := by kernel_rfl
theorem meth_back_inner (w : World) : (method 410 193 (.agg #[]) "deadwax/play.back").run Tryz.prog w = .ok (217, .agg #[]) w := by kernel_rfl
def Thr (tf : Nat) (lb : Array Value) (thr : List Int → List Int) (n : Nat) (h : List Int) (w : World) : Prop :=
 ∀ (A : Option Addr) (c : Nat) (W : World), Below w.heap.size w W → IntsAt W A n h →
  Calls Tryz.prog tf (#[.slice A n c] ++ lb) W fun e W' => ∃ g, W.heap.size ≤ g ∧ e = .returned (.slice (some ⟨g, 0, none⟩) n n) ∧ Box W' g 2 (intCells (thr h)) ∧ Below W.heap.size W W'
def backTo (inn : Bool) (l : List Int) (k : Nat) : List Int := (List.range l.length).map fun i => if i < k then backE inn (gi l i) else gi l i
theorem backTo_zero (inn : Bool) (l : List Int) : backTo inn l 0 = l := by
 apply List.ext_getElem
 ·
  simp [backTo]
 ·
  intro i h1 h2; simp [backTo, gi_eq h2]
theorem backTo_all (inn : Bool) (l : List Int) : backTo inn l l.length = l.map (backE inn) := by
 apply List.ext_getElem
 ·
  simp [backTo]
 ·
  intro i h1 h2
  simp at h2
  simp [backTo, gi_eq h2, h2]
theorem backTo_length (inn : Bool) (l : List Int) (k : Nat) : (backTo inn l k).length = l.length := by simp [backTo]
theorem backTo_at (inn : Bool) (l : List Int) (k : Nat) (h : k < l.length) : gi (backTo inn l k) k = gi l k := by
 rw [gi_eq (by rw [backTo_length]; exact h)]; simp [backTo]
theorem backTo_set (inn : Bool) (l : List Int) (k : Nat) : (backTo inn l k).set k (backE inn (gi l k)) = backTo inn l (k + 1) := by
 apply List.ext_getElem
 ·
  simp [backTo]
 ·
  intro i h1 h2
  simp [backTo] at h1 h2 ⊢
  rw [List.getElem_set]
  by_cases e : k = i
  ·
   subst e; simp
  ·
   simp [e]
   by_cases h3 : i < k
   ·
    simp [h3]; intro h4; omega
   ·
    simp [h3]; intro h4; omega
set_option maxRecDepth 100000 in
set_option maxHeartbeats 2000000 in
theorem both_calls (inn : Bool) (it : Nat) (hit : it = 193 ∧ inn = true ∨ it = 192 ∧ inn = false) (a b : Nat) (A : Option Addr) (n c : Nat) (l : List Pt) (tf : Nat) (lb : Array Value) (thr : List Int → List Int) (w : World)
  (hl : PtsAt w A n l) (hn : n ≤ 4096) (hlb : ∀ p ∈ l, -4194304 ≤ p.1 ∧ p.1 ≤ 4194304 ∧ -4194304 ≤ p.2 ∧ p.2 ≤ 4194304) (ba : Box w a 32 #[.slice A n c]) (bb : Box w b 157 #[.func (.func tf) #[] lb])
  (eg : ∀ args w, (callFunc tf args).run Tryz.prog w = .ok (.enter tf args) w) (ht : Thr tf lb thr n (l.map (ofE inn)) w)
  (hth : (thr (l.map (ofE inn))).length = n) (htb : ∀ x ∈ thr (l.map (ofE inn)), -1099511627776 ≤ x ∧ x ≤ 1099511627776) :
  Calls Tryz.prog 105 #[.iface it (.agg #[]), .pointer (some ⟨a, 0, none⟩), .pointer (some ⟨b, 0, none⟩)] w fun e w' => ∃ g, w.heap.size ≤ g ∧ e = .returned (.slice (some ⟨g, 0, none⟩) n n) ∧
   Box w' g 2 (intCells ((thr (l.map (ofE inn))).map (backE inn))) ∧ Below w.heap.size w w' := by
 obtain ⟨i0, hel⟩ := el_i64
 have la := ba.lt
 have lb' := bb.lt
 have c1 : w.cell? ⟨a, 0, none⟩ = some (.slice A n c) := ba.cell 0
 have hl1 := hl.1
 have Hl1 := Lib.hid hl1
 clear hl1
 go_enter Tryz.func105, Tryz.ntmps105
 go_wp2
 have Hit := Lib.hid hit
 clear hit
 rcases Hit.out with ⟨rfl, rfl⟩ | ⟨rfl, rfl⟩
 ·
  go_region
  go_wp2
  have hd0 : Below w.heap.size w w.drew := (Below.refl _ _).drew
  generalize w.drew = w0 at *
  go_loopw [7, 19] (fun v kv wr => ∃ k : Nat, k ≤ n ∧ kv = .int .i64 k ∧ wr.ownsRow w.heap.size 2 1 v k (((l.map (ofE true)).take k).flatMap encI) ∧ Below w.heap.size w wr) (fun v kv wr => n - (intOf kv).toNat)
  case atStart => exact ⟨0, Nat.zero_le _, rfl, World.ownsRow_nil _ _ _ _, hd0⟩
  case round =>
   obtain ⟨k, hk, rfl, hown, hbl⟩ := hrel
   by_cases hlt : k < n
   ·
    obtain ⟨bP, oP, rfl, hbP, hc1, hc2⟩ := pts_at (hl.below' hbl) hlt
    have hpb := (forall_gp.1 hlb) k (by rw [Hl1.out]; exact hlt)
    have hx1 : Box (wr.alloc (.cells #[.int .i64 (gp l k).1, .int .i64 (gp l k).2] 61)) wr.heap.size 61 #[.int .i64 (gp l k).1, .int .i64 (gp l k).2] := Box.new _ _ _
    have hx2 := below_new wr (.cells #[.int .i64 (gp l k).1, .int .i64 (gp l k).2] 61)
    have m1 := fun w => meth_of_inner w
    go_wp2_with (first
     | (go_at_call 218; refine (inner_of _ _ _ oM).mono ?_; rintro e w1 ⟨rfl, hw1⟩; have hown1 := own_below' (own_below' hown hx2) hw1; have hbl1 := (hbl.trans (hx2.mono hbl.size)).trans (hw1.mono (by have := hbl.size; simp; omega)))
     | (at_builtin; go_loud (refine wpList_push hel rfl _ _ rfl rfl (hown1.alloc _) rfl (Box.new w1 2 _) rfl (by intro u hu; simp at hu; subst hu; rfl) oM (by decide) (by have := hbl1.size; simp; omega) ?_); intro v' w2 hown2 hg2))
    go_roundw
    case rel =>
     refine ⟨k + 1, by omega, by go_num, ?_, ?_⟩
     ·
      have e : (l.map (ofE true)).take (k + 1) = (l.map (ofE true)).take k ++ [ofE true (gp l k)] := by
       rw [List.take_succ_eq_append_getElem (by simp [Hl1.out, hlt])]; simp [gp_eq (l := l) (k := k) (by rw [Hl1.out]; exact hlt)]
      rw [e, List.flatMap_append]
      simpa [encI] using hown2
     ·
      exact (hbl1.alloc hbl1.size _).grown hg2 (by have := hbl1.size; simp; omega) (fun g e => by have := hown1.lt g e; omega)
    case measure => simp [intOf]; omega
   ·
    obtain rfl : k = n := by omega
    obtain ⟨A', c', rfl⟩ := own_form hown
    rw [List.take_of_length_le (by simp [Hl1.out])] at hown
    have hin : IntsAt wr A' k (l.map (ofE true)) := SlAt.of_own encI_len Nat.one_pos hown
    have d2 : wr.cell? ⟨b, 0, none⟩ = some (.func (.func tf) #[] lb) := (bb.below' hbl).cell 0
    go_wp2_with fail
    refine (ht A' c' wr hbl hin).mono ?_
    rintro e w1 ⟨g, hg, rfl, hbg, hb1⟩
    have hb2 : Below w.heap.size w w1 := hbl.trans (hb1.mono hbl.size)
    generalize hL : thr (l.map (ofE true)) = L at *
    have HL := Lib.hid hL
    have Hth := Lib.hid hth
    clear hL hth ht
    go_wp2
    go_loopw [35] (fun kv wr2 => ∃ q : Nat, q ≤ k ∧ kv = .int .i64 q ∧ Box wr2 g 2 (intCells (backTo true L q)) ∧ Below w.heap.size w wr2) (fun kv wr2 => k - (intOf kv).toNat)
    case atStart => exact ⟨0, Nat.zero_le _, rfl, by rw [backTo_zero]; exact hbg, hb2⟩
    case round =>
     obtain ⟨q, hq, rfl, hbq, hbw⟩ := hrel
     by_cases hqk : q < k
     ·
      have f1 : wr.cell? ⟨g, q, none⟩ = some (.int .i64 (gi L q)) := by
       rw [hbq.cell, intCells_get _ _ (by rw [backTo_length, Hth.out]; exact hqk), backTo_at _ _ _ (by rw [Hth.out]; exact hqk)]
      have hqb := (forall_gi.1 htb) q (by rw [Hth.out]; exact hqk)
      have m2 := fun w => meth_back_inner w
      have hbq2 : ∀ w', Below wr.heap.size wr w' → w'.cell? ⟨g, q, none⟩ = some (.int .i64 (gi L q)) ∧ w'.frozen? ⟨g, q, none⟩ = false := fun w' hb => ⟨(hb.cell (p := ⟨g, q, none⟩) hbq.lt).trans f1, (hbq.below' hb).frozen q⟩
      go_wp2_with (go_at_call 217; refine (inner_back _ _ oM).mono ?_; rintro e w2 ⟨rfl, hw2⟩; obtain ⟨f2, f3⟩ := hbq2 w2 hw2)
      go_roundw
      case rel =>
       refine ⟨q + 1, by omega, by go_num, ?_, ?_⟩
       ·
        have hs := (hbq.below' hw2).set q (.int .i64 (backE true (gi L q)))
        rw [intCells_set, backTo_set] at hs
        exact hs
       ·
        exact (hbw.trans (hw2.mono hbw.size)).setCell (p := ⟨g, q, none⟩) (by have := hbl.size; simp; omega) _
      case measure => simp [intOf]; omega
     ·
      obtain rfl : q = k := by omega
      go_wp2
      go_ret
      refine ⟨g, by have := hbl.size; omega, rfl, ?_, hbw⟩
      have := Hth.out
      rw [← this, backTo_all] at hbq
      rw [HL.out]
      exact hbq
 ·
  go_region
  go_wp2
  have hd0 : Below w.heap.size w w.drew := (Below.refl _ _).drew
  generalize w.drew = w0 at *
  go_loopw [7, 19] (fun v kv wr => ∃ k : Nat, k ≤ n ∧ kv = .int .i64 k ∧ wr.ownsRow w.heap.size 2 1 v k (((l.map (ofE false)).take k).flatMap encI) ∧ Below w.heap.size w wr) (fun v kv wr => n - (intOf kv).toNat)
  case atStart => exact ⟨0, Nat.zero_le _, rfl, World.ownsRow_nil _ _ _ _, hd0⟩
  case round =>
   obtain ⟨k, hk, rfl, hown, hbl⟩ := hrel
   by_cases hlt : k < n
   ·
    obtain ⟨bP, oP, rfl, hbP, hc1, hc2⟩ := pts_at (hl.below' hbl) hlt
    have hpb := (forall_gp.1 hlb) k (by rw [Hl1.out]; exact hlt)
    have hx1 : Box (wr.alloc (.cells #[.int .i64 (gp l k).1, .int .i64 (gp l k).2] 61)) wr.heap.size 61 #[.int .i64 (gp l k).1, .int .i64 (gp l k).2] := Box.new _ _ _
    have hx2 := below_new wr (.cells #[.int .i64 (gp l k).1, .int .i64 (gp l k).2] 61)
    have m1 := fun w => meth_of_outer w
    go_wp2_with (first
     | (go_at_call 216; refine (outer_of _ _ _).mono ?_; rintro e w1 ⟨rfl, hw1⟩; have hown1 := own_below' (own_below' hown hx2) hw1; have hbl1 := (hbl.trans (hx2.mono hbl.size)).trans (hw1.mono (by have := hbl.size; simp; omega)))
     | (at_builtin; go_loud (refine wpList_push hel rfl _ _ rfl rfl (hown1.alloc _) rfl (Box.new w1 2 _) rfl (by intro u hu; simp at hu; subst hu; rfl) oM (by decide) (by have := hbl1.size; simp; omega) ?_); intro v' w2 hown2 hg2))
    go_roundw
    case rel =>
     refine ⟨k + 1, by omega, by go_num, ?_, ?_⟩
     ·
      have e : (l.map (ofE false)).take (k + 1) = (l.map (ofE false)).take k ++ [ofE false (gp l k)] := by
       rw [List.take_succ_eq_append_getElem (by simp [Hl1.out, hlt])]; simp [gp_eq (l := l) (k := k) (by rw [Hl1.out]; exact hlt)]
      rw [e, List.flatMap_append]
      simpa [encI] using hown2
     ·
      exact (hbl1.alloc hbl1.size _).grown hg2 (by have := hbl1.size; simp; omega) (fun g e => by have := hown1.lt g e; omega)
    case measure => simp [intOf]; omega
   ·
    obtain rfl : k = n := by omega
    obtain ⟨A', c', rfl⟩ := own_form hown
    rw [List.take_of_length_le (by simp [Hl1.out])] at hown
    have hin : IntsAt wr A' k (l.map (ofE false)) := SlAt.of_own encI_len Nat.one_pos hown
    have d2 : wr.cell? ⟨b, 0, none⟩ = some (.func (.func tf) #[] lb) := (bb.below' hbl).cell 0
    go_wp2_with fail
    refine (ht A' c' wr hbl hin).mono ?_
    rintro e w1 ⟨g, hg, rfl, hbg, hb1⟩
    have hb2 : Below w.heap.size w w1 := hbl.trans (hb1.mono hbl.size)
    generalize hL : thr (l.map (ofE false)) = L at *
    have HL := Lib.hid hL
    have Hth := Lib.hid hth
    clear hL hth ht
    go_wp2
    go_loopw [35] (fun kv wr2 => ∃ q : Nat, q ≤ k ∧ kv = .int .i64 q ∧ Box wr2 g 2 (intCells (backTo false L q)) ∧ Below w.heap.size w wr2) (fun kv wr2 => k - (intOf kv).toNat)
    case atStart => exact ⟨0, Nat.zero_le _, rfl, by rw [backTo_zero]; exact hbg, hb2⟩
    case round =>
     obtain ⟨q, hq, rfl, hbq, hbw⟩ := hrel
     by_cases hqk : q < k
     ·
      have f1 : wr.cell? ⟨g, q, none⟩ = some (.int .i64 (gi L q)) := by
       rw [hbq.cell, intCells_get _ _ (by rw [backTo_length, Hth.out]; exact hqk), backTo_at _ _ _ (by rw [Hth.out]; exact hqk)]
      have hqb := (forall_gi.1 htb) q (by rw [Hth.out]; exact hqk)
      have m2 := fun w => meth_back_outer w
      have hbq2 : ∀ w', Below wr.heap.size wr w' → w'.cell? ⟨g, q, none⟩ = some (.int .i64 (gi L q)) ∧ w'.frozen? ⟨g, q, none⟩ = false := fun w' hb => ⟨(hb.cell (p := ⟨g, q, none⟩) hbq.lt).trans f1, (hbq.below' hb).frozen q⟩
      go_wp2_with (go_at_call 215; refine (outer_back _ _).mono ?_; rintro e w2 ⟨rfl, hw2⟩; obtain ⟨f2, f3⟩ := hbq2 w2 hw2)
      go_roundw
      case rel =>
       refine ⟨q + 1, by omega, by go_num, ?_, ?_⟩
       ·
        have hs := (hbq.below' hw2).set q (.int .i64 (backE false (gi L q)))
        rw [intCells_set, backTo_set] at hs
        exact hs
       ·
        exact (hbw.trans (hw2.mono hbw.size)).setCell (p := ⟨g, q, none⟩) (by have := hbl.size; simp; omega) _
      case measure => simp [intOf]; omega
     ·
      obtain rfl : q = k := by omega
      go_wp2
      go_ret
      refine ⟨g, by have := hbl.size; omega, rfl, ?_, hbw⟩
      have := Hth.out
      rw [← this, backTo_all] at hbq
      rw [HL.out]
      exact hbq
end Go.Proofs.YtpmchnojeloohaaGreatDoor

namespace Go.Proofs.YtpmchnojeloohaaGreatDoor
open Go.RowKit Go.Dw Go.Shelf
theorem el_pt : ∃ i, ElemT Tryz.prog 32 61 i (.agg #[.int .i64 0, .int .i64 0]) 2 16 := elemT Tryz.underlying32 kR rfl (by decide)
theorem Thr.later {tf : Nat} {lb : Array Value} {thr : List Int → List Int} {n : Nat} {h : List Int} {w w' : World} (ht : Thr tf lb thr n h w) (hb : Below w.heap.size w w') : Thr tf lb thr n h w' :=
  fun A c W hW hi => ht A c W (hb.trans (hW.mono hb.size)) hi
def wallsP (n : Nat) (li lo : List Int) : List Pt := (List.range n).map fun i => (gi li i, gi lo i)
theorem wallsP_succ (n : Nat) (li lo : List Int) : wallsP (n + 1) li lo = wallsP n li lo ++ [(gi li n, gi lo n)] := by simp [wallsP, List.range_succ]
def wallsT (thr : List Int → List Int) (l : List Pt) : List Pt :=
  wallsP l.length ((thr (l.map (ofE true))).map (backE true)) ((thr (l.map (ofE false))).map (backE false))
set_option maxRecDepth 100000 in
set_option maxHeartbeats 2000000 in
theorem walls_calls (A : Option Addr) (n c : Nat) (l : List Pt) (tf : Nat) (lb : Array Value) (thr : List Int → List Int) (w : World)
    (hl : PtsAt w A n l) (hn : n ≤ 4096) (hlb : ∀ p ∈ l, -4194304 ≤ p.1 ∧ p.1 ≤ 4194304 ∧ -4194304 ≤ p.2 ∧ p.2 ≤ 4194304)
    (eg : ∀ args w, (callFunc tf args).run Tryz.prog w = .ok (.enter tf args) w) (ht : ∀ inn, Thr tf lb thr n (l.map (ofE inn)) w)
    (hth : ∀ inn, (thr (l.map (ofE inn))).length = n) (htb : ∀ inn, ∀ x ∈ thr (l.map (ofE inn)), -1099511627776 ≤ x ∧ x ≤ 1099511627776) :
    Calls Tryz.prog 78 #[.slice A n c, .func (.func tf) #[] lb] w fun e w' => ∃ v, e = .returned v ∧ w'.ownsRow w.heap.size 61 2 v n ((wallsT thr l).flatMap encP) ∧ Below w.heap.size w w' := by
  obtain ⟨i0, hel⟩ := el_pt
  have b1 := (Box.new w 32 #[.slice A n c]).alloc (.cells #[.func (.func tf) #[] lb] 157)
  have b2 := Box.new (w.alloc (.cells #[.slice A n c] 32)) 157 #[.func (.func tf) #[] lb]
  have hb := (below_new w (.cells #[.slice A n c] 32)).alloc (by simp) (.cells #[.func (.func tf) #[] lb] 157)
  have hs : ((w.alloc (.cells #[.slice A n c] 32)).alloc (.cells #[.func (.func tf) #[] lb] 157)).heap.size = w.heap.size + 1 + 1 := by simp
  simp only [World.size_alloc] at b2
  have Heg := Lib.hid eg
  clear eg
  go_enter Tryz.func78, Tryz.ntmps78
  go_wp2_with fail
  generalize (w.alloc (.cells #[.slice A n c] 32)).alloc (.cells #[.func (.func tf) #[] lb] 157) = w0 at *
  refine (both_calls false _ (.inr ⟨rfl, rfl⟩) _ _ A n c l tf lb thr w0 (hl.below' hb) hn hlb b1 b2 Heg.out ((ht false).later hb) (hth false) (htb false)).mono ?_
  rintro e w1 ⟨go, hgo, rfl, hbo, hb1⟩
  have b1' := b1.below' hb1
  have b2' := b2.below' hb1
  have hb' : Below w.heap.size w w1 := hb.trans (hb1.mono oM)
  go_wp2_with fail
  refine (both_calls true _ (.inl ⟨rfl, rfl⟩) _ _ A n c l tf lb thr w1 (hl.below' hb') hn hlb b1' b2' Heg.out ((ht true).later hb') (hth true) (htb true)).mono ?_
  rintro e w2 ⟨gn, hgn, rfl, hbn, hb2⟩
  have hbo2 := hbo.below' hb2
  have hb'' : Below w.heap.size w w2 := hb'.trans (hb2.mono hb'.size)
  generalize hLo : (thr (l.map (ofE false))).map (backE false) = Lo at *
  generalize hLi : (thr (l.map (ofE true))).map (backE true) = Li at *
  have HLo := Lib.hid hLo
  have HLi := Lib.hid hLi
  have hlo : Lo.length = n := by rw [← hLo]; simp [hth]
  have hli : Li.length = n := by rw [← hLi]; simp [hth]
  have Hlo := Lib.hid hlo
  have Hli := Lib.hid hli
  have Hht := Lib.hid ht
  have Hhth := Lib.hid hth
  have b1'' : w2.cell? ⟨w.heap.size, 0, none⟩ = some (.slice A n c) := (b1'.below' hb2).cell 0
  clear hLo hLi hlo hli ht hth
  go_wp2
  have hg1 : w.heap.size ≤ go := by omega
  have hg2 : w.heap.size ≤ gn := by have := hb1.size; omega
  go_loopw [8, 21] (fun v kv wr => ∃ k : Nat, k ≤ n ∧ kv = .int .i64 k ∧ wr.ownsRow w.heap.size 61 2 v k ((wallsP k Li Lo).flatMap encP) ∧ Box wr go 2 (intCells Lo) ∧ Box wr gn 2 (intCells Li) ∧ Below w.heap.size w wr) (fun v kv wr => n - (intOf kv).toNat)
  case atStart => exact ⟨0, Nat.zero_le _, rfl, World.ownsRow_nil _ _ _ _, hbo2, hbn, hb''⟩
  case round =>
    obtain ⟨k, hk, rfl, hown, hbo, hbn, hbl⟩ := hrel
    by_cases hlt : k < n
    · have f1 : wr.cell? ⟨go, k, none⟩ = some (.int .i64 (gi Lo k)) := (hbo.cell k).trans (intCells_get _ _ (by rw [Hlo.out]; exact hlt))
      have f2 : wr.cell? ⟨gn, k, none⟩ = some (.int .i64 (gi Li k)) := (hbn.cell k).trans (intCells_get _ _ (by rw [Hli.out]; exact hlt))
      go_wp2
      have hown1 : wr.drew.ownsRow w.heap.size 61 2 u8 k ((wallsP k Li Lo).flatMap encP) := hown
      have hbo1 : Box wr.drew go 2 (intCells Lo) := hbo
      have hbn1 : Box wr.drew gn 2 (intCells Li) := hbn
      have hbl1 : Below w.heap.size w wr.drew := hbl.drew
      go_region_law (refine step_push hel rfl _ _ rfl rfl (hown1.alloc _) rfl (Box.new wr.drew 61 _) rfl (by intro u hu; simp at hu; rcases hu with rfl | rfl <;> rfl) oM (by decide) (Nat.le_trans hbl1.size (by simp)) ?_; intro v' w2 hown2 hg2)
      all_goals
       go_wp2
       go_roundw
       case rel =>
         refine ⟨k + 1, by omega, by go_num, ?_, ?_, ?_, ?_⟩
         · rw [wallsP_succ, List.flatMap_append]; exact hown2
         · exact (hbo1.alloc _).grown hg2 (fun e => own_ne hown1 hbo1 (by decide) _ e.symm rfl)
         · exact (hbn1.alloc _).grown hg2 (fun e => own_ne hown1 hbn1 (by decide) _ e.symm rfl)
         · exact (hbl1.alloc hbl1.size _).grown hg2 (Nat.le_trans hbl1.size (by simp)) (fun g e => by have := hown1.lt g e; omega)
       case measure => simp [intOf]; omega
    · obtain rfl : k = n := by omega
      go_wp2
      go_ret
      refine ⟨_, rfl, ?_, hbl⟩
      have e : wallsT thr l = wallsP k Li Lo := by rw [wallsT, HLo.out, HLi.out, hl.1]
      rw [e]; exact hown
end Go.Proofs.YtpmchnojeloohaaGreatDoor

namespace Go.Proofs.YtpmchnojeloohaaGreatDoor
open Go.RowKit Go.Dw Go.Shelf
def withinB (x lo hi : Int) : Bool := decide (lo ≤ x) && decide (x ≤ hi)
def edgeB (p : Pt) : Bool := withinB p.1 (-4194304) 4194304 && withinB p.2 (-4194304) 4194304
theorem edgeB_iff (p : Pt) : edgeB p = true ↔ -4194304 ≤ p.1 ∧ p.1 ≤ 4194304 ∧ -4194304 ≤ p.2 ∧ p.2 ≤ 4194304 := by
 simp [edgeB, withinB]; omega
def checkPts (l : List Pt) : Int := if 4096 < l.length then 6 else if l.all edgeB then 0 else 2
theorem checkPts_ok {l : List Pt} (h : checkPts l = 0) : l.length ≤ 4096 ∧ ∀ p ∈ l, -4194304 ≤ p.1 ∧ p.1 ≤ 4194304 ∧ -4194304 ≤ p.2 ∧ p.2 ≤ 4194304 := by
 unfold checkPts at h
 split at h
 ·
  omega
 ·
  split at h
  ·
   rename_i h2
   exact ⟨by omega, fun p hp => (edgeB_iff p).1 (List.all_eq_true.1 h2 p hp)⟩
  ·
   omega
theorem between_calls (x lo hi : Int) (w : World) : Calls Tryz.prog 70 #[.int .i64 x, .int .i64 lo, .int .i64 hi] w fun e w' => e = .returned (.bool (withinB x lo hi)) ∧ w = w' := by
 go_enter Tryz.func70, Tryz.ntmps70
 go_wp2
 all_goals
  go_ret
  refine ⟨?_, rfl⟩
  simp [withinB, *]
 omega
theorem edged_calls (a b : Int) (w : World) : Calls Tryz.prog 43 #[.agg #[.int .i64 a, .int .i64 b]] w fun e w' => e = .returned (.bool (edgeB (a, b))) ∧ Below w.heap.size w w' := by
 have hb := below_new w (.cells #[.int .i64 a, .int .i64 b] 61)
 cases h : withinB a (-4194304) 4194304
 all_goals
  go_enter Tryz.func43, Tryz.ntmps43
  go_wp2_with ((with_reducible refine (between_calls _ _ _ _).mono ?_); rintro e w' ⟨rfl, rfl⟩)
  go_ret
  exact ⟨by simp [edgeB, h], hb⟩
theorem all_take_succ {l : List Pt} {k : Nat} (h : k < l.length) : (l.take (k + 1)).all edgeB = ((l.take k).all edgeB && edgeB (gp l k)) := by
 rw [take_succ_gp h, List.all_append]; simp
theorem checkPts_bad {l : List Pt} {k : Nat} (h4 : ¬ 4096 < l.length) (hk : k < l.length) (h : edgeB (gp l k) = false) : checkPts l = 2 := by
 unfold checkPts
 rw [if_neg h4, if_neg]
 intro ha
 have := List.all_eq_true.1 ha (gp l k) (gp_mem hk)
 rw [h] at this; cases this
theorem checkPts_good {l : List Pt} (h4 : ¬ 4096 < l.length) (h : l.all edgeB = true) : checkPts l = 0 := by
 unfold checkPts; rw [if_neg h4, if_pos h]
set_option maxHeartbeats 400000 in
theorem checkPts_calls (A : Option Addr) (n c : Nat) (l : List Pt) (w : World) (hl : PtsAt w A n l) (hn : n ≤ 4611686018427387904) :
  Calls Tryz.prog 38 #[.slice A n c] w fun e w' => e = .returned (.int .i64 (checkPts l)) ∧ Below w.heap.size w w' := by
 have hl1 := hl.1
 by_cases h4 : 4096 < n
 ·
  go_enter Tryz.func38, Tryz.ntmps38
  go_wp2
  go_ret
  exact ⟨ret_int (by rw [checkPts, if_pos oM]), Below.refl _ _⟩
 ·
  have Hl := Lib.hid hl1
  clear hl1
  go_enter Tryz.func38, Tryz.ntmps38
  go_wp2
  go_loopw [10] (fun i wr => ∃ k : Nat, k ≤ n ∧ i = .int .i64 k ∧ (l.take k).all edgeB = true ∧ Below w.heap.size w wr) (fun i _ => n - (intOf i).toNat)
  case atStart => exact ⟨0, Nat.zero_le _, rfl, rfl, Below.refl _ _⟩
  case round =>
   obtain ⟨k, hk, rfl, hall, hbl⟩ := hrel
   have Hall := Lib.hid hall
   clear hall
   by_cases hlt : k < n
   ·
    obtain ⟨b, o, rfl, hb, hc1, hc2⟩ := pts_at (hl.below' hbl) hlt
    have hx := hbl.trans ((below_new wr (.cells #[.int .i64 (gp l k).1, .int .i64 (gp l k).2] 61)).mono hbl.size)
    cases he : edgeB ((gp l k).1, (gp l k).2)
    all_goals
     have He := Lib.hid he
     clear he
     go_wp2_with ((with_reducible refine (edged_calls _ _ _).mono ?_); rintro e w' ⟨rfl, hw'⟩; rw [He.out])
    ·
     go_ret
     exact ⟨ret_int (by rw [checkPts_bad (by rw [Hl.out]; exact h4) (by rw [Hl.out]; exact hlt) He.out]), hx.trans (hw'.mono hx.size)⟩
    ·
     go_roundw
     case rel => exact ⟨k + 1, by omega, by go_num, by rw [all_take_succ (by rw [Hl.out]; exact hlt), Hall.out]; exact He.out, hx.trans (hw'.mono hx.size)⟩
     case measure => simp [intOf]; omega
   ·
    obtain rfl : k = n := by omega
    go_wp2
    go_ret
    have h := Hall.out
    rw [List.take_of_length_le (by rw [Hl.out]; exact Nat.le_refl _)] at h
    exact ⟨ret_int (by rw [checkPts_good (by rw [Hl.out]; exact h4) h]), hbl⟩
end Go.Proofs.YtpmchnojeloohaaGreatDoor

namespace Go.Proofs.YtpmchnojeloohaaGreatDoor
open Go.RowKit Go.Dw Go.Shelf
def tipBad (t : List Int) (k : Nat) : Bool := if k = 0 then gi t 0 != 0 else decide (gi t k < gi t (k - 1)) || decide (4194304 < gi t k)
def checkTip (t : List Int) : Int := if t.length = 0 ∨ 64 < t.length then 6 else if (List.range t.length).any (tipBad t) then 2 else 0
theorem checkTip_many {t : List Int} (h : t.length = 0 ∨ 64 < t.length) : checkTip t = 6 := by rw [checkTip, if_pos h]
theorem checkTip_bad {t : List Int} {k : Nat} (h : ¬ (t.length = 0 ∨ 64 < t.length)) (hk : k < t.length) (hb : tipBad t k = true) : checkTip t = 2 := by
  rw [checkTip, if_neg h, if_pos]
  rw [List.any_eq_true]; exact ⟨k, List.mem_range.2 hk, hb⟩
theorem checkTip_good {t : List Int} (h : ¬ (t.length = 0 ∨ 64 < t.length)) (hb : ∀ k, k < t.length → tipBad t k = false) : checkTip t = 0 := by
  rw [checkTip, if_neg h, if_neg]
  rw [List.any_eq_true]; rintro ⟨k, hk, e⟩
  rw [hb k (List.mem_range.1 hk)] at e; cases e
theorem checkTip_ok {t : List Int} (h : checkTip t = 0) : 0 < t.length ∧ t.length ≤ 64 ∧ gi t 0 = 0 ∧ (∀ k, k + 1 < t.length → gi t k ≤ gi t (k + 1)) ∧ ∀ x ∈ t, 0 ≤ x ∧ x ≤ 4194304 := by
  unfold checkTip at h
  split at h
  · omega
  · split at h
    · omega
    · rename_i h1 h2
      have hb : ∀ k, k < t.length → tipBad t k = false := fun k hk => by
        cases e : tipBad t k with
        | false => rfl
        | true => exact absurd (List.any_eq_true.2 ⟨k, List.mem_range.2 hk, e⟩) h2
      have h0 : gi t 0 = 0 := by have := hb 0 oM; simpa [tipBad] using this
      have hs : ∀ k, k + 1 < t.length → gi t k ≤ gi t (k + 1) ∧ gi t (k + 1) ≤ 4194304 := fun k hk => by
        have := hb (k + 1) hk
        simp [tipBad] at this
        omega
      refine ⟨by omega, by omega, h0, fun k hk => (hs k hk).1, ?_⟩
      rw [forall_gi (p := fun x => 0 ≤ x ∧ x ≤ 4194304)]
      intro k
      induction k with
      | zero => intro _; rw [h0]; omega
      | succ k ih => intro hk; have := ih oM; have := hs k hk; omega
set_option maxRecDepth 100000 in
set_option maxHeartbeats 1000000 in
theorem checkTip_calls (A : Option Addr) (n c : Nat) (t : List Int) (w : World) (hl : IntsAt w A n t) (hn : n ≤ 4611686018427387904) :
    Calls Tryz.prog 77 #[.agg #[.slice A n c]] w fun e w' => e = .returned (.int .i64 (checkTip t)) ∧ Below w.heap.size w w' := by
  have hb0 := below_new w (.cells #[.slice A n c] 51)
  have hbx := Box.new w 51 #[.slice A n c]
  have Hl := Lib.hid hl.1
  by_cases h0 : n = 0
  · subst h0
    have d0 : ((0 : Int) == 0) = true := rfl
    go_enter Tryz.func77, Tryz.ntmps77
    go_wp2
    all_goals go_ret
    all_goals exact ⟨ret_int (by rw [checkTip_many (by rw [Hl.out]; omega)]), hb0⟩
  · have d0 : ((n : Int) == 0) = false := beq_eq_false_iff_ne.2 oM
    by_cases h64 : 64 < n
    · have d1 : decide ((64 : Int) < (n : Int)) = true := by simp; omega
      go_enter Tryz.func77, Tryz.ntmps77
      go_wp2
      all_goals go_ret
      all_goals exact ⟨ret_int (by rw [checkTip_many (by rw [Hl.out]; omega)]), hb0⟩
    · have d1 : decide ((64 : Int) < (n : Int)) = false := by simp; omega
      go_enter Tryz.func77, Tryz.ntmps77
      go_wp2
      generalize w.alloc (.cells #[.slice A n c] 51) = w0 at *
      have hl0 := hl.below' hb0
      go_loop [3, 19] (fun last i => ∃ k : Nat, k ≤ n ∧ i = .int .i64 k ∧ last = .int .i64 (if k = 0 then 0 else gi t (k - 1)) ∧ ∀ j, j < k → tipBad t j = false) (fun _ i => n - (intOf i).toNat)
      case atStart => exact ⟨0, Nat.zero_le _, rfl, rfl, fun j hj => absurd hj oM⟩
      case round =>
        obtain ⟨k, hk, rfl, rfl, hall⟩ := hrel
        have Hall := Lib.hid hall
        clear hall
        by_cases hlt : k < n
        · obtain ⟨b, o, rfl, hb, hc1⟩ := ints_at hl0 hlt
          have key : (tipBad t k = true → checkTip t = 2) := fun h => checkTip_bad (by rw [Hl.out]; omega) (by rw [Hl.out]; exact hlt) h
          have Key := Lib.hid key
          clear key
          have next : tipBad t k = false → ∀ j, j < k + 1 → tipBad t j = false := fun h j hj => by
            by_cases e : j = k
            · subst e; exact h
            · exact Hall.out j oM
          have Next := Lib.hid next
          clear next
          by_cases hk0 : k = 0
          · subst hk0
            rw [Nat.add_zero] at hc1
            simp only [if_true]
            go_wp2
            all_goals first
              | (go_ret; exact ⟨ret_int (by rw [Key.out (by simp [tipBad]; simp at *; omega)]), hb0⟩)
              | (go_round
                 case rel => exact ⟨1, by omega, by go_num, by simp, Next.out (by simp [tipBad]; simp at *; omega)⟩
                 case measure => simp [intOf]; omega)
          · have dk : ((k : Int) == 0) = false := beq_eq_false_iff_ne.2 oM
            simp only [hk0, if_false]
            go_wp2
            all_goals first
              | (go_ret; exact ⟨ret_int (by rw [Key.out (by simp [tipBad, hk0]; simp at *; omega)]), hb0⟩)
              | (go_round
                 case rel => exact ⟨k + 1, by omega, by go_num, by simp, Next.out (by simp [tipBad, hk0]; simp at *; omega)⟩
                 case measure => simp [intOf]; omega)
        · obtain rfl : k = n := by omega
          go_wp2
          go_ret
          exact ⟨ret_int (by rw [checkTip_good (by rw [Hl.out]; omega) (by rw [Hl.out]; exact Hall.out)]), hb0⟩
end Go.Proofs.YtpmchnojeloohaaGreatDoor

namespace Go.Proofs.YtpmchnojeloohaaGreatDoor
open Go.RowKit Go.Dw Go.Shelf
def checkBoth (t : List Int) (l : List Pt) : Int := if checkTip t = 0 then checkPts l else checkTip t
theorem check_calls (A : Option Addr) (n c : Nat) (t : List Int) (B : Option Addr) (m d : Nat) (l : List Pt) (w : World) (ht : IntsAt w A n t) (hn : n ≤ 4611686018427387904) (hl : PtsAt w B m l) (hm : m ≤ 4611686018427387904) :
  Calls Tryz.prog 41 #[.agg #[.slice A n c], .slice B m d] w fun e w' => e = .returned (.int .i64 (checkBoth t l)) ∧ Below w.heap.size w w' := by
 have hb0 := below_new w (.cells #[.slice A n c] 51)
 go_enter Tryz.func41, Tryz.ntmps41
 go_wp2_with fail
 generalize w.alloc (.cells #[.slice A n c] 51) = w0 at *
 refine (checkTip_calls A n c t w0 (ht.below' hb0) hn).mono ?_
 rintro e w1 ⟨rfl, hw1⟩
 have hb1 := hb0.trans (hw1.mono hb0.size)
 by_cases h0 : checkTip t = 0
 ·
  have e0 : checkBoth t l = checkPts l := by simp [checkBoth, h0]
  have E0 := Lib.hid e0
  clear e0
  rw [h0]
  go_wp2_with fail
  refine (checkPts_calls B m d l w1 (hl.below' hb1) hm).mono ?_
  rintro e w2 ⟨rfl, hw2⟩
  go_wp2
  go_ret
  exact ⟨ret_int (by rw [E0.out]), hb1.trans (hw2.mono hb1.size)⟩
 ·
  have e0 : checkBoth t l = checkTip t := by simp [checkBoth, h0]
  have E0 := Lib.hid e0
  clear e0
  have d0 : (checkTip t != 0) = true := by simpa using h0
  go_wp2
  go_ret
  exact ⟨ret_int (by rw [E0.out]), hb1⟩
theorem foldB_bound (down : Bool) (lo hi : Int) : ∀ (vs : List Int) (f : Int), lo ≤ f → f ≤ hi → (∀ v ∈ vs, if down then v ≤ hi else lo ≤ v) → lo ≤ foldB down f vs ∧ foldB down f vs ≤ hi
 | [], f, h1, h2, _ => ⟨h1, h2⟩
 | v :: vs, f, h1, h2, h3 => by
  have hv := h3 v (by simp)
  refine foldB_bound down lo hi vs (pickB down v f) ?_ ?_ (fun x hx => h3 x (by simp [hx]))
  ·
   cases down <;> simp [pickB] at hv ⊢ <;> omega
  ·
   cases down <;> simp [pickB] at hv ⊢ <;> omega
theorem near_lt {i n r k : Nat} (hk : k < nearN i n r) : nearLo i r + k < n ∧ dist (nearLo i r + k) i < r := by
 unfold nearN nearLo dist at *; omega
theorem walkAt_bound (t h : List Int) (down : Bool) (i : Nat) (lo hi : Int) (hi' : i < h.length) (hh : ∀ x ∈ h, lo ≤ x ∧ x ≤ hi) (ht : ∀ x ∈ t, 0 ≤ x) : lo ≤ walkAt t h down i ∧ walkAt t h down i ≤ hi := by
 have h0 := (forall_gi.1 hh) i hi'
 refine foldB_bound down lo hi _ _ h0.1 h0.2 ?_
 intro v hv
 simp only [List.mem_map, List.mem_range] at hv
 obtain ⟨k, hk, rfl⟩ := hv
 obtain ⟨k1, k2⟩ := near_lt hk
 have h1 := (forall_gi.1 hh) _ k1
 have h2 := (forall_gi (p := fun x => 0 ≤ x) |>.1 ht) _ k2
 cases down <;> simp <;> omega
theorem walkL_length (t h : List Int) (down : Bool) : (walkL t h down).length = h.length := by simp [walkL]
theorem walkL_bound (t h : List Int) (down : Bool) (lo hi : Int) (hh : ∀ x ∈ h, lo ≤ x ∧ x ≤ hi) (ht : ∀ x ∈ t, 0 ≤ x) : ∀ x ∈ walkL t h down, lo ≤ x ∧ x ≤ hi := by
 intro x hx
 simp only [walkL, List.mem_map, List.mem_range] at hx
 obtain ⟨i, hi', rfl⟩ := hx
 exact walkAt_bound t h down i lo hi hi' hh ht
theorem ofE_bound {l : List Pt} (hl : ∀ p ∈ l, -4194304 ≤ p.1 ∧ p.1 ≤ 4194304 ∧ -4194304 ≤ p.2 ∧ p.2 ≤ 4194304) (inn : Bool) : ∀ x ∈ l.map (ofE inn), -4194304 ≤ x ∧ x ≤ 4194304 := by
 intro x hx
 obtain ⟨p, hp, rfl⟩ := List.mem_map.1 hx
 have := hl p hp
 cases inn <;> simp [ofE] <;> omega
def readT (t h : List Int) : List Int := walkL t h false
def sweepT (t h : List Int) : List Int := walkL t (walkL t h false) true
def readP (t : List Int) (l : List Pt) : List Pt := wallsT (readT t) l
def sweepP (t : List Int) (l : List Pt) : List Pt := wallsT (sweepT t) l
set_option maxHeartbeats 1000000 in
theorem thr_read (g : Nat) (At : Option Addr) (r ct n : Nat) (t h : List Int) (w : World) (hb : Box w g 51 #[.slice At r ct]) (ht : IntsAt w At r t) (hn : n ≤ 65536) (hr : r ≤ 65536)
  (hhb : ∀ x ∈ h, -4194304 ≤ x ∧ x ≤ 4194304) (htb : ∀ x ∈ t, 0 ≤ x ∧ x ≤ 4194304) : Thr 79 #[.pointer (some ⟨g, 0, none⟩)] (readT t) n h w := by
 intro A c W hW hh
 have d1 : W.cell? ⟨g, 0, none⟩ = some (.slice At r ct) := (hb.below' hW).cell 0
 show Calls Tryz.prog 79 #[.slice A n c, .pointer (some ⟨g, 0, none⟩)] W _
 go_enter Tryz.func79, Tryz.ntmps79
 go_wp2_with fail
 refine (walk_calls At A r ct n c t h false W hn hr (ht.below' hW) hh (fun x hx => by have := hhb x hx; omega) (fun x hx => by have := htb x hx; omega)).mono ?_
 rintro e w' ⟨g', hg, rfl, hbg, hbw⟩
 go_wp2
 go_ret
 exact ⟨g', hg, rfl, hbg, hbw⟩
def wallsR (t : List Int) (l : List Pt) : List Pt := if checkBoth t l = 0 then readP t l else []
theorem checkBoth_ok {t : List Int} {l : List Pt} (h : checkBoth t l = 0) : checkTip t = 0 ∧ checkPts l = 0 := by
 unfold checkBoth at h
 by_cases h0 : checkTip t = 0
 ·
  rw [if_pos h0] at h; exact ⟨h0, h⟩
 ·
  rw [if_neg h0] at h; exact absurd h h0
set_option maxHeartbeats 1000000 in
theorem read_calls (A : Option Addr) (r c : Nat) (t : List Int) (B : Option Addr) (n d : Nat) (l : List Pt) (w : World) (ht : IntsAt w A r t) (hl : PtsAt w B n l) (h0 : checkBoth t l = 0) :
  Calls Tryz.prog 42 #[.agg #[.slice A r c], .slice B n d] w fun e w' => ∃ v, e = .returned v ∧ w'.ownsRow w.heap.size 61 2 v (readP t l).length ((readP t l).flatMap encP) ∧ Below w.heap.size w w' := by
 obtain ⟨k1, k2⟩ := checkBoth_ok h0
 obtain ⟨m1, m2, _, _, m3⟩ := checkTip_ok k1
 obtain ⟨m4, m5⟩ := checkPts_ok k2
 have hb0 := below_new w (.cells #[.slice A r c] 51)
 have hbx := Box.new w 51 #[.slice A r c]
 have q1 := hl.1
 have q2 := ht.1
 have e1 : (readP t l).length = n := by simp [readP, wallsT, wallsP, q1]
 have Q1 := Lib.hid q1
 have Q2 := Lib.hid q2
 have E1 := Lib.hid e1
 clear h0 k1 k2 e1
 go_enter Tryz.func42, Tryz.ntmps42
 go_wp2_with fail
 generalize w.alloc (.cells #[.slice A r c] 51) = w0 at *
 refine (walls_calls B n d l 79 _ (readT t) w0 (hl.below' hb0) oM m5 (fun args w => enters_of Tryz.func79 kR rfl args w)
  (fun inn => thr_read _ A r c n t _ w0 hbx (ht.below' hb0) oM oM (ofE_bound m5 inn) m3) (fun inn => by simp [readT, walkL, Q1.out])
  (fun inn x hx => by have := walkL_bound t _ false _ _ (ofE_bound m5 inn) (fun y hy => (m3 y hy).1) x hx; omega)).mono ?_
 rintro e w1 ⟨v, rfl, hown, hb1⟩
 go_wp2
 go_ret
 exact ⟨v, rfl, by rw [E1.out]; exact ⟨hown.1, by
  rcases hown.2 with h | ⟨g, cap, cur, hv, hg, rest⟩
  ·
   exact .inl h
  ·
   exact .inr ⟨g, cap, cur, hv, by have := hb0.size; omega, rest⟩⟩, hb0.trans (hb1.mono hb0.size)⟩
set_option maxHeartbeats 1000000 in
theorem Read_calls (A : Option Addr) (r c : Nat) (t : List Int) (B : Option Addr) (n d : Nat) (l : List Pt) (w : World) (ht : IntsAt w A r t) (hl : PtsAt w B n l) (hr : r ≤ 4611686018427387904) (hn : n ≤ 4611686018427387904) :
  Calls Tryz.prog 17 #[.agg #[.slice A r c], .slice B n d] w fun e w' => ∃ v, e = .returned (.tuple #[v, .int .i64 (checkBoth t l)]) ∧ w'.ownsRow w.heap.size 61 2 v (wallsR t l).length ((wallsR t l).flatMap encP) ∧ Below w.heap.size w w' := by
 have hb0 := below_new w (.cells #[.slice A r c] 51)
 have hbx := Box.new w 51 #[.slice A r c]
 by_cases h0 : checkBoth t l = 0
 ·
  have e1 : wallsR t l = readP t l := by simp [wallsR, h0]
  have E1 := Lib.hid e1
  have H0 := Lib.hid h0
  clear e1 h0
  go_enter Tryz.func17, Tryz.ntmps17
  go_wp2_with fail
  generalize w.alloc (.cells #[.slice A r c] 51) = w0 at *
  refine (check_calls A r c t B n d l w0 (ht.below' hb0) hr (hl.below' hb0) hn).mono ?_
  rintro e w1 ⟨rfl, hw1⟩
  have hb1 := hb0.trans (hw1.mono hb0.size)
  have d1 : w1.cell? ⟨w.heap.size, 0, none⟩ = some (.slice A r c) := (hbx.below' hw1).cell 0
  rw [H0.out]
  go_wp2_with fail
  refine (read_calls A r c t B n d l w1 (ht.below' hb1) (hl.below' hb1) H0.out).mono ?_
  rintro e w2 ⟨v, rfl, hown, hw2⟩
  go_wp2
  go_ret2
  refine ⟨v, by rw [H0.out]; rfl, ?_, hb1.trans (hw2.mono hb1.size)⟩
  rw [E1.out]
  refine ⟨hown.1, ?_⟩
  rcases hown.2 with h | ⟨g, cap, cur, hv, hg, rest⟩
  ·
   exact .inl h
  ·
   exact .inr ⟨g, cap, cur, hv, by have := hb1.size; omega, rest⟩
 ·
  have d0 : (checkBoth t l != 0) = true := by simpa using h0
  have e1 : wallsR t l = [] := by simp [wallsR, h0]
  have E1 := Lib.hid e1
  clear e1
  go_enter Tryz.func17, Tryz.ntmps17
  go_wp2_with fail
  generalize w.alloc (.cells #[.slice A r c] 51) = w0 at *
  refine (check_calls A r c t B n d l w0 (ht.below' hb0) hr (hl.below' hb0) hn).mono ?_
  rintro e w1 ⟨rfl, hw1⟩
  go_wp2
  go_ret2
  exact ⟨_, rfl, by rw [E1.out]; exact World.ownsRow_nil _ _ _ _, hb0.trans (hw1.mono hb0.size)⟩
end Go.Proofs.YtpmchnojeloohaaGreatDoor
