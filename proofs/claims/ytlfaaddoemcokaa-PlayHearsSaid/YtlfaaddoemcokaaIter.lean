/-
  A range over a function whose iterator hands out a list of values known beforehand: one law for the loop, one contract for the iterator. Conditions: the loop stands in no other loop over a function; its body writes to blocks that are told beforehand, and to new ones.
-/
import Derived.RangeFuncNested
import Derived.RangeFuncBound
import Derived.RangeFuncCalls
import Derived.RangeFuncLeaves
import Derived.Shelf.Abstract
import Derived.Shelf.RegionOpen
import Derived.OwnWalkIn
import Derived.TacticsInMore
import Derived.LoopNIn
import Derived.LoopIn
import Derived.Test.YtlfaaddoemcokaaBase
namespace Go.Dw
open Go.RowKit Go.Shelf

@[go_sem] theorem wide_depth : Fence.wide.depth = none := rfl
@[go_sem] theorem wide_fn (f : FuncId) : Fence.wide.fn f = True := rfl

/-- Whatever lay in w lies in w', but for the blocks of R. -/
structure Tch (R : Nat → Prop) (w w' : World) : Prop where
  os : w'.os = w.os
  tape : w'.tape = w.tape
  output : w'.output = w.output
  size : w.heap.size ≤ w'.heap.size
  block : ∀ k, k < w.heap.size → ¬ R k → w'.heap[k]? = w.heap[k]?
section
variable {R R' : Nat → Prop} {w w' w'' : World}
theorem Tch.refl (R : Nat → Prop) (w : World) : Tch R w w := ⟨rfl, rfl, rfl, Nat.le_refl _, fun _ _ _ => rfl⟩
theorem Tch.trans (h : Tch R w w') (k : Tch R w' w'') : Tch R w w'' :=
  ⟨k.os.trans h.os, k.tape.trans h.tape, k.output.trans h.output, Nat.le_trans h.size k.size, fun i hi hr => (k.block i (Nat.lt_of_lt_of_le hi h.size) hr).trans (h.block i hi hr)⟩
theorem Tch.mono (h : Tch R w w') (hR : ∀ k, k < w.heap.size → R k → R' k) : Tch R' w w' := ⟨h.os, h.tape, h.output, h.size, fun k hk hr => h.block k hk fun e => hr (hR k hk e)⟩
theorem Tch.of_below {B : Nat} (h : Below B w w') (hR : ∀ k, k < w.heap.size → B ≤ k → R k) : Tch R w w' :=
  ⟨h.os, h.tape, h.output, h.size, fun k hk hr => h.block k (by have := hR k hk; exact Nat.lt_of_not_le fun e => hr (this e))⟩
theorem Tch.of_new (h : Below w.heap.size w w') : Tch R w w' := Tch.of_below h fun k hk e => absurd hk (by omega)
theorem Tch.later {B : Nat} (h : Tch R w w') (hb : Below B w' w'') (hB : w.heap.size ≤ B) : Tch R w w'' :=
  ⟨hb.os.trans h.os, hb.tape.trans h.tape, hb.output.trans h.output, Nat.le_trans h.size hb.size, fun k hk hr => (hb.block k (by omega)).trans (h.block k hk hr)⟩
theorem Tch.alloc (h : Tch R w w') (o : Obj) : Tch R w (w'.alloc o) := h.trans (Tch.of_new (below_new _ _))
theorem Tch.drew (h : Tch R w w') : Tch R w w'.drew := ⟨h.os, h.tape, h.output, h.size, h.block⟩
theorem Tch.drewN (h : Tch R w w') (n : Nat) : Tch R w (w'.drewN n) := ⟨h.os, h.tape, h.output, h.size, h.block⟩
theorem Tch.setCell (h : Tch R w w') {p : Addr} (hp : p.block < w.heap.size → R p.block) (v : Value) : Tch R w (w'.setCell p v) :=
  ⟨h.os, h.tape, h.output, by simpa [World.setCell] using h.size, fun k hk hr => (Below.heap_setCell _ _ _ _ (by rintro rfl; exact hr (hp hk))).trans (h.block k hk hr)⟩
theorem Tch.below {B : Nat} (h : Tch R w w') (hB : B ≤ w.heap.size) (hR : ∀ k, k < B → ¬ R k) : Below B w w' := ⟨h.os, h.tape, h.output, h.size, fun k hk => h.block k (by omega) (hR k hk)⟩
theorem Tch.cell (h : Tch R w w') {p : Addr} (hp : p.block < w.heap.size) (hr : ¬ R p.block) : w'.cell? p = w.cell? p := World.cell?_of_block (w := w) (h.block p.block hp hr)
theorem Tch.box (h : Tch R w w') {g : Nat} {t : TypeId} {cs : Array Value} (hb : Box w g t cs) (hr : ¬ R g) : Box w' g t cs := (h.block g hb.lt hr).trans hb
theorem Tch.sl {α : Type} {enc : α → List Value} {sz n : Nat} {A : Option Addr} {l : List α} (h : Tch R w w') (hs : SlAt enc sz w A n l) (hr : ∀ b, A.map (·.block) = some b → ¬ R b) : SlAt enc sz w' A n l :=
  hs.keep h.size fun _ hp hb => h.cell hp (hr _ hb)
theorem Tch.own {base : Nat} {e : TypeId} {sz n : Nat} {v : Value} {xs : List Value} (h : Tch R w w') (ho : w.ownsRow base e sz v n xs) (hr : ∀ k, v.ownBlock = some k → ¬ R k) : w'.ownsRow base e sz v n xs := by
  refine ⟨ho.1, ?_⟩
  rcases ho.2 with hn | ⟨g, cap, cur, rfl, hg, hh, rest⟩
  · exact .inl hn
  · exact .inr ⟨g, cap, cur, rfl, hg, (h.block g (Array.getElem?_eq_some_iff.1 hh).1 (hr g rfl)).trans hh, rest⟩
theorem Tch.putObj (h : Tch R w w') {r : Nat} (o : Obj) (hr : r < w.heap.size → R r) : Tch R w (w'.putObj r o) :=
  ⟨h.os, h.tape, h.output, by simpa using h.size, fun k hk hk' => (World.putObj_heap_other (by rintro rfl; exact hk' (hr hk))).trans (h.block k hk hk')⟩
end
theorem below_putObj {B : Nat} (w : World) {r : Nat} (o : Obj) (hr : B ≤ r) : Below B w (w.putObj r o) :=
  ⟨rfl, rfl, rfl, by simp, fun k hk => World.putObj_heap_other (by omega)⟩

theorem round_inRound {F : Fence} {n : Nat} {P : Program} {l : Nat} {f : FuncId} {tmps : Array Value} {assign body : Code} {w : World} {R : Ending → World → Prop} (l' : Nat)
    (h : RoundIn F n P l f tmps assign body w R) : RoundIn (F.inRound l') n P l f tmps assign body w R := h

/-- THE ITERATOR's CONTRACT: called with a loop's yield it hands out the values of es, one after another; a round may turn the blocks of R alone (and lay new ones). -/
def Iter (P : Program) (f : FuncId) (lb : Array Value) (es : List (Array Value)) (R : Nat → Prop) (w : World) : Prop :=
  ∀ (l : Nat) (J Jx : Nat → World → Prop) (W : World), Tch R w W → w.heap.size ≤ l → l < W.heap.size →
    (∀ k W1 W2, J k W1 → Below W.heap.size W1 W2 → J k W2) → (∀ k W1 W2, Jx k W1 → Below W.heap.size W1 W2 → Jx k W2) →
    (∀ k x W1, es[k]? = some x → W.heap.size ≤ W1.heap.size → J k W1 → YieldAt Fence.wide 0 P l x W1 fun e W2 => ∃ b : Bool, e = .returned (.bool b) ∧ Tch (fun i => R i ∨ i = l) W1 W2 ∧ (b = true → J (k + 1) W2) ∧ (b = false → Jx k W2)) →
    J 0 W →
    CallsIn Fence.wide 0 P f (#[.func (.yield l) #[] #[]] ++ lb) W fun e W' => (∃ v, e = .returned v) ∧ (J es.length W' ∨ ∃ k, k < es.length ∧ Jx k W')

/-- What is owed at a round's end. -/
def roundEnd (R : Nat → Prop) (J : Nat → World → Prop) (Jx : Nat → Code → World → Prop) (k : Nat) (W : World) : Exit → Act → World → Prop
  | .normal, _, W' => Tch R W W' ∧ J (k + 1) W'
  | .ret, _, W' => Tch R W W' ∧ Jx k .ret W'
  | .exit id, _, W' => Tch R W W' ∧ Jx k (.exit id) W'
  | .goto t, _, W' => Tch R W W' ∧ Jx k (.goto t) W'
  | .panic _, _, _ => False
  | .outgrown, _, _ => False

/-- THE LOOP. -/
theorem wp_range {P : Program} {g : Operand} {ps : Array Tmp} {assign body : Code} {Q : Exit → Act → World → Prop} {a : Act} {w : World}
    {gf : Nat} {lb : Array Value} (hg : a.eval g = .func (.func gf) #[] lb) (eg : ∀ args w, (callFunc gf args).run P w = .ok (.enter gf args) w)
    {es : List (Array Value)} {R : Nat → Prop} (hit : Iter P gf lb es R w) (hR : ∀ i, R i → i < w.heap.size) (hps : ∀ x ∈ es, x.size = ps.size)
    (J : Nat → World → Prop) (Jx : Nat → Code → World → Prop)
    (hJ : ∀ k W1 W2, J k W1 → Below w.heap.size W1 W2 → J k W2) (hJx : ∀ k c W1 W2, Jx k c W1 → Below w.heap.size W1 W2 → Jx k c W2) (h0 : J 0 w)
    (hround : ∀ (l k : Nat) (x : Array Value) (W : World), w.heap.size ≤ l → l < W.heap.size → es[k]? = some x → J k W →
      assign.wpIn (Fence.wide.inRound l) 0 P (Exit.then (fun a₁ W1 => Tch R W W1 ∧ ∀ W2, Tch (· = l) W1 W2 → body.wpIn (Fence.wide.inRound l) 0 P (roundEnd R J Jx k W2) a₁ W2) (fun _ _ _ => False))
        { tmps := (ps.zip x).foldl (fun t (p, v) => t.setIfInBounds p v) a.tmps, defers := [] } W)
    (hdone : ∀ (D : Nat) (W : World), J es.length W → w.heap.size ≤ D → W.heap[D]? = some (.deferred (some [])) → Q .normal { a with defers := { target := .collected D, args := #[] } :: a.defers } W)
    (hstop : ∀ (D k : Nat) (c : Code) (W : World), k < es.length → Jx k c W → w.heap.size ≤ D → W.heap[D]? = some (.deferred (some [])) → c.wpIn Fence.wide 0 P Q { a with defers := { target := .collected D, args := #[] } :: a.defers } W) :
    (Code.rangeFunc g ps assign body).wpIn Fence.wide 0 P Q a w := by
  refine wpIn_rangeFunc ?_
  intro fn hfn
  obtain ⟨rec, hrec⟩ : ∃ rec : LoopState → Option Code → Loop, rec = fun st pe => { state := st, pending := pe, fn, tmps := a.tmps, params := ps, assign, body, defers := w.heap.size } := ⟨_, rfl⟩
  obtain ⟨W1, hW1⟩ : ∃ W1, (w.alloc (.deferred (some []))).alloc (.loop (rec .ready none)) = W1 := ⟨_, rfl⟩
  have hL1 : W1.heap[w.heap.size + 1]? = some (.loop (rec .ready none)) := by
    rw [← hW1]; have := World.alloc_heap_new (w.alloc (.deferred (some []))) (.loop (rec .ready none)); rwa [World.size_alloc] at this
  have hK1 : W1.heap[w.heap.size]? = some (.deferred (some [])) := by
    rw [← hW1]; exact (Below.heap_alloc _ _ _ (by simp)).trans (World.alloc_heap_new w _)
  have hs1 : W1.heap.size = w.heap.size + 2 := by rw [← hW1]; simp
  have hb1 : Below w.heap.size w W1 := by
    rw [← hW1]; exact ((Below.refl _ w).alloc (Nat.le_refl _) _).alloc (by simp) _
  refine ⟨w.heap.size + 1, [{ target := .collected w.heap.size, args := #[] }], W1, { target := .fn (.func gf) lb, args := #[.func (.yield (w.heap.size + 1)) #[] #[]] }, W1, gf,
    #[.func (.yield (w.heap.size + 1)) #[] #[]] ++ lb, W1, ?_, ?_, fun _ _ => trivial, ?_, fun h => by simp [Fence.wide] at h, ?_⟩
  · rw [← hW1, hrec]; exact run_enterLoop_outer _ _ _ _ _
  · simp only [resolve, hg]
    simp [go_sem]
  · simp [invoke, go_sem, eg]
  · refine (hit (w.heap.size + 1)
      (fun k W => J k W ∧ W.heap[w.heap.size + 1]? = some (.loop (rec .ready none)) ∧ W.heap[w.heap.size]? = some (.deferred (some [])))
      (fun k W => ∃ c, Jx k c W ∧ W.heap[w.heap.size + 1]? = some (.loop (rec .done (some c))) ∧ W.heap[w.heap.size]? = some (.deferred (some [])))
      W1 (Tch.of_new hb1) (by omega) (by omega)
      (fun k A B hs hb => ⟨hJ k A B hs.1 (hb.mono (by omega)), (hb.block _ (by omega)).trans hs.2.1, (hb.block _ (by omega)).trans hs.2.2⟩)
      (fun k A B hs hb => by
        obtain ⟨c, hc, hl, hk⟩ := hs
        exact ⟨c, hJx k c A B hc (hb.mono (by omega)), (hb.block _ (by omega)).trans hl, (hb.block _ (by omega)).trans hk⟩)
      ?_ ⟨hJ 0 w W1 h0 hb1, hL1, hK1⟩).mono ?_
    · rintro k x W hx hsz ⟨hi, hl, hk⟩
      have hlt : w.heap.size + 1 < W.heap.size := (Array.getElem?_eq_some_iff.1 hl).1
      have hxm : x ∈ es := List.mem_of_getElem? hx
      have hy := run_yield (P := P) (args := x) hl (by rw [hrec]; exact hps x hxm)
      rw [hrec] at hy
      have hnR1 : ¬ R (w.heap.size + 1) := fun e => by have := hR _ e; omega
      have hnR0 : ¬ R w.heap.size := fun e => by have := hR _ e; omega
      refine ⟨fn, _, assign, body, hy, roundIn_of_wpIn hfn (wpIn_mono (hround (w.heap.size + 1) k x W (by omega) hlt hx hi) ?_)⟩
      rintro e a3 W3 hp
      cases e with
      | normal =>
        obtain ⟨ht3, hbody⟩ := hp
        have hl3 : W3.heap[w.heap.size + 1]? = some (.loop (rec .ready none)) := (ht3.block _ hlt hnR1).trans hl
        have hk3 : W3.heap[w.heap.size]? = some (.deferred (some [])) := (ht3.block _ (by omega) hnR0).trans hk
        have hlt3 : w.heap.size + 1 < W3.heap.size := (Array.getElem?_eq_some_iff.1 hl3).1
        refine ⟨_, run_beginRound hl3 (by rw [hrec]), ?_⟩
        obtain ⟨W4, hW4⟩ : ∃ W4, W3.putObj (w.heap.size + 1) (.loop { rec .ready none with state := .busy }) = W4 := ⟨_, rfl⟩
        have ht4 : Tch (· = w.heap.size + 1) W3 W4 := by rw [← hW4]; exact (Tch.refl _ _).putObj _ fun _ => rfl
        have hl4 : W4.heap[w.heap.size + 1]? = some (.loop { rec .ready none with state := .busy }) := by rw [← hW4]; exact World.putObj_heap_same hlt3
        have hk4 : W4.heap[w.heap.size]? = some (.deferred (some [])) := (ht4.block _ (by omega) (by omega)).trans hk3
        rw [hW4]
        refine wpIn_mono (hbody W4 ht4) ?_
        have hsz4 : W4.heap.size = W3.heap.size := by rw [← hW4]; simp
        have fin : ∀ (jump : Option Code) (W5 : World), Tch R W4 W5 →
            (Instr.endRound (w.heap.size + 1) jump).run P W5 = .ok (.bool jump.isNone) (W5.putObj (w.heap.size + 1) (.loop (rec (if jump.isNone then .ready else .done) jump))) ∧
            (W5.putObj (w.heap.size + 1) (.loop (rec (if jump.isNone then .ready else .done) jump))).heap[w.heap.size + 1]? = some (.loop (rec (if jump.isNone then .ready else .done) jump)) ∧
            (W5.putObj (w.heap.size + 1) (.loop (rec (if jump.isNone then .ready else .done) jump))).heap[w.heap.size]? = some (.deferred (some [])) ∧
            Tch (fun i => R i ∨ i = w.heap.size + 1) W (W5.putObj (w.heap.size + 1) (.loop (rec (if jump.isNone then .ready else .done) jump))) := fun jump W5 ht5 => by
          have hl5 := (ht5.block _ (Array.getElem?_eq_some_iff.1 hl4).1 hnR1).trans hl4
          have hr := run_endRound (P := P) jump hl5
          rw [hrec] at hr ⊢
          refine ⟨hr, World.putObj_heap_same (Array.getElem?_eq_some_iff.1 hl5).1, (World.putObj_heap_other (by omega)).trans ((ht5.block _ (by omega) hnR0).trans hk4), ?_⟩
          refine ((((ht3.mono fun k _ h => Or.inl h).trans (ht4.mono fun k _ h => Or.inr h)).trans (ht5.mono fun k _ h => Or.inl h)).putObj _ fun _ => Or.inr rfl)
        rintro e a5 W5 hp
        cases e with
        | normal =>
          obtain ⟨ht5, hi5⟩ := hp
          obtain ⟨hr, hl6, hk6, ht6⟩ := fin none W5 ht5
          exact ⟨_, _, hr, _, rfl, ht6, fun _ => ⟨hJ _ _ _ hi5 (below_putObj _ _ (by omega)), hl6, hk6⟩, fun h => by simp at h⟩
        | ret =>
          obtain ⟨ht5, hi5⟩ := hp
          obtain ⟨hr, hl6, hk6, ht6⟩ := fin (some .ret) W5 ht5
          exact ⟨_, _, hr, _, rfl, ht6, fun h => by simp at h, fun _ => ⟨.ret, hJx _ _ _ _ hi5 (below_putObj _ _ (by omega)), hl6, hk6⟩⟩
        | exit id =>
          obtain ⟨ht5, hi5⟩ := hp
          obtain ⟨hr, hl6, hk6, ht6⟩ := fin (some (.exit id)) W5 ht5
          exact ⟨_, _, hr, _, rfl, ht6, fun h => by simp at h, fun _ => ⟨.exit id, hJx _ _ _ _ hi5 (below_putObj _ _ (by omega)), hl6, hk6⟩⟩
        | goto t =>
          obtain ⟨ht5, hi5⟩ := hp
          obtain ⟨hr, hl6, hk6, ht6⟩ := fin (some (.goto t)) W5 ht5
          exact ⟨_, _, hr, _, rfl, ht6, fun h => by simp at h, fun _ => ⟨.goto t, hJx _ _ _ _ hi5 (below_putObj _ _ (by omega)), hl6, hk6⟩⟩
        | panic ch => exact hp.elim
        | outgrown => exact hp.elim
      | ret => exact hp.elim
      | exit id => exact hp.elim
      | goto t => exact hp.elim
      | panic ch => exact hp.elim
      | outgrown => exact hp.elim
    · rintro e W2 ⟨⟨v, rfl⟩, (⟨hi, hl, hk⟩ | ⟨k, hk', c, hi, hl, hk⟩)⟩
      · exact ⟨none, _, by have := run_endLoop (P := P) hl (by rw [hrec]; simp); rw [hrec] at this; exact this, hdone _ _ (hJ _ _ _ hi (below_putObj _ _ (by omega))) (Nat.le_refl _) ((World.putObj_heap_other (by omega)).trans hk)⟩
      · exact ⟨some c, _, by have := run_endLoop (P := P) hl (by rw [hrec]; simp); rw [hrec] at this; exact this, hstop _ k c _ hk' (hJx _ _ _ _ hi (below_putObj _ _ (by omega))) (Nat.le_refl _) ((World.putObj_heap_other (by omega)).trans hk)⟩

/-- A function whose deferred calls are marks alone leaves: each block is shut, nothing else turns. -/
def marks (Ds : List Nat) : List Deferred := Ds.map fun D => { target := .collected D, args := #[] }
theorem leaves_marks {P : Program} {fn : Func} {tmps : Array Value} {R : Ending → World → Prop} {n : Nat} {v : Value} : ∀ (Ds : List Nat) (w : World), Ds.Nodup → (∀ D ∈ Ds, w.heap[D]? = some (.deferred (some []))) →
    (∀ w', (results fn tmps).run P w' = .ok v w') → (∀ w', Tch (· ∈ Ds) w w' → R (.returned v) w') → LeavesInM Fence.wide n P fn tmps R (marks Ds) .returning w
  | [], w, _, _, hv, hR => ⟨v, hv w, hR w (Tch.refl _ _)⟩
  | D :: Ds, w, hn, hD, hv, hR => by
    refine ⟨by simp, .inl ⟨D, w.putObj D (.deferred none), rfl, run_takeDeferred (hD D (by simp)), ?_⟩⟩
    have hn' := List.nodup_cons.1 hn
    refine leaves_marks Ds _ hn'.2 (fun E hE => ?_) hv (fun w' ht => hR w' ?_)
    · exact (World.putObj_heap_other (by rintro rfl; exact hn'.1 hE)).trans (hD E (by simp [hE]))
    · exact (((Tch.refl _ w).putObj _ fun _ => by simp).trans (ht.mono fun k _ h => by simp [h]))
theorem end_marks {P : Program} {fn : Func} {R : Ending → World → Prop} {e : Exit} {a : Act} {w : World} {v : Value} (Ds : List Nat) (he : e = .normal ∨ e = .ret) (hd : a.defers = marks Ds)
    (hn : Ds.Nodup) (hD : ∀ D ∈ Ds, w.heap[D]? = some (.deferred (some []))) (hv : ∀ w', (results fn a.tmps).run P w' = .ok v w') (hR : ∀ w', Tch (· ∈ Ds) w w' → R (.returned v) w') :
    bodyPostM Fence.wide 0 P fn R e a w := by
  rcases he with rfl | rfl
  · show LeavesInM _ _ _ _ _ _ a.defers _ _
    rw [hd]
    exact leaves_marks Ds w hn hD hv hR
  · show LeavesInM _ _ _ _ _ _ a.defers _ _
    rw [hd]
    exact leaves_marks Ds w hn hD hv hR
end Go.Dw
