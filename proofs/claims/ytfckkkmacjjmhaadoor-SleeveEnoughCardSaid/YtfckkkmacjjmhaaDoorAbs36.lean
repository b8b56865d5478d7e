/-
  Ranges over functions whose rounds lay new memory, and hold it: the iterator writes to memory that it laid itself alone. Conditions: told in each theorem.
-/
import Derived.Test.YtfckkkmacjjmhaaDoorAbs31
namespace Go.Dw
open Go.RowKit Go.Shelf
/-- THE ITERATOR's CONTRACT: it hands out n values; it turns nothing but what it laid itself (A); a round turns nothing of that, nor what the iterator reads (L). -/
def Iter4 (P : Program) (f : FuncId) (lb : Array Value) (n : Nat) (E : Nat → Array Value → World → Prop) (L : Nat → Prop) (w : World) : Prop :=
  ∀ (l : Nat) (J : Nat → Bool → (Nat → Prop) → World → Prop) (W : World), w.heap.size ≤ W.heap.size → (∀ b, L b → W.heap[b]? = w.heap[b]?) → w.heap.size ≤ l → l < W.heap.size →
    (∀ k g A W1 W2, J k g A W1 → (∀ b, A b → W.heap.size ≤ b ∧ b < W1.heap.size) → W.heap.size ≤ W1.heap.size → Tch A W1 W2 → J k g (fun b => A b ∨ (W1.heap.size ≤ b ∧ b < W2.heap.size)) W2) →
    (∀ k x A W1, k < n → E k x W1 → (∀ b, A b → W.heap.size ≤ b ∧ b < W1.heap.size) → W.heap.size ≤ W1.heap.size → J k true A W1 → YieldAt Fence.wide 0 P l x W1 fun e W2 => ∃ b : Bool, e = .returned (.bool b) ∧ Tch (fun i => ¬ A i ∧ ¬ L i) W1 W2 ∧ (b = true → J (k + 1) true A W2) ∧ (b = false → J k false A W2)) →
    J 0 true (fun _ => False) W →
    CallsIn Fence.wide 0 P f (#[.func (.yield l) #[] #[]] ++ lb) W fun e W' => (∃ v, e = .returned v) ∧ ∃ A : Nat → Prop, (∀ b, A b → W.heap.size ≤ b) ∧ (J n true A W' ∨ ∃ k, k < n ∧ J k false A W')
/-- what is owed at a round's end -/
def roundEnd4 (R : Nat → Prop) (J : Nat → (Nat → Prop) → World → Prop) (Jx : Nat → Code → (Nat → Prop) → World → Prop) (k : Nat) (A : Nat → Prop) (W : World) : Exit → Act → World → Prop
  | .normal, _, W' => Tch R W W' ∧ J (k + 1) A W'
  | .ret, _, W' => Tch R W W' ∧ Jx k .ret A W'
  | .exit id, _, W' => Tch R W W' ∧ Jx k (.exit id) A W'
  | .goto t, _, W' => Tch R W W' ∧ Jx k (.goto t) A W'
  | .panic _, _, _ => False
  | .outgrown, _, _ => False
/-- THE LOOP. -/
theorem wp_range4 {P : Program} {g : Operand} {ps : Array Tmp} {assign body : Code} {Q : Exit → Act → World → Prop} {a : Act} {w : World}
    {gf : Nat} {lb : Array Value} (hg : a.eval g = .func (.func gf) #[] lb) (eg : ∀ args w, (callFunc gf args).run P w = .ok (.enter gf args) w)
    {n : Nat} {E : Nat → Array Value → World → Prop} {L : Nat → Prop} (hit : Iter4 P gf lb n E L w) (hL : ∀ i, L i → i < w.heap.size) (hps : ∀ k x W, E k x W → x.size = ps.size)
    (J : Nat → (Nat → Prop) → World → Prop) (Jx : Nat → Code → (Nat → Prop) → World → Prop)
    (hJ : ∀ k A W1 W2, J k A W1 → (∀ b, A b → w.heap.size ≤ b) → Tch A W1 W2 → J k (fun b => A b ∨ (W1.heap.size ≤ b ∧ b < W2.heap.size)) W2)
    (hJx : ∀ k c A W1 W2, Jx k c A W1 → (∀ b, A b → w.heap.size ≤ b) → Tch A W1 W2 → Jx k c (fun b => A b ∨ (W1.heap.size ≤ b ∧ b < W2.heap.size)) W2) (h0 : J 0 (fun _ => False) w)
    (hround : ∀ (l k : Nat) (x : Array Value) (A : Nat → Prop) (W : World), (w.heap.size ≤ l ∧ A l) → (∀ b, A b → w.heap.size ≤ b ∧ b < W.heap.size) → k < n → E k x W → J k A W →
      assign.wpIn (Fence.wide.inRound l) 0 P (Exit.then (fun a₁ W1 => Tch (fun i => ¬ A i ∧ ¬ L i) W W1 ∧ ∀ W2, Tch (· = l) W1 W2 → body.wpIn (Fence.wide.inRound l) 0 P (roundEnd4 (fun i => ¬ A i ∧ ¬ L i) J Jx k A W2) a₁ W2) (fun _ _ _ => False))
        { tmps := (ps.zip x).foldl (fun t (p, v) => t.setIfInBounds p v) a.tmps, defers := [] } W)
    (hdone : ∀ (D : Nat) (A : Nat → Prop) (W : World), J n A W → (w.heap.size ≤ D ∧ A D) → (∀ b, A b → w.heap.size ≤ b) → W.heap[D]? = some (.deferred (some [])) → Q .normal { a with defers := { target := .collected D, args := #[] } :: a.defers } W)
    (hstop : ∀ (D k : Nat) (c : Code) (A : Nat → Prop) (W : World), k < n → Jx k c A W → (w.heap.size ≤ D ∧ A D) → (∀ b, A b → w.heap.size ≤ b) → W.heap[D]? = some (.deferred (some [])) → c.wpIn Fence.wide 0 P Q { a with defers := { target := .collected D, args := #[] } :: a.defers } W) :
    (Code.rangeFunc g ps assign body).wpIn Fence.wide 0 P Q a w := by
  refine wpIn_rangeFunc ?_
  intro fn hfn
  obtain ⟨rec, hrec⟩ : ∃ rec : LoopState → Option Code → Loop, rec = fun st pe => { state := st, pending := pe, fn, tmps := a.tmps, params := ps, assign, body, defers := w.heap.size } := ⟨_, rfl⟩
  obtain ⟨W1, hW1⟩ : ∃ W1, (w.alloc (.deferred (some []))).alloc (.loop (rec .ready none)) = W1 := ⟨_, rfl⟩
  have hL1 : W1.heap[w.heap.size + 1]? = some (.loop (rec .ready none)) := by
    rw [← hW1]; have := World.alloc_heap_new (w.alloc (.deferred (some []))) (.loop (rec .ready none)); rwa [World.size_alloc] at this
  have hK1 : W1.heap[w.heap.size]? = some (.deferred (some [])) := by
    rw [← hW1]; exact (Below.heap_alloc _ _ _ (by simp)).trans (World.alloc_heap_new w _)
  have hs1 : W1.heap.size = w.heap.size + 2 := by rw [← hW1]; simp
  have hb1 : Below w.heap.size w W1 := by
    rw [← hW1]; exact ((Below.refl _ w).alloc (Nat.le_refl _) _).alloc (by simp) _
  refine ⟨w.heap.size + 1, [{ target := .collected w.heap.size, args := #[] }], W1, { target := .fn (.func gf) lb, args := #[.func (.yield (w.heap.size + 1)) #[] #[]] }, W1, gf,
    #[.func (.yield (w.heap.size + 1)) #[] #[]] ++ lb, W1, ?_, ?_, fun _ _ => trivial, ?_, fun h => by simp [Fence.wide] at h, ?_⟩
  · rw [← hW1, hrec]; exact run_enterLoop_outer _ _ _ _ _
  · simp only [resolve, hg]
    simp [go_sem]
  · simp [invoke, go_sem, eg]
  · -- the blocks of the loop itself count as the iterator's
    obtain ⟨X, hX⟩ : ∃ X : (Nat → Prop) → Nat → Prop, X = fun A b => A b ∨ b = w.heap.size ∨ b = w.heap.size + 1 := ⟨_, rfl⟩
    have hXi : ∀ A b, X A b ↔ A b ∨ b = w.heap.size ∨ b = w.heap.size + 1 := fun A b => by rw [hX]
    have conv : ∀ (F : (Nat → Prop) → Prop) (A B : Nat → Prop), (∀ b, A b ↔ B b) → F A → F B := fun F A B h hF => by rwa [show A = B from funext fun b => propext (h b)] at hF
    have hJX : ∀ k A W1 W2, J k (X A) W1 → (∀ b, A b → W1.heap.size > b ∧ w.heap.size + 2 ≤ b) → w.heap.size + 2 ≤ W1.heap.size → Tch A W1 W2 → J k (X (fun b => A b ∨ (W1.heap.size ≤ b ∧ b < W2.heap.size))) W2 := fun k A W1 W2 h hA hs ht =>
      conv (fun B => J k B W2) _ _ (fun b => by simp only [hXi]; exact ⟨fun h => h.elim (fun h => h.elim (fun a => .inl (.inl a)) (fun e => .inr e)) (fun n => .inl (.inr n)), fun h => h.elim (fun h => h.elim (fun a => .inl (.inl a)) (fun n => .inr n)) (fun e => .inl (.inr e))⟩) (hJ k (X A) W1 W2 h (fun b hb => by rcases (hXi A b).1 hb with h | h | h; exact Nat.le_trans (by omega) (hA b h).2; omega; omega) (ht.mono fun b _ h => (hXi A b).2 (.inl h)))
    have hJxX : ∀ k c A W1 W2, Jx k c (X A) W1 → (∀ b, A b → W1.heap.size > b ∧ w.heap.size + 2 ≤ b) → w.heap.size + 2 ≤ W1.heap.size → Tch A W1 W2 → Jx k c (X (fun b => A b ∨ (W1.heap.size ≤ b ∧ b < W2.heap.size))) W2 := fun k c A W1 W2 h hA hs ht =>
      conv (fun B => Jx k c B W2) _ _ (fun b => by simp only [hXi]; exact ⟨fun h => h.elim (fun h => h.elim (fun a => .inl (.inl a)) (fun e => .inr e)) (fun n => .inl (.inr n)), fun h => h.elim (fun h => h.elim (fun a => .inl (.inl a)) (fun n => .inr n)) (fun e => .inl (.inr e))⟩) (hJx k c (X A) W1 W2 h (fun b hb => by rcases (hXi A b).1 hb with h | h | h; exact Nat.le_trans (by omega) (hA b h).2; omega; omega) (ht.mono fun b _ h => (hXi A b).2 (.inl h)))
    have hput : ∀ k A W5 o, J k (X A) W5 → (∀ b, A b → w.heap.size + 2 ≤ b) → J k (X A) (W5.putObj (w.heap.size + 1) o) := fun k A W5 o h hA =>
      conv (fun B => J k B _) _ _ (fun b => ⟨fun h => h.elim id fun h => by simp at h; omega, .inl⟩) (hJ k (X A) W5 _ h (fun b hb => by rcases (hXi A b).1 hb with h | h | h; exact Nat.le_trans (by omega) (hA b h); omega; omega) ((Tch.refl _ _).putObj o fun _ => (hXi A _).2 (.inr (.inr rfl))))
    have hputx : ∀ k c A W5 o, Jx k c (X A) W5 → (∀ b, A b → w.heap.size + 2 ≤ b) → Jx k c (X A) (W5.putObj (w.heap.size + 1) o) := fun k c A W5 o h hA =>
      conv (fun B => Jx k c B _) _ _ (fun b => ⟨fun h => h.elim id fun h => by simp at h; omega, .inl⟩) (hJx k c (X A) W5 _ h (fun b hb => by rcases (hXi A b).1 hb with h | h | h; exact Nat.le_trans (by omega) (hA b h); omega; omega) ((Tch.refl _ _).putObj o fun _ => (hXi A _).2 (.inr (.inr rfl))))
    have h01 : J 0 (X fun _ => False) W1 := conv (fun B => J 0 B W1) _ _ (fun b => by simp only [hXi, hs1, false_or]; constructor <;> (intro h; omega)) (hJ 0 (fun _ => False) w W1 h0 (fun _ h => h.elim) (Tch.of_new hb1))
    refine (hit (w.heap.size + 1)
      (fun k g A W => W.heap[w.heap.size]? = some (.deferred (some [])) ∧ (g = true → J k (X A) W ∧ W.heap[w.heap.size + 1]? = some (.loop (rec .ready none))) ∧ (g = false → ∃ c, Jx k c (X A) W ∧ W.heap[w.heap.size + 1]? = some (.loop (rec .done (some c)))))
      W1 (by omega) (fun b hb => hb1.block b (hL b hb)) (by omega) (by omega)
      (fun k g A B1 B2 h hA hs ht => by
        obtain ⟨q1, q2, q3⟩ := h
        have st : ∀ b, b < w.heap.size + 2 → B2.heap[b]? = B1.heap[b]? := fun b hb => ht.block b (by omega) fun hc => by have := hA b hc; omega
        have hA' : ∀ b, A b → B1.heap.size > b ∧ w.heap.size + 2 ≤ b := fun b hb => by have := hA b hb; omega
        exact ⟨(st _ (by omega)).trans q1, fun e => ⟨hJX k A B1 B2 (q2 e).1 hA' (by omega) ht, (st _ (by omega)).trans (q2 e).2⟩, fun e => by
          obtain ⟨c, q4, q5⟩ := q3 e
          exact ⟨c, hJxX k c A B1 B2 q4 hA' (by omega) ht, (st _ (by omega)).trans q5⟩⟩)
      ?_ ⟨hK1, fun _ => ⟨h01, hL1⟩, fun e => by cases e⟩).mono ?_
    · rintro k x A W hkn hx hA hsz ⟨hk, hg1, _⟩
      obtain ⟨hi, hl⟩ := hg1 rfl
      have hlt : w.heap.size + 1 < W.heap.size := (Array.getElem?_eq_some_iff.1 hl).1
      have hA2 : ∀ b, A b → w.heap.size + 2 ≤ b := fun b hb => by have := hA b hb; omega
      have hy := run_yield (P := P) (args := x) hl (by rw [hrec]; exact hps k x _ hx)
      rw [hrec] at hy
      have x1 : X A (w.heap.size + 1) := (hXi A _).2 (.inr (.inr rfl))
      have x0 : X A w.heap.size := (hXi A _).2 (.inr (.inl rfl))
      have hnR1 : ¬ (¬ X A (w.heap.size + 1) ∧ ¬ L (w.heap.size + 1)) := fun e => e.1 x1
      have hnR0 : ¬ (¬ X A w.heap.size ∧ ¬ L w.heap.size) := fun e => e.1 x0
      refine ⟨fn, _, assign, body, hy, roundIn_of_wpIn hfn (wpIn_mono (hround (w.heap.size + 1) k x (X A) W ⟨by omega, x1⟩ (fun b hb => by rcases (hXi A b).1 hb with h | h | h; have := hA b h; omega; omega; omega) hkn hx hi) ?_)⟩
      rintro e a3 W3 hp
      cases e with
      | normal =>
        obtain ⟨ht3, hbody⟩ := hp
        have hl3 : W3.heap[w.heap.size + 1]? = some (.loop (rec .ready none)) := (ht3.block _ hlt hnR1).trans hl
        have hk3 : W3.heap[w.heap.size]? = some (.deferred (some [])) := (ht3.block _ (by omega) hnR0).trans hk
        have hlt3 : w.heap.size + 1 < W3.heap.size := (Array.getElem?_eq_some_iff.1 hl3).1
        refine ⟨_, run_beginRound hl3 (by rw [hrec]), ?_⟩
        obtain ⟨W4, hW4⟩ : ∃ W4, W3.putObj (w.heap.size + 1) (.loop { rec .ready none with state := .busy }) = W4 := ⟨_, rfl⟩
        have ht4 : Tch (· = w.heap.size + 1) W3 W4 := by rw [← hW4]; exact (Tch.refl _ _).putObj _ fun _ => rfl
        have hl4 : W4.heap[w.heap.size + 1]? = some (.loop { rec .ready none with state := .busy }) := by rw [← hW4]; exact World.putObj_heap_same hlt3
        have hk4 : W4.heap[w.heap.size]? = some (.deferred (some [])) := (ht4.block _ (by omega) (by omega)).trans hk3
        rw [hW4]
        refine wpIn_mono (hbody W4 ht4) ?_
        have hsz4 : W4.heap.size = W3.heap.size := by rw [← hW4]; simp
        have fin : ∀ (jump : Option Code) (W5 : World), Tch (fun i => ¬ X A i ∧ ¬ L i) W4 W5 →
            (Instr.endRound (w.heap.size + 1) jump).run P W5 = .ok (.bool jump.isNone) (W5.putObj (w.heap.size + 1) (.loop (rec (if jump.isNone then .ready else .done) jump))) ∧
            (W5.putObj (w.heap.size + 1) (.loop (rec (if jump.isNone then .ready else .done) jump))).heap[w.heap.size + 1]? = some (.loop (rec (if jump.isNone then .ready else .done) jump)) ∧
            (W5.putObj (w.heap.size + 1) (.loop (rec (if jump.isNone then .ready else .done) jump))).heap[w.heap.size]? = some (.deferred (some [])) ∧
            Tch (fun i => ¬ A i ∧ ¬ L i) W (W5.putObj (w.heap.size + 1) (.loop (rec (if jump.isNone then .ready else .done) jump))) := fun jump W5 ht5 => by
          have hl5 := (ht5.block _ (Array.getElem?_eq_some_iff.1 hl4).1 hnR1).trans hl4
          have hr := run_endRound (P := P) jump hl5
          rw [hrec] at hr ⊢
          refine ⟨hr, World.putObj_heap_same (Array.getElem?_eq_some_iff.1 hl5).1, (World.putObj_heap_other (by omega)).trans ((ht5.block _ (by omega) hnR0).trans hk4), ?_⟩
          have nA : ¬ A (w.heap.size + 1) ∧ ¬ L (w.heap.size + 1) := ⟨fun h => by have := hA2 _ h; omega, fun h => by have := hL _ h; omega⟩
          have sub : ∀ i, ¬ X A i ∧ ¬ L i → ¬ A i ∧ ¬ L i := fun i h => ⟨fun ha => h.1 ((hXi A i).2 (.inl ha)), h.2⟩
          exact (((ht3.mono fun k _ h => sub k h).trans (ht4.mono fun k _ h => by subst h; exact nA)).trans (ht5.mono fun k _ h => sub k h)).putObj _ fun _ => nA
        rintro e a5 W5 hp
        cases e with
        | normal =>
          obtain ⟨ht5, hi5⟩ := hp
          obtain ⟨hr, hl6, hk6, ht6⟩ := fin none W5 ht5
          exact ⟨_, _, hr, _, rfl, ht6, fun _ => ⟨hk6, fun _ => ⟨hput _ _ _ _ hi5 hA2, hl6⟩, fun e => by cases e⟩, fun h => by simp at h⟩
        | ret =>
          obtain ⟨ht5, hi5⟩ := hp
          obtain ⟨hr, hl6, hk6, ht6⟩ := fin (some .ret) W5 ht5
          exact ⟨_, _, hr, _, rfl, ht6, fun h => by simp at h, fun _ => ⟨hk6, (fun e => by cases e), fun _ => ⟨.ret, hputx _ _ _ _ _ hi5 hA2, hl6⟩⟩⟩
        | exit id =>
          obtain ⟨ht5, hi5⟩ := hp
          obtain ⟨hr, hl6, hk6, ht6⟩ := fin (some (.exit id)) W5 ht5
          exact ⟨_, _, hr, _, rfl, ht6, fun h => by simp at h, fun _ => ⟨hk6, (fun e => by cases e), fun _ => ⟨.exit id, hputx _ _ _ _ _ hi5 hA2, hl6⟩⟩⟩
        | goto t =>
          obtain ⟨ht5, hi5⟩ := hp
          obtain ⟨hr, hl6, hk6, ht6⟩ := fin (some (.goto t)) W5 ht5
          exact ⟨_, _, hr, _, rfl, ht6, fun h => by simp at h, fun _ => ⟨hk6, (fun e => by cases e), fun _ => ⟨.goto t, hputx _ _ _ _ _ hi5 hA2, hl6⟩⟩⟩
        | panic ch => exact hp.elim
        | outgrown => exact hp.elim
      | ret => exact hp.elim
      | exit id => exact hp.elim
      | goto t => exact hp.elim
      | panic ch => exact hp.elim
      | outgrown => exact hp.elim
    · rintro e W2 ⟨⟨v, rfl⟩, A, hA, h⟩
      have hA2 : ∀ b, A b → w.heap.size + 2 ≤ b := fun b hb => by have := hA b hb; omega
      have hXw : ∀ b, X A b → w.heap.size ≤ b := fun b hb => by rcases (hXi A b).1 hb with h | h | h; exact Nat.le_trans (by omega) (hA2 b h); omega; omega
      rcases h with ⟨hk, hg1, _⟩ | ⟨k, hk', hk, _, hg2⟩
      · obtain ⟨hi, hl⟩ := hg1 rfl
        exact ⟨none, _, by have := run_endLoop (P := P) hl (by rw [hrec]; simp); rw [hrec] at this; exact this, hdone _ (X A) _ (hput _ _ _ _ hi hA2) ⟨Nat.le_refl _, (hXi A _).2 (.inr (.inl rfl))⟩ hXw ((World.putObj_heap_other (by omega)).trans hk)⟩
      · obtain ⟨c, hi, hl⟩ := hg2 rfl
        exact ⟨some c, _, by have := run_endLoop (P := P) hl (by rw [hrec]; simp); rw [hrec] at this; exact this, hstop _ k c (X A) _ hk' (hputx _ _ _ _ _ hi hA2) ⟨Nat.le_refl _, (hXi A _).2 (.inr (.inl rfl))⟩ hXw ((World.putObj_heap_other (by omega)).trans hk)⟩
end Go.Dw
namespace Go.Ab
open Go.RowKit Go.Dw Go.Shelf

mutual
/-- all names are of a list -/
def V.nmP (pn : List Nat) : V → Bool
  | .agg cs => V.nmPL pn cs
  | .tup cs => V.nmPL pn cs
  | .fn _ a b => V.nmPL pn a && V.nmPL pn b
  | .ifc _ v => v.nmP pn
  | .gd _ v => v.nmP pn
  | .own i => pn.contains i
  | .ref i _ => pn.contains i
  | .oel i _ _ _ => pn.contains i
  | .osl i _ _ _ => pn.contains i
  | _ => true
def V.nmPL (pn : List Nat) : List V → Bool
  | [] => true
  | v :: l => v.nmP pn && V.nmPL pn l
end
theorem V.nmPL_get {pn : List Nat} : ∀ {l : List V} (_ : V.nmPL pn l = true) {i : Nat} {u : V} (_ : l[i]? = some u), u.nmP pn = true
  | v :: l, h, 0, u, hu => by
    simp at hu; subst hu
    simp only [V.nmPL, Bool.and_eq_true] at h
    exact h.1
  | v :: l, h, i + 1, u, hu => by
    simp only [V.nmPL, Bool.and_eq_true] at h
    exact V.nmPL_get h.2 (by simpa using hu)
theorem R.intoP {pn : List Nat} {w : World} {L : Nat → Prop} {ρ : Nat → Option Value} {u : V} {x : Value} (h : R w L ρ u x) : ∀ (_ : u.nmP pn = true) (ρ' : Nat → Option Value), (∀ id v, id ∈ pn → ρ id = some v → ρ' id = some v) → R w L ρ' u x := by
  induction h with
  | any => exact fun _ _ _ => .any _ _
  | c => exact fun _ _ _ => .c _ _
  | agg ρ cs xs f hl hf hr ih =>
    intro hi ρ' hρ
    simp only [V.nmP] at hi
    exact .agg _ _ _ f hl hf fun i u hu => ih i u hu (V.nmPL_get hi hu) ρ' hρ
  | tup ρ cs xs f hl hf hr ih =>
    intro hi ρ' hρ
    simp only [V.nmP] at hi
    exact .tup _ _ _ f hl hf fun i u hu => ih i u hu (V.nmPL_get hi hu) ρ' hρ
  | nil => exact fun _ _ _ => .nil _
  | emp => exact fun _ _ _ => .emp _ _
  | sl0 => exact fun _ _ _ => .sl0 _ _ _ _ _
  | sl ρ sz n row b o c f hb hcap hlen hf hr ih => exact fun _ ρ' _ => .sl _ _ _ _ _ _ _ f hb hcap hlen hf hr
  | ptr ρ cs b o f hb hf hr ih => exact fun _ ρ' _ => .ptr _ _ _ _ f hb hf hr
  | own ρ id x h h1 =>
    intro hi ρ' hρ
    simp only [V.nmP, List.contains_iff_mem] at hi
    exact .own _ _ _ (hρ _ _ hi h) h1
  | ref ρ id off b h =>
    intro hi ρ' hρ
    simp only [V.nmP, List.contains_iff_mem] at hi
    exact .ref _ _ _ _ (hρ _ _ hi h)
  | oel ρ id sz i off b n c h =>
    intro hi ρ' hρ
    simp only [V.nmP, List.contains_iff_mem] at hi
    exact .oel _ _ _ _ _ _ n c (hρ _ _ hi h)
  | osl ρ id sz off k b m c c2 A h hn hA =>
    intro hi ρ' hρ
    simp only [V.nmP, List.contains_iff_mem] at hi
    exact .osl _ _ _ _ _ _ m c _ _ (hρ _ _ hi h) hn hA
  | fn ρ f fs cs xs ys g h hl hm hg hh hr hs ih1 ih2 =>
    intro hi ρ' hρ
    simp only [V.nmP, Bool.and_eq_true] at hi
    exact .fn _ _ _ _ _ _ g h hl hm hg hh (fun i u hu => ih1 i u hu (V.nmPL_get hi.1 hu) ρ' hρ) fun i u hu => ih2 i u hu (V.nmPL_get hi.2 hu) ρ' hρ
  | ifc ρ t u x h ih =>
    intro hi ρ' hρ
    simp only [V.nmP] at hi
    exact .ifc _ _ _ _ (ih hi ρ' hρ)
  | gd ρ g u x h h' ih =>
    intro hi ρ' hρ
    simp only [V.nmP] at hi
    exact .gd _ _ _ _ (fun hg => ih hg hi ρ' hρ) h'
theorem mkT_nmP {pn : List Nat} : ∀ {tl : List (Nat × V)} (_ : tl.all (fun p => p.2.nmP pn) = true) (i : Nat), (mkT tl i).nmP pn = true
  | [], _, i => rfl
  | p :: tl, h, i => by
    simp only [List.all_cons, Bool.and_eq_true] at h
    show (upd (mkT tl) p.1 p.2 i).nmP pn = true
    by_cases he : i = p.1
    · subst he; rw [upd_same]; exact h.1
    · rw [upd_ne _ _ he]; exact mkT_nmP h.2 i
/-- an object whose blocks stand, held by another frame -/
theorem Real.keepW {W W' L L' : Nat → Prop} {w w' : World} {ρ ρ' : Nat → Option Value} {id : Nat} {o : Ob} (h : Real W w L ρ id o) (e : Ext w L ρ w' L' ρ')
    (hb : ∀ x k, ρ id = some x → blk x = some k → w'.heap[k]? = w.heap[k]? ∧ ¬ L' k ∧ W' k) : Real W' w' L' ρ' id o := by
  cases o with
  | box t cs =>
    obtain ⟨b, xs, h1, h2, h3, h4, h5⟩ := h
    have := hb _ b h1 rfl
    exact ⟨b, xs, e.r _ _ h1, this.2.2, this.2.1, this.1.trans h4, h5.ext e⟩
  | row t sz n row =>
    obtain ⟨v, xs, h1, h2, h3, h4, h5⟩ := h
    refine ⟨v, xs, e.r _ _ h1, ⟨h2.1, ?_⟩, h3, h4.ext e, fun k hk => ⟨(hb _ k h1 hk).2.2, (hb _ k h1 hk).2.1⟩⟩
    rcases h2.2 with hn | ⟨g, cap, cur, rfl, hg, hh, rest⟩
    · exact .inl hn
    · exact .inr ⟨g, cap, cur, rfl, hg, (hb _ g h1 rfl).1.trans hh, rest⟩
  | mp str f =>
    obtain ⟨b, es, cl, h1, h2, h3, h4, h5⟩ := h
    have := hb _ b h1 rfl
    exact ⟨b, es, cl, e.r _ _ h1, this.2.2, this.2.1, this.1.trans h4, h5.imp fun _ _ _ _ h => h.ext e⟩

/-- what may be handed out: the k-th value, which holds no memory -/
def ItE4 (es : List (List V)) (k : Nat) (x : Array Value) (W : World) : Prop :=
  ∃ v, es[k]? = some v ∧ V.flatL v = true ∧ RV W (fun _ => False) ρ0 v x.toList
def AIt4 (P : Program) (gf : FuncId) (caps : List V) (es : List (List V)) : Prop :=
  (∀ (args : Array Value) (w : World), (callFunc gf args).run P w = .ok (.enter gf args) w) ∧
  ∀ (L : Nat → Prop) (w : World) (lb : Array Value), (∀ b, L b → b < w.heap.size) → (∀ g, R w L ρ0 (gvals g) (gval g)) → RV w L ρ0 caps lb.toList → Iter4 P gf lb es.length (ItE4 es) L w
/-- THE RULE OF A RANGE OVER A FUNCTION. -/
theorem w_range4 {P : Program} {N : Nat} {C : Cx P N} {Q : Exit → S → Prop} {tm : Nat → V} {σ : Nat → Option Ob} {nx : Nat} {g : Operand} {ps : Array Tmp} {assign body : Code} {gf : FuncId} {caps : List V} {es : List (List V)}
    (hF : C.F = Fence.wide) (pn xn : List Nat) (gl : List (Nat × Nat)) (hd : ∀ id x, C.dfs.pin id = some x → id ∈ pn ∧ ∀ p ∈ gl, p.1 ≠ id) (it : AIt4 P gf caps es) (hg : ev tm g = .fn (.func gf) [] caps) (hidf : V.idfL caps = true) (hlen : ∀ x ∈ es, x.length = ps.size) (hps : ps.toList.all (fun p => decide (p < N)) = true)
    (tl : List (Nat × V)) (ok : Nat → Prop) (sl : Nat → List Ob) (X : Nat → Code → List Ob → Prop) (hok0 : ok 0)
    (hpn : pn.all (fun p => decide (500 ≤ p ∧ p < 1000)) = true) (htl : tl.all (fun p => p.2.nmP pn) = true) (hid : gl.all (fun p => decide (p.1 < 1000)) = true)
    (htm : All (fun p => tm p.1 = p.2.ren (lookG gl nx)) tl) (hσ : All (fun p => ∃ ob, σ (lookG gl nx p.1) = some ob ∧ ObEq ob (p.2.ren (lookG gl nx))) ((pn ++ xn).zip (sl 0)))
    (hinj : decide ((((pn ++ xn).zip (sl 0)).map fun p => lookG gl nx p.1).Nodup) = true)
    (round : ∀ C' : Cx P N, (∃ l, C'.F = Fence.wide.inRound l) → ∀ k x, es[k]? = some x → ok k → AW C' assign (XThen (fun s' => AW C' body (RPost (pn ++ xn) ok sl X k) s') (fun _ _ => False)) ⟨setT (mkT tl) ps.toList x, mkS ((pn ++ xn).zip (sl k)), 1⟩)
    (hdone : ok es.length → Q .normal ⟨mkT tl, mkS ((pn ++ xn).zip (sl es.length)), 1⟩)
    (hstop : ∀ k c sx, k < es.length → X k c sx → AW C c Q ⟨mkT tl, mkS ((pn ++ xn).zip sx), 1⟩) : AW C (.rangeFunc g ps assign body) Q ⟨tm, σ, nx⟩ := by
  intro a w ⟨L, ρ', g00⟩
  have g0 := Gam.ren (s := ⟨tm, σ, nx⟩) tl ((pn ++ xn).zip (sl 0)) gl htm.mem hσ.mem (of_decide_eq_true hinj) (by simpa using hid) (fun p hp => by
    cases hc : C.dfs.pin p.1 with
    | none => rfl
    | some x => exact absurd rfl ((hd _ x hc).2 p hp)) g00
  have hfn := g00.tm.eval g00.g.gl g
  generalize (fun i => ρ' (lookG gl nx i)) = ρ at g0
  rw [hg] at hfn
  obtain ⟨xs', lb, eg, hxs, hlb⟩ := hfn.fn_inv
  have hxs0 : xs' = #[] := by have := hxs.1; simpa using this.symm
  subst hxs0
  have hpn' : ∀ p ∈ pn, 500 ≤ p ∧ p < 1000 := by simpa using hpn
  have hps' : ∀ p ∈ ps.toList, p < N := fun p hp => of_decide_eq_true (List.all_eq_true.1 hps p hp)
  obtain ⟨Ds, dd1, dd2, dd3⟩ := g0.defers
  obtain ⟨it1, it2⟩ := it
  have hit := it2 L w lb (fun b hb => (g0.g.ll b hb).1) g0.g.gl (hlb.free hidf)
  have hxlen : ∀ k x W, ItE4 es k x W → x.size = ps.size := by
    rintro k x W ⟨v, hv, _, h1⟩
    have := h1.1
    rw [hlen v (List.mem_of_getElem? hv)] at this
    simpa using this.symm
  have hDw : ∀ D ∈ Ds, D < w.heap.size := fun D hD => (Array.getElem?_eq_some_iff.1 (dd3 D hD).1).1
  obtain ⟨Wc, hWc⟩ : ∃ Wc : (Nat → Prop) → Nat → Prop, ∀ A b, Wc A b ↔ C.W b ∧ ¬ A b ∧ ¬ L b ∧ b ∉ Ds := ⟨_, fun _ _ => Iff.rfl⟩
  obtain ⟨Lc, hLc⟩ : ∃ Lc : (Nat → Prop) → Nat → Prop, ∀ A b, Lc A b ↔ C.LB b ∧ ¬ A b ∧ b ∉ Ds := ⟨_, fun _ _ => Iff.rfl⟩
  -- what is known of the objects, of memory
  obtain ⟨GS, hGS⟩ : ∃ GS : (Nat → Prop) → World → List Ob → Prop, ∀ A W ob, GS A W ob ↔ (∀ b, A b → w.heap.size ≤ b ∧ b < W.heap.size) ∧ Tch (fun b => C.W b ∧ ¬ L b ∧ b ∉ Ds) w W ∧
      ∃ L' ρ', (∀ b, L b → L' b) ∧ (∀ id x, id ∈ pn → ρ id = some x → ρ' id = some x) ∧ (∀ id, freshA 1 id → ρ' id = none) ∧ G (Wc A) (Lc A) (mkS ((pn ++ xn).zip ob)) W L' ρ' := ⟨_, fun _ _ _ => Iff.rfl⟩
  have frame : ∀ {W1 : World}, Tch (fun b => C.W b ∧ ¬ L b ∧ b ∉ Ds) w W1 → ∀ b, L b → W1.heap[b]? = w.heap[b]? := fun ht b hb => ht.block b (g0.g.ll b hb).1 fun hc => hc.2.1 hb
  have frD : ∀ {W1 : World}, Tch (fun b => C.W b ∧ ¬ L b ∧ b ∉ Ds) w W1 → ∀ D ∈ Ds, W1.heap[D]? = some (.deferred (some [])) := fun ht D hD =>
    (ht.block D (hDw D hD) fun hc => hc.2.2 hD).trans (dd3 D hD).1
  have tmU : ∀ {W1 : World} {L' : Nat → Prop} {ρ' : Nat → Option Value}, Tch (fun b => C.W b ∧ ¬ L b ∧ b ∉ Ds) w W1 → (∀ b, L b → L' b) → (∀ id x, id ∈ pn → ρ id = some x → ρ' id = some x) → ∀ i, Go.Ab.R W1 L' ρ' (mkT tl i) (a.tmps.getD i undef) := fun ht hLL hρ i =>
    ((g0.tm i).intoP (mkT_nmP htl i) _ hρ).mono (fun b hb => ⟨hLL b hb, frame ht b hb⟩) fun _ _ h => h
  have gs0 : GS (fun _ => False) w (sl 0) := by
    rw [hGS]
    refine ⟨fun _ h => h.elim, Tch.refl _ _, L, ρ, fun _ h => h, fun _ _ _ h => h, g0.fr, fun b hb => ⟨(g0.g.ll b hb).1, (hLc _ _).2 ⟨(g0.g.ll b hb).2, fun h => h, fun hD => (dd3 b hD).2.2 hb⟩⟩, fun b hb => ⟨(hWc _ _).2 ⟨(g0.g.new b hb).1, fun h => h, fun hl => by have := (g0.g.ll b hl).1; omega, fun hD => by have := hDw b hD; omega⟩, (hLc _ _).2 ⟨(g0.g.new b hb).2, fun h => h, fun hD => by have := hDw b hD; omega⟩⟩, fun id o ho => ?_, g0.g.sep, g0.g.gl⟩
    have hr := g0.g.ob id o ho
    obtain ⟨y, hy, hy2⟩ := hr.lt
    refine hr.keepW (Ext.refl _ _ _) fun x k hx hk => ?_
    rw [hx] at hy; injection hy with hy; subst hy
    exact ⟨rfl, (hy2 k hk).2.2, (hWc _ _).2 ⟨(hy2 k hk).2.1, fun h => h, (hy2 k hk).2.2, fun hD => hr.no_deferred hx hk (dd3 k hD).1⟩⟩
  have gsJ : ∀ A W1 W2 ob, GS A W1 ob → Tch A W1 W2 → GS (fun b => A b ∨ (W1.heap.size ≤ b ∧ b < W2.heap.size)) W2 ob := by
    intro A W1 W2 ob h ht
    rw [hGS] at h ⊢
    obtain ⟨hA, hT, L', ρ', l1, l2, l3, hG⟩ := h
    have hAl : ∀ b, L' b → ¬ A b := fun b hb => ((hLc _ _).1 (hG.ll b hb).2).2.1
    have ex : Ext W1 L' ρ' W2 L' ρ' := ⟨fun b hb => ⟨hb, ht.block b (hG.ll b hb).1 (hAl b hb)⟩, fun _ _ h => h⟩
    have nA : ∀ b, b < W1.heap.size → ¬ A b → ¬ (A b ∨ (W1.heap.size ≤ b ∧ b < W2.heap.size)) := fun b hb hn h => by
      rcases h with h | h
      · exact hn h
      · omega
    refine ⟨fun b hb => ?_, ?_, L', ρ', l1, l2, l3, fun b hb => ⟨Nat.lt_of_lt_of_le (hG.ll b hb).1 ht.size, ?_⟩, fun b hb => ?_, fun id o ho => ?_, hG.sep, hG.glE ex⟩
    · rcases hb with h | h
      · exact ⟨(hA b h).1, Nat.lt_of_lt_of_le (hA b h).2 ht.size⟩
      · have := hT.size; omega
    · refine Tch.mono (R := fun b => (C.W b ∧ ¬ L b ∧ b ∉ Ds) ∨ A b) ((hT.mono fun _ _ h => .inl h).trans (ht.mono fun _ _ h => .inr h)) fun k hk h => ?_
      rcases h with h | h
      · exact h
      · have := (hA k h).1; omega
    · obtain ⟨q1, q2, q3⟩ := (hLc _ _).1 (hG.ll b hb).2
      exact (hLc _ _).2 ⟨q1, nA b (hG.ll b hb).1 q2, q3⟩
    · have hb1 : W1.heap.size ≤ b := Nat.le_trans ht.size hb
      obtain ⟨q1, q2⟩ := hG.new b hb1
      obtain ⟨q1, _, q3, q4⟩ := (hWc _ _).1 q1
      obtain ⟨r1, _, r3⟩ := (hLc _ _).1 q2
      have hn : ¬ (A b ∨ (W1.heap.size ≤ b ∧ b < W2.heap.size)) := fun h => by
        rcases h with h | h
        · have := (hA b h).2; omega
        · omega
      exact ⟨(hWc _ _).2 ⟨q1, hn, q3, q4⟩, (hLc _ _).2 ⟨r1, hn, r3⟩⟩
    · have hr := hG.ob id o ho
      obtain ⟨y, hy, hy2⟩ := hr.lt
      refine hr.keepW ex fun x k hx hk => ?_
      rw [hx] at hy; injection hy with hy; subst hy
      obtain ⟨q1, q2, q3⟩ := hy2 k hk
      obtain ⟨r1, r2, r3, r4⟩ := (hWc _ _).1 q2
      exact ⟨ht.block k q1 r2, q3, (hWc _ _).2 ⟨r1, nA k q1 r2, r3, r4⟩⟩
  have mkGam : ∀ (D : Nat) (A : Nat → Prop) (W1 : World) (ob : List Ob), GS A W1 ob → (w.heap.size ≤ D ∧ A D) → W1.heap[D]? = some (.deferred (some [])) →
      Gm C ⟨mkT tl, mkS ((pn ++ xn).zip ob), 1⟩ { a with defers := { target := .collected D, args := #[] } :: a.defers } W1 := by
    intro D A W1 ob hgs hD hDl
    rw [hGS] at hgs
    obtain ⟨hA, hT, L', ρ', l1, l2, l3, hG⟩ := hgs
    refine ⟨L', ρ', ⟨⟨fun b hb => ⟨(hG.ll b hb).1, ((hLc _ _).1 (hG.ll b hb).2).1⟩, fun b hb => ⟨((hWc _ _).1 (hG.new b hb).1).1, ((hLc _ _).1 (hG.new b hb).2).1⟩, fun id o ho => ?_, hG.sep, hG.gl⟩, l3, tmU hT l1 l2, g0.size, ⟨D :: Ds, ?_, List.nodup_cons.2 ⟨fun hc => ?_, dd2⟩, fun E hE => ?_⟩, fun id x hp => l2 id x (hd id x hp).1 (g0.pin id x hp)⟩⟩
    · have hr := hG.ob id o ho
      obtain ⟨y, hy, hy2⟩ := hr.lt
      refine hr.keepW (Ext.refl _ _ _) fun x k hx hk => ?_
      rw [hx] at hy; injection hy with hy; subst hy
      exact ⟨rfl, (hy2 k hk).2.2, ((hWc _ _).1 (hy2 k hk).2.1).1⟩
    · simp only [marks, List.map_cons, dd1, List.cons_append]
    · have := hDw D hc
      omega
    · rcases List.mem_cons.1 hE with rfl | hE
      · exact ⟨hDl, (g0.g.new E hD.1).1, fun hc => ((hLc _ _).1 (hG.ll E hc).2).2.1 hD.2⟩
      · exact ⟨frD hT E hE, (dd3 E hE).2.1, fun hc => ((hLc _ _).1 (hG.ll E hc).2).2.2 hE⟩
  rw [hF]
  refine wp_range4 (gf := gf) (lb := lb) (n := es.length) eg it1 hit (fun b hb => (g0.g.ll b hb).1) hxlen
    (fun k A W => ok k ∧ GS A W (sl k)) (fun k c A W => ∃ sx, X k c sx ∧ GS A W sx)
    (fun k A W1 W2 h _ ht => ⟨h.1, gsJ A W1 W2 _ h.2 ht⟩)
    (fun k c A W1 W2 h _ ht => by obtain ⟨sx, h1, h2⟩ := h; exact ⟨sx, h1, gsJ A W1 W2 _ h2 ht⟩)
    ⟨hok0, gs0⟩ ?hround ?hdone ?hstop
  case hdone =>
    rintro D A W ⟨hok, hG⟩ hD _ hDl
    refine ⟨_, hdone hok, mkGam D A W _ hG hD hDl, ?_⟩
    rw [hGS] at hG
    exact hG.2.1.mono fun k _ h => h.1
  case hstop =>
    rintro D k c A W hk ⟨sx, hX, hG⟩ hD _ hDl
    have hst := hstop k c sx hk hX
    unfold AW at hst
    rw [hF] at hst
    refine wpIn_mono (hst _ W (mkGam D A W sx hG hD hDl)) ?_
    rintro e a' w' ⟨s', q, g', t⟩
    rw [hGS] at hG
    exact ⟨s', q, g', (hG.2.1.mono fun k _ h => h.1).trans t⟩
  case hround =>
    rintro l k x A W ⟨hl, hAl⟩ hAb hkl ⟨v, hv, hvf, hxr⟩ ⟨hok, hgs⟩
    rw [hGS] at hgs
    obtain ⟨hA, hT, L', ρ', l1, l2, l3, hG⟩ := hgs
    obtain ⟨C', e1, e2, e3, e4, e4t⟩ : ∃ C' : Cx P N, C'.W = Wc A ∧ C'.LB = Lc A ∧ C'.F = Fence.wide.inRound l ∧ (∀ id, C'.dfs.pin id = if id ∈ pn then ρ id else none) ∧ C'.dfs.tl = [] :=
      ⟨⟨Wc A, Lc A, fun b hb => (hLc _ _).2 ⟨C.wl b ((hWc _ _).1 hb).1, ((hWc _ _).1 hb).2.1, ((hWc _ _).1 hb).2.2.2⟩,
        ⟨[], fun id => if id ∈ pn then ρ id else none, fun id x h => by
          by_cases hi : id ∈ pn
          · exact hpn' id hi
          · rw [if_neg hi] at h; cases h⟩, C.mx, Fence.wide.inRound l, .inr ⟨l, rfl⟩⟩, rfl, rfl, rfl, fun _ => rfl, rfl⟩
    have hr := round C' ⟨l, e3⟩ k _ hv hok
    unfold AW at hr
    rw [e3] at hr
    obtain ⟨z1, z2⟩ := setT_run (w := W) (L := L') (ρ := ρ') ps.toList v x.toList (mkT tl) a.tmps (fun p hp => by rw [g0.size]; exact hps' p hp)
      ⟨hxr.1, fun i u y hu hy => (hxr.2 i u y hu hy).flat (V.flatL_get hvf hu)⟩ (tmU hT l1 l2)
    have ez : ((ps.toList.zip x.toList).foldl (fun t (p, v) => t.setIfInBounds p v) a.tmps) = (ps.zip x).foldl (fun t (p, v) => t.setIfInBounds p v) a.tmps := by
      rw [← Array.toList_zip, Array.foldl_toList]
    rw [ez] at z1 z2
    have gm : Gm C' ⟨setT (mkT tl) ps.toList v, mkS ((pn ++ xn).zip (sl k)), 1⟩ { tmps := (ps.zip x).foldl (fun t (p, v) => t.setIfInBounds p v) a.tmps, defers := [] } W :=
      ⟨L', ρ', ⟨by rw [e1, e2]; exact hG, l3, z2, z1.trans g0.size, ⟨[], by rw [e4t]; rfl, by simp, by simp⟩, fun id y hp => by
        rw [e4] at hp
        split at hp
        · exact l2 id y (by assumption) hp
        · cases hp⟩⟩
    have sub : ∀ i, C'.W i → ¬ A i ∧ ¬ L i := fun i hi => by rw [e1] at hi; obtain ⟨q1, q2, q3, _⟩ := (hWc _ _).1 hi; exact ⟨q2, q3⟩
    have subC : ∀ i, C'.W i → C.W i ∧ ¬ L i ∧ i ∉ Ds := fun i hi => by rw [e1] at hi; obtain ⟨q1, q2, q3, q4⟩ := (hWc _ _).1 hi; exact ⟨q1, q3, q4⟩
    refine wpIn_mono (hr _ W gm) ?_
    rintro e a1 W1 ⟨s1, hq, gm1, t1⟩
    cases e with
    | normal =>
      refine ⟨t1.mono fun j _ h => sub j h, fun W2 ht2 => ?_⟩
      have gm2 : Gm C' s1 a1 W2 := by
        obtain ⟨L1, ρ1, g1⟩ := gm1
        have hnL : ¬ L1 l := fun hc => by
          have := (g1.g.ll l hc).2
          rw [e2] at this
          exact ((hLc _ _).1 this).2.1 hAl
        have hnW : ¬ C'.W l := fun hc => (sub l hc).1 hAl
        have ex : Ext W1 L1 ρ1 W2 L1 ρ1 := ⟨fun b hb => ⟨hb, ht2.block b (g1.g.ll b hb).1 (by rintro rfl; exact hnL hb)⟩, fun _ _ h => h⟩
        refine ⟨L1, ρ1, ⟨⟨fun b hb => ⟨Nat.lt_of_lt_of_le (g1.g.ll b hb).1 ht2.size, (g1.g.ll b hb).2⟩, fun b hb => g1.g.new b (Nat.le_trans ht2.size hb), fun id o ho => ?_, g1.g.sep, g1.g.glE ex⟩, g1.fr, fun t => (g1.tm t).ext ex, g1.size, ?_, g1.pin⟩⟩
        · have hr1 := g1.g.ob id o ho
          obtain ⟨y, hy, hy2⟩ := hr1.lt
          refine hr1.keep ex fun x j hx hj => ?_
          rw [hx] at hy; injection hy with hy; subst hy
          exact ⟨ht2.block j (hy2 j hj).1 (by rintro rfl; exact hnW (hy2 _ hj).2.1), (hy2 j hj).2.2⟩
        · obtain ⟨Es, q1, q2, q3⟩ := g1.defers
          exact ⟨Es, q1, q2, fun D hD => ⟨(ht2.block D (Array.getElem?_eq_some_iff.1 (q3 D hD).1).1 (by rintro rfl; exact hnW (q3 _ hD).2.1)).trans (q3 D hD).1, (q3 D hD).2⟩⟩
      have hbw := hq a1 W2 gm2
      have fin : ∀ (a5 : Act) (W5 : World) (s5 : S) (l5 : List Ob), Gm C' s5 a5 W5 → Tch C'.W W2 W5 → Le s5 ⟨fun _ => .any, mkS ((pn ++ xn).zip l5), 1⟩ → Tch (fun i => ¬ A i ∧ ¬ L i) W2 W5 ∧ GS A W5 l5 := by
        intro a5 W5 s5 l5 gm5 t5 hle
        refine ⟨t5.mono fun j _ h => sub j h, ?_⟩
        obtain ⟨L5, ρ5, g5⟩ := hle C' a5 W5 gm5
        have hsz : W.heap.size ≤ W5.heap.size := Nat.le_trans t1.size (Nat.le_trans ht2.size t5.size)
        have tw : Tch (fun b => C.W b ∧ ¬ L b ∧ b ∉ Ds) w W5 := by
          refine Tch.mono (R := fun b => (C.W b ∧ ¬ L b ∧ b ∉ Ds) ∨ b = l) ((((hT.trans (t1.mono fun j _ h => subC j h)).mono fun _ _ h => .inl h).trans (ht2.mono fun _ _ h => .inr h)).trans (t5.mono fun j _ h => .inl (subC j h))) fun j hj h => ?_
          rcases h with h | h
          · exact h
          · omega
        have gg := g5.g
        rw [e1, e2] at gg
        rw [hGS]
        have ex : Ext W5 L5 ρ5 W5 (fun b => L5 b ∨ L b) ρ5 := ⟨fun b hb => ⟨.inl hb, rfl⟩, fun _ _ h => h⟩
        refine ⟨fun b hb => ⟨(hA b hb).1, Nat.lt_of_lt_of_le (hA b hb).2 hsz⟩, tw, fun b => L5 b ∨ L b, ρ5, fun b hb => .inr hb, fun id y hi hy => g5.pin id y (by rw [e4, if_pos hi]; exact hy), g5.fr, fun b hb => ?_, gg.new, fun id o ho => ?_, gg.sep, gg.glE ex⟩
        · rcases hb with hb | hb
          · exact gg.ll b hb
          · exact ⟨Nat.lt_of_lt_of_le (g0.g.ll b hb).1 tw.size, (hLc _ _).2 ⟨(g0.g.ll b hb).2, fun h => by have := (hA b h).1; have := (g0.g.ll b hb).1; omega, fun hD => (dd3 b hD).2.2 hb⟩⟩
        · have hr5 := gg.ob id o ho
          obtain ⟨y, hy, hy2⟩ := hr5.lt
          refine hr5.keep ex fun x j hx hj => ⟨rfl, ?_⟩
          rw [hx] at hy; injection hy with hy; subst hy
          rintro (h | h)
          · exact (hy2 j hj).2.2 h
          · exact ((hWc _ _).1 (hy2 j hj).2.1).2.2.1 h
      refine wpIn_mono hbw ?_
      rintro e5 a5 W5 ⟨s5, hp5, gm5, t5⟩
      cases e5 with
      | normal => exact ⟨(fin a5 W5 s5 _ gm5 t5 hp5.2).1, hp5.1, (fin a5 W5 s5 _ gm5 t5 hp5.2).2⟩
      | ret => obtain ⟨sx, hX, hle⟩ := hp5; exact ⟨(fin a5 W5 s5 _ gm5 t5 hle).1, sx, hX, (fin a5 W5 s5 _ gm5 t5 hle).2⟩
      | exit id => obtain ⟨sx, hX, hle⟩ := hp5; exact ⟨(fin a5 W5 s5 _ gm5 t5 hle).1, sx, hX, (fin a5 W5 s5 _ gm5 t5 hle).2⟩
      | goto t => obtain ⟨sx, hX, hle⟩ := hp5; exact ⟨(fin a5 W5 s5 _ gm5 t5 hle).1, sx, hX, (fin a5 W5 s5 _ gm5 t5 hle).2⟩
      | panic c => exact hp5.elim
      | outgrown => exact hp5.elim
    | ret => exact hq.elim
    | exit id => exact hq.elim
    | goto t => exact hq.elim
    | panic c => exact hq.elim
    | outgrown => exact hq.elim
end Go.Ab
