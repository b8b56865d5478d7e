/-
  Iterators whose body is walked: what they hand out is known as values without addresses. Conditions: told in each theorem.
-/
import Derived.Test.YtfckkkmacjjmhaaDoorAbs26
namespace Go.Dw
open Go.RowKit Go.Shelf
/-- THE ITERATOR's CONTRACT, looser: it hands out n values, each one of those that E allows. -/
def Iter2 (P : Program) (f : FuncId) (lb : Array Value) (n : Nat) (E : Nat → Nat → Array Value → World → Prop) (R : Nat → Prop) (w : World) : Prop :=
  ∀ (l : Nat) (J Jx : Nat → World → Prop) (W : World), Tch R w W → w.heap.size ≤ l → l < W.heap.size →
    (∀ k W1 W2, J k W1 → Below W.heap.size W1 W2 → J k W2) → (∀ k W1 W2, Jx k W1 → Below W.heap.size W1 W2 → Jx k W2) →
    (∀ k x W1, k < n → E l k x W1 → W.heap.size ≤ W1.heap.size → J k W1 → YieldAt Fence.wide 0 P l x W1 fun e W2 => ∃ b : Bool, e = .returned (.bool b) ∧ Tch (fun i => R i ∨ i = l) W1 W2 ∧ (b = true → J (k + 1) W2) ∧ (b = false → Jx k W2)) →
    J 0 W →
    CallsIn Fence.wide 0 P f (#[.func (.yield l) #[] #[]] ++ lb) W fun e W' => (∃ v, e = .returned v) ∧ (J n W' ∨ ∃ k, k < n ∧ Jx k W')
/-- THE LOOP. -/
theorem wp_range3 {P : Program} {g : Operand} {ps : Array Tmp} {assign body : Code} {Q : Exit → Act → World → Prop} {a : Act} {w : World}
    {gf : Nat} {lb : Array Value} (hg : a.eval g = .func (.func gf) #[] lb) (eg : ∀ args w, (callFunc gf args).run P w = .ok (.enter gf args) w)
    {n : Nat} {E : Nat → Nat → Array Value → World → Prop} {R : Nat → Prop} (hit : Iter2 P gf lb n E R w) (hR : ∀ i, R i → i < w.heap.size) (hps : ∀ l k x W, E l k x W → x.size = ps.size)
    (J : Nat → World → Prop) (Jx : Nat → Code → World → Prop)
    (hJ : ∀ k W1 W2, J k W1 → Below w.heap.size W1 W2 → J k W2) (hJx : ∀ k c W1 W2, Jx k c W1 → Below w.heap.size W1 W2 → Jx k c W2) (h0 : J 0 w)
    (hround : ∀ (l k : Nat) (x : Array Value) (W : World), w.heap.size ≤ l → l < W.heap.size → k < n → E l k x W → J k W →
      assign.wpIn (Fence.wide.inRound l) 0 P (Exit.then (fun a₁ W1 => Tch R W W1 ∧ ∀ W2, Tch (· = l) W1 W2 → body.wpIn (Fence.wide.inRound l) 0 P (roundEnd (fun i => R i ∨ W.heap.size ≤ i) J Jx k W2) a₁ W2) (fun _ _ _ => False))
        { tmps := (ps.zip x).foldl (fun t (p, v) => t.setIfInBounds p v) a.tmps, defers := [] } W)
    (hdone : ∀ (D : Nat) (W : World), J n W → w.heap.size ≤ D → W.heap[D]? = some (.deferred (some [])) → Q .normal { a with defers := { target := .collected D, args := #[] } :: a.defers } W)
    (hstop : ∀ (D k : Nat) (c : Code) (W : World), k < n → Jx k c W → w.heap.size ≤ D → W.heap[D]? = some (.deferred (some [])) → c.wpIn Fence.wide 0 P Q { a with defers := { target := .collected D, args := #[] } :: a.defers } W) :
    (Code.rangeFunc g ps assign body).wpIn Fence.wide 0 P Q a w := by
  refine wpIn_rangeFunc ?_
  intro fn hfn
  obtain ⟨rec, hrec⟩ : ∃ rec : LoopState → Option Code → Loop, rec = fun st pe => { state := st, pending := pe, fn, tmps := a.tmps, params := ps, assign, body, defers := w.heap.size } := ⟨_, rfl⟩
  obtain ⟨W1, hW1⟩ : ∃ W1, (w.alloc (.deferred (some []))).alloc (.loop (rec .ready none)) = W1 := ⟨_, rfl⟩
  have hL1 : W1.heap[w.heap.size + 1]? = some (.loop (rec .ready none)) := by
    rw [← hW1]; have := World.alloc_heap_new (w.alloc (.deferred (some []))) (.loop (rec .ready none)); rwa [World.size_alloc] at this
  have hK1 : W1.heap[w.heap.size]? = some (.deferred (some [])) := by
    rw [← hW1]; exact (Below.heap_alloc _ _ _ (by simp)).trans (World.alloc_heap_new w _)
  have hs1 : W1.heap.size = w.heap.size + 2 := by rw [← hW1]; simp
  have hb1 : Below w.heap.size w W1 := by
    rw [← hW1]; exact ((Below.refl _ w).alloc (Nat.le_refl _) _).alloc (by simp) _
  refine ⟨w.heap.size + 1, [{ target := .collected w.heap.size, args := #[] }], W1, { target := .fn (.func gf) lb, args := #[.func (.yield (w.heap.size + 1)) #[] #[]] }, W1, gf,
    #[.func (.yield (w.heap.size + 1)) #[] #[]] ++ lb, W1, ?_, ?_, fun _ _ => trivial, ?_, fun h => by simp [Fence.wide] at h, ?_⟩
  · rw [← hW1, hrec]; exact run_enterLoop_outer _ _ _ _ _
  · simp only [resolve, hg]
    simp [go_sem]
  · simp [invoke, go_sem, eg]
  · refine (hit (w.heap.size + 1)
      (fun k W => J k W ∧ W.heap[w.heap.size + 1]? = some (.loop (rec .ready none)) ∧ W.heap[w.heap.size]? = some (.deferred (some [])))
      (fun k W => ∃ c, Jx k c W ∧ W.heap[w.heap.size + 1]? = some (.loop (rec .done (some c))) ∧ W.heap[w.heap.size]? = some (.deferred (some [])))
      W1 (Tch.of_new hb1) (by omega) (by omega)
      (fun k A B hs hb => ⟨hJ k A B hs.1 (hb.mono (by omega)), (hb.block _ (by omega)).trans hs.2.1, (hb.block _ (by omega)).trans hs.2.2⟩)
      (fun k A B hs hb => by
        obtain ⟨c, hc, hl, hk⟩ := hs
        exact ⟨c, hJx k c A B hc (hb.mono (by omega)), (hb.block _ (by omega)).trans hl, (hb.block _ (by omega)).trans hk⟩)
      ?_ ⟨hJ 0 w W1 h0 hb1, hL1, hK1⟩).mono ?_
    · rintro k x W hkn hx hsz ⟨hi, hl, hk⟩
      have hlt : w.heap.size + 1 < W.heap.size := (Array.getElem?_eq_some_iff.1 hl).1
      have hy := run_yield (P := P) (args := x) hl (by rw [hrec]; exact hps _ k x _ hx)
      rw [hrec] at hy
      have hnR1 : ¬ R (w.heap.size + 1) := fun e => by have := hR _ e; omega
      have hnR0 : ¬ R w.heap.size := fun e => by have := hR _ e; omega
      refine ⟨fn, _, assign, body, hy, roundIn_of_wpIn hfn (wpIn_mono (hround (w.heap.size + 1) k x W (by omega) hlt hkn hx hi) ?_)⟩
      rintro e a3 W3 hp
      cases e with
      | normal =>
        obtain ⟨ht3, hbody⟩ := hp
        have hl3 : W3.heap[w.heap.size + 1]? = some (.loop (rec .ready none)) := (ht3.block _ hlt hnR1).trans hl
        have hk3 : W3.heap[w.heap.size]? = some (.deferred (some [])) := (ht3.block _ (by omega) hnR0).trans hk
        have hlt3 : w.heap.size + 1 < W3.heap.size := (Array.getElem?_eq_some_iff.1 hl3).1
        refine ⟨_, run_beginRound hl3 (by rw [hrec]), ?_⟩
        obtain ⟨W4, hW4⟩ : ∃ W4, W3.putObj (w.heap.size + 1) (.loop { rec .ready none with state := .busy }) = W4 := ⟨_, rfl⟩
        have ht4 : Tch (· = w.heap.size + 1) W3 W4 := by rw [← hW4]; exact (Tch.refl _ _).putObj _ fun _ => rfl
        have hl4 : W4.heap[w.heap.size + 1]? = some (.loop { rec .ready none with state := .busy }) := by rw [← hW4]; exact World.putObj_heap_same hlt3
        have hk4 : W4.heap[w.heap.size]? = some (.deferred (some [])) := (ht4.block _ (by omega) (by omega)).trans hk3
        rw [hW4]
        refine wpIn_mono (hbody W4 ht4) ?_
        have hsz4 : W4.heap.size = W3.heap.size := by rw [← hW4]; simp
        have fin : ∀ (jump : Option Code) (W5 : World), Tch (fun i => R i ∨ W.heap.size ≤ i) W4 W5 →
            (Instr.endRound (w.heap.size + 1) jump).run P W5 = .ok (.bool jump.isNone) (W5.putObj (w.heap.size + 1) (.loop (rec (if jump.isNone then .ready else .done) jump))) ∧
            (W5.putObj (w.heap.size + 1) (.loop (rec (if jump.isNone then .ready else .done) jump))).heap[w.heap.size + 1]? = some (.loop (rec (if jump.isNone then .ready else .done) jump)) ∧
            (W5.putObj (w.heap.size + 1) (.loop (rec (if jump.isNone then .ready else .done) jump))).heap[w.heap.size]? = some (.deferred (some [])) ∧
            Tch (fun i => R i ∨ i = w.heap.size + 1) W (W5.putObj (w.heap.size + 1) (.loop (rec (if jump.isNone then .ready else .done) jump))) := fun jump W5 ht5 => by
          have hl5 := (ht5.block _ (Array.getElem?_eq_some_iff.1 hl4).1 (by rintro (e | e); exact hnR1 e; omega)).trans hl4
          have hr := run_endRound (P := P) jump hl5
          rw [hrec] at hr ⊢
          refine ⟨hr, World.putObj_heap_same (Array.getElem?_eq_some_iff.1 hl5).1, (World.putObj_heap_other (by omega)).trans ((ht5.block _ (by omega) (by rintro (e | e); exact hnR0 e; omega)).trans hk4), ?_⟩
          refine Tch.mono (R := fun i => (R i ∨ W.heap.size ≤ i) ∨ i = w.heap.size + 1) (((((ht3.mono fun k _ h => Or.inl (Or.inl h)).trans (ht4.mono fun k _ h => Or.inr h)).trans (ht5.mono fun k _ h => Or.inl h)).putObj _ fun _ => Or.inr rfl)) fun k hk h => ?_
          rcases h with (h | h) | h
          · exact .inl h
          · omega
          · exact .inr h
        rintro e a5 W5 hp
        cases e with
        | normal =>
          obtain ⟨ht5, hi5⟩ := hp
          obtain ⟨hr, hl6, hk6, ht6⟩ := fin none W5 ht5
          exact ⟨_, _, hr, _, rfl, ht6, fun _ => ⟨hJ _ _ _ hi5 (below_putObj _ _ (by omega)), hl6, hk6⟩, fun h => by simp at h⟩
        | ret =>
          obtain ⟨ht5, hi5⟩ := hp
          obtain ⟨hr, hl6, hk6, ht6⟩ := fin (some .ret) W5 ht5
          exact ⟨_, _, hr, _, rfl, ht6, fun h => by simp at h, fun _ => ⟨.ret, hJx _ _ _ _ hi5 (below_putObj _ _ (by omega)), hl6, hk6⟩⟩
        | exit id =>
          obtain ⟨ht5, hi5⟩ := hp
          obtain ⟨hr, hl6, hk6, ht6⟩ := fin (some (.exit id)) W5 ht5
          exact ⟨_, _, hr, _, rfl, ht6, fun h => by simp at h, fun _ => ⟨.exit id, hJx _ _ _ _ hi5 (below_putObj _ _ (by omega)), hl6, hk6⟩⟩
        | goto t =>
          obtain ⟨ht5, hi5⟩ := hp
          obtain ⟨hr, hl6, hk6, ht6⟩ := fin (some (.goto t)) W5 ht5
          exact ⟨_, _, hr, _, rfl, ht6, fun h => by simp at h, fun _ => ⟨.goto t, hJx _ _ _ _ hi5 (below_putObj _ _ (by omega)), hl6, hk6⟩⟩
        | panic ch => exact hp.elim
        | outgrown => exact hp.elim
      | ret => exact hp.elim
      | exit id => exact hp.elim
      | goto t => exact hp.elim
      | panic ch => exact hp.elim
      | outgrown => exact hp.elim
    · rintro e W2 ⟨⟨v, rfl⟩, (⟨hi, hl, hk⟩ | ⟨k, hk', c, hi, hl, hk⟩)⟩
      · exact ⟨none, _, by have := run_endLoop (P := P) hl (by rw [hrec]; simp); rw [hrec] at this; exact this, hdone _ _ (hJ _ _ _ hi (below_putObj _ _ (by omega))) (Nat.le_refl _) ((World.putObj_heap_other (by omega)).trans hk)⟩
      · exact ⟨some c, _, by have := run_endLoop (P := P) hl (by rw [hrec]; simp); rw [hrec] at this; exact this, hstop _ k c _ hk' (hJx _ _ _ _ hi (below_putObj _ _ (by omega))) (Nat.le_refl _) ((World.putObj_heap_other (by omega)).trans hk)⟩

end Go.Dw
namespace Go.Ab
open Go.RowKit Go.Dw Go.Shelf

/-- what may be handed out: the k-th value, its memory old or new, and not written any more -/
def ItE (es : List (List V)) (L : Nat → Prop) (w : World) (l k : Nat) (x : Array Value) (W : World) : Prop :=
  ∃ v, es[k]? = some v ∧ ∃ L1 : Nat → Prop, (∀ b, L1 b → L b ∨ (w.heap.size ≤ b ∧ b < W.heap.size ∧ b ≠ l)) ∧ RV W L1 ρ0 v x.toList
def AIt (P : Program) (gf : FuncId) (caps : List V) (es : List (List V)) : Prop :=
  (∀ (args : Array Value) (w : World), (callFunc gf args).run P w = .ok (.enter gf args) w) ∧
  ∀ (L : Nat → Prop) (w : World) (lb : Array Value), (∀ b, L b → b < w.heap.size) → (∀ g, R w L ρ0 (gvals g) (gval g)) → RV w L ρ0 caps lb.toList → ∀ R : Nat → Prop, (∀ b, R b → b < w.heap.size ∧ ¬ L b) → Iter2 P gf lb es.length (ItE es L w) R w
/-- THE RULE OF A RANGE OVER A FUNCTION. -/
theorem w_rangeI {P : Program} {N : Nat} {C : Cx P N} {Q : Exit → S → Prop} {tm : Nat → V} {σ : Nat → Option Ob} {nx : Nat} {g : Operand} {ps : Array Tmp} {assign body : Code} {gf : FuncId} {caps : List V} {es : List (List V)}
    (hF : C.F = Fence.wide) (hd : C.dfs = dp0) (it : AIt P gf caps es) (hg : ev tm g = .fn (.func gf) [] caps) (hidf : V.idfL caps = true) (hlen : ∀ x ∈ es, x.length = ps.size) (hps : ps.toList.all (fun p => decide (p < N)) = true)
    (pn : List Nat) (gl : List (Nat × Nat)) (tl : List (Nat × V)) (ok : Nat → Prop) (sl : Nat → List Ob) (X : Nat → Code → List Ob → Prop) (hok0 : ok 0)
    (hpn : pn.all (fun p => decide (500 ≤ p ∧ p < 1000)) = true) (hl0 : (sl 0).length = pn.length) (hid : gl.all (fun p => decide (p.1 < 1000)) = true)
    (htm : All (fun p => tm p.1 = p.2.ren (lookG gl nx)) tl) (hσ : All (fun p => ∃ ob, σ (lookG gl nx p.1) = some ob ∧ ObEq ob (p.2.ren (lookG gl nx))) (pn.zip (sl 0)))
    (hinj : decide (((pn.zip (sl 0)).map fun p => lookG gl nx p.1).Nodup) = true)
    (hfl : ∀ k, ∀ o ∈ sl k, o.flatP pn) (hfx : ∀ k c sx, X k c sx → ∀ o ∈ sx, o.flatP pn)
    (round : ∀ C' : Cx P N, (∃ l, C'.F = Fence.wide.inRound l) → ∀ k x, es[k]? = some x → ok k → AW C' assign (XThen (fun s' => AW C' body (RPost pn ok sl X k) s') (fun _ _ => False)) ⟨setT (mkT tl) ps.toList x, mkS (pn.zip (sl k)), 1⟩)
    (hdone : ok es.length → Q .normal ⟨mkT tl, mkS (pn.zip (sl es.length)), 1⟩)
    (hstop : ∀ k c sx, k < es.length → X k c sx → AW C c Q ⟨mkT tl, mkS (pn.zip sx), 1⟩) : AW C (.rangeFunc g ps assign body) Q ⟨tm, σ, nx⟩ := by
  intro a w ⟨L, ρ', g00⟩
  have g0 := Gam.ren (s := ⟨tm, σ, nx⟩) tl (pn.zip (sl 0)) gl htm.mem hσ.mem (of_decide_eq_true hinj) (by simpa using hid) (fun p _ => by rw [hd]; rfl) g00
  have hfn := g00.tm.eval g00.g.gl g
  generalize (fun i => ρ' (lookG gl nx i)) = ρ at g0
  rw [hg] at hfn
  obtain ⟨xs', lb, eg, hxs, hlb⟩ := hfn.fn_inv
  have hxs0 : xs' = #[] := by have := hxs.1; simpa using this.symm
  subst hxs0
  have hpn' : ∀ p ∈ pn, 500 ≤ p ∧ p < 1000 := by simpa using hpn
  have hps' : ∀ p ∈ ps.toList, p < N := fun p hp => of_decide_eq_true (List.all_eq_true.1 hps p hp)
  obtain ⟨Ds, dd1, dd2, dd3⟩ := g0.defers
  obtain ⟨it1, it2⟩ := it
  have hit := it2 L w lb (fun b hb => (g0.g.ll b hb).1) g0.g.gl (hlb.free hidf)
  obtain ⟨R, hR⟩ : ∃ R : Nat → Prop, R = fun b => b < w.heap.size ∧ C.W b ∧ ¬ L b ∧ b ∉ Ds := ⟨_, rfl⟩
  have hRi : ∀ b, R b ↔ b < w.heap.size ∧ C.W b ∧ ¬ L b ∧ b ∉ Ds := fun b => by rw [hR]
  have hxlen : ∀ l k x W, ItE es L w l k x W → x.size = ps.size := by
    rintro l k x W ⟨v, hv, L1, _, h1⟩
    have := h1.1
    rw [hlen v (List.mem_of_getElem? hv)] at this
    simpa using this.symm
  -- the objects' values stand for good
  have hblk : ∀ id, id ∈ pn → ∃ x, ρ id = some x ∧ ∀ k, blk x = some k → R k := by
    intro id hi
    cases ho : mkS (pn.zip (sl 0)) id with
    | none => exact absurd ho (mkS_zip_some hl0 hi)
    | some o =>
      have hr := g0.g.ob id o ho
      obtain ⟨x, hx, hx2⟩ := hr.lt
      exact ⟨x, hx, fun k hk => (hRi k).2 ⟨(hx2 k hk).1, (hx2 k hk).2.1, (hx2 k hk).2.2, fun hD => hr.no_deferred hx hk (dd3 k hD).1⟩⟩
  have hsep : ∀ i j x y k, i ≠ j → i ∈ pn → j ∈ pn → ρ i = some x → ρ j = some y → blk x = some k → blk y ≠ some k :=
    fun i j x y k hij hi hj => g0.g.sep i j x y k hij (mkS_zip_some hl0 hi) (mkS_zip_some hl0 hj)
  have frame : ∀ {W1 : World}, Tch R w W1 → ∀ b, L b → W1.heap[b]? = w.heap[b]? := fun ht b hb => ht.block b (g0.g.ll b hb).1 fun hc => ((hRi b).1 hc).2.2.1 hb
  have mkG : ∀ (W1 : World) (l : List Ob) (W' L' : Nat → Prop) (ρ1 : Nat → Option Value) (LB' : Nat → Prop), (∀ o ∈ l, o.flatP pn) → Tch R w W1 → G W' LB' (mkS (pn.zip l)) W1 L' ρ1 → (∀ id, id ∈ pn → ρ1 id = ρ id) → G C.W C.LB (mkS (pn.zip l)) W1 L ρ := by
    intro W1 l W' L' ρ1 LB' hf ht hG hp
    refine ⟨fun b hb => ⟨Nat.lt_of_lt_of_le (g0.g.ll b hb).1 ht.size, (g0.g.ll b hb).2⟩, fun b hb => g0.g.new b (Nat.le_trans ht.size hb), fun id o ho => ?_, fun i j x y k hij hi hj => hsep i j x y k hij (mkS_zip_mem hi) (mkS_zip_mem hj), g0.g.glL fun b hb => ⟨hb, frame ht b hb⟩⟩
    have hi : id ∈ pn := mkS_zip_mem (by rw [ho]; simp)
    refine (hG.ob id o ho).flatP (hf o (mkS_zip_ob ho)) (fun j hj v hv => by rw [← hp j hj]; exact hv) (hp id hi).symm fun x k hx hk => ⟨rfl, ?_⟩
    obtain ⟨x', hx', hb⟩ := hblk id hi
    rw [hp id hi, hx'] at hx; injection hx with hx; subst hx
    exact ⟨((hRi k).1 (hb k hk)).2.1, ((hRi k).1 (hb k hk)).2.2.1⟩
  have keepG : ∀ (W1 W2 : World) (l : List Ob), (∀ o ∈ l, o.flatP pn) → Tch R w W1 → Below w.heap.size W1 W2 → G C.W C.LB (mkS (pn.zip l)) W1 L ρ → G C.W C.LB (mkS (pn.zip l)) W2 L ρ := by
    intro W1 W2 l hf ht hb hG
    refine ⟨fun b hbl => ⟨Nat.lt_of_lt_of_le (hG.ll b hbl).1 hb.size, (hG.ll b hbl).2⟩, fun b hbl => hG.new b (Nat.le_trans hb.size hbl), fun id o ho => ?_, hG.sep, hG.glL fun b hbl => ⟨hbl, hb.block b (g0.g.ll b hbl).1⟩⟩
    have hi : id ∈ pn := mkS_zip_mem (by rw [ho]; simp)
    refine (hG.ob id o ho).flatP (hf o (mkS_zip_ob ho)) (fun _ _ _ hv => hv) rfl fun x k hx hk => ?_
    obtain ⟨x', hx', hb'⟩ := hblk id hi
    rw [hx'] at hx; injection hx with hx; subst hx
    have := (hRi k).1 (hb' k hk)
    exact ⟨hb.block k this.1, this.2.1, this.2.2.1⟩
  have frD : ∀ {W1 : World}, Tch R w W1 → ∀ D ∈ Ds, W1.heap[D]? = some (.deferred (some [])) := fun ht D hD =>
    (ht.block D (Array.getElem?_eq_some_iff.1 (dd3 D hD).1).1 fun hc => ((hRi D).1 hc).2.2.2 hD).trans (dd3 D hD).1
  have mkGam : ∀ (D : Nat) (W1 : World) (l : List Ob), G C.W C.LB (mkS (pn.zip l)) W1 L ρ → Tch R w W1 → w.heap.size ≤ D → W1.heap[D]? = some (.deferred (some [])) →
      Gm C ⟨mkT tl, mkS (pn.zip l), 1⟩ { a with defers := { target := .collected D, args := #[] } :: a.defers } W1 := by
    intro D W1 l hG ht hD hDl
    refine ⟨L, ρ, ⟨hG, g0.fr, fun t => (g0.tm t).ext ⟨fun b hb => ⟨hb, frame ht b hb⟩, fun _ _ h => h⟩, g0.size, ⟨D :: Ds, ?_, List.nodup_cons.2 ⟨fun hc => ?_, dd2⟩, fun E hE => ?_⟩, g0.pin⟩⟩
    · simp only [marks, List.map_cons, dd1, List.cons_append]
    · have := (Array.getElem?_eq_some_iff.1 (dd3 D hc).1).1
      omega
    · rcases List.mem_cons.1 hE with rfl | hE
      · exact ⟨hDl, (g0.g.new E hD).1, fun hc => by have := (g0.g.ll E hc).1; omega⟩
      · exact ⟨frD ht E hE, (dd3 E hE).2⟩
  rw [hF]
  refine wp_range3 (gf := gf) (lb := lb) eg it1 (hit R fun b hb => ⟨((hRi b).1 hb).1, ((hRi b).1 hb).2.2.1⟩) (fun b hb => ((hRi b).1 hb).1) hxlen
    (fun k W => (ok k ∧ G C.W C.LB (mkS (pn.zip (sl k))) W L ρ) ∧ Tch R w W) (fun k c W => ∃ sx, X k c sx ∧ G C.W C.LB (mkS (pn.zip sx)) W L ρ ∧ Tch R w W)
    (fun k W1 W2 h hb => ⟨⟨h.1.1, keepG W1 W2 _ (hfl k) h.2 hb h.1.2⟩, h.2.later hb (Nat.le_refl _)⟩)
    (fun k c W1 W2 h hb => by obtain ⟨sx, h1, h2, h3⟩ := h; exact ⟨sx, h1, keepG W1 W2 _ (hfx k c sx h1) h3 hb h2, h3.later hb (Nat.le_refl _)⟩)
    ⟨⟨hok0, g0.g⟩, Tch.refl _ _⟩ ?hround ?hdone ?hstop
  case hdone =>
    rintro D W ⟨⟨hok, hG⟩, hT⟩ hD hDl
    exact ⟨_, hdone hok, mkGam D W _ hG hT hD hDl, hT.mono fun k _ h => ((hRi k).1 h).2.1⟩
  case hstop =>
    rintro D k c W hk ⟨sx, hX, hG, hT⟩ hD hDl
    have hst := hstop k c sx hk hX
    unfold AW at hst
    rw [hF] at hst
    refine wpIn_mono (hst _ W (mkGam D W sx hG hT hD hDl)) ?_
    rintro e a' w' ⟨s', q, g', t⟩
    exact ⟨s', q, g', (hT.mono fun k _ h => ((hRi k).1 h).2.1).trans t⟩
  case hround =>
    rintro l k x W hl hlW hkl ⟨v, hv, L1, hL1, hxr⟩ ⟨⟨hok, hG⟩, hT⟩
    obtain rfl : v = es[k] := by
      have : es[k]? = some es[k] := List.getElem?_eq_getElem hkl
      rw [hv] at this; injection this
    have e12 : Ext W L1 ρ0 W (fun b => L b ∨ L1 b) ρ := ⟨fun b hb => ⟨.inr hb, rfl⟩, fun _ _ h => by cases h⟩
    have e02 : ∀ {u : V} {y : Value}, Go.Ab.R w L ρ u y → Go.Ab.R W (fun b => L b ∨ L1 b) ρ u y := fun h => h.ext ⟨fun b hb => ⟨.inl hb, frame hT b hb⟩, fun _ _ h => h⟩
    have eLL : Ext W L ρ W (fun b => L b ∨ L1 b) ρ := ⟨fun b hb => ⟨.inl hb, rfl⟩, fun _ _ h => h⟩
    obtain ⟨C', e1, e2, e3, e4, e4t⟩ : ∃ C' : Cx P N, C'.W = (fun b => R b ∨ W.heap.size ≤ b) ∧ C'.LB = (fun b => ((C.LB b ∧ b < w.heap.size) ∨ W.heap.size ≤ b) ∨ L1 b) ∧ C'.F = Fence.wide.inRound l ∧ (∀ id, C'.dfs.pin id = if id ∈ pn then ρ id else none) ∧ C'.dfs.tl = [] :=
      ⟨⟨fun b => R b ∨ W.heap.size ≤ b, fun b => ((C.LB b ∧ b < w.heap.size) ∨ W.heap.size ≤ b) ∨ L1 b, fun b hb => by
          rcases hb with hb | hb
          · exact .inl (.inl ⟨C.wl b ((hRi b).1 hb).2.1, ((hRi b).1 hb).1⟩)
          · exact .inl (.inr hb),
        ⟨[], fun id => if id ∈ pn then ρ id else none, fun id x h => by
          by_cases hi : id ∈ pn
          · exact hpn' id hi
          · rw [if_neg hi] at h; cases h⟩, C.mx, Fence.wide.inRound l, .inr ⟨l, rfl⟩⟩, rfl, rfl, rfl, fun _ => rfl, rfl⟩
    have hr := round C' ⟨l, e3⟩ k _ hv hok
    unfold AW at hr
    rw [e3] at hr
    obtain ⟨z1, z2⟩ := setT_run (w := W) (L := fun b => L b ∨ L1 b) (ρ := ρ) ps.toList es[k] x.toList (mkT tl) a.tmps (fun p hp => by rw [g0.size]; exact hps' p hp)
      ⟨hxr.1, fun i u y hu hy => (hxr.2 i u y hu hy).ext e12⟩
      (fun i => e02 (g0.tm i))
    have ez : ((ps.toList.zip x.toList).foldl (fun t (p, v) => t.setIfInBounds p v) a.tmps) = (ps.zip x).foldl (fun t (p, v) => t.setIfInBounds p v) a.tmps := by
      rw [← Array.toList_zip, Array.foldl_toList]
    rw [ez] at z1 z2
    have gm : Gm C' ⟨setT (mkT tl) ps.toList es[k], mkS (pn.zip (sl k)), 1⟩ { tmps := (ps.zip x).foldl (fun t (p, v) => t.setIfInBounds p v) a.tmps, defers := [] } W := by
      refine ⟨fun b => L b ∨ L1 b, ρ, ⟨⟨fun b hb => ?_, fun b hb => ?_, fun id o ho => ?_, hG.sep, hG.glE eLL⟩, g0.fr, z2, z1.trans g0.size, ⟨[], by rw [e4t]; rfl, by simp, by simp⟩, fun id y hp => ?_⟩⟩
      · rw [e2]
        rcases hb with hb | hb
        · exact ⟨(hG.ll b hb).1, .inl (.inl ⟨(hG.ll b hb).2, (g0.g.ll b hb).1⟩)⟩
        · refine ⟨?_, .inr hb⟩
          rcases hL1 b hb with h | h
          · exact (hG.ll b h).1
          · exact h.2.1
      · rw [e1, e2]; exact ⟨.inr hb, .inl (.inr hb)⟩
      · have ho : mkS (pn.zip (sl k)) id = some o := ho
        have hi : id ∈ pn := mkS_zip_mem (by rw [ho]; simp)
        refine (hG.ob id o ho).flatP (hfl k o (mkS_zip_ob ho)) (fun _ _ _ hv => hv) rfl fun y j hy hj => ⟨rfl, ?_⟩
        obtain ⟨x', hx', hb⟩ := hblk id hi
        rw [hx'] at hy; injection hy with hy; subst hy
        rw [e1]
        refine ⟨.inl (hb j hj), ?_⟩
        rintro (h | h)
        · exact ((hRi j).1 (hb j hj)).2.2.1 h
        · have q := (hRi j).1 (hb j hj)
          rcases hL1 j h with h | h
          · exact q.2.2.1 h
          · omega
      · rw [e4] at hp
        split at hp
        · exact hp
        · cases hp
    refine wpIn_mono (hr _ W gm) ?_
    rintro e a1 W1 ⟨s1, hq, gm1, t1⟩
    rw [e1] at t1
    cases e with
    | normal =>
      have t1' : Tch R W W1 := t1.mono fun j hj h => by
        rcases h with h | h
        · exact h
        · omega
      refine ⟨t1', fun W2 ht2 => ?_⟩
      have gm2 : Gm C' s1 a1 W2 := by
        obtain ⟨L1, ρ1, g1⟩ := gm1
        have hnL : ¬ L1 l := fun hc => by
          have := (g1.g.ll l hc).2
          rw [e2] at this
          rcases this with (h | h) | h
          · omega
          · omega
          · rcases hL1 l h with h | h
            · have := (g0.g.ll l h).1; omega
            · omega
        have hnW : ¬ C'.W l := fun hc => by
          rw [e1] at hc
          rcases hc with h | h
          · have := ((hRi l).1 h).1; omega
          · omega
        have ex : Ext W1 L1 ρ1 W2 L1 ρ1 := ⟨fun b hb => ⟨hb, ht2.block b (g1.g.ll b hb).1 (by rintro rfl; exact hnL hb)⟩, fun _ _ h => h⟩
        refine ⟨L1, ρ1, ⟨⟨fun b hb => ⟨Nat.lt_of_lt_of_le (g1.g.ll b hb).1 ht2.size, (g1.g.ll b hb).2⟩, fun b hb => g1.g.new b (Nat.le_trans ht2.size hb), fun id o ho => ?_, g1.g.sep, g1.g.glE ex⟩, g1.fr, fun t => (g1.tm t).ext ex, g1.size, ?_, g1.pin⟩⟩
        · have hr1 := g1.g.ob id o ho
          obtain ⟨y, hy, hy2⟩ := hr1.lt
          refine hr1.keep ex fun x j hx hj => ?_
          rw [hx] at hy; injection hy with hy; subst hy
          exact ⟨ht2.block j (hy2 j hj).1 (by rintro rfl; exact hnW (hy2 _ hj).2.1), (hy2 j hj).2.2⟩
        · obtain ⟨Es, q1, q2, q3⟩ := g1.defers
          exact ⟨Es, q1, q2, fun D hD => ⟨(ht2.block D (Array.getElem?_eq_some_iff.1 (q3 D hD).1).1 (by rintro rfl; exact hnW (q3 _ hD).2.1)).trans (q3 D hD).1, (q3 D hD).2⟩⟩
      have hbw := hq a1 W2 gm2
      have fin : ∀ (e5 : Exit) (a5 : Act) (W5 : World) (s5 : S) (l5 : List Ob), Gm C' s5 a5 W5 → Tch C'.W W2 W5 → (∀ o ∈ l5, o.flatP pn) → Le s5 ⟨fun _ => .any, mkS (pn.zip l5), 1⟩ → Tch (fun i => R i ∨ W.heap.size ≤ i) W2 W5 ∧ G C.W C.LB (mkS (pn.zip l5)) W5 L ρ ∧ Tch R w W5 := by
        intro e5 a5 W5 s5 l5 gm5 t5 hf5 hle
        rw [e1] at t5
        have tw : Tch R w W5 := by
          have b1 := (hT.trans t1').later (ht2.below (B := w.heap.size) (Nat.le_trans hT.size t1'.size) (fun j hj => by omega)) (Nat.le_refl _)
          refine Tch.mono (R := fun i => R i ∨ W.heap.size ≤ i) ((b1.mono fun j _ h => .inl h).trans t5) fun j hj h => ?_
          rcases h with h | h
          · exact h
          · have := hT.size; omega
        obtain ⟨L5, ρ5, g5⟩ := hle C' a5 W5 gm5
        refine ⟨t5, mkG W5 l5 C'.W L5 ρ5 C'.LB hf5 tw g5.g fun id hi => ?_, tw⟩
        obtain ⟨x', hx', _⟩ := hblk id hi
        rw [hx']
        exact g5.pin id x' (by rw [e4, if_pos hi, hx'])
      refine wpIn_mono hbw ?_
      rintro e5 a5 W5 ⟨s5, hp5, gm5, t5⟩
      cases e5 with
      | normal => exact ⟨(fin .normal a5 W5 s5 _ gm5 t5 (hfl _) hp5.2).1, ⟨hp5.1, (fin .normal a5 W5 s5 _ gm5 t5 (hfl _) hp5.2).2.1⟩, (fin .normal a5 W5 s5 _ gm5 t5 (hfl _) hp5.2).2.2⟩
      | ret => obtain ⟨sx, hX, hle⟩ := hp5; exact ⟨(fin .ret a5 W5 s5 _ gm5 t5 (hfx _ _ _ hX) hle).1, sx, hX, (fin .ret a5 W5 s5 _ gm5 t5 (hfx _ _ _ hX) hle).2⟩
      | exit id => obtain ⟨sx, hX, hle⟩ := hp5; exact ⟨(fin .ret a5 W5 s5 _ gm5 t5 (hfx _ _ _ hX) hle).1, sx, hX, (fin .ret a5 W5 s5 _ gm5 t5 (hfx _ _ _ hX) hle).2⟩
      | goto t => obtain ⟨sx, hX, hle⟩ := hp5; exact ⟨(fin .ret a5 W5 s5 _ gm5 t5 (hfx _ _ _ hX) hle).1, sx, hX, (fin .ret a5 W5 s5 _ gm5 t5 (hfx _ _ _ hX) hle).2⟩
      | panic c => exact hp5.elim
      | outgrown => exact hp5.elim
    | ret => exact hq.elim
    | exit id => exact hq.elim
    | goto t => exact hq.elim
    | panic c => exact hq.elim
    | outgrown => exact hq.elim
end Go.Ab
