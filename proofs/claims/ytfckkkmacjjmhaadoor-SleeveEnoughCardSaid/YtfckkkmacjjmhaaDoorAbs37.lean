/-
  The walk of an iterator's body, which calls the yield of a loop whose rounds lay memory of their own. Conditions: told in each theorem.
-/
import Derived.Test.YtfckkkmacjjmhaaDoorAbs36
namespace Go.Ab
open Go.RowKit Go.Dw Go.Shelf

/-- the loop that an iterator serves -/
structure YE4 (P : Program) (es : List (List V)) where
  l : Nat
  J : Nat → Bool → (Nat → Prop) → World → Prop
  L0 : Nat → Prop
  B : Nat
  hY : ∀ k x A W1, k < es.length → ItE4 es k x W1 → (∀ b, A b → B ≤ b ∧ b < W1.heap.size) → B ≤ W1.heap.size → J k true A W1 → YieldAt Fence.wide 0 P l x W1 fun e W2 => ∃ b : Bool, e = .returned (.bool b) ∧ Tch (fun i => ¬ A i ∧ ¬ L0 i) W1 W2 ∧ (b = true → J (k + 1) true A W2) ∧ (b = false → J k false A W2)
  hJ : ∀ k g A W1 W2, J k g A W1 → (∀ b, A b → B ≤ b ∧ b < W1.heap.size) → B ≤ W1.heap.size → Tch A W1 W2 → J k g (fun b => A b ∨ (W1.heap.size ≤ b ∧ b < W2.heap.size)) W2
  hL : ∀ b, L0 b → b < B
/-- the frame's memory is what it laid itself -/
structure YC4 {P : Program} {N : Nat} {es : List (List V)} (C : Cx P N) (Y : YE4 P es) (A : Nat → Prop) (w : World) : Prop where
  F : C.F = Fence.wide
  d : C.dfs = dp0
  W : ∀ b, C.W b ↔ A b ∨ w.heap.size ≤ b
  LB : ∀ b, C.LB b → Y.L0 b ∨ A b ∨ w.heap.size ≤ b
  A : ∀ b, A b → Y.B ≤ b ∧ b < w.heap.size
  B : Y.B ≤ w.heap.size
def AWJ4 {P : Program} (N : Nat) {es : List (List V)} (Y : YE4 P es) (c : Code) (Q : Exit → S → Nat → Bool → Prop) (s : S) (k : Nat) (g : Bool) : Prop :=
  ∀ (C : Cx P N) (A : Nat → Prop) a w, YC4 C Y A w → Gm C s a w → Y.J k g A w → c.wpIn Fence.wide 0 P (fun e a' w' => ∃ (s' : S) (k' : Nat) (g' : Bool) (C' : Cx P N) (A' : Nat → Prop), Q e s' k' g' ∧ YC4 C' Y A' w' ∧ Gm C' s' a' w' ∧ Y.J k' g' A' w') a w

section
variable {P : Program} {N : Nat} {es : List (List V)} {Y : YE4 P es} {Q : Exit → S → Nat → Bool → Prop} {s : S} {k : Nat} {g : Bool}
theorem YC4.later {C : Cx P N} {A : Nat → Prop} {w w' : World} (h : YC4 C Y A w) (t : Tch C.W w w') : YC4 C Y (fun b => A b ∨ (w.heap.size ≤ b ∧ b < w'.heap.size)) w' ∧ Tch A w w' := by
  have hs := t.size
  refine ⟨⟨h.F, h.d, fun b => (h.W b).trans ?_, fun b hb => ?_, fun b hb => ?_, Nat.le_trans h.B hs⟩, t.mono fun j hj hW => by rcases (h.W j).1 hW with h | h; exact h; omega⟩
  · constructor
    · rintro (h | h)
      · exact .inl (.inl h)
      · by_cases hb : b < w'.heap.size
        · exact .inl (.inr ⟨h, hb⟩)
        · exact .inr (by omega)
    · rintro ((h | h) | h)
      · exact .inl h
      · exact .inr h.1
      · exact .inr (by omega)
  · rcases h.LB b hb with h | h | h
    · exact .inl h
    · exact .inr (.inl (.inl h))
    · by_cases hb : b < w'.heap.size
      · exact .inr (.inl (.inr ⟨h, hb⟩))
      · exact .inr (.inr (by omega))
  · rcases hb with hb | hb
    · exact ⟨(h.A b hb).1, Nat.lt_of_lt_of_le (h.A b hb).2 hs⟩
    · exact ⟨Nat.le_trans h.B hb.1, hb.2⟩
/-- code without a yield -/
theorem awj4_aw {c : Code} (h : ∀ C : Cx P N, C.F = Fence.wide → C.dfs = dp0 → AW C c (fun e s' => Q e s' k g) s) : AWJ4 N Y c Q s k g := by
  intro C A a w yc gm hj
  have := h C yc.F yc.d a w gm
  rw [yc.F] at this
  refine wpIn_mono this ?_
  rintro e a' w' ⟨s', q, gm', t⟩
  obtain ⟨y1, y2⟩ := yc.later t
  exact ⟨s', k, g, C, _, q, y1, gm', Y.hJ _ _ _ _ _ hj yc.A yc.B y2⟩
theorem awj4_le {c : Code} {s' : S} (h : Le s s') (x : AWJ4 N Y c Q s' k g) : AWJ4 N Y c Q s k g := fun C A a w yc gm => x C A a w yc (h C a w gm)
theorem awj4_seq {x y : Code} (h : AWJ4 N Y x (XThenJ (fun s' k' g' => AWJ4 N Y y Q s' k' g') Q) s k g) : AWJ4 N Y (.seq x y) Q s k g := by
  intro C A a w yc gm hj
  refine wpIn_seq (wpIn_mono (h C A a w yc gm hj) ?_)
  rintro e a' w' ⟨s', k', g', C', A', q, yc', gm', hj'⟩
  cases e with
  | normal => exact q C' A' a' w' yc' gm' hj'
  | _ => exact ⟨s', k', g', C', A', q, yc', gm', hj'⟩
/-- a part without a yield, and what follows -/
theorem awj4_seq_a {x y : Code} (h : ∀ C : Cx P N, C.F = Fence.wide → C.dfs = dp0 → ∀ K : S → Prop, (∀ s', AWJ4 N Y y Q s' k g → K s') → AW C x (XThen K (fun e s' => Q e s' k g)) s) : AWJ4 N Y (.seq x y) Q s k g := by
  refine awj4_seq (awj4_aw fun C hF hC => aw_mono (h C hF hC _ fun _ h => h) ?_)
  intro e s' q
  cases e <;> exact q
theorem awj4_block {id : Nat} {c : Code} (h : AWJ4 N Y c (XBlockJ id Q) s k g) : AWJ4 N Y (.block id c) Q s k g := by
  intro C A a w yc gm hj
  refine wpIn_block (wpIn_mono (h C A a w yc gm hj) ?_)
  rintro e a' w' ⟨s', k', g', C', A', q, r⟩
  cases e with
  | exit id' =>
    simp only [Exit.inBlock, XBlockJ] at q ⊢
    split at q
    · rename_i h; rw [if_pos h]; exact ⟨s', k', g', C', A', q, r⟩
    · rename_i h; rw [if_neg h]; exact ⟨s', k', g', C', A', q, r⟩
  | _ => exact ⟨s', k', g', C', A', q, r⟩
theorem awj4_cond {c : Operand} {x y : Code} {t : Bool} (hc : ev s.tm c = .b t) (h1 : t = true → AWJ4 N Y x Q s k g) (h2 : t = false → AWJ4 N Y y Q s k g) : AWJ4 N Y (.cond c x y) Q s k g := by
  intro C A a w yc gm hj
  obtain ⟨L, ρ, g'⟩ := gm
  have := g'.tm.eval g'.g.gl c
  rw [hc] at this
  refine wpIn_cond this.c_inv ?_
  cases t with
  | true => exact h1 rfl C A a w yc ⟨L, ρ, g'⟩ hj
  | false => exact h2 rfl C A a w yc ⟨L, ρ, g'⟩ hj
theorem awj4_ret (h : Q .ret s k g) : AWJ4 N Y .ret Q s k g := fun C A _ _ yc gm hj => wpIn_ret ⟨s, k, g, C, A, h, yc, gm, hj⟩
theorem awj4_exit {id : Nat} (h : Q (.exit id) s k g) : AWJ4 N Y (.exit id) Q s k g := fun C A _ _ yc gm hj => wpIn_exit ⟨s, k, g, C, A, h, yc, gm, hj⟩
theorem awj4_skip (h : Q .normal s k g) : AWJ4 N Y .skip Q s k g := fun C A _ _ yc gm hj => wpIn_skip ⟨s, k, g, C, A, h, yc, gm, hj⟩
open Classical in
theorem awj4_loop {ι : Type} {c : Code} (I : ι → S) (kk : ι → Nat) (ok : ι → Prop) (μ : ι → Nat) (x0 : ι) (hx : ok x0) (h0 : Le s (I x0)) (hk : kk x0 = k)
    (round : ∀ x, ok x → AWJ4 N Y c (XThenJ (fun s' k' g' => g' = true ∧ ∃ y, ok y ∧ Le s' (I y) ∧ kk y = k' ∧ μ y < μ x) Q) (I x) (kk x) true) : AWJ4 N Y (.loop c) Q s k true := by
  intro C A a w yc gm hj
  have pr : ∃ q : Act → World → Nat → Prop, q = fun a' w' n => ∃ (x : ι) (C' : Cx P N) (A' : Nat → Prop), ok x ∧ μ x = n ∧ YC4 C' Y A' w' ∧ Gm C' (I x) a' w' ∧ Y.J (kk x) true A' w' := ⟨_, rfl⟩
  obtain ⟨q, hq⟩ := pr
  have hqi : ∀ a' w' n, q a' w' n ↔ ∃ (x : ι) (C' : Cx P N) (A' : Nat → Prop), ok x ∧ μ x = n ∧ YC4 C' Y A' w' ∧ Gm C' (I x) a' w' ∧ Y.J (kk x) true A' w' := fun a' w' n => by rw [hq]
  refine wpIn_loop (fun a' w' => ∃ n, q a' w' n) (fun a' w' => if h : ∃ n, q a' w' n then (least _ h).choose else 0) ⟨μ x0, (hqi _ _ _).2 ⟨x0, C, A, hx, rfl, yc, h0 C a w gm, by rw [hk]; exact hj⟩⟩ ?_
  rintro a' w' hex
  have hl := (least _ hex).choose_spec
  obtain ⟨x, C', A', hok, hμ, yc', g', hj'⟩ := (hqi _ _ _).1 hl.1
  refine wpIn_mono (round x hok C' A' a' w' yc' g' hj') ?_
  rintro e a'' w'' ⟨s'', k'', g'', C'', A'', r, yc'', gm'', hj''⟩
  cases e with
  | normal =>
    obtain ⟨rfl, y, hy, hle, hky, hlt⟩ := r
    have hqy : q a'' w'' (μ y) := (hqi _ _ _).2 ⟨y, C'', A'', hy, rfl, yc'', hle C'' _ _ gm'', by rw [hky]; exact hj''⟩
    refine ⟨⟨μ y, hqy⟩, ?_⟩
    rw [dif_pos ⟨μ y, hqy⟩, dif_pos hex]
    have h1 := (least _ ⟨μ y, hqy⟩).choose_spec.2 (μ y) hqy
    omega
  | _ => exact ⟨s'', k'', g'', C'', A'', r, yc'', gm'', hj''⟩
end

/-- what is owed at a yield -/
structure YS4 {P : Program} (N : Nat) {es : List (List V)} (Y : YE4 P es) (ops : Array Oper) (nx : Nat) (os : List Oper) (fo : Operand) (ar : Array Operand) (d : Nat) (Q : Exit → S → Nat → Bool → Prop) (k : Nat) (tm : Nat → V) (σ : Nat → Option Ob) : Prop where
  hf : ev tm fo = .c (.func (.yield Y.l) #[] #[])
  hv : ∃ v, es[k]? = some v ∧ A2 (ar.toList.map (ev tm)) v
  fl : V.flatL (ar.toList.map (ev tm)) = true ∧ ∀ v, es[k]? = some v → V.flatL v = true
  t : ∀ C : Cx P N, C.F = Fence.wide → C.dfs = dp0 → AOps C ops nx os (upd tm d (.b true)) σ [] fun tm' σ' _ => Q .normal ⟨tm', σ', nx + 1⟩ (k + 1) true
  f : ∀ C : Cx P N, C.F = Fence.wide → C.dfs = dp0 → AOps C ops nx os (upd tm d (.b false)) σ [] fun tm' σ' _ => Q .normal ⟨tm', σ', nx + 1⟩ k false
/-- a region that holds a yield -/
theorem awj4_yield {P : Program} {N : Nat} {es : List (List V)} {Y : YE4 P es} {Q : Exit → S → Nat → Bool → Prop} {id nx k : Nat} {ol : List Oper} {tm : Nat → V} {σ : Nat → Option Ob} (n : Nat) {fo : Operand} {ar : Array Operand} {ats : Array TypeId} {d : Nat} {ty : TypeId} {pos : String} {af : Array Edge}
    (hok : okReg N ol = true) (hy : ol[n]? = some ⟨some d, .call { callee := .value fo, args := ar, argTypes := ats }, ty, pos, af, none⟩)
    (h : ∀ C : Cx P N, C.F = Fence.wide → C.dfs = dp0 → AOps C ol.toArray nx (ol.take n) tm σ [] fun tm1 σ1 _ => YS4 N Y ol.toArray nx (ol.drop (n + 1)) fo ar d Q k tm1 σ1) : AWJ4 N Y (.region id ol.toArray false) Q ⟨tm, σ, nx⟩ k true := by
  intro C A a w yc ⟨L, ρ, g⟩ hj
  obtain ⟨h1, h2⟩ := okReg_spec hok
  obtain ⟨tr, tm1, σ1, h3, ys⟩ := (h C yc.F yc.d).run
  have hn : n < ol.length := (List.getElem?_eq_some_iff.1 hy).1
  obtain ⟨y, hyd⟩ : ∃ y : Oper, y = ⟨some d, .call { callee := .value fo, args := ar, argTypes := ats }, ty, pos, af, none⟩ := ⟨_, rfl⟩
  have hsp : ol = ol.take n ++ y :: ol.drop (n + 1) := by
    rw [hyd]
    have e1 : ol.drop n = ol[n] :: ol.drop (n + 1) := List.drop_eq_getElem_cons hn
    have e2 : ol[n] = _ := (List.getElem?_eq_some_iff.1 hy).2
    rw [← e2, ← e1, List.take_append_drop]
  refine wpIn_region ?_
  have hsz : ol.toArray.size = (ol.take n).length + (y :: ol.drop (n + 1)).length := by
    simp; omega
  rw [List.range_eq_range', hsz]
  have hmem : ∀ o ∈ ol.take n ++ y :: ol.drop (n + 1), o ∈ ol := fun o ho => by rwa [← hsp] at ho
  refine run_pre (P := P) (W := C.W) (LB := C.LB) (ops := ol.toArray) (nx := nx) (N := N) (dfs := C.dfs) (.inl rfl) (by simpa using h1) (y :: ol.drop (n + 1)) (ol.take n) 0 tr tm tm1 σ σ1 a w w L ρ (freshA nx) (fun j => by rw [← hsp]; simp) h3 g (fun o ho t ht id h5 h6 h7 => h5) (fun id hid => freshA_succ hid) (by rw [← hsp]; exact h2) (Tch.refl _ _) ?_
  intro a1 W1 L1 ρ1 fr1 g1 q1 q2 t1
  rw [Nat.zero_add, List.length_take, Nat.min_eq_left (Nat.le_of_lt hn), List.length_cons, List.range'_succ, wpOpsIn_cons]
  obtain ⟨yc1, ta1⟩ := yc.later t1
  have hj1 := Y.hJ _ _ _ _ _ hj yc.A yc.B ta1
  obtain ⟨A1, hA1⟩ : ∃ A1 : Nat → Prop, A1 = fun b => A b ∨ (w.heap.size ≤ b ∧ b < W1.heap.size) := ⟨_, rfl⟩
  rw [← hA1] at yc1 hj1
  obtain ⟨v, hv, ha⟩ := ys.hv
  have hk : k < es.length := (List.getElem?_eq_some_iff.1 hv).1
  have hargs : RV W1 (fun _ => False) ρ0 v (ar.map a1.eval).toList := by
    refine ha.rv ⟨by simp, fun i u x hu hx => ?_⟩
    have hu' := hu
    simp only [List.getElem?_map, Option.map_eq_some_iff, Array.toList_map] at hu hx
    obtain ⟨p, hp, rfl⟩ := hu
    obtain ⟨q, hq, rfl⟩ := hx
    rw [hp] at hq
    injection hq with hq
    subst hq
    exact (g1.tm.eval g1.g.gl p).flat (V.flatL_get ys.fl.1 hu')
  have hLl : ∀ b, L1 b → Y.L0 b ∨ A1 b := fun b hb => by
    have := g1.g.ll b hb
    rcases yc1.LB b this.2 with h | h | h
    · exact .inl h
    · exact .inr h
    · omega
  obtain ⟨fn, tmps, assign, body, hyr, hR⟩ := Y.hY k (ar.map a1.eval) A1 W1 hk ⟨v, hv, ys.fl.2 v hv, hargs⟩ yc1.A yc1.B hj1
  have hfe : a1.eval fo = .func (.yield Y.l) #[] #[] := by
    have := g1.tm.eval g1.g.gl fo
    rw [ys.hf] at this
    exact this.c_inv
  have ho : ol.toArray[n]? = some y := by simp [hy, hyd]
  unfold wpOpIn
  rw [ho]
  simp only
  have hwt : Region.wanted y (yielded ol.toArray a1.tmps) = true := by rw [hyd]; rfl
  rw [if_pos hwt]
  refine ⟨fun f _ => trivial, ?_⟩
  have hrun : (y.semAt Fence.wide.round a1.eval).run P W1 = .ok (.round Y.l fn tmps assign body) W1 := by
    rw [Oper.semAt_eq _ _ _ (fun c e => by rw [hyd] at e; cases e), hyd]
    simp [execOp, resolve, Deferred.ofValue, invoke, hfe, hyr]
  rw [hrun, Oper.uponIn_round]
  refine ⟨fun e => by simp [Fence.wide] at e, hR.mono ?_⟩
  rintro e W2 ⟨b, rfl, ht2, j1, j2⟩
  have hyd2 : y.dst = some d := by rw [hyd]
  have hdN : d < N := h1 y (hmem y (by simp)) d hyd2
  obtain ⟨C2, c1, c2, c3, c4⟩ : ∃ C2 : Cx P N, C2.W = (fun b => A1 b ∨ W2.heap.size ≤ b) ∧ C2.LB = (fun b => Y.L0 b ∨ A1 b ∨ W2.heap.size ≤ b) ∧ C2.dfs = C.dfs ∧ C2.F = Fence.wide :=
    ⟨⟨fun b => A1 b ∨ W2.heap.size ≤ b, fun b => Y.L0 b ∨ A1 b ∨ W2.heap.size ≤ b, fun b h => .inr h, C.dfs, C.mx, Fence.wide, .inl rfl⟩, rfl, rfl, rfl, rfl⟩
  have yc2 : YC4 C2 Y A1 W2 := ⟨c4, c3.trans yc.d, fun b => by rw [c1], fun b hb => by rw [c2] at hb; exact hb, fun b hb => ⟨(yc1.A b hb).1, Nat.lt_of_lt_of_le (yc1.A b hb).2 ht2.size⟩, Nat.le_trans yc1.B ht2.size⟩
  have ex : Ext W1 L1 ρ1 W2 L1 ρ1 := ⟨fun b hb => ⟨hb, ht2.block b (g1.g.ll b hb).1 fun hc => (hLl b hb).elim hc.2 hc.1⟩, fun _ _ h => h⟩
  have inA : ∀ b, b < W1.heap.size → C.W b → A1 b := fun b hb hW => by
    rcases (yc1.W b).1 hW with h | h
    · exact h
    · omega
  have gb : ∀ z : Bool, z = b → Gam C2.W C2.LB N C2.dfs fr1 (upd tm1 d (.b z)) σ1 (a1.put y.dst (.bool b)) W2 L1 ρ1 := by
    rintro z rfl
    rw [hyd2, c1, c2, c3]
    refine ⟨⟨fun b hb => ⟨Nat.lt_of_lt_of_le (g1.g.ll b hb).1 ht2.size, ?_⟩, fun b hb => ⟨.inr hb, .inr (.inr hb)⟩, fun id o ho => ?_, g1.g.sep, g1.g.glE ex⟩, g1.fr, (show TM (updO tm1 (some d) (V.b z)) _ _ _ _ from (g1.tm.ext ex).put (fun t ht => by injection ht with ht; rw [← ht, g1.size]; exact hdN) (.c _ _)), by simp [Act.put, g1.size], ?_, g1.pin⟩
    · rcases hLl b hb with h | h
      · exact .inl h
      · exact .inr (.inl h)
    · have hr1 := g1.g.ob id o ho
      obtain ⟨u, hu, hu2⟩ := hr1.lt
      refine hr1.keepW ex fun x j hx hj => ?_
      rw [hx] at hu; injection hu with hu; subst hu
      have hA := inA j (hu2 j hj).1 (hu2 j hj).2.1
      exact ⟨ht2.block j (hu2 j hj).1 fun hc => hc.1 hA, (hu2 j hj).2.2, .inl hA⟩
    · obtain ⟨Es, p1, p2, p3⟩ := g1.defers
      refine ⟨Es, p1, p2, fun D hD => ?_⟩
      have hlt := (Array.getElem?_eq_some_iff.1 (p3 D hD).1).1
      have hA := inA D hlt (p3 D hD).2.1
      exact ⟨(ht2.block D hlt fun hc => hc.1 hA).trans (p3 D hD).1, .inl hA, (p3 D hD).2.2⟩
  have hnd : ((ol.drop (n + 1)).filterMap (·.dst)).Nodup := by
    rw [hsp, List.filterMap_append, List.filterMap_cons, hyd2] at h2
    exact (List.nodup_cons.1 (List.nodup_append.1 h2).2.1).2
  have tail : ∀ (z : Bool) (k' : Nat), z = b → Y.J k' z A1 W2 → AOps C2 ol.toArray nx (ol.drop (n + 1)) (upd tm1 d (.b z)) σ1 [] (fun tm' σ' _ => Q .normal ⟨tm', σ', nx + 1⟩ k' z) →
      wpOpsIn Fence.wide 0 P ol.toArray (fun e a' w' => ∃ (s' : S) (k' : Nat) (g' : Bool) (C' : Cx P N) (A' : Nat → Prop), Q e s' k' g' ∧ YC4 C' Y A' w' ∧ Gm C' s' a' w' ∧ Y.J k' g' A' w') (List.range' (n + 1) (ol.drop (n + 1)).length) (a1.put y.dst (.bool b)) W2 := by
    intro z k' hz hj' hA
    obtain ⟨tr2, tm2, σ2, h4, hq⟩ := hA.run
    refine run_text (P := P) (W := C2.W) (LB := C2.LB) (ops := ol.toArray) (nx := nx) (N := N) (dfs := C2.dfs) (.inl rfl) (by simpa using h1) (ol.drop (n + 1)) (n + 1) tr2 _ tm2 _ σ2 _ W2 W2 L1 ρ1 fr1 (fun j => by simp) h4 (gb z hz) (fun o ho => q1 o (by simp [ho])) q2 hnd (Tch.refl _ _) fun a' w' L' ρ' g' t' => ?_
    obtain ⟨y1, y2⟩ := yc2.later t'
    exact ⟨⟨tm2, σ2, nx + 1⟩, k', z, C2, _, hq, y1, ⟨L', ρ', g'⟩, Y.hJ _ _ _ _ _ hj' yc2.A yc2.B y2⟩
  cases b with
  | true => exact tail true (k + 1) rfl (j1 rfl) (ys.t C2 c4 (c3.trans yc.d))
  | false => exact tail false k rfl (j2 rfl) (ys.f C2 c4 (c3.trans yc.d))

theorem ait4_intro {T : List TI} {P : Program} (hT : TabOk T P) (hmx : P.follows .mixedOrders = true) {f : FuncId} {fn : Func} {c : Code} {N : Nat} (hk : FnOk P f fn c N) (hres : fn.results = #[]) {caps : List V} {es : List (List V)} (hargs : caps.length + 1 ≤ N)
    (h : ∀ Y : YE4 P es, AWJ4 N Y c (EndIt es.length) ⟨fun t => ((V.c (.func (.yield Y.l) #[] #[])) :: caps).getD t .any, fun _ => none, 1⟩ 0 true) : AIt4 P f caps es := by
  refine ⟨hk.call, fun L w lb hL hgl hlb => ?_⟩
  intro l J W hsz hLW hl hlW hJ hY h0
  obtain ⟨C, cW, cLB, cd, cF⟩ : ∃ C : Cx P N, C.W = (fun b => W.heap.size ≤ b) ∧ C.LB = (fun b => L b ∨ W.heap.size ≤ b) ∧ C.dfs = dp0 ∧ C.F = Fence.wide := ⟨⟨fun b => W.heap.size ≤ b, fun b => L b ∨ W.heap.size ≤ b, fun b h => .inr h, dp0, hmx, Fence.wide, .inl rfl⟩, rfl, rfl, rfl, rfl⟩
  obtain ⟨Y, yl, yJ, yL, yB⟩ : ∃ Y : YE4 P es, Y.l = l ∧ Y.J = J ∧ Y.L0 = L ∧ Y.B = W.heap.size :=
    ⟨⟨l, J, L, W.heap.size, hY, hJ, fun b hb => Nat.lt_of_lt_of_le (hL b hb) hsz⟩, rfl, rfl, rfl, rfl⟩
  have yc : YC4 C Y (fun _ => False) W := ⟨cF, cd, fun b => by rw [cW]; simp, fun b hb => by rw [cLB] at hb; rw [yL]; exact hb.elim .inl fun h => .inr (.inr h), fun _ h => h.elim, by rw [yB]; exact Nat.le_refl _⟩
  have hvs : RV W L ρ0 ((V.c (.func (.yield Y.l) #[] #[])) :: caps) (#[Value.func (.yield l) #[] #[]] ++ lb).toList := by
    have e1 : (#[Value.func (.yield l) #[] #[]] ++ lb).toList = Value.func (.yield l) #[] #[] :: lb.toList := by simp
    rw [e1, yl]
    exact .cons (.c _ _) ⟨hlb.1, fun i u x hu hx => (hlb.2 i u x hu hx).ext ⟨fun b hb => ⟨hb, hLW b hb⟩, fun _ _ h => h⟩⟩
  generalize hargsL : ((V.c (.func (.yield Y.l) #[] #[])) :: caps) = args at hvs
  generalize (#[Value.func (.yield l) #[] #[]] ++ lb) = vs at hvs
  have hal : args.length = caps.length + 1 := by rw [← hargsL]; simp
  have hvl : vs.size = args.length := by have := hvs.1; simpa using this.symm
  refine callsIn_of_wp_marks (n := 0) hk.hf hk.hb trivial ?_ rfl
  have hw := h Y
  rw [hargsL] at hw
  refine wpIn_mono (hw C _ _ W yc ⟨L, ρ0, ⟨⟨fun b hb => ⟨Nat.lt_of_lt_of_le (hL b hb) hsz, by rw [cLB]; exact .inl hb⟩, fun b hb => ⟨by rw [cW]; exact hb, by rw [cLB]; exact .inr hb⟩, (fun id o ho => by cases ho), fun i j x y k _ hi => absurd rfl hi, fun g => (hgl g).mono (fun b hb => ⟨hb, hLW b hb⟩) fun _ _ h => h⟩, fun _ _ => rfl, fun t => ?_, ?_, ?_, fun id x hp => by rw [cd] at hp; cases hp⟩⟩ ?_) ?_
  · by_cases ht : t < args.length
    · have h1 : args[t]? = some args[t] := List.getElem?_eq_getElem ht
      obtain ⟨x, hx, hr⟩ := hvs.get h1
      have e1 : args.getD t .any = args[t] := by simp [List.getD_eq_getElem?_getD, h1]
      have e2 : (vs ++ Array.replicate (fn.ntmps - vs.size) undef).getD t undef = x := by
        rw [Array.getD_eq_getD_getElem?, Array.getElem?_append_left (by omega)]
        have : vs[t]? = some x := by simpa using hx
        rw [this]; rfl
      show Go.Ab.R W L ρ0 (args.getD t .any) _
      rw [e1, e2]; exact hr
    · have e1 : args.getD t .any = .any := by simp [List.getD_eq_getElem?_getD, List.getElem?_eq_none (Nat.le_of_not_lt ht)]
      show Go.Ab.R W L ρ0 (args.getD t .any) _
      rw [e1]; exact .any _ _
  · have := hk.hn
    simp; omega
  · exact ⟨[], by rw [cd]; rfl, by simp, by simp⟩
  · rw [yJ]; exact h0
  · rintro e a' w' ⟨s', k, g, C', A', ⟨he, hg1, hg2⟩, yc', ⟨L', ρ', g'⟩, hj⟩
    obtain ⟨Ds, d1, d2, d3⟩ := g'.defers
    rw [yc'.d, show dp0.tl = [] from rfl, List.append_nil] at d1
    refine end_marks' Ds he d1 d2 (fun D hD => (d3 D hD).1) fun w2 ht2 => ?_
    obtain ⟨g2, e2⟩ := g'.g.marks ht2 d3
    obtain ⟨x, hx, _⟩ := resV_run hT g2 (fun t => (g'.tm t).ext e2) fn (v := .tup []) (by rw [hres]; rfl)
    have hj2 := Y.hJ k g A' _ _ hj yc'.A yc'.B (ht2.mono fun D hl hD => by
      rcases (yc'.W D).1 (d3 D hD).2.1 with h | h
      · exact h
      · omega)
    rw [yJ] at hj2
    refine ⟨x, hx, ⟨x, rfl⟩, fun b => A' b ∨ (w'.heap.size ≤ b ∧ b < w2.heap.size), fun b hb => ?_, ?_⟩
    rotate_left
    · cases g with
      | true =>
        have := hg1 rfl; subst this
        exact .inl hj2
      | false => exact .inr ⟨k, hg2 rfl, hj2⟩
    · rcases hb with hb | hb
      · have := (yc'.A b hb).1
        rw [yB] at this; exact this
      · have := yc'.B
        rw [yB] at this; omega
end Go.Ab
