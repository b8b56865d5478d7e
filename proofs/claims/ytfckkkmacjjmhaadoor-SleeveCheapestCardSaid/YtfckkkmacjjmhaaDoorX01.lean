/-
  Several texts in one: The walk of an iterator's body, which calls the yield of a loop whose rounds lay memory of their own. Conditions: told in each theorem. .. Contracts whose answers are seen otherwise. No condition.
-/
import Derived.RecoverIn
import Derived.Test.YtfckkkmacjjmhaaDoorX00
import Derived.Test.YtfckkkmacjjmhaaDoorMD
namespace Go.Ab
open Go.RowKit Go.Dw Go.Shelf
structure YE4 (P : Program) (es : List (List V)) where
 l : Nat
 J : Nat → Bool → (Nat → Prop) → World → Prop
 L0 : Nat → Prop
 B : Nat
 hY : ∀ k x A W1, k < es.length → ItE4 es k x W1 → (∀ b, A b → B ≤ b ∧ b < W1.heap.size) → B ≤ W1.heap.size → J k true A W1 → YieldAt Fence.wide 0 P l x W1 fun e W2 => ∃ b : Bool, e = .returned (.bool b) ∧ Tch (fun i => ¬ A i ∧ ¬ L0 i) W1 W2 ∧ (b = true → J (k + 1) true A W2) ∧ (b = false → J k false A W2)
 hJ : ∀ k g A W1 W2, J k g A W1 → (∀ b, A b → B ≤ b ∧ b < W1.heap.size) → B ≤ W1.heap.size → Tch A W1 W2 → J k g (fun b => A b ∨ (W1.heap.size ≤ b ∧ b < W2.heap.size)) W2
 hL : ∀ b, L0 b → b < B
structure YC4 {P : Program} {N : Nat} {es : List (List V)} (C : Cx P N) (Y : YE4 P es) (A : Nat → Prop) (w : World) : Prop where
 F : C.F = Fence.wide
 d : C.dfs = dp0
 W : ∀ b, C.W b ↔ A b ∨ w.heap.size ≤ b
 LB : ∀ b, C.LB b → Y.L0 b ∨ A b ∨ w.heap.size ≤ b
 A : ∀ b, A b → Y.B ≤ b ∧ b < w.heap.size
 B : Y.B ≤ w.heap.size
def AWJ4 {P : Program} (N : Nat) {es : List (List V)} (Y : YE4 P es) (c : Code) (Q : Exit → S → Nat → Bool → Prop) (s : S) (k : Nat) (g : Bool) : Prop :=
 ∀ (C : Cx P N) (A : Nat → Prop) a w, YC4 C Y A w → Gm C s a w → Y.J k g A w → c.wpIn Fence.wide 0 P (fun e a' w' => ∃ (s' : S) (k' : Nat) (g' : Bool) (C' : Cx P N) (A' : Nat → Prop), Q e s' k' g' ∧ YC4 C' Y A' w' ∧ Gm C' s' a' w' ∧ Y.J k' g' A' w') a w
section
variable {P : Program} {N : Nat} {es : List (List V)} {Y : YE4 P es} {Q : Exit → S → Nat → Bool → Prop} {s : S} {k : Nat} {g : Bool}
theorem YC4.later {C : Cx P N} {A : Nat → Prop} {w w' : World} (h : YC4 C Y A w) (t : Tch C.W w w') : YC4 C Y (fun b => A b ∨ (w.heap.size ≤ b ∧ b < w'.heap.size)) w' ∧ Tch A w w' := by
 have hs := t.size
 refine ⟨⟨h.F, h.d, fun b => (h.W b).trans ?_, fun b hb => ?_, fun b hb => ?_, Nat.le_trans h.B hs⟩, t.mono fun j hj hW => by rcases (h.W j).1 hW with h | h; exact h; omega⟩
 ·
  constructor
  ·
   rintro (h | h)
   ·
    exact .inl (.inl h)
   ·
    by_cases hb : b < w'.heap.size
    ·
     exact .inl (.inr ⟨h, hb⟩)
    ·
     exact .inr oM
  ·
   rintro ((h | h) | h)
   ·
    exact .inl h
   ·
    exact .inr h.1
   ·
    exact .inr oM
 ·
  rcases h.LB b hb with h | h | h
  ·
   exact .inl h
  ·
   exact .inr (.inl (.inl h))
  ·
   by_cases hb : b < w'.heap.size
   ·
    exact .inr (.inl (.inr ⟨h, hb⟩))
   ·
    exact .inr (.inr oM)
 ·
  rcases hb with hb | hb
  ·
   exact ⟨(h.A b hb).1, Nat.lt_of_lt_of_le (h.A b hb).2 hs⟩
  ·
   exact ⟨Nat.le_trans h.B hb.1, hb.2⟩
theorem awj4_aw {c : Code} (h : ∀ C : Cx P N, C.F = Fence.wide → C.dfs = dp0 → AW C c (fun e s' => Q e s' k g) s) : AWJ4 N Y c Q s k g := by
 intro C A a w yc gm hj
 have := h C yc.F yc.d a w gm
 rw [yc.F] at this
 refine wpIn_mono this ?_
 rintro e a' w' ⟨s', q, gm', t⟩
 obtain ⟨y1, y2⟩ := yc.later t
 exact ⟨s', k, g, C, _, q, y1, gm', Y.hJ _ _ _ _ _ hj yc.A yc.B y2⟩
theorem awj4_seq {x y : Code} (h : AWJ4 N Y x (XThenJ (fun s' k' g' => AWJ4 N Y y Q s' k' g') Q) s k g) : AWJ4 N Y (.seq x y) Q s k g := by
 intro C A a w yc gm hj
 refine wpIn_seq (wpIn_mono (h C A a w yc gm hj) ?_)
 rintro e a' w' ⟨s', k', g', C', A', q, yc', gm', hj'⟩
 cases e with
 | normal => exact q C' A' a' w' yc' gm' hj'
 | _ => exact ⟨s', k', g', C', A', q, yc', gm', hj'⟩
theorem awj4_seq_a {x y : Code} (h : ∀ C : Cx P N, C.F = Fence.wide → C.dfs = dp0 → ∀ K : S → Prop, (∀ s', AWJ4 N Y y Q s' k g → K s') → AW C x (XThen K (fun e s' => Q e s' k g)) s) : AWJ4 N Y (.seq x y) Q s k g := by
 refine awj4_seq (awj4_aw fun C hF hC => aw_mono (h C hF hC _ fun _ h => h) ?_)
 intro e s' q
 cases e <;> exact q
theorem awj4_block {id : Nat} {c : Code} (h : AWJ4 N Y c (XBlockJ id Q) s k g) : AWJ4 N Y (.block id c) Q s k g := by
 intro C A a w yc gm hj
 refine wpIn_block (wpIn_mono (h C A a w yc gm hj) ?_)
 rintro e a' w' ⟨s', k', g', C', A', q, r⟩
 cases e with
 | exit id' =>
  simp only [Exit.inBlock, XBlockJ] at q ⊢
  split at q
  ·
   rename_i h; rw [if_pos h]; exact ⟨s', k', g', C', A', q, r⟩
  ·
   rename_i h; rw [if_neg h]; exact ⟨s', k', g', C', A', q, r⟩
 | _ => exact ⟨s', k', g', C', A', q, r⟩
theorem awj4_cond {c : Operand} {x y : Code} {t : Bool} (hc : ev s.tm c = .b t) (h1 : t = true → AWJ4 N Y x Q s k g) (h2 : t = false → AWJ4 N Y y Q s k g) : AWJ4 N Y (.cond c x y) Q s k g := by
 intro C A a w yc gm hj
 obtain ⟨L, ρ, g'⟩ := gm
 have := g'.tm.eval g'.g.gl c
 rw [hc] at this
 refine wpIn_cond this.c_inv ?_
 cases t with
 | true => exact h1 rfl C A a w yc ⟨L, ρ, g'⟩ hj
 | false => exact h2 rfl C A a w yc ⟨L, ρ, g'⟩ hj
theorem awj4_ret (h : Q .ret s k g) : AWJ4 N Y .ret Q s k g := fun C A _ _ yc gm hj => wpIn_ret ⟨s, k, g, C, A, h, yc, gm, hj⟩
theorem awj4_skip (h : Q .normal s k g) : AWJ4 N Y .skip Q s k g := fun C A _ _ yc gm hj => wpIn_skip ⟨s, k, g, C, A, h, yc, gm, hj⟩
open Classical in
theorem awj4_loop {ι : Type} {c : Code} (I : ι → S) (kk : ι → Nat) (ok : ι → Prop) (μ : ι → Nat) (x0 : ι) (hx : ok x0) (h0 : Le s (I x0)) (hk : kk x0 = k)
  (round : ∀ x, ok x → AWJ4 N Y c (XThenJ (fun s' k' g' => g' = true ∧ ∃ y, ok y ∧ Le s' (I y) ∧ kk y = k' ∧ μ y < μ x) Q) (I x) (kk x) true) : AWJ4 N Y (.loop c) Q s k true := by
 intro C A a w yc gm hj
 have pr : ∃ q : Act → World → Nat → Prop, q = fun a' w' n => ∃ (x : ι) (C' : Cx P N) (A' : Nat → Prop), ok x ∧ μ x = n ∧ YC4 C' Y A' w' ∧ Gm C' (I x) a' w' ∧ Y.J (kk x) true A' w' := ⟨_, rfl⟩
 obtain ⟨q, hq⟩ := pr
 have hqi : ∀ a' w' n, q a' w' n ↔ ∃ (x : ι) (C' : Cx P N) (A' : Nat → Prop), ok x ∧ μ x = n ∧ YC4 C' Y A' w' ∧ Gm C' (I x) a' w' ∧ Y.J (kk x) true A' w' := fun a' w' n => by rw [hq]
 refine wpIn_loop (fun a' w' => ∃ n, q a' w' n) (fun a' w' => if h : ∃ n, q a' w' n then (least _ h).choose else 0) ⟨μ x0, (hqi _ _ _).2 ⟨x0, C, A, hx, rfl, yc, h0 C a w gm, by rw [hk]; exact hj⟩⟩ ?_
 rintro a' w' hex
 have hl := (least _ hex).choose_spec
 obtain ⟨x, C', A', hok, hμ, yc', g', hj'⟩ := (hqi _ _ _).1 hl.1
 refine wpIn_mono (round x hok C' A' a' w' yc' g' hj') ?_
 rintro e a'' w'' ⟨s'', k'', g'', C'', A'', r, yc'', gm'', hj''⟩
 cases e with
 | normal =>
  obtain ⟨rfl, y, hy, hle, hky, hlt⟩ := r
  have hqy : q a'' w'' (μ y) := (hqi _ _ _).2 ⟨y, C'', A'', hy, rfl, yc'', hle C'' _ _ gm'', by rw [hky]; exact hj''⟩
  refine ⟨⟨μ y, hqy⟩, ?_⟩
  rw [dif_pos ⟨μ y, hqy⟩, dif_pos hex]
  have h1 := (least _ ⟨μ y, hqy⟩).choose_spec.2 (μ y) hqy
  omega
 | _ => exact ⟨s'', k'', g'', C'', A'', r, yc'', gm'', hj''⟩
end
structure YS4 {P : Program} (N : Nat) {es : List (List V)} (Y : YE4 P es) (ops : Array Oper) (nx : Nat) (os : List Oper) (fo : Operand) (ar : Array Operand) (d : Nat) (Q : Exit → S → Nat → Bool → Prop) (k : Nat) (tm : Nat → V) (σ : Nat → Option Ob) : Prop where
 hf : ev tm fo = .c (.func (.yield Y.l) #[] #[])
 hv : ∃ v, es[k]? = some v ∧ A2 (ar.toList.map (ev tm)) v
 fl : V.flatL (ar.toList.map (ev tm)) = true ∧ ∀ v, es[k]? = some v → V.flatL v = true
 t : ∀ C : Cx P N, C.F = Fence.wide → C.dfs = dp0 → AOps C ops nx os (upd tm d (.b true)) σ [] fun tm' σ' _ => Q .normal ⟨tm', σ', nx + 1⟩ (k + 1) true
 f : ∀ C : Cx P N, C.F = Fence.wide → C.dfs = dp0 → AOps C ops nx os (upd tm d (.b false)) σ [] fun tm' σ' _ => Q .normal ⟨tm', σ', nx + 1⟩ k false
theorem awj4_yield {P : Program} {N : Nat} {es : List (List V)} {Y : YE4 P es} {Q : Exit → S → Nat → Bool → Prop} {id nx k : Nat} {ol : List Oper} {tm : Nat → V} {σ : Nat → Option Ob} (n : Nat) {fo : Operand} {ar : Array Operand} {ats : Array TypeId} {d : Nat} {ty : TypeId} {pos : String} {af : Array Edge}
  (hok : okReg N ol = true) (hy : ol[n]? = some ⟨some d, .call { callee := .value fo, args := ar, argTypes := ats }, ty, pos, af, none⟩)
  (h : ∀ C : Cx P N, C.F = Fence.wide → C.dfs = dp0 → AOps C ol.toArray nx (ol.take n) tm σ [] fun tm1 σ1 _ => YS4 N Y ol.toArray nx (ol.drop (n + 1)) fo ar d Q k tm1 σ1) : AWJ4 N Y (.region id ol.toArray false) Q ⟨tm, σ, nx⟩ k true := by
 intro C A a w yc ⟨L, ρ, g⟩ hj
 obtain ⟨h1, h2⟩ := okReg_spec hok
 obtain ⟨tr, tm1, σ1, h3, ys⟩ := (h C yc.F yc.d).run
 have hn : n < ol.length := (List.getElem?_eq_some_iff.1 hy).1
 obtain ⟨y, hyd⟩ : ∃ y : Oper, y = ⟨some d, .call { callee := .value fo, args := ar, argTypes := ats }, ty, pos, af, none⟩ := ⟨_, rfl⟩
 have hsp : ol = ol.take n ++ y :: ol.drop (n + 1) := by
  rw [hyd]
  have e1 : ol.drop n = ol[n] :: ol.drop (n + 1) := List.drop_eq_getElem_cons hn
  have e2 : ol[n] = _ := (List.getElem?_eq_some_iff.1 hy).2
  rw [← e2, ← e1, List.take_append_drop]
 refine wpIn_region ?_
 have hsz : ol.toArray.size = (ol.take n).length + (y :: ol.drop (n + 1)).length := by
  simp; omega
 rw [List.range_eq_range', hsz]
 have hmem : ∀ o ∈ ol.take n ++ y :: ol.drop (n + 1), o ∈ ol := fun o ho => by rwa [← hsp] at ho
 refine run_pre (P := P) (W := C.W) (LB := C.LB) (ops := ol.toArray) (nx := nx) (N := N) (dfs := C.dfs) (.inl rfl) (by simpa using h1) (y :: ol.drop (n + 1)) (ol.take n) 0 tr tm tm1 σ σ1 a w w L ρ (freshA nx) (fun j => by rw [← hsp]; simp) h3 g (fun o ho t ht id h5 h6 h7 => h5) (fun id hid => freshA_succ hid) (by rw [← hsp]; exact h2) (Tch.refl _ _) ?_
 intro a1 W1 L1 ρ1 fr1 g1 q1 q2 t1
 rw [Nat.zero_add, List.length_take, Nat.min_eq_left (Nat.le_of_lt hn), List.length_cons, List.range'_succ, wpOpsIn_cons]
 obtain ⟨yc1, ta1⟩ := yc.later t1
 have hj1 := Y.hJ _ _ _ _ _ hj yc.A yc.B ta1
 obtain ⟨A1, hA1⟩ : ∃ A1 : Nat → Prop, A1 = fun b => A b ∨ (w.heap.size ≤ b ∧ b < W1.heap.size) := ⟨_, rfl⟩
 rw [← hA1] at yc1 hj1
 obtain ⟨v, hv, ha⟩ := ys.hv
 have hk : k < es.length := (List.getElem?_eq_some_iff.1 hv).1
 have hargs : RV W1 (fun _ => False) ρ0 v (ar.map a1.eval).toList := by
  refine ha.rv ⟨by simp, fun i u x hu hx => ?_⟩
  have hu' := hu
  simp only [List.getElem?_map, Option.map_eq_some_iff, Array.toList_map] at hu hx
  obtain ⟨p, hp, rfl⟩ := hu
  obtain ⟨q, hq, rfl⟩ := hx
  rw [hp] at hq
  injection hq with hq
  subst hq
  exact (g1.tm.eval g1.g.gl p).flat (V.flatL_get ys.fl.1 hu')
 have hLl : ∀ b, L1 b → Y.L0 b ∨ A1 b := fun b hb => by
  have := g1.g.ll b hb
  rcases yc1.LB b this.2 with h | h | h
  ·
   exact .inl h
  ·
   exact .inr h
  ·
   omega
 obtain ⟨fn, tmps, assign, body, hyr, hR⟩ := Y.hY k (ar.map a1.eval) A1 W1 hk ⟨v, hv, ys.fl.2 v hv, hargs⟩ yc1.A yc1.B hj1
 have hfe : a1.eval fo = .func (.yield Y.l) #[] #[] := by
  have := g1.tm.eval g1.g.gl fo
  rw [ys.hf] at this
  exact this.c_inv
 have ho : ol.toArray[n]? = some y := by simp [hy, hyd]
 unfold wpOpIn
 rw [ho]
 simp only
 have hwt : Region.wanted y (yielded ol.toArray a1.tmps) = true := by rw [hyd]; rfl
 rw [if_pos hwt]
 refine ⟨fun f _ => trivial, ?_⟩
 have hrun : (y.semAt Fence.wide.round a1.eval).run P W1 = .ok (.round Y.l fn tmps assign body) W1 := by
  rw [Oper.semAt_eq _ _ _ (fun c e => by rw [hyd] at e; cases e), hyd]
  simp [execOp, resolve, Deferred.ofValue, invoke, hfe, hyr]
 rw [hrun, Oper.uponIn_round]
 refine ⟨fun e => by simp [Fence.wide] at e, hR.mono ?_⟩
 rintro e W2 ⟨b, rfl, ht2, j1, j2⟩
 have hyd2 : y.dst = some d := by rw [hyd]
 have hdN : d < N := h1 y (hmem y (by simp)) d hyd2
 obtain ⟨C2, c1, c2, c3, c4⟩ : ∃ C2 : Cx P N, C2.W = (fun b => A1 b ∨ W2.heap.size ≤ b) ∧ C2.LB = (fun b => Y.L0 b ∨ A1 b ∨ W2.heap.size ≤ b) ∧ C2.dfs = C.dfs ∧ C2.F = Fence.wide :=
  ⟨⟨fun b => A1 b ∨ W2.heap.size ≤ b, fun b => Y.L0 b ∨ A1 b ∨ W2.heap.size ≤ b, fun b h => .inr h, C.dfs, C.mx, Fence.wide, .inl rfl⟩, rfl, rfl, rfl, rfl⟩
 have yc2 : YC4 C2 Y A1 W2 := ⟨c4, c3.trans yc.d, fun b => by rw [c1], fun b hb => by rw [c2] at hb; exact hb, fun b hb => ⟨(yc1.A b hb).1, Nat.lt_of_lt_of_le (yc1.A b hb).2 ht2.size⟩, Nat.le_trans yc1.B ht2.size⟩
 have ex : Ext W1 L1 ρ1 W2 L1 ρ1 := ⟨fun b hb => ⟨hb, ht2.block b (g1.g.ll b hb).1 fun hc => (hLl b hb).elim hc.2 hc.1⟩, fun _ _ h => h⟩
 have inA : ∀ b, b < W1.heap.size → C.W b → A1 b := fun b hb hW => by
  rcases (yc1.W b).1 hW with h | h
  ·
   exact h
  ·
   omega
 have gb : ∀ z : Bool, z = b → Gam C2.W C2.LB N C2.dfs fr1 (upd tm1 d (.b z)) σ1 (a1.put y.dst (.bool b)) W2 L1 ρ1 := by
  rintro z rfl
  rw [hyd2, c1, c2, c3]
  refine ⟨⟨fun b hb => ⟨Nat.lt_of_lt_of_le (g1.g.ll b hb).1 ht2.size, ?_⟩, fun b hb => ⟨.inr hb, .inr (.inr hb)⟩, fun id o ho => ?_, g1.g.sep, g1.g.glE ex⟩, g1.fr, (show TM (updO tm1 (some d) (V.b z)) _ _ _ _ from (g1.tm.ext ex).put (fun t ht => by injection ht with ht; rw [← ht, g1.size]; exact hdN) (.c _ _)), by simp [Act.put, g1.size], ?_, g1.pin⟩
  ·
   rcases hLl b hb with h | h
   ·
    exact .inl h
   ·
    exact .inr (.inl h)
  ·
   have hr1 := g1.g.ob id o ho
   obtain ⟨u, hu, hu2⟩ := hr1.lt
   refine hr1.keepW ex fun x j hx hj => ?_
   rw [hx] at hu; injection hu with hu; subst hu
   have hA := inA j (hu2 j hj).1 (hu2 j hj).2.1
   exact ⟨ht2.block j (hu2 j hj).1 fun hc => hc.1 hA, (hu2 j hj).2.2, .inl hA⟩
  ·
   obtain ⟨Es, p1, p2, p3⟩ := g1.defers
   refine ⟨Es, p1, p2, fun D hD => ?_⟩
   have hlt := (Array.getElem?_eq_some_iff.1 (p3 D hD).1).1
   have hA := inA D hlt (p3 D hD).2.1
   exact ⟨(ht2.block D hlt fun hc => hc.1 hA).trans (p3 D hD).1, .inl hA, (p3 D hD).2.2⟩
 have hnd : ((ol.drop (n + 1)).filterMap (·.dst)).Nodup := by
  rw [hsp, List.filterMap_append, List.filterMap_cons, hyd2] at h2
  exact (List.nodup_cons.1 (List.nodup_append.1 h2).2.1).2
 have tail : ∀ (z : Bool) (k' : Nat), z = b → Y.J k' z A1 W2 → AOps C2 ol.toArray nx (ol.drop (n + 1)) (upd tm1 d (.b z)) σ1 [] (fun tm' σ' _ => Q .normal ⟨tm', σ', nx + 1⟩ k' z) →
   wpOpsIn Fence.wide 0 P ol.toArray (fun e a' w' => ∃ (s' : S) (k' : Nat) (g' : Bool) (C' : Cx P N) (A' : Nat → Prop), Q e s' k' g' ∧ YC4 C' Y A' w' ∧ Gm C' s' a' w' ∧ Y.J k' g' A' w') (List.range' (n + 1) (ol.drop (n + 1)).length) (a1.put y.dst (.bool b)) W2 := by
  intro z k' hz hj' hA
  obtain ⟨tr2, tm2, σ2, h4, hq⟩ := hA.run
  refine run_text (P := P) (W := C2.W) (LB := C2.LB) (ops := ol.toArray) (nx := nx) (N := N) (dfs := C2.dfs) (.inl rfl) (by simpa using h1) (ol.drop (n + 1)) (n + 1) tr2 _ tm2 _ σ2 _ W2 W2 L1 ρ1 fr1 (fun j => by simp) h4 (gb z hz) (fun o ho => q1 o (by simp [ho])) q2 hnd (Tch.refl _ _) fun a' w' L' ρ' g' t' => ?_
  obtain ⟨y1, y2⟩ := yc2.later t'
  exact ⟨⟨tm2, σ2, nx + 1⟩, k', z, C2, _, hq, y1, ⟨L', ρ', g'⟩, Y.hJ _ _ _ _ _ hj' yc2.A yc2.B y2⟩
 cases b with
 | true => exact tail true (k + 1) rfl (j1 rfl) (ys.t C2 c4 (c3.trans yc.d))
 | false => exact tail false k rfl (j2 rfl) (ys.f C2 c4 (c3.trans yc.d))
theorem ait4_intro {T : List TI} {P : Program} (hT : TabOk T P) (hmx : P.follows .mixedOrders = true) {f : FuncId} {fn : Func} {c : Code} {N : Nat} (hk : FnOk P f fn c N) (hres : fn.results = #[]) {caps : List V} {es : List (List V)} (hargs : caps.length + 1 ≤ N)
  (h : ∀ Y : YE4 P es, AWJ4 N Y c (EndIt es.length) ⟨fun t => ((V.c (.func (.yield Y.l) #[] #[])) :: caps).getD t .any, fun _ => none, 1⟩ 0 true) : AIt4 P f caps es := by
 refine ⟨hk.call, fun L w lb hL hgl hlb => ?_⟩
 intro l J W hsz hLW hl hlW hJ hY h0
 obtain ⟨C, cW, cLB, cd, cF⟩ : ∃ C : Cx P N, C.W = (fun b => W.heap.size ≤ b) ∧ C.LB = (fun b => L b ∨ W.heap.size ≤ b) ∧ C.dfs = dp0 ∧ C.F = Fence.wide := ⟨⟨fun b => W.heap.size ≤ b, fun b => L b ∨ W.heap.size ≤ b, fun b h => .inr h, dp0, hmx, Fence.wide, .inl rfl⟩, rfl, rfl, rfl, rfl⟩
 obtain ⟨Y, yl, yJ, yL, yB⟩ : ∃ Y : YE4 P es, Y.l = l ∧ Y.J = J ∧ Y.L0 = L ∧ Y.B = W.heap.size :=
  ⟨⟨l, J, L, W.heap.size, hY, hJ, fun b hb => Nat.lt_of_lt_of_le (hL b hb) hsz⟩, rfl, rfl, rfl, rfl⟩
 have yc : YC4 C Y (fun _ => False) W := ⟨cF, cd, fun b => by rw [cW]; simp, fun b hb => by rw [cLB] at hb; rw [yL]; exact hb.elim .inl fun h => .inr (.inr h), fun _ h => h.elim, by rw [yB]; exact Nat.le_refl _⟩
 have hvs : RV W L ρ0 ((V.c (.func (.yield Y.l) #[] #[])) :: caps) (#[Value.func (.yield l) #[] #[]] ++ lb).toList := by
  have e1 : (#[Value.func (.yield l) #[] #[]] ++ lb).toList = Value.func (.yield l) #[] #[] :: lb.toList := by simp
  rw [e1, yl]
  exact .cons (.c _ _) ⟨hlb.1, fun i u x hu hx => (hlb.2 i u x hu hx).ext ⟨fun b hb => ⟨hb, hLW b hb⟩, fun _ _ h => h⟩⟩
 generalize hargsL : ((V.c (.func (.yield Y.l) #[] #[])) :: caps) = args at hvs
 generalize (#[Value.func (.yield l) #[] #[]] ++ lb) = vs at hvs
 have hal : args.length = caps.length + 1 := by rw [← hargsL]; simp
 have hvl : vs.size = args.length := by have := hvs.1; simpa using this.symm
 refine callsIn_of_wp_marks (n := 0) hk.hf hk.hb trivial ?_ rfl
 have hw := h Y
 rw [hargsL] at hw
 refine wpIn_mono (hw C _ _ W yc ⟨L, ρ0, ⟨⟨fun b hb => ⟨Nat.lt_of_lt_of_le (hL b hb) hsz, by rw [cLB]; exact .inl hb⟩, fun b hb => ⟨by rw [cW]; exact hb, by rw [cLB]; exact .inr hb⟩, (fun id o ho => by cases ho), fun i j x y k _ hi => absurd rfl hi, fun g => (hgl g).mono (fun b hb => ⟨hb, hLW b hb⟩) fun _ _ h => h⟩, fun _ _ => rfl, fun t => ?_, ?_, ?_, fun id x hp => by rw [cd] at hp; cases hp⟩⟩ ?_) ?_
 ·
  by_cases ht : t < args.length
  ·
   have h1 : args[t]? = some args[t] := List.getElem?_eq_getElem ht
   obtain ⟨x, hx, hr⟩ := hvs.get h1
   have e1 : args.getD t .any = args[t] := by simp [List.getD_eq_getElem?_getD, h1]
   have e2 : (vs ++ Array.replicate (fn.ntmps - vs.size) undef).getD t undef = x := by
    rw [Array.getD_eq_getD_getElem?, Array.getElem?_append_left oM]
    have : vs[t]? = some x := by simpa using hx
    rw [this]; rfl
   show Go.Ab.R W L ρ0 (args.getD t .any) _
   rw [e1, e2]; exact hr
  ·
   have e1 : args.getD t .any = .any := by simp [List.getD_eq_getElem?_getD, List.getElem?_eq_none (Nat.le_of_not_lt ht)]
   show Go.Ab.R W L ρ0 (args.getD t .any) _
   rw [e1]; exact .any _ _
 ·
  have := hk.hn
  simp; omega
 ·
  exact ⟨[], by rw [cd]; rfl, by simp, by simp⟩
 ·
  rw [yJ]; exact h0
 ·
  rintro e a' w' ⟨s', k, g, C', A', ⟨he, hg1, hg2⟩, yc', ⟨L', ρ', g'⟩, hj⟩
  obtain ⟨Ds, d1, d2, d3⟩ := g'.defers
  rw [yc'.d, show dp0.tl = [] from rfl, List.append_nil] at d1
  refine end_marks' Ds he d1 d2 (fun D hD => (d3 D hD).1) fun w2 ht2 => ?_
  obtain ⟨g2, e2⟩ := g'.g.marks ht2 d3
  obtain ⟨x, hx, _⟩ := resV_run hT g2 (fun t => (g'.tm t).ext e2) fn (v := .tup []) (by rw [hres]; rfl)
  have hj2 := Y.hJ k g A' _ _ hj yc'.A yc'.B (ht2.mono fun D hl hD => by
   rcases (yc'.W D).1 (d3 D hD).2.1 with h | h
   ·
    exact h
   ·
    omega)
  rw [yJ] at hj2
  refine ⟨x, hx, ⟨x, rfl⟩, fun b => A' b ∨ (w'.heap.size ≤ b ∧ b < w2.heap.size), fun b hb => ?_, ?_⟩
  rotate_left
  ·
   cases g with
   | true =>
    have := hg1 rfl; subst this
    exact .inl hj2
   | false => exact .inr ⟨k, hg2 rfl, hj2⟩
  ·
   rcases hb with hb | hb
   ·
    have := (yc'.A b hb).1
    rw [yB] at this; exact this
   ·
    have := yc'.B
    rw [yB] at this; omega
end Go.Ab

namespace Go.Ab
open Go.RowKit Go.Dw
theorem Real.weak {W W' : Nat → Prop} {w : World} {L : Nat → Prop} {ρ ρ' : Nat → Option Value} {id : Nat} {o : Ob} (h : Real W w L ρ id o) (hW : ∀ b, W b → W' b) (hρ : ∀ j y, ρ j = some y → ρ' j = some y) : Real W' w L ρ' id o := by
 have e : Ext w L ρ w L ρ' := ⟨fun _ hb => ⟨hb, rfl⟩, hρ⟩
 cases o with
 | box t cs =>
  obtain ⟨b, xs, h1, h2, h3, h4, h5⟩ := h
  exact ⟨b, xs, hρ _ _ h1, hW _ h2, h3, h4, h5.ext e⟩
 | row t sz n row =>
  obtain ⟨v, xs, h1, h2, h3, h4, h5⟩ := h
  exact ⟨v, xs, hρ _ _ h1, h2, h3, h4.ext e, fun k hk => ⟨hW _ (h5 k hk).1, (h5 k hk).2⟩⟩
 | mp str f =>
  obtain ⟨b, es, cl, h1, h2, h3, h4, h5⟩ := h
  exact ⟨b, es, cl, hρ _ _ h1, hW _ h2, h3, h4, h5.imp fun _ _ _ _ h => h.ext e⟩
theorem AC.row {P : Program} {f : FuncId} {args args' : List V} {v : V} {obs : List Ob} (h : AC P f args' v obs) (e : TypeId) {sz n n' : Nat} {row row' : Nat → List V} (ha : V.fzL 500 (.sl sz n row) args = args') (hi : V.idfL args' = true) (ho : obs.length ≤ 90) (hn : n' = n) (hr : ∀ i, i < n' → row' i = row i) (hi2 : ∀ i, V.idfL (row i) = true) :
  AM P f args [.row e sz n' row'] v [none] obs := by
 subst hn
 refine ⟨h.1, fun W LB L w ρ vs hwl hWL hG hρ hvs => ?_⟩
 have hσ : insF [.row e sz n' row'] 500 = some (.row e sz n' row') := rfl
 have hre : Real W w L ρ 500 (.row e sz n' row) := (hG.ob 500 _ hσ).eq ⟨rfl, rfl, rfl, hr⟩
 obtain ⟨v0, hv0, hlt, hs⟩ := hre.slice fun i _ => hi2 i
 have ex : Ext w L ρ w (fun b => L b ∨ blk v0 = some b) ρ := ⟨fun b hb => ⟨.inl hb, rfl⟩, fun _ _ h => h⟩
 have hrv : RV w (fun b => L b ∨ blk v0 = some b) ρ0 args' vs.toList := by
  refine RV.free (ρ := ρ) ?_ hi
  rw [← ha]
  refine ⟨by rw [V.fzL_len]; exact hvs.1, fun i u x hu hx => ?_⟩
  rw [V.fzL_get] at hu
  cases hc : args[i]? with
  | none => rw [hc] at hu; cases hu
  | some a =>
   rw [hc] at hu
   simp only [Option.map_some, Option.some.injEq] at hu
   subst hu
   refine R_fz (fun y hy => ?_) _ _ ((hvs.2 i a x hc hx).ext ex)
   rw [hv0] at hy; injection hy with hy; subst hy; exact hs
 refine (h.2 (fun b => L b ∨ blk v0 = some b) w vs (fun b hb => ?_) (hG.glE ex) hrv).mono ?_
 ·
  rcases hb with hb | hb
  ·
   exact (hG.ll b hb).1
  ·
   exact (hlt b hb).1
 rintro ee w' ⟨x, rfl, hbel, L', ρ', hG', hL', hv, hnn⟩
 obtain ⟨ρ2, hρ2⟩ : ∃ ρ2 : Nat → Option Value, ∀ id, ρ2 id = if id < obs.length then ρ' id else ρ id := ⟨_, fun _ => rfl⟩
 have hon : ∀ j y, ρ' j = some y → ρ2 j = some y := fun j y hy => by
  rw [hρ2]
  by_cases hj : j < obs.length
  ·
   rw [if_pos hj]; exact hy
  ·
   rw [hnn j oM] at hy; cases hy
 have ex2 : Ext w' L' ρ' w' L' ρ2 := ⟨fun _ hb => ⟨hb, rfl⟩, hon⟩
 refine ⟨x, rfl, Tch.of_below hbel fun k _ hk => (hG.new k hk).1, L', ρ2, ⟨fun b hb => ?_, fun b hb => hG.new b (Nat.le_trans hbel.size hb), fun id o hio => ?_, fun i j y z k hij hi hj hy hz => ?_, hG.glL fun b hb => ⟨hL' b (.inl hb), hbel.block b (hG.ll b hb).1⟩⟩, ⟨fun b hb => ⟨hL' b (.inl hb), hbel.block b (hG.ll b hb).1⟩, fun id y hy => ?_⟩, hv.ext ex2, fun j hj hj5 => ?_⟩
 ·
  have := hG'.ll b hb
  refine ⟨this.1, ?_⟩
  rcases this.2 with (h1 | h1) | h1
  ·
   exact (hG.ll b h1).2
  ·
   exact hwl b (hlt b h1).2.1
  ·
   exact (hG.new b h1).2
 ·
  have hob : obsF obs id = some o := by
   unfold outF at hio
   split at hio
   ·
    cases hq : ([none] : List (Option Ob))[id - 500]? with
    | none => rw [hq] at hio; cases hio
    | some q =>
     rw [hq] at hio
     have : q = none := by
      have := List.mem_of_getElem? hq
      simpa using this
     rw [this] at hio; cases hio
   ·
    exact hio
  exact (hG'.ob id o hob).weak (fun b hb => (hG.new b hb).1) hon
 ·
  have key : ∀ i, outF [none] obs i ≠ none → obsF obs i ≠ none ∧ i < obs.length := fun i hi => by
   unfold outF at hi
   split at hi
   ·
    exfalso
    apply hi
    cases hq : ([none] : List (Option Ob))[i - 500]? with
    | none => rfl
    | some q =>
     have : q = none := by
      have := List.mem_of_getElem? hq
      simpa using this
     rw [this]; rfl
   ·
    refine ⟨hi, ?_⟩
    cases hq : obs[i]? with
    | none => exact absurd hq hi
    | some q => exact (List.getElem?_eq_some_iff.1 hq).1
  rw [hρ2, if_pos (key i hi).2] at hy
  rw [hρ2, if_pos (key j hj).2] at hz
  exact hG'.sep i j y z k hij (key i hi).1 (key j hj).1 hy hz
 ·
  rw [hρ2]
  by_cases hid : id < obs.length
  ·
   rw [hρ id (.inl oM)] at hy; cases hy
  ·
   rw [if_neg hid]; exact hy
 ·
  rw [hρ2, if_neg oM]
  exact hρ j hj5
end Go.Ab

namespace Go.Ab
open Go.RowKit Go.Dw
theorem appRow_ok {k : Nat} {F G H : Nat → List V} {r : Nat → Nat} (h1 : ∀ i, i < k → F i = V.renL r (H i)) (h2 : G 0 = V.renL r (H k)) : ∀ i, i < k + 1 → appRow k F G i = V.renL r (H i) := by
 intro i hi
 by_cases h : i < k
 ·
  rw [appRow, if_pos h]; exact h1 i h
 ·
  obtain rfl : i = k := by omega
  rw [appRow, if_neg h, Nat.sub_self]; exact h2
theorem appRow_i {k : Nat} {f : Nat → Int} {G : Nat → List V} {r : Nat → Nat} {n : Int} (h2 : G 0 = [V.i n]) (h : n = f k) : ∀ i, i < k + 1 → appRow k (fun k => [V.i (f k)]) G i = V.renL r ((fun k => [V.i (f k)]) i) :=
 appRow_ok (fun _ _ => rfl) (by rw [h2, h]; rfl)
end Go.Ab

namespace Go.Ab
open Go.RowKit Go.Dw
structure MustOk (P : Program) (f : FuncId) (Tp : TypeId) : Prop where
 call : ∀ (args : Array Value) (w : World), (callFunc f args).run P w = .ok (.enter f args) w
 yes : ∀ (k : Int) (w : World), Calls P f #[.bool true, .int .i64 k] w fun e w' => e = .returned (.tuple #[]) ∧ w' = w
 no : ∀ (k : Int) (w : World), Calls P f #[.bool false, .int .i64 k] w fun e w' => e = .panicked [{ v := .iface Tp (.int .i64 k), recovered := false }] ∧ w' = w
def MS (f : FuncId) (Tp : TypeId) (fo : Operand) (ar : Array Operand) (d n' : Nat) (Q : Exit → S → Prop) (tm : Nat → V) (σ : Nat → Option Ob) : Prop :=
 ∃ (t : Bool) (k : Int), ev tm fo = .fn (.func f) [] [] ∧ ar.toList.map (ev tm) = [.b t, .i k] ∧ (t = true → Q .normal ⟨upd tm d (.tup []), σ, n'⟩) ∧ (t = false → Q (.panic [{ v := .iface Tp (.int .i64 k), recovered := false }]) ⟨tm, σ, n'⟩)
theorem aw_must {P : Program} {N : Nat} {C : Cx P N} {Q : Exit → S → Prop} {id nx : Nat} {ol : List Oper} {tm : Nat → V} {σ : Nat → Option Ob} {f : FuncId} {Tp : TypeId} (hm : MustOk P f Tp) (hF : C.F = Fence.wide) (n : Nat) {fo : Operand} {ar : Array Operand} {ats : Array TypeId} {d : Nat} {ty : TypeId} {pos : String} {af : Array Edge}
  (hok : okReg N ol = true) (hy : ol[n]? = some ⟨some d, .call { callee := .value fo, args := ar, argTypes := ats }, ty, pos, af, none⟩) (hl : ol.length = n + 1) {n' : Nat} (hn' : nx + 1 = n')
  (h : AOps C ol.toArray nx (ol.take n) tm σ [] fun tm1 σ1 _ => MS f Tp fo ar d n' Q tm1 σ1) :
  AW C (.region id ol.toArray false) Q ⟨tm, σ, nx⟩ := by
 subst hn'
 intro a w ⟨L, ρ, g⟩
 obtain ⟨h1, h2⟩ := okReg_spec hok
 obtain ⟨tr, tm1, σ1, h3, t, k, hf, hargs, hyes, hno⟩ := h.run
 have hn : n < ol.length := by omega
 obtain ⟨y, hyd⟩ : ∃ y : Oper, y = ⟨some d, .call { callee := .value fo, args := ar, argTypes := ats }, ty, pos, af, none⟩ := ⟨_, rfl⟩
 have hsp : ol = ol.take n ++ [y] := by
  rw [hyd]
  have e1 : ol.drop n = ol[n] :: ol.drop (n + 1) := List.drop_eq_getElem_cons hn
  have e2 : ol[n] = _ := (List.getElem?_eq_some_iff.1 hy).2
  have e3 : ol.drop (n + 1) = [] := List.drop_eq_nil_of_le oM
  rw [← e2, ← e3, ← e1, List.take_append_drop]
 rw [hF]
 refine wpIn_region ?_
 have hsz : ol.toArray.size = (ol.take n).length + [y].length := by
  simp; omega
 rw [List.range_eq_range', hsz]
 have hmem : ∀ o ∈ ol.take n ++ [y], o ∈ ol := fun o ho => by rwa [← hsp] at ho
 refine run_pre (P := P) (W := C.W) (LB := C.LB) (ops := ol.toArray) (nx := nx) (N := N) (dfs := C.dfs) (.inl rfl) (by simpa using h1) [y] (ol.take n) 0 tr tm tm1 σ σ1 a w w L ρ (freshA nx) (fun j => by rw [← hsp]; simp) h3 g (fun o ho t ht id h5 h6 h7 => h5) (fun id hid => freshA_succ hid) (by rw [← hsp]; exact h2) (Tch.refl _ _) ?_
 intro a1 W1 L1 ρ1 fr1 g1 q1 q2 t1
 rw [Nat.zero_add, List.length_take, Nat.min_eq_left (Nat.le_of_lt hn), List.length_cons, List.range'_succ, wpOpsIn_cons]
 have hfe := g1.tm.eval g1.g.gl fo
 rw [hf] at hfe
 obtain ⟨xs, ys, e1, hx, hyy⟩ := hfe.fn_inv
 have e2 : xs = #[] := by have := hx.1; simpa using this.symm
 have e3 : ys = #[] := by have := hyy.1; simpa using this.symm
 subst e2 e3
 have hav : ar.map a1.eval = #[.bool t, .int .i64 k] := by
  obtain ⟨l⟩ := ar
  have hlen : l.length = 2 := by have := congrArg List.length hargs; simpa using this
  obtain ⟨p, q, rfl⟩ : ∃ p q, l = [p, q] := by
   match l, hlen with
   | [p, q], _ => exact ⟨p, q, rfl⟩
  simp at hargs
  have r1 := g1.tm.eval g1.g.gl p
  have r2 := g1.tm.eval g1.g.gl q
  rw [hargs.1] at r1
  rw [hargs.2] at r2
  simp [r1.c_inv, r2.c_inv]
 have ho : ol.toArray[n]? = some y := by simp [hy, hyd]
 have hyd2 : y.dst = some d := by rw [hyd]
 unfold wpOpIn
 rw [ho]
 simp only
 have hwt : Region.wanted y (yielded ol.toArray a1.tmps) = true := by rw [hyd]; rfl
 rw [if_pos hwt]
 refine ⟨fun f _ => trivial, ?_⟩
 have hrun : (y.semAt Fence.wide.round a1.eval).run P W1 = .ok (.enter f #[.bool t, .int .i64 k]) W1 := by
  rw [Oper.semAt_eq _ _ _ (fun c e => by rw [hyd] at e; cases e), hyd]
  simp [execOp, resolve, Deferred.ofValue, invoke, e1, hm.call, hav]
 rw [hrun, Oper.uponIn_enter]
 refine ⟨fun e => by simp [Fence.wide] at e, callsIn_wide.2 ?_⟩
 cases t with
 | true =>
  refine (hm.yes k W1).mono ?_
  rintro e w' ⟨rfl, rfl⟩
  show wpOpsIn _ _ _ _ _ [] _ _
  have hdN : d < N := h1 y (hmem y (by simp)) d hyd2
  rw [hyd2]
  exact ⟨_, hyes rfl, ⟨L1, ρ1, g1.g, fun id hid => g1.fr id (q2 id hid), g1.tm.put (d := some d) (fun t ht => by injection ht with ht; rw [← ht, g1.size]; exact hdN) (.tup' .nil), by simp [Act.put, g1.size], g1.defers, g1.pin⟩, t1⟩
 | false =>
  refine (hm.no k W1).mono ?_
  rintro e w' ⟨rfl, rfl⟩
  exact ⟨_, hno rfl, ⟨L1, ρ1, g1.g, fun id hid => g1.fr id (q2 id hid), g1.tm, g1.size, g1.defers, g1.pin⟩, t1⟩
section
variable {next : S → Prop} {Q : Exit → S → Prop} {s : S} {ch : List PanicEntry} {id : Nat}
theorem xt_p (h : Q (.panic ch) s) : XThen next Q (.panic ch) s := h
theorem xb_p (h : Q (.panic ch) s) : XBlock id Q (.panic ch) s := h
end
theorem leaves_marksT {P : Program} {fn : Func} {tmps : Array Value} {R : Ending → World → Prop} {n : Nat} {u : FrameMode} (hu : u ≠ .run) {tl : List Deferred} : ∀ (Ds : List Nat) (w : World), Ds.Nodup → (∀ D ∈ Ds, w.heap[D]? = some (.deferred (some []))) →
  (∀ w', Tch (· ∈ Ds) w w' → LeavesInM Fence.wide n P fn tmps R tl u w') → LeavesInM Fence.wide n P fn tmps R (marks Ds ++ tl) u w
 | [], w, _, _, hR => hR w (Tch.refl _ _)
 | D :: Ds, w, hn, hD, hR => by
  refine ⟨hu, .inl ⟨D, w.putObj D (.deferred none), rfl, run_takeDeferred (hD D (by simp)), ?_⟩⟩
  have hn' := List.nodup_cons.1 hn
  refine leaves_marksT hu Ds _ hn'.2 (fun E hE => ?_) (fun w' ht => hR w' ?_)
  ·
   exact (World.putObj_heap_other (by rintro rfl; exact hn'.1 hE)).trans (hD E (by simp [hE]))
  ·
   exact (((Tch.refl _ w).putObj _ fun _ => by simp).trans (ht.mono fun k _ h => by simp [h]))
def dfd (df : FuncId) (b c : Nat) : Deferred := { target := .fn (.func df) #[.pointer (some ⟨b, 0, none⟩), .pointer (some ⟨c, 0, none⟩)], args := #[] }
structure DfOk (P : Program) (df : FuncId) (T : TypeId) : Prop where
 enter : ∀ (args : Array Value) (w : World), (callFunc df args).run P w = .ok (.enter df args) w
 idle : ∀ (b c : Nat) (w : World), CallsDIn Fence.wide 0 P df #[.pointer (some ⟨b, 0, none⟩), .pointer (some ⟨c, 0, none⟩)] .returning w fun e u' w' => (∃ v, e = .returned v) ∧ u' = .returning ∧ w' = w
 catch_ : ∀ (b c : Nat) (n : Int) (x y : Value) (w : World), w.cell? ⟨b, 0, none⟩ = some x → w.frozen? ⟨b, 0, none⟩ = false → w.cell? ⟨c, 0, none⟩ = some y → w.frozen? ⟨c, 0, none⟩ = false → b ≠ c →
  CallsDIn Fence.wide 0 P df #[.pointer (some ⟨b, 0, none⟩), .pointer (some ⟨c, 0, none⟩)] (.panicking [{ v := .iface T (.int .i64 n), recovered := false }]) w fun e u' w' =>
   (∃ v, e = .returned v) ∧ u' = .panicking [{ v := .iface T (.int .i64 n), recovered := true }] ∧ w' = (w.setCell ⟨b, 0, none⟩ (.slice none 0 0)).setCell ⟨c, 0, none⟩ (.int .i64 n)
def DPost (T : List TI) (fn : Func) (Tp : TypeId) (ta tb : Nat) (v : V) : Exit → S → Prop := fun e s =>
 ((e = .normal ∨ e = .ret) ∧ RetPost T fn v [] e s) ∨
 ∃ n t1 t2 u1 u2, e = .panic [{ v := .iface Tp (.int .i64 n), recovered := false }] ∧ v = .tup [.nil, .i n] ∧ s.tm ta = .ref 500 0 ∧ s.tm tb = .ref 501 0 ∧ s.σ 500 = some (.box t1 [u1]) ∧ s.σ 501 = some (.box t2 [u2])
section
variable {T : List TI} {P : Program}
theorem frozen0 {w : World} {b o : Nat} {xs : Array Value} {t : TypeId} (h : w.heap[b]? = some (.cells xs t (0, 0))) : w.frozen? ⟨b, o, none⟩ = false := by
 simp [World.frozen?, h]
theorem acd_intro (hT : TabOk T P) (hmx : P.follows .mixedOrders = true) {f : FuncId} {fn : Func} {r0 r1 rest : Code} {N : Nat} (hk : FnOk P f fn (.seq r0 (.seq r1 rest)) N) {args : List V} {v : V} (hargs : args.length ≤ N) {t1 t2 df Tp ta tb tf : Nat} {z1 z2 : V} {x1 x2 : Value}
  (ht : ta < N ∧ tb < N ∧ tf < N ∧ args.length ≤ ta ∧ args.length ≤ tb ∧ args.length ≤ tf ∧ ta ≠ tb ∧ ta ≠ tf ∧ tb ≠ tf) (hz1 : ∀ w L ρ, R w L ρ z1 x1) (hz2 : ∀ w L ρ, R w L ρ z2 x2) (ho1 : x1.oneCell' = true) (ho2 : x2.oneCell' = true)
  (hres : fn.results = #[.cell ta t1, .cell tb t2]) (ha1 : tAgg P t1 = some false) (ha2 : tAgg P t2 = some false) (hdf : DfOk P df Tp)
  (hpre : ∀ (vs : Array Value) (w : World) (Q : Exit → Act → World → Prop), vs.size = args.length →
   rest.wpIn Fence.wide 0 P Q ⟨(((vs ++ Array.replicate (fn.ntmps - vs.size) undef).setIfInBounds ta (.pointer (some ⟨w.heap.size, 0, none⟩))).setIfInBounds tb (.pointer (some ⟨w.heap.size + 1, 0, none⟩))).setIfInBounds tf (.func (.func df) #[] #[.pointer (some ⟨w.heap.size, 0, none⟩), .pointer (some ⟨w.heap.size + 1, 0, none⟩)]), [dfd df w.heap.size (w.heap.size + 1)]⟩
    ((w.alloc (.cells #[x1] t1)).alloc (.cells #[x2] t2)) →
   (Code.seq r0 (.seq r1 rest)).wpIn Fence.wide 0 P Q ⟨vs ++ Array.replicate (fn.ntmps - vs.size) undef, []⟩ w)
  (h : ∀ C : Cx P N, C.F = Fence.wide → AW C rest (DPost T fn Tp ta tb v) ⟨fun t => if t = ta then .ref 500 0 else if t = tb then .ref 501 0 else args.getD t .any, upd (upd (fun _ => none) 500 (some (.box t1 [z1]))) 501 (some (.box t2 [z2])), 1⟩) : AC P f args v [] := by
 refine ⟨hk.call, fun L w vs hL hgl hvs => ?_⟩
 obtain ⟨l1, l2, l3, l4, l5, l6, l7, l8, l9⟩ := ht
 obtain ⟨C, hW, hLB, hd, hFw, htl⟩ : ∃ C : Cx P N, C.W = (fun b => w.heap.size ≤ b) ∧ C.LB = (fun b => L b ∨ w.heap.size ≤ b) ∧ C.dfs.pin = upd (upd (fun _ => none) 500 (some (.pointer (some ⟨w.heap.size, 0, none⟩)))) 501 (some (.pointer (some ⟨w.heap.size + 1, 0, none⟩))) ∧ C.F = Fence.wide ∧ C.dfs.tl = [dfd df w.heap.size (w.heap.size + 1)] :=
  ⟨⟨fun b => w.heap.size ≤ b, fun b => L b ∨ w.heap.size ≤ b, fun b h => .inr h, ⟨[dfd df w.heap.size (w.heap.size + 1)], upd (upd (fun _ => none) 500 (some (.pointer (some ⟨w.heap.size, 0, none⟩)))) 501 (some (.pointer (some ⟨w.heap.size + 1, 0, none⟩))), fun id x hp => by
   unfold upd at hp
   split at hp
   ·
    omega
   ·
    split at hp
    ·
     omega
    ·
     cases hp⟩, hmx, Fence.wide, .inl rfl⟩, rfl, rfl, rfl, rfl, rfl⟩
 have hvl : vs.size = args.length := by have := hvs.1; simpa using this.symm
 refine callsIn_wide.1 (callsIn_of_wp_marks (n := 0) hk.hf hk.hb trivial ?_ rfl)
 refine hpre vs w _ hvl ?_
 have hw := h C hFw
 unfold AW at hw
 rw [hFw] at hw
 -- the state behind the head
 have g0 : G (fun b => w.heap.size ≤ b) (fun b => L b ∨ w.heap.size ≤ b) (fun _ => none) w L ρ0 := ⟨fun b hb => ⟨hL b hb, .inl hb⟩, fun b hb => ⟨hb, .inr hb⟩, (fun id o ho => by cases ho), fun i j x y k _ hi => absurd rfl hi, hgl⟩
 obtain ⟨g1, e1⟩ := g0.newBox (id := 500) rfl t1 (us := [z1]) (xs := #[x1]) (.cons (hz1 _ _ _) ho1 .nil)
 obtain ⟨g2, e2⟩ := g1.newBox (id := 501) (by rw [upd_ne _ _ oM]; rfl) t2 (us := [z2]) (xs := #[x2]) (.cons (hz2 _ _ _) ho2 .nil)
 have hs1 : (w.alloc (.cells #[x1] t1)).heap.size = w.heap.size + 1 := Array.size_push _
 rw [hs1] at g2 e2
 obtain ⟨w2, hw2⟩ : ∃ w2, w2 = (w.alloc (.cells #[x1] t1)).alloc (.cells #[x2] t2) := ⟨_, rfl⟩
 rw [← hw2] at g2 e2 ⊢
 have e := e1.trans e2
 have hb02 : Below w.heap.size w w2 := by
  have b1 := below_new w (.cells #[x1] t1)
  have b2 := below_new (w.alloc (.cells #[x1] t1)) (.cells #[x2] t2)
  rw [hw2]
  exact ⟨b2.os.trans b1.os, b2.tape.trans b1.tape, b2.output.trans b1.output, Nat.le_trans b1.size b2.size, fun k hk => (b2.block k (Nat.lt_of_lt_of_le hk b1.size)).trans (b1.block k hk)⟩
 obtain ⟨ρ2, hρ2⟩ : ∃ ρ2 : Nat → Option Value, ρ2 = upd (upd ρ0 500 (some (.pointer (some ⟨w.heap.size, 0, none⟩)))) 501 (some (.pointer (some ⟨w.heap.size + 1, 0, none⟩))) := ⟨_, rfl⟩
 rw [← hρ2] at g2 e2 e
 have r500 : ρ2 500 = some (.pointer (some ⟨w.heap.size, 0, none⟩)) := by rw [hρ2, upd_ne _ _ oM, upd_same]
 have r501 : ρ2 501 = some (.pointer (some ⟨w.heap.size + 1, 0, none⟩)) := by rw [hρ2, upd_same]
 have hnt := hk.hn
 refine wpIn_mono (hw _ w2 ⟨L, ρ2, ⟨?_, fun id hid => ?_, fun t => ?_, ?_, ?_, fun id x hp => ?_⟩⟩) ?_
 ·
  rw [hW, hLB]; exact g2
 ·
  have hid' : 1 * 100000 ≤ id := hid
  rw [hρ2, upd_ne _ _ oM, upd_ne _ _ oM]; rfl
 ·
  show R w2 L ρ2 (if t = ta then .ref 500 0 else if t = tb then .ref 501 0 else args.getD t .any) _
  have hsz : (vs ++ Array.replicate (fn.ntmps - vs.size) undef).size = N := by simp; omega
  by_cases h1 : t = ta
  ·
   subst h1
   rw [if_pos rfl]
   have : ((((vs ++ Array.replicate (fn.ntmps - vs.size) undef).setIfInBounds t (.pointer (some ⟨w.heap.size, 0, none⟩))).setIfInBounds tb (.pointer (some ⟨w.heap.size + 1, 0, none⟩))).setIfInBounds tf (.func (.func df) #[] #[.pointer (some ⟨w.heap.size, 0, none⟩), .pointer (some ⟨w.heap.size + 1, 0, none⟩)])).getD t undef = .pointer (some ⟨w.heap.size, 0, none⟩) := by
    simp [Array.getD_eq_getD_getElem?, Array.getElem?_setIfInBounds, Ne.symm l8, Ne.symm l7, hsz, l1, -Array.size_append]
   rw [this]
   exact .ref _ _ _ _ r500
  rw [if_neg h1]
  by_cases h2 : t = tb
  ·
   subst h2
   rw [if_pos rfl]
   have : ((((vs ++ Array.replicate (fn.ntmps - vs.size) undef).setIfInBounds ta (.pointer (some ⟨w.heap.size, 0, none⟩))).setIfInBounds t (.pointer (some ⟨w.heap.size + 1, 0, none⟩))).setIfInBounds tf (.func (.func df) #[] #[.pointer (some ⟨w.heap.size, 0, none⟩), .pointer (some ⟨w.heap.size + 1, 0, none⟩)])).getD t undef = .pointer (some ⟨w.heap.size + 1, 0, none⟩) := by
    simp [Array.getD_eq_getD_getElem?, Array.getElem?_setIfInBounds, Ne.symm l9, hsz, l2, -Array.size_append]
   rw [this]
   exact .ref _ _ _ _ r501
  rw [if_neg h2]
  by_cases htl : t < args.length
  ·
   have h3 : args[t]? = some args[t] := List.getElem?_eq_getElem htl
   obtain ⟨x, hx, hr⟩ := hvs.get h3
   have e3 : args.getD t .any = args[t] := by simp [List.getD_eq_getElem?_getD, h3]
   have e4 : ((((vs ++ Array.replicate (fn.ntmps - vs.size) undef).setIfInBounds ta (.pointer (some ⟨w.heap.size, 0, none⟩))).setIfInBounds tb (.pointer (some ⟨w.heap.size + 1, 0, none⟩))).setIfInBounds tf (.func (.func df) #[] #[.pointer (some ⟨w.heap.size, 0, none⟩), .pointer (some ⟨w.heap.size + 1, 0, none⟩)])).getD t undef = x := by
    have h5 : (vs ++ Array.replicate (fn.ntmps - vs.size) undef)[t]? = some x := by
     rw [Array.getElem?_append_left oM]; simpa using hx
    rw [Array.getD_eq_getD_getElem?, Array.getElem?_setIfInBounds, if_neg oM, Array.getElem?_setIfInBounds, if_neg oM, Array.getElem?_setIfInBounds, if_neg oM, h5]
    rfl
   rw [e3, e4]; exact hr.ext e
  ·
   have e3 : args.getD t .any = .any := by simp [List.getD_eq_getElem?_getD, List.getElem?_eq_none (Nat.le_of_not_lt htl)]
   rw [e3]; exact .any _ _
 ·
  simp; omega
 ·
  exact ⟨[], by rw [htl]; rfl, by simp, by simp⟩
 ·
  rw [hd] at hp; rw [hρ2]; exact hp
 ·
  rintro ex a' w' ⟨s', hpost, g', t⟩
  rw [hW] at t
  have hbel : Below w.heap.size w w' := by
   have := t.below (B := w.heap.size) hb02.size fun k hk => by omega
   exact ⟨this.os.trans hb02.os, this.tape.trans hb02.tape, this.output.trans hb02.output, Nat.le_trans hb02.size this.size, fun k hk => (this.block k hk).trans (hb02.block k hk)⟩
  rcases hpost with ⟨he, _, s'', hle, hres', _, hcv, _⟩ | ⟨n, t1', t2', u1, u2, rfl, rfl, hta, htb, h500, h501⟩
  ·
   obtain ⟨L', ρ', g''⟩ := hle C a' w' g'
   obtain ⟨Ds, d1, d2, d3⟩ := g''.defers
   have key : LeavesInM Fence.wide 0 P fn a'.tmps (fun e w' => ∃ x, e = .returned x ∧ Below w.heap.size w w' ∧ ∃ L' ρ', G (fun b => w.heap.size ≤ b) (fun b => L b ∨ w.heap.size ≤ b) (obsF []) w' L' ρ' ∧ (∀ b, L b → L' b) ∧ R w' L' ρ' v x ∧ ∀ (j : Nat), ([] : List Ob).length ≤ j → ρ' j = none) a'.defers .returning w' := by
    rw [d1, htl]
    refine leaves_marksT (by simp) Ds w' d2 (fun D hD => (d3 D hD).1) fun w2' ht2 => ?_
    refine ⟨by simp, .inr ⟨fun e => by simp [Fence.wide] at e, _, _, df, #[.pointer (some ⟨w.heap.size, 0, none⟩), .pointer (some ⟨w.heap.size + 1, 0, none⟩)], rfl, by simp [dfd, invoke, hdf.enter], fun _ _ => trivial, ?_⟩⟩
    have hdi := hdf.idle w.heap.size (w.heap.size + 1) w2'
    refine (show CallsDIn Fence.wide 0 P df _ _ w2' _ from by simpa using hdi).mono ?_
    rintro e u' w3 ⟨⟨x0, rfl⟩, rfl, rfl⟩
    obtain ⟨g3, e3⟩ := g''.g.marks ht2 d3
    obtain ⟨x, hx, hr⟩ := resV_run hT g3 (fun t => (g''.tm t).ext e3) fn hres'
    refine ⟨x, hx, x, rfl, ?_⟩
    have hWD : ∀ D ∈ Ds, w.heap.size ≤ D := fun D hD => by have := (d3 D hD).2.1; rw [hW] at this; exact this
    have hb2 : Below w.heap.size w w3 := ⟨ht2.os.trans hbel.os, ht2.tape.trans hbel.tape, ht2.output.trans hbel.output, Nat.le_trans hbel.size ht2.size, fun k hk => (ht2.block k (Nat.lt_of_lt_of_le hk hbel.size) fun hc => by have := hWD k hc; omega).trans (hbel.block k hk)⟩
    have hr2 : R w3 L' (fun i => ρ' (clamp 0 s''.nx i)) v x := R_ren _ _ _ (by rw [show clamp 0 s''.nx = clamp ([] : List Ob).length s''.nx from rfl, hcv]; exact hr)
    have hE2 : Ext w3 L' (fun i => ρ' (clamp 0 s''.nx i)) w3 (fun b => L' b ∨ L b) (fun i => ρ' (clamp 0 s''.nx i)) := ⟨fun b hb => ⟨.inl hb, rfl⟩, fun _ _ h => h⟩
    refine ⟨hb2, fun b => L' b ∨ L b, fun i => ρ' (clamp 0 s''.nx i), ⟨fun b hb => ?_, fun b hb => ⟨Nat.le_trans hb2.size hb, .inr (Nat.le_trans hb2.size hb)⟩, fun id o ho => by simp [obsF] at ho, fun i j x y k _ hi => by simp [obsF] at hi, g3.glL hE2.l⟩, fun b hb => .inr hb, hr2.ext hE2, fun j hj => ?_⟩
    ·
     rcases hb with hb | hb
     ·
      have := g3.ll b hb
      rw [hLB] at this
      exact ⟨this.1, this.2⟩
     ·
      exact ⟨Nat.lt_of_lt_of_le (hL b hb) hb2.size, .inl hb⟩
    ·
     have e3 : clamp 0 s''.nx j = s''.nx * 100000 + j := if_neg oM
     show ρ' (clamp 0 s''.nx j) = none
     rw [e3]
     exact g''.fr _ (by unfold freshA; omega)
   rcases he with rfl | rfl <;> exact key
  ·
   obtain ⟨L', ρ', g''⟩ := g'
   obtain ⟨Ds, d1, d2, d3⟩ := g''.defers
   have p500 : ρ' 500 = some (.pointer (some ⟨w.heap.size, 0, none⟩)) := g''.pin _ _ (by rw [hd, upd_ne _ _ oM, upd_same])
   have p501 : ρ' 501 = some (.pointer (some ⟨w.heap.size + 1, 0, none⟩)) := g''.pin _ _ (by rw [hd, upd_same])
   show LeavesInM Fence.wide 0 P fn a'.tmps _ a'.defers _ w'
   rw [d1, htl]
   refine leaves_marksT (by simp) Ds w' d2 (fun D hD => (d3 D hD).1) fun w2' ht2 => ?_
   obtain ⟨g3, e3⟩ := g''.g.marks ht2 d3
   have tm3 : ∀ t, R w2' L' ρ' (s'.tm t) (a'.tmps.getD t undef) := fun t => (g''.tm t).ext e3
   refine ⟨by simp, .inr ⟨fun e => by simp [Fence.wide] at e, _, _, df, #[.pointer (some ⟨w.heap.size, 0, none⟩), .pointer (some ⟨w.heap.size + 1, 0, none⟩)], rfl, by simp [dfd, invoke, hdf.enter], fun _ _ => trivial, ?_⟩⟩
   have ra := tm3 ta
   rw [hta] at ra
   have rb := tm3 tb
   rw [htb] at rb
   obtain ⟨b1, xs1, ea, eb, _, _, hh1, hl1⟩ := box_of g3 ra h500
   obtain ⟨b2, xs2, ea', eb', _, _, hh2, hl2⟩ := box_of g3 rb h501
   rw [p500] at eb; injection eb with eb; injection eb with eb; injection eb with eb; injection eb with eb
   rw [p501] at eb'; injection eb' with eb'; injection eb' with eb'; injection eb' with eb'; injection eb' with eb'
   subst eb eb'
   obtain ⟨y1, hy1, _⟩ := hl1.get (i := 0) rfl
   obtain ⟨y2, hy2, _⟩ := hl2.get (i := 0) rfl
   have c1 : w2'.cell? ⟨w.heap.size, 0, none⟩ = some y1 := by rw [cell_of_row w2' _ 0 xs1 t1' (0, 0) hh1]; simpa using hy1
   have c2 : w2'.cell? ⟨w.heap.size + 1, 0, none⟩ = some y2 := by rw [cell_of_row w2' _ 0 xs2 t2' (0, 0) hh2]; simpa using hy2
   have hdi := hdf.catch_ w.heap.size (w.heap.size + 1) n y1 y2 w2' c1 (frozen0 hh1) c2 (frozen0 hh2) oM
   refine (show CallsDIn Fence.wide 0 P df _ _ w2' _ from by simpa using hdi).mono ?_
   rintro e u' w3 ⟨⟨x0, rfl⟩, rfl, rfl⟩
   have hWD : ∀ D ∈ Ds, w.heap.size ≤ D := fun D hD => by have := (d3 D hD).2.1; rw [hW] at this; exact this
   have hb2 : Below w.heap.size w w2' := ⟨ht2.os.trans hbel.os, ht2.tape.trans hbel.tape, ht2.output.trans hbel.output, Nat.le_trans hbel.size ht2.size, fun k hk => (ht2.block k (Nat.lt_of_lt_of_le hk hbel.size) fun hc => by have := hWD k hc; omega).trans (hbel.block k hk)⟩
   have ht3 : Tch (fun b => w.heap.size ≤ b) w2' ((w2'.setCell ⟨w.heap.size, 0, none⟩ (.slice none 0 0)).setCell ⟨w.heap.size + 1, 0, none⟩ (.int .i64 n)) :=
    ((Tch.refl _ w2').setCell (p := ⟨w.heap.size, 0, none⟩) (fun _ => Nat.le_refl _) _).setCell (p := ⟨w.heap.size + 1, 0, none⟩) (fun _ => Nat.le_succ _) _
   have hb3 : Below w.heap.size w ((w2'.setCell ⟨w.heap.size, 0, none⟩ (.slice none 0 0)).setCell ⟨w.heap.size + 1, 0, none⟩ (.int .i64 n)) := by
    have := ht3.below (B := w.heap.size) hb2.size fun k hk => by omega
    exact ⟨this.os.trans hb2.os, this.tape.trans hb2.tape, this.output.trans hb2.output, Nat.le_trans hb2.size this.size, fun k hk => (this.block k hk).trans (hb2.block k hk)⟩
   have k1 : ((w2'.setCell ⟨w.heap.size, 0, none⟩ (.slice none 0 0)).setCell ⟨w.heap.size + 1, 0, none⟩ (.int .i64 n)).cell? ⟨w.heap.size, 0, none⟩ = some (.slice none 0 0) := by
    rw [World.cell?_setCell_other _ _ _ _ (by simp)]
    exact World.cell?_setCell_same _ _ _ c1
   have k2 : ((w2'.setCell ⟨w.heap.size, 0, none⟩ (.slice none 0 0)).setCell ⟨w.heap.size + 1, 0, none⟩ (.int .i64 n)).cell? ⟨w.heap.size + 1, 0, none⟩ = some (.int .i64 n) := by
    exact World.cell?_setCell_same (u := y2) _ _ _ (by rw [World.cell?_setCell_other _ _ _ _ (by simp)]; exact c2)
   refine ⟨.tuple #[.slice none 0 0, .int .i64 n], ?_, .tuple #[.slice none 0 0, .int .i64 n], rfl, hb3, L, ρ0, ⟨fun b hb => ⟨Nat.lt_of_lt_of_le (hL b hb) hb3.size, .inl hb⟩, fun b hb => ⟨Nat.le_trans hb3.size hb, .inr (Nat.le_trans hb3.size hb)⟩, fun id o ho => by simp [obsF] at ho, fun i j x y k _ hi => by simp [obsF] at hi, g0.glL fun b hb => ⟨hb, hb3.block b (hL b hb)⟩⟩, fun b hb => hb, .tup' (.cons (.nil _) (.cons (.c _ _) .nil)), fun _ _ => rfl⟩
   rw [results_eq, hres]
   have m1 := run_loadVar1 ha1 k1
   have m2 := run_loadVar1 ha2 k2
   simp [rM, ea, ea', asAddr, m1, m2]
end
end Go.Ab

namespace Go.Ab
open Go.RowKit Go.Dw
theorem le_openIn {tm : Nat → V} {σ : Nat → Option Ob} {nx : Nat} (id j : Nat) {t : TypeId} {cs : List V} (e sz : Nat) (row : Nat → List V) (h : σ id = some (.box t cs)) (hj : cs[j]? = some .nil) (hid : decide (id < nx * 100000) = true) (hjl : decide (j < 100000) = true) :
  Le ⟨tm, σ, nx⟩ ⟨tm, upd (upd σ (nx * 100000 + j) (some (.row e sz 0 row))) id (some (.box t (cs.set j (.own (nx * 100000 + j))))), nx + 1⟩ := by
 intro P N C a w ⟨L, ρ, g⟩
 have hjl := of_decide_eq_true hjl
 have hid := of_decide_eq_true hid
 have hn : ρ (nx * 100000 + j) = none := g.fr _ (Nat.le_add_right _ _)
 obtain ⟨hG, ex⟩ := g.g.put (w' := w) (σ1 := σ) (ρ' := upd ρ (nx * 100000 + j) (some (.slice none 0 0))) (World.grownBy.refl w none) (by simp) (nx * 100000 + j) _ (.row e sz 0 row) (fun i o hi ho => ⟨ho, by simp⟩) (fun i hi => upd_ne _ _ hi) (upd_same _ _ _) (.inl hn) (fun k hk => by simp [blk] at hk)
  (fun ex => ⟨_, [], upd_same _ _ _, World.ownsRow_nil _ _ _ _, fun i hi => by omega, by simp [slRows]; exact .nil, fun k hk => by simp [blk] at hk⟩)
 obtain ⟨ρ1, hρ1⟩ : ∃ ρ1, ρ1 = upd ρ (nx * 100000 + j) (some (.slice none 0 0)) := ⟨_, rfl⟩
 rw [← hρ1] at hG ex
 have hne : id ≠ nx * 100000 + j := by omega
 have h1 : upd σ (nx * 100000 + j) (some (.row e sz 0 row)) id = some (.box t cs) := by rw [upd_ne _ _ hne]; exact h
 obtain ⟨b, xs, q1, q2, q3, q4, q5⟩ := hG.ob id _ h1
 have hch : ∀ k, some b = some k → C.W k ∧ ¬ L k := by rintro k hk; injection hk with hk; subst hk; exact ⟨q2, q3⟩
 have hjx : j < xs.toList.length := by rw [← q5.1]; exact (List.getElem?_eq_some_iff.1 hj).1
 have hxj : xs.toList[j]? = some (.slice none 0 0) := by
  have e1 : xs.toList[j]? = some xs.toList[j] := List.getElem?_eq_getElem hjx
  have := (q5.2 j _ _ hj e1).1
  rw [e1]
  generalize xs.toList[j] = q at this
  cases this; rfl
 have hset : xs.toList.set j (.slice none 0 0) = xs.toList := by
  apply List.ext_getElem?
  intro i
  rw [List.getElem?_set]
  by_cases hij : j = i
  ·
   subst hij; rw [if_pos rfl, if_pos hjx, hxj]
  ·
   rw [if_neg hij]
 obtain ⟨hG2, ex2⟩ := hG.put (w' := w) (σ1 := upd σ (nx * 100000 + j) (some (.row e sz 0 row))) (ρ' := ρ1) (World.grownBy.refl w (some b)) hch id _ (.box t (cs.set j (.own (nx * 100000 + j))))
  (fun i o hi ho => ⟨ho, fun z hz k hk hkz => by
   injection hk with hk; subst hk
   exact hG.sep i id z _ b hi (by rw [ho]; simp) (by rw [h1]; simp) hz q1 hkz rfl⟩) (fun _ _ => rfl) q1 (.inr q1) (fun k hk => .inl (by simpa [blk] using hk)) (fun ex3 =>
   ⟨b, xs, q1, q2, q3, q4, by
    have := (q5.ext ex3).set j (u := .own (nx * 100000 + j)) (x := .slice none 0 0) (.own _ _ _ (by rw [hρ1, upd_same]) rfl) rfl
    rwa [hset] at this⟩)
 refine ⟨L, ρ1, ⟨hG2, fun i hi => ?_, fun t' => (g.tm t').ext ex, g.size, g.defers, fun i x hp => ex.r i x (g.pin i x hp)⟩⟩
 have hi' : (nx + 1) * 100000 ≤ i := hi
 rw [hρ1, upd_ne _ _ oM]
 exact g.fr i (Nat.le_trans (Nat.mul_le_mul_right _ (Nat.le_succ nx)) hi')
end Go.Ab

namespace Go.Ab
structure Pan where
 on : Int
 edge : Int
 off : Int
 wide : Int
 high : Int
structure Rc where
 x0 : Int
 y0 : Int
 x1 : Int
 y1 : Int
 down : Bool
def Pan.c (p : Pan) : List V := [.i p.on, .i p.edge, .i p.off, .i p.wide, .i p.high]
def Rc.c (r : Rc) : List V := [.i r.x0, .i r.y0, .i r.x1, .i r.y1, .b r.down]
def gpan (l : List Pan) (k : Nat) : Pan := l.getD k ⟨0, 0, 0, 0, 0⟩
def V.pans (l : List Pan) : V := .sl 5 l.length fun k => (gpan l k).c
def V.rcs (n : Nat) (f : Nat → Rc) : V := .sl 5 n fun k => (f k).c
def hangX (b : Rc) (p : Pan) : Int := if p.edge = 0 then b.x1 else if p.edge = 2 then b.x0 - p.wide else b.x0 + p.off
def hangY (b : Rc) (p : Pan) : Int := if p.edge = 1 then b.y1 else if p.edge = 3 then b.y0 - p.high else b.y0 + p.off
def hangR (b : Rc) (p : Pan) : Rc := ⟨hangX b p, hangY b p, hangX b p + p.wide, hangY b p + p.high, false⟩
def comW (a b : Rc) : Int := min a.x1 b.x1 - max a.x0 b.x0
def comH (a b : Rc) : Int := min a.y1 b.y1 - max a.y0 b.y0
theorem comW_comm (a b : Rc) : comW a b = comW b a := by unfold comW; omega
theorem comH_comm (a b : Rc) : comH a b = comH b a := by unfold comH; omega
def flipXR (a : Rc) (at_ : Int) : Rc := ⟨2 * at_ - a.x1, a.y0, 2 * at_ - a.x0, a.y1, a.down⟩
def flipYR (a : Rc) (at_ : Int) : Rc := ⟨a.x0, 2 * at_ - a.y1, a.x1, 2 * at_ - a.y0, a.down⟩
def mirR (a b : Rc) (e : Int) : Rc := if e = 1 then ⟨a.x0, 2 * b.y1 - a.y1, a.x1, 2 * b.y1 - a.y0, !a.down⟩ else if e = 2 then ⟨2 * b.x0 - a.x1, a.y0, 2 * b.x0 - a.x0, a.y1, !a.down⟩ else if e = 3 then ⟨a.x0, 2 * b.y0 - a.y1, a.x1, 2 * b.y0 - a.y0, !a.down⟩ else ⟨2 * b.x1 - a.x1, a.y0, 2 * b.x1 - a.x0, a.y1, !a.down⟩
def Rc.bd (B : Int) (r : Rc) : Prop := (-B ≤ r.x0 ∧ r.x0 ≤ B) ∧ (-B ≤ r.y0 ∧ r.y0 ≤ B) ∧ (-B ≤ r.x1 ∧ r.x1 ≤ B) ∧ (-B ≤ r.y1 ∧ r.y1 ≤ B)
def Pan.szOk (p : Pan) : Prop := (1 ≤ p.wide ∧ p.wide ≤ 65536) ∧ (1 ≤ p.high ∧ p.high ≤ 65536)
def Pan.ok0 (p : Pan) : Prop := p.on = -1 ∧ p.edge = 0 ∧ p.off = 0
def Pan.okI (p : Pan) (i : Nat) : Prop := (0 ≤ p.on ∧ p.on < i) ∧ (0 ≤ p.edge ∧ p.edge ≤ 3) ∧ (-65536 ≤ p.off ∧ p.off ≤ 65536)
instance (p : Pan) : Decidable p.szOk := by unfold Pan.szOk; infer_instance
instance (p : Pan) : Decidable p.ok0 := by unfold Pan.ok0; infer_instance
instance (p : Pan) (i : Nat) : Decidable (p.okI i) := by unfold Pan.okI; infer_instance
def outR (l : List Pan) : Nat → List Rc
 | 0 => []
 | n + 1 => outR l n ++ [if n = 0 then ⟨0, 0, (gpan l 0).wide, (gpan l 0).high, false⟩ else hangR ((outR l n).getD (gpan l n).on.toNat ⟨0, 0, 0, 0, false⟩) (gpan l n)]
def rcF (l : List Pan) (i : Nat) : Rc := (outR l (i + 1)).getD i ⟨0, 0, 0, 0, false⟩
theorem outR_len (l : List Pan) : ∀ n, (outR l n).length = n
 | 0 => rfl
 | n + 1 => by rw [outR, List.length_append, outR_len l n]; rfl
theorem outR_get (l : List Pan) : ∀ {n i : Nat}, i < n → (outR l n).getD i ⟨0, 0, 0, 0, false⟩ = rcF l i
 | n + 1, i, h => by
  by_cases hi : i = n
  ·
   subst hi; rfl
  ·
   rw [outR, List.getD_eq_getElem?_getD, List.getElem?_append_left (by rw [outR_len]; omega), ← List.getD_eq_getElem?_getD]
   exact outR_get l oM
theorem rcF_zero (l : List Pan) : rcF l 0 = ⟨0, 0, (gpan l 0).wide, (gpan l 0).high, false⟩ := by simp [rcF, outR]
theorem rcF_succ (l : List Pan) {i : Nat} (h0 : 0 < i) (h1 : (gpan l i).on.toNat < i) : rcF l i = hangR (rcF l (gpan l i).on.toNat) (gpan l i) := by
 have h : i ≠ 0 := by omega
 rw [rcF, outR, List.getD_eq_getElem?_getD, List.getElem?_append_right (by rw [outR_len]; exact Nat.le_refl _), outR_len, Nat.sub_self]
 simp only [List.getElem?_cons_zero, Option.getD_some, if_neg h]
 rw [outR_get l h1]
def panE (l : List Pan) (i : Nat) : Int := if ¬ (gpan l i).szOk then 2 else if i = 0 then (if (gpan l 0).ok0 then 0 else 2) else if ¬ (gpan l i).okI i then 2 else if comW (rcF l (gpan l i).on.toNat) (rcF l i) ≤ 0 ∧ comH (rcF l (gpan l i).on.toNat) (rcF l i) ≤ 0 then 5 else 0
def fstE (f : Nat → Int) : Nat → Int
 | 0 => 0
 | n + 1 => if fstE f n = 0 then f n else fstE f n
theorem fstE_ok {f : Nat → Int} : ∀ {n : Nat}, fstE f n = 0 ↔ ∀ i, i < n → f i = 0
 | 0 => by simp [fstE]
 | n + 1 => by
  rw [fstE]
  constructor
  ·
   intro h
   split at h
   ·
    rename_i h0
    intro i hi
    by_cases he : i = n
    ·
     subst he; exact h
    ·
     exact fstE_ok.1 h0 i oM
   ·
    contradiction
  ·
   intro h
   rw [if_pos (fstE_ok.2 fun i hi => h i oM)]
   exact h n oM
theorem fstE_at {f : Nat → Int} {i : Nat} (h0 : fstE f i = 0) (h1 : f i ≠ 0) : ∀ {n : Nat}, i < n → fstE f n = f i
 | n + 1, h => by
  rw [fstE]
  by_cases he : i = n
  ·
   subst he; rw [if_pos h0]
  ·
   have := fstE_at h0 h1 (n := n) oM
   rw [this, if_neg h1]
def lapB (l : List Pan) (i k : Nat) : Prop := 0 < comW (rcF l i) (rcF l k) ∧ 0 < comH (rcF l i) (rcF l k)
instance (l : List Pan) (i k : Nat) : Decidable (lapB l i k) := by unfold lapB; infer_instance
def lapE (l : List Pan) (n : Nat) : Int := if (List.range n).any (fun i => (List.range i).any fun k => decide (lapB l i k)) = true then 20 else 0
theorem lap_iff {l : List Pan} {n : Nat} : (List.range n).any (fun i => (List.range i).any fun k => decide (lapB l i k)) = true ↔ ∃ i k, k < i ∧ i < n ∧ lapB l i k := by
 simp only [List.any_eq_true, List.mem_range, decide_eq_true_eq]
 constructor
 ·
  rintro ⟨i, hi, k, hk, h⟩; exact ⟨i, k, hk, hi, h⟩
 ·
  rintro ⟨i, k, hk, hi, h⟩; exact ⟨i, hi, k, hk, h⟩
def netE (l : List Pan) : Int := if l.length = 0 ∨ 12 < l.length then 6 else if fstE (panE l) l.length = 0 then lapE l l.length else fstE (panE l) l.length
def netN (l : List Pan) : Nat := if netE l = 0 then l.length else 0
theorem netE_many {l : List Pan} (h : l.length = 0 ∨ 12 < l.length) : netE l = 6 := by rw [netE, if_pos h]
theorem netE_pan {l : List Pan} (h : ¬ (l.length = 0 ∨ 12 < l.length)) {i : Nat} (hi : i < l.length) (h0 : fstE (panE l) i = 0) (h1 : panE l i ≠ 0) : netE l = panE l i := by
 rw [netE, if_neg h, fstE_at h0 h1 hi, if_neg h1]
theorem netE_lap {l : List Pan} (h : ¬ (l.length = 0 ∨ 12 < l.length)) (h0 : fstE (panE l) l.length = 0) {i k : Nat} (hk : k < i) (hi : i < l.length) (hl : lapB l i k) : netE l = 20 := by
 rw [netE, if_neg h, if_pos h0, lapE, if_pos (lap_iff.2 ⟨i, k, hk, hi, hl⟩)]
theorem netE_ok {l : List Pan} (h : ¬ (l.length = 0 ∨ 12 < l.length)) (h0 : fstE (panE l) l.length = 0) (hl : ∀ i k, k < i → i < l.length → ¬ lapB l i k) : netE l = 0 := by
 rw [netE, if_neg h, if_pos h0, lapE, if_neg (fun h => by obtain ⟨i, k, a, b, c⟩ := lap_iff.1 h; exact hl i k a b c)]
theorem netE_inv {l : List Pan} (h : netE l = 0) : (0 < l.length ∧ l.length ≤ 12) ∧ (∀ i, i < l.length → panE l i = 0) ∧ ∀ i k, k < i → i < l.length → ¬ lapB l i k := by
 unfold netE at h
 split at h
 ·
  omega
 ·
  rename_i h1
  split at h
  ·
   rename_i h2
   unfold lapE at h
   split at h
   ·
    omega
   ·
    rename_i h3
    exact ⟨by omega, fstE_ok.1 h2, fun i k a b c => h3 (lap_iff.2 ⟨i, k, a, b, c⟩)⟩
  ·
   omega
theorem panE_inv {l : List Pan} {i : Nat} (h : panE l i = 0) : (gpan l i).szOk ∧ (i = 0 → (gpan l 0).ok0) ∧ (0 < i → (gpan l i).okI i ∧ (0 < comW (rcF l (gpan l i).on.toNat) (rcF l i) ∨ 0 < comH (rcF l (gpan l i).on.toNat) (rcF l i))) := by
 unfold panE at h
 split at h
 ·
  omega
 ·
  rename_i h1
  refine ⟨Classical.not_not.1 h1, ?_⟩
  split at h
  ·
   rename_i h2
   split at h
   ·
    rename_i h3
    exact ⟨fun _ => h3, fun h => by omega⟩
   ·
    omega
  ·
   rename_i h2
   split at h
   ·
    omega
   ·
    rename_i h3
    split at h
    ·
     omega
    ·
     rename_i h4
     exact ⟨fun h => absurd h h2, fun _ => ⟨Classical.not_not.1 h3, by omega⟩⟩
theorem panE_sz {l : List Pan} {i : Nat} (h : ¬ (gpan l i).szOk) : panE l i = 2 := by rw [panE, if_pos h]
theorem panE_0 {l : List Pan} (h : (gpan l 0).szOk) (h0 : ¬ (gpan l 0).ok0) : panE l 0 = 2 := by rw [panE, if_neg (fun k => k h), if_pos rfl, if_neg h0]
theorem panE_0ok {l : List Pan} (h : (gpan l 0).szOk) (h0 : (gpan l 0).ok0) : panE l 0 = 0 := by rw [panE, if_neg (fun k => k h), if_pos rfl, if_pos h0]
theorem panE_I {l : List Pan} {i : Nat} (hi : 0 < i) (h : (gpan l i).szOk) (h0 : ¬ (gpan l i).okI i) : panE l i = 2 := by rw [panE, if_neg (fun k => k h), if_neg oM, if_pos h0]
theorem panE_T {l : List Pan} {i : Nat} (hi : 0 < i) (h : (gpan l i).szOk) (h0 : (gpan l i).okI i) (ht : comW (rcF l (gpan l i).on.toNat) (rcF l i) ≤ 0 ∧ comH (rcF l (gpan l i).on.toNat) (rcF l i) ≤ 0) : panE l i = 5 := by rw [panE, if_neg (fun k => k h), if_neg oM, if_neg (fun k => k h0), if_pos ht]
theorem panE_ok {l : List Pan} {i : Nat} (hi : 0 < i) (h : (gpan l i).szOk) (h0 : (gpan l i).okI i) (ht : ¬ (comW (rcF l (gpan l i).on.toNat) (rcF l i) ≤ 0 ∧ comH (rcF l (gpan l i).on.toNat) (rcF l i) ≤ 0)) : panE l i = 0 := by rw [panE, if_neg (fun k => k h), if_neg oM, if_neg (fun k => k h0), if_neg ht]
theorem hangR_bd {b : Rc} {p : Pan} {B : Int} (hb : b.bd B) (hs : p.szOk) (ho : -65536 ≤ p.off ∧ p.off ≤ 65536) : (hangR b p).bd (B + 131072) := by
 obtain ⟨⟨a1, a2⟩, ⟨a3, a4⟩, ⟨a5, a6⟩, a7, a8⟩ := hb
 obtain ⟨⟨s1, s2⟩, s3, s4⟩ := hs
 have hx : -(B + 65536) ≤ hangX b p ∧ hangX b p ≤ B + 65536 := by unfold hangX; split <;> (try split) <;> omega
 have hy : -(B + 65536) ≤ hangY b p ∧ hangY b p ≤ B + 65536 := by unfold hangY; split <;> (try split) <;> omega
 simp only [Rc.bd, hangR]
 omega
theorem Rc.bd_mono {r : Rc} {B B' : Int} (h : r.bd B) (hb : B ≤ B') : r.bd B' := by
 unfold Rc.bd at *; omega
theorem rcF_bd {l : List Pan} : ∀ (i : Nat), (∀ j, j ≤ i → (gpan l j).szOk ∧ (0 < j → (gpan l j).okI j)) → (rcF l i).bd (131072 * (i + 1)) := by
 intro i
 induction i using Nat.strongRecOn with
 | _ i ih =>
  intro h
  by_cases h0 : i = 0
  ·
   subst h0
   rw [rcF_zero]
   obtain ⟨⟨s1, s2⟩, s3, s4⟩ := (h 0 (Nat.le_refl _)).1
   simp only [Rc.bd]; omega
  ·
   have hI := (h i (Nat.le_refl _)).2 oM
   obtain ⟨⟨o1, o2⟩, _, o3⟩ := hI
   rw [rcF_succ l oM oM]
   have := hangR_bd (ih (gpan l i).on.toNat oM fun j hj => h j oM) (h i (Nat.le_refl _)).1 o3
   exact Rc.bd_mono this oM
def foldC (l : List Pan) : Nat → Nat → Rc → Rc
 | 0, _, b => b
 | f + 1, k, b => if k = 0 then b else foldC l f (gpan l k).on.toNat (mirR b (rcF l (gpan l k).on.toNat) (gpan l k).edge)
def foldR (l : List Pan) (i : Nat) : Rc := foldC l i i (rcF l i)
theorem foldC_more {l : List Pan} (h : ∀ j, 0 < j → j < l.length → (gpan l j).on.toNat < j) : ∀ (f k : Nat) (b : Rc), k ≤ f → k < l.length → foldC l f k b = foldC l k k b := by
 intro f
 induction f using Nat.strongRecOn with
 | _ f ih =>
  intro k b hk hkl
  cases k with
  | zero => cases f <;> simp [foldC]
  | succ k =>
   cases f with
   | zero => omega
   | succ f =>
    have hj := h (k + 1) oM hkl
    rw [foldC, foldC, if_neg oM, if_neg oM, ih f oM _ _ oM oM, ih k oM _ _ oM oM]
theorem foldC_step {l : List Pan} (h : ∀ j, 0 < j → j < l.length → (gpan l j).on.toNat < j) {k : Nat} (b : Rc) (h0 : 0 < k) (hk : k < l.length) : foldC l k k b = foldC l (gpan l k).on.toNat (gpan l k).on.toNat (mirR b (rcF l (gpan l k).on.toNat) (gpan l k).edge) := by
 cases k with
 | zero => omega
 | succ k =>
  have hj := h (k + 1) oM hk
  rw [foldC, if_neg oM, foldC_more h k _ _ oM oM]
theorem mirR_bd {a b : Rc} {e A B : Int} (ha : a.bd A) (hb : b.bd B) (hB : 0 ≤ B) (hA : 0 ≤ A) : (mirR a b e).bd (A + 2 * B) := by
 unfold Rc.bd at *
 unfold mirR
 split
 ·
  simp only; omega
 split
 ·
  simp only; omega
 split
 ·
  simp only; omega
 ·
  simp only; omega
def pockOk (l : List Pan) (a b : Int) : Prop := (0 ≤ a ∧ a < l.length) ∧ (0 ≤ b ∧ b < l.length) ∧ a ≠ b
instance (l : List Pan) (a b : Int) : Decidable (pockOk l a b) := by unfold pockOk; infer_instance
structure NetOk (l : List Pan) : Prop where
 pos : 0 < l.length
 le : l.length ≤ 12
 sz : ∀ i, i < l.length → (gpan l i).szOk
 base : (gpan l 0).ok0
 okI : ∀ i, 0 < i → i < l.length → (gpan l i).okI i
 on : ∀ i, 0 < i → i < l.length → (gpan l i).on.toNat < i
 touch : ∀ i, 0 < i → i < l.length → 0 < comW (rcF l (gpan l i).on.toNat) (rcF l i) ∨ 0 < comH (rcF l (gpan l i).on.toNat) (rcF l i)
 lap : ∀ i k, k < i → i < l.length → ¬ lapB l i k
 bd : ∀ i, i < l.length → (rcF l i).bd 1703936
theorem netOk {l : List Pan} (h : netE l = 0) : NetOk l := by
 obtain ⟨⟨h1, h2⟩, h3, h4⟩ := netE_inv h
 have hI : ∀ i, 0 < i → i < l.length → (gpan l i).okI i := fun i h0 hi => ((panE_inv (h3 i hi)).2.2 h0).1
 refine ⟨h1, h2, fun i hi => (panE_inv (h3 i hi)).1, (panE_inv (h3 0 h1)).2.1 rfl, hI, fun i h0 hi => ?_, fun i h0 hi => ((panE_inv (h3 i hi)).2.2 h0).2, h4, fun i hi => Rc.bd_mono (rcF_bd i fun j hj => ⟨(panE_inv (h3 j oM)).1, fun h0 => hI j h0 oM⟩) oM⟩
 obtain ⟨⟨a, b⟩, _⟩ := hI i h0 hi
 omega
end Go.Ab

namespace Go.Ab
open Go.RowKit Go.Dw
def onK (c : List Int) (s : Nat) (k : Nat) : List Int := ((List.range k).filter fun i => s.testBit i).map (gi c)
def onL (c : List Int) (s : Nat) : List Int := onK c s c.length
theorem onK_succ (c : List Int) (s k : Nat) : onK c s (k + 1) = if s.testBit k = true then onK c s k ++ [gi c k] else onK c s k := by
 unfold onK
 rw [List.range_succ, List.filter_append, List.map_append]
 cases h : s.testBit k <;> simp [h]
theorem onK_len (c : List Int) (s k : Nat) : (onK c s k).length ≤ k := by
 unfold onK
 rw [List.length_map]
 exact Nat.le_trans (List.length_filter_le _ _) (by simp)
theorem onK_co {c : List Int} (h : CO c) {s k : Nat} (hk : k ≤ c.length) : CO (onK c s k) := by
 intro x hx
 simp only [onK, List.mem_map, List.mem_filter, List.mem_range] at hx
 obtain ⟨i, ⟨hi, _⟩, rfl⟩ := hx
 exact h.gi oM
def costN (c : List Int) (slots plate : Int) (s : Nat) : Int := if slots < ((onL c s).length : Int) then -1 else fewN (onL c s) slots + plate
def knR (c : List Int) (slots plate : Int) (K : List Nat) : MK → Option Value
 | .i n => if 0 ≤ n ∧ n.toNat ∈ K then some (.int .i64 (costN c slots plate n.toNat)) else none
 | .s _ => none
def knF (c : List Int) (slots plate : Int) (K : List Nat) : MF := ⟨[], knR c slots plate K⟩
def addK (K : List Nat) (s : Nat) : List Nat := if s ∈ K then K else s :: K
theorem kn_look {c : List Int} {slots plate : Int} (s : Nat) (K : List Nat) : (knF c slots plate K).look (.i (s : Int)) = if s ∈ K then some (V.i (costN c slots plate s)) else none := by
 show (if 0 ≤ (s : Int) ∧ (s : Int).toNat ∈ K then some (Value.int .i64 (costN c slots plate (s : Int).toNat)) else none).map V.c = _
 by_cases h : s ∈ K
 ·
  rw [if_pos h, if_pos ⟨by omega, by simpa using h⟩]; rfl
 ·
  rw [if_neg h, if_neg (by simpa using h)]; rfl
theorem kn_in {c : List Int} {slots plate : Int} {s : Nat} {K : List Nat} (h : s ∈ K) : mhas (knF c slots plate K) (.i (s : Int)) = true ∧ mgetI (knF c slots plate K) (.i (s : Int)) = costN c slots plate s ∧ addK K s = K := by
 refine ⟨?_, ?_, by rw [addK, if_pos h]⟩
 ·
  rw [mhas, kn_look, if_pos h]; rfl
 ·
  rw [mgetI, kn_look, if_pos h]
theorem kn_out {c : List Int} {slots plate : Int} {s : Nat} {K : List Nat} (h : s ∉ K) : mhas (knF c slots plate K) (.i (s : Int)) = false ∧ mgetI (knF c slots plate K) (.i (s : Int)) = 0 ∧ addK K s = s :: K ∧ mcnt (knF c slots plate K) (.i (s : Int)) K.length = (addK K s).length ∧ ∀ k, (mset (knF c slots plate K) (.i (s : Int)) (V.i (costN c slots plate s))).look k = (knF c slots plate (addK K s)).look k := by
 have e : addK K s = s :: K := by rw [addK, if_neg h]
 refine ⟨?_, ?_, e, ?_, fun k => ?_⟩
 ·
  rw [mhas, kn_look, if_neg h]; rfl
 ·
  rw [mgetI, kn_look, if_neg h]
 ·
  rw [mcnt, kn_look, if_neg h, e]; rfl
 ·
  rw [mset_look, e]
  by_cases hk : k = .i (s : Int)
  ·
   rw [if_pos hk, hk, kn_look, if_pos (by simp)]
  ·
   rw [if_neg hk]
   cases k with
   | s b => rfl
   | i n =>
    show (knR c slots plate K (.i n)).map V.c = (knR c slots plate (s :: K) (.i n)).map V.c
    congr 1
    show (if 0 ≤ n ∧ n.toNat ∈ K then some (Value.int .i64 (costN c slots plate n.toNat)) else none) = if 0 ≤ n ∧ n.toNat ∈ s :: K then some (Value.int .i64 (costN c slots plate n.toNat)) else none
    by_cases hn : 0 ≤ n
    ·
     have hne : n.toNat ≠ s := fun e => hk (by rw [← e]; congr 1; omega)
     simp [hn, hne]
    ·
     rw [if_neg (fun h => hn h.1), if_neg (fun h => hn h.1)]
theorem kn_get (c : List Int) (slots plate : Int) (K : List Nat) (s : Nat) : mget (knF c slots plate K) (.i (s : Int)) (.c (.int .i64 0)) = .c (.int .i64 (mgetI (knF c slots plate K) (.i (s : Int)))) := by
 rw [mget, mgetI, kn_look]
 split <;> rfl
theorem onK_gi (c : List Int) (s k : Nat) (h : s.testBit k = true) (i : Nat) (hi : i < (onK c s k).length + 1) : (if i < (onK c s k).length then [V.i (gi (onK c s k) i)] else [V.i (gi c k)]) = [V.i (gi (onK c s (k + 1)) i)] := by
 rw [onK_succ, if_pos h]
 simp only [gi, List.getD_eq_getElem?_getD, List.getElem?_append]
 by_cases hl : i < (onK c s k).length
 ·
  rw [if_pos hl, if_pos hl]
 ·
  rw [if_neg hl, if_neg hl, show i - (onK c s k).length = 0 by omega]
  rfl
def sumK (c : List Int) (slots plate : Int) : List Nat → List Nat → Int → Int × Bool × List Nat
 | [], K, a => (a, true, K)
 | s :: l, K, a => if costN c slots plate s < 0 then (0, false, addK K s) else sumK c slots plate l (addK K s) (a + costN c slots plate s)
theorem costN_bd {c : List Int} {slots plate : Int} (hc : chkC c slots plate = 0) (s : Nat) : -1 ≤ costN c slots plate s ∧ costN c slots plate s ≤ 2097152 := by
 obtain ⟨l8, hco, hsl, hpl⟩ := chkC_inv hc
 unfold costN
 split
 ·
  omega
 ·
  rename_i h
  by_cases h0 : (onL c s).length = 0
  ·
   rw [fewN_nil h0]; omega
  ·
   obtain ⟨q1, q2⟩ := fewN_spec (onK_co hco (Nat.le_refl _)) (by show ((onL c s).length : Int) ≤ slots; omega) h0
   have q3 := q1.1
   have q3 : 1 ≤ fewN (onL c s) slots := q3
   have q2 : fewN (onL c s) slots ≤ 1048576 := q2
   omega
def gn (l : List Nat) (k : Nat) : Nat := l.getD k 0
theorem gn_drop {l : List Nat} {k : Nat} (h : k < l.length) : l.drop k = gn l k :: l.drop (k + 1) := by
 rw [List.drop_eq_getElem_cons h]
 simp [gn, List.getD_eq_getElem?_getD, List.getElem?_eq_getElem h]
theorem bit_and : ∀ s : Nat, s < 256 → ∀ i : Nat, i < 8 → bitop .and .i64 ((s : Int).fdiv (2 ^ (min i IntKind.i64.bits))) 1 = if s.testBit i = true then 1 else 0 := by decide +kernel
theorem bit_or : ∀ s : Nat, s < 256 → ∀ i : Nat, i < 8 → bitop .or .i64 (s : Int) ((2 : Int) ^ i) = ((s ||| 2 ^ i : Nat) : Int) := by decide +kernel
end Go.Ab

namespace Go.Ab
open Go.RowKit Go.Dw
section
variable {P : Program} {N : Nat} {C : Cx P N} {ops : Array Oper} {nx : Nat} {o : Oper} {os : List Oper} {tm : Nat → V} {σ : Nat → Option Ob} {ks : List (List Nat × List Nat)} {K : (Nat → V) → (Nat → Option Ob) → List (List Nat × List Nat) → Prop}
end
end Go.Ab
