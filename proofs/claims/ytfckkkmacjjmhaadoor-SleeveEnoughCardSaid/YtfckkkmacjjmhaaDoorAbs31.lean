/-
  The walk of an iterator's body, which calls the yield of a loop. Conditions: told in each theorem.
-/
import Derived.Test.YtfckkkmacjjmhaaDoorAbs30
namespace Go.Ab
open Go.RowKit Go.Dw Go.Shelf

/-- the loop that an iterator serves -/
structure YE (P : Program) (es : List (List V)) where
  l : Nat
  J : Nat → Bool → World → Prop
  L0 : Nat → Prop
  w0 : World
  R0 : Nat → Prop
  B : Nat
  hY : ∀ k x W1, k < es.length → ItE es L0 w0 l k x W1 → B ≤ W1.heap.size → J k true W1 → YieldAt Fence.wide 0 P l x W1 fun e W2 => ∃ b : Bool, e = .returned (.bool b) ∧ Tch (fun i => R0 i ∨ i = l) W1 W2 ∧ (b = true → J (k + 1) true W2) ∧ (b = false → J k false W2)
  hJ : ∀ k g W1 W2, J k g W1 → Below B W1 W2 → J k g W2
  hB : w0.heap.size ≤ B
  hl : w0.heap.size ≤ l ∧ l < B
  hR : ∀ b, R0 b → b < w0.heap.size ∧ ¬ L0 b
  hL : ∀ b, L0 b → b < w0.heap.size
/-- the frame's memory is new -/
structure YC {P : Program} {N : Nat} {es : List (List V)} (C : Cx P N) (Y : YE P es) : Prop where
  F : C.F = Fence.wide
  W : ∀ b, C.W b → Y.B ≤ b
  LB : ∀ b, C.LB b → Y.L0 b ∨ Y.B ≤ b

def AWJ {P : Program} {N : Nat} {es : List (List V)} (C : Cx P N) (Y : YE P es) (c : Code) (Q : Exit → S → Nat → Bool → Prop) (s : S) (k : Nat) (g : Bool) : Prop :=
  ∀ a w, Gm C s a w → Y.J k g w → Y.B ≤ w.heap.size → c.wpIn Fence.wide 0 P (fun e a' w' => ∃ s' k' g', Q e s' k' g' ∧ Gm C s' a' w' ∧ Y.J k' g' w' ∧ Y.B ≤ w'.heap.size) a w
def XThenJ (next : S → Nat → Bool → Prop) (Q : Exit → S → Nat → Bool → Prop) : Exit → S → Nat → Bool → Prop
  | .normal, s, k, g => next s k g
  | e, s, k, g => Q e s k g
def XBlockJ (id : Nat) (Q : Exit → S → Nat → Bool → Prop) : Exit → S → Nat → Bool → Prop
  | .exit id', s, k, g => if id' = id then Q .normal s k g else Q (.exit id') s k g
  | e, s, k, g => Q e s k g

section
variable {P : Program} {N : Nat} {es : List (List V)} {C : Cx P N} {Y : YE P es} {Q : Exit → S → Nat → Bool → Prop} {s : S} {k : Nat} {g : Bool}
/-- code without a yield -/
theorem awj_aw (hC : YC C Y) {c : Code} (h : AW C c (fun e s' => Q e s' k g) s) : AWJ C Y c Q s k g := by
  intro a w gm hj hb
  have := h a w gm
  rw [hC.F] at this
  refine wpIn_mono this ?_
  rintro e a' w' ⟨s', q, gm', t⟩
  exact ⟨s', k, g, q, gm', Y.hJ _ _ _ _ hj (t.below hb fun j hj hW => by have := hC.W j hW; omega), Nat.le_trans hb t.size⟩
theorem awj_le {c : Code} {s' : S} (h : Le s s') (x : AWJ C Y c Q s' k g) : AWJ C Y c Q s k g := fun a w gm => x a w (h C a w gm)
theorem awj_seq {x y : Code} (h : AWJ C Y x (XThenJ (fun s' k' g' => AWJ C Y y Q s' k' g') Q) s k g) : AWJ C Y (.seq x y) Q s k g := by
  intro a w gm hj hb
  refine wpIn_seq (wpIn_mono (h a w gm hj hb) ?_)
  rintro e a' w' ⟨s', k', g', q, gm', hj', hb'⟩
  cases e with
  | normal => exact q a' w' gm' hj' hb'
  | _ => exact ⟨s', k', g', q, gm', hj', hb'⟩
/-- a part without a yield, and what follows -/
theorem awj_seq_a (hC : YC C Y) {x y : Code} (h : ∀ K : S → Prop, (∀ s', AWJ C Y y Q s' k g → K s') → AW C x (XThen K (fun e s' => Q e s' k g)) s) : AWJ C Y (.seq x y) Q s k g := by
  refine awj_seq (awj_aw hC (aw_mono (h _ fun _ h => h) ?_))
  intro e s' q
  cases e <;> exact q
theorem awj_block {id : Nat} {c : Code} (h : AWJ C Y c (XBlockJ id Q) s k g) : AWJ C Y (.block id c) Q s k g := by
  intro a w gm hj hb
  refine wpIn_block (wpIn_mono (h a w gm hj hb) ?_)
  rintro e a' w' ⟨s', k', g', q, gm', hj', hb'⟩
  cases e with
  | exit id' =>
    simp only [Exit.inBlock, XBlockJ] at q ⊢
    split at q
    · rename_i h; rw [if_pos h]; exact ⟨s', k', g', q, gm', hj', hb'⟩
    · rename_i h; rw [if_neg h]; exact ⟨s', k', g', q, gm', hj', hb'⟩
  | _ => exact ⟨s', k', g', q, gm', hj', hb'⟩
theorem awj_scope {c : Code} (h : AWJ C Y c Q s k g) (hQ : ∀ id s k g, ¬ Q (.goto id) s k g) : AWJ C Y (.scope c) Q s k g := by
  intro a w gm hj hb
  refine wpIn_scope (wpIn_mono (h a w gm hj hb) ?_)
  rintro e a' w' ⟨s', k', g', q, r⟩
  cases e with
  | goto id => exact absurd q (hQ id _ _ _)
  | _ => exact ⟨s', k', g', q, r⟩
theorem awj_cond {c : Operand} {x y : Code} {t : Bool} (hc : ev s.tm c = .b t) (h1 : t = true → AWJ C Y x Q s k g) (h2 : t = false → AWJ C Y y Q s k g) : AWJ C Y (.cond c x y) Q s k g := by
  intro a w gm hj hb
  obtain ⟨L, ρ, g'⟩ := gm
  have := g'.tm.eval g'.g.gl c
  rw [hc] at this
  refine wpIn_cond this.c_inv ?_
  cases t with
  | true => exact h1 rfl a w ⟨L, ρ, g'⟩ hj hb
  | false => exact h2 rfl a w ⟨L, ρ, g'⟩ hj hb
theorem awj_ret (h : Q .ret s k g) : AWJ C Y .ret Q s k g := fun _ _ gm hj hb => wpIn_ret ⟨s, k, g, h, gm, hj, hb⟩
theorem awj_exit {id : Nat} (h : Q (.exit id) s k g) : AWJ C Y (.exit id) Q s k g := fun _ _ gm hj hb => wpIn_exit ⟨s, k, g, h, gm, hj, hb⟩
theorem awj_skip (h : Q .normal s k g) : AWJ C Y .skip Q s k g := fun _ _ gm hj hb => wpIn_skip ⟨s, k, g, h, gm, hj, hb⟩
open Classical in
theorem awj_loop {ι : Type} {c : Code} (I : ι → S) (kk : ι → Nat) (ok : ι → Prop) (μ : ι → Nat) (x0 : ι) (hx : ok x0) (h0 : Le s (I x0)) (hk : kk x0 = k)
    (round : ∀ x, ok x → AWJ C Y c (XThenJ (fun s' k' g' => g' = true ∧ ∃ y, ok y ∧ Le s' (I y) ∧ kk y = k' ∧ μ y < μ x) Q) (I x) (kk x) true) : AWJ C Y (.loop c) Q s k true := by
  intro a w gm hj hb
  have pr : ∃ q : Act → World → Nat → Prop, q = fun a' w' n => ∃ x, ok x ∧ μ x = n ∧ Gm C (I x) a' w' ∧ Y.J (kk x) true w' ∧ Y.B ≤ w'.heap.size := ⟨_, rfl⟩
  obtain ⟨q, hq⟩ := pr
  have hqi : ∀ a' w' n, q a' w' n ↔ ∃ x, ok x ∧ μ x = n ∧ Gm C (I x) a' w' ∧ Y.J (kk x) true w' ∧ Y.B ≤ w'.heap.size := fun a' w' n => by rw [hq]
  refine wpIn_loop (fun a' w' => ∃ n, q a' w' n) (fun a' w' => if h : ∃ n, q a' w' n then (least _ h).choose else 0) ⟨μ x0, (hqi _ _ _).2 ⟨x0, hx, rfl, h0 C a w gm, by rw [hk]; exact hj, hb⟩⟩ ?_
  rintro a' w' hex
  have hl := (least _ hex).choose_spec
  obtain ⟨x, hok, hμ, g', hj', hb'⟩ := (hqi _ _ _).1 hl.1
  refine wpIn_mono (round x hok a' w' g' hj' hb') ?_
  rintro e a'' w'' ⟨s'', k'', g'', r, gm'', hj'', hb''⟩
  cases e with
  | normal =>
    obtain ⟨rfl, y, hy, hle, hky, hlt⟩ := r
    have hqy : q a'' w'' (μ y) := (hqi _ _ _).2 ⟨y, hy, rfl, hle C _ _ gm'', by rw [hky]; exact hj'', hb''⟩
    refine ⟨⟨μ y, hqy⟩, ?_⟩
    rw [dif_pos ⟨μ y, hqy⟩, dif_pos hex]
    have h1 := (least _ ⟨μ y, hqy⟩).choose_spec.2 (μ y) hqy
    omega
  | _ => exact ⟨s'', k'', g'', r, gm'', hj'', hb''⟩
end

section
variable {next : S → Nat → Bool → Prop} {Q : Exit → S → Nat → Bool → Prop} {s : S} {k : Nat} {g : Bool} {id id' : Nat}
theorem xjt_n (h : next s k g) : XThenJ next Q .normal s k g := h
theorem xjt_r (h : Q .ret s k g) : XThenJ next Q .ret s k g := h
theorem xjt_x (h : Q (.exit id) s k g) : XThenJ next Q (.exit id) s k g := h
theorem xjb_n (h : Q .normal s k g) : XBlockJ id Q .normal s k g := h
theorem xjb_r (h : Q .ret s k g) : XBlockJ id Q .ret s k g := h
theorem xjb_same (h : Q .normal s k g) : XBlockJ id Q (.exit id) s k g := by simpa [XBlockJ] using h
theorem xjb_ne (hne : (id' == id) = false) (h : Q (.exit id') s k g) : XBlockJ id Q (.exit id') s k g := by
  have : ¬ id' = id := by simpa using hne
  simpa [XBlockJ, this] using h
end
/-- the first operations of a region, in the text's order -/
theorem run_pre {P : Program} {W LB : Nat → Prop} {ops : Array Oper} {nx N : Nat} {dfs : Dp} {F : Fence} (hF : FW F) {Q : Exit → Act → World → Prop} (hd : ∀ o ∈ ops.toList, ∀ t, o.dst = some t → t < N) (rest : List Oper) :
    ∀ (os : List Oper) (i : Nat) (tr : List TE) (tm tm' : Nat → V) (σ σ' : Nat → Option Ob) (a : Act) (w w0 : World) (L : Nat → Prop) (ρ : Nat → Option Value) (fresh : Nat → Prop),
      (∀ j, (os ++ rest)[j]? = ops[i + j]?) → Run P W LB ops nx os tr tm σ tm' σ' → Gam W LB N dfs fresh tm σ a w L ρ → (∀ o ∈ os ++ rest, ∀ t, o.dst = some t → ∀ id, nx * 100000 ≤ id → id % 1000 = t → id < (nx + 1) * 100000 → fresh id) → (∀ id, freshA (nx + 1) id → fresh id) → ((os ++ rest).filterMap (·.dst)).Nodup → Tch W w0 w →
      (∀ a' w' L' ρ' fresh', Gam W LB N dfs fresh' tm' σ' a' w' L' ρ' → (∀ o ∈ rest, ∀ t, o.dst = some t → ∀ id, nx * 100000 ≤ id → id % 1000 = t → id < (nx + 1) * 100000 → fresh' id) → (∀ id, freshA (nx + 1) id → fresh' id) → Tch W w0 w' → wpOpsIn F 0 P ops Q (List.range' (i + os.length) rest.length) a' w') →
      wpOpsIn F 0 P ops Q (List.range' i (os.length + rest.length)) a w := by
  intro os
  induction os with
  | nil =>
    intro i tr tm tm' σ σ' a w w0 L ρ fresh _ hr h hfr1 hfr _ ht hQ
    cases tr with
    | cons => exact hr.elim
    | nil =>
      obtain ⟨rfl, rfl⟩ := hr
      have := hQ a w L ρ fresh h (fun o ho => hfr1 o (by simpa using ho)) hfr ht
      simpa using this
  | cons o os ih =>
    intro i tr tm tm' σ σ' a w w0 L ρ fresh hj hr h hfr1 hfr hnd ht hQ
    cases tr with
    | nil => exact hr.elim
    | cons e tr =>
      obtain ⟨⟨hw, hs, hn⟩, hr⟩ := hr
      have hi : ops[i]? = some o := by have := hj 0; simpa using this.symm
      rw [List.length_cons, Nat.add_right_comm, List.range'_succ, wpOpsIn_cons]
      refine step_in (fresh' := fun id => fresh id ∧ id ∉ e.nw) hF h hi (hd o (by have := Array.mem_of_getElem? hi; simpa using this)) hw (fun he => ⟨(hs he).1, (hs he).2.1, fun id hid => by
        obtain ⟨t, h1, h2, h3, h4⟩ := (hs he).2.2 id hid
        exact hfr1 o (by simp) t h1 id h2 h4 h3⟩) (fun _ _ => rfl) hn (fun id h => h) ?_
      intro a' w' L' ρ' h' ht' _
      have f1 : ∀ o' ∈ os ++ rest, ∀ t, o'.dst = some t → ∀ id, nx * 100000 ≤ id → id % 1000 = t → id < (nx + 1) * 100000 → id ∉ e.nw := by
        intro o' ho' t ht id h1 h2 h3 hc
        cases hrun : e.run with
        | false => rw [(hn hrun).2.1] at hc; simp at hc
        | true =>
          obtain ⟨t', g1, g2, g3, g4⟩ := (hs hrun).2.2 id hc
          have htt : t = t' := by rw [← h2, ← g4]
          subst htt
          rw [List.cons_append] at hnd
          simp only [List.filterMap_cons, g1, List.nodup_cons] at hnd
          exact hnd.1 (List.mem_filterMap.2 ⟨o', ho', ht⟩)
      have f2 : ∀ id, freshA (nx + 1) id → id ∉ e.nw := by
        intro id hid hc
        cases hrun : e.run with
        | false => rw [(hn hrun).2.1] at hc; simp at hc
        | true =>
          obtain ⟨t', g1, g2, g3, g4⟩ := (hs hrun).2.2 id hc
          unfold freshA at hid
          omega
      refine ih (i + 1) tr _ _ _ _ a' w' w0 L' ρ' _ (fun j => by have := hj (j + 1); simpa [Nat.add_assoc, Nat.add_comm 1 j] using this) hr h' (fun o' ho' t ht id h1 h2 h3 => ⟨hfr1 o' (by rw [List.cons_append]; exact List.mem_cons_of_mem _ ho') t ht id h1 h2 h3, f1 o' ho' t ht id h1 h2 h3⟩) (fun id hid => ⟨hfr id hid, f2 id hid⟩) ?_ (ht.trans ht') (fun a2 w2 L2 ρ2 fr2 g2 q1 q2 q3 => ?_)
      · rw [List.cons_append] at hnd
        cases hdst : o.dst with
        | none => simpa [List.filterMap_cons, hdst] using hnd
        | some t => simp only [List.filterMap_cons, hdst, List.nodup_cons] at hnd; exact hnd.2
      · have := hQ a2 w2 L2 ρ2 fr2 g2 q1 q2 q3
        rwa [show i + 1 + os.length = i + (o :: os).length by simp; omega]

/-- what is owed at a yield -/
structure YS {P : Program} {N : Nat} {es : List (List V)} (C : Cx P N) (Y : YE P es) (ops : Array Oper) (nx : Nat) (os : List Oper) (fo : Operand) (ar : Array Operand) (d : Nat) (Q : Exit → S → Nat → Bool → Prop) (k : Nat) (tm : Nat → V) (σ : Nat → Option Ob) : Prop where
  hf : ev tm fo = .c (.func (.yield Y.l) #[] #[])
  hv : ∃ v, es[k]? = some v ∧ A2 (ar.toList.map (ev tm)) v
  idf : V.idfL (ar.toList.map (ev tm)) = true
  t : AOps C ops nx os (upd tm d (.b true)) σ [] fun tm' σ' _ => Q .normal ⟨tm', σ', nx + 1⟩ (k + 1) true
  f : AOps C ops nx os (upd tm d (.b false)) σ [] fun tm' σ' _ => Q .normal ⟨tm', σ', nx + 1⟩ k false
/-- a region that holds a yield -/
theorem awj_yield {P : Program} {N : Nat} {es : List (List V)} {C : Cx P N} {Y : YE P es} {Q : Exit → S → Nat → Bool → Prop} (hC : YC C Y) {id nx k : Nat} {ol : List Oper} {tm : Nat → V} {σ : Nat → Option Ob} (n : Nat) {fo : Operand} {ar : Array Operand} {ats : Array TypeId} {d : Nat} {ty : TypeId} {pos : String} {af : Array Edge}
    (hok : okReg N ol = true) (hy : ol[n]? = some ⟨some d, .call { callee := .value fo, args := ar, argTypes := ats }, ty, pos, af, none⟩)
    (h : AOps C ol.toArray nx (ol.take n) tm σ [] fun tm1 σ1 _ => YS C Y ol.toArray nx (ol.drop (n + 1)) fo ar d Q k tm1 σ1) : AWJ C Y (.region id ol.toArray false) Q ⟨tm, σ, nx⟩ k true := by
  intro a w ⟨L, ρ, g⟩ hj hb
  obtain ⟨h1, h2⟩ := okReg_spec hok
  obtain ⟨tr, tm1, σ1, h3, ys⟩ := h.run
  have hn : n < ol.length := (List.getElem?_eq_some_iff.1 hy).1
  obtain ⟨y, hyd⟩ : ∃ y : Oper, y = ⟨some d, .call { callee := .value fo, args := ar, argTypes := ats }, ty, pos, af, none⟩ := ⟨_, rfl⟩
  have hsp : ol = ol.take n ++ y :: ol.drop (n + 1) := by
    rw [hyd]
    have e1 : ol.drop n = ol[n] :: ol.drop (n + 1) := List.drop_eq_getElem_cons hn
    have e2 : ol[n] = _ := (List.getElem?_eq_some_iff.1 hy).2
    rw [← e2, ← e1, List.take_append_drop]
  refine wpIn_region ?_
  have hsz : ol.toArray.size = (ol.take n).length + (y :: ol.drop (n + 1)).length := by
    simp; omega
  rw [List.range_eq_range', hsz]
  have hmem : ∀ o ∈ ol.take n ++ y :: ol.drop (n + 1), o ∈ ol := fun o ho => by rwa [← hsp] at ho
  refine run_pre (P := P) (W := C.W) (LB := C.LB) (ops := ol.toArray) (nx := nx) (N := N) (dfs := C.dfs) (.inl rfl) (by simpa using h1) (y :: ol.drop (n + 1)) (ol.take n) 0 tr tm tm1 σ σ1 a w w L ρ (freshA nx) (fun j => by rw [← hsp]; simp) h3 g (fun o ho t ht id h5 h6 h7 => h5) (fun id hid => freshA_succ hid) (by rw [← hsp]; exact h2) (Tch.refl _ _) ?_
  intro a1 W1 L1 ρ1 fr1 g1 q1 q2 t1
  rw [Nat.zero_add, List.length_take, Nat.min_eq_left (Nat.le_of_lt hn), List.length_cons, List.range'_succ, wpOpsIn_cons]
  have hj1 : Y.J k true W1 := Y.hJ _ _ _ _ hj (t1.below hb fun j hj hW => by have := hC.W j hW; omega)
  have hb1 : Y.B ≤ W1.heap.size := Nat.le_trans hb t1.size
  obtain ⟨v, hv, ha⟩ := ys.hv
  have hk : k < es.length := (List.getElem?_eq_some_iff.1 hv).1
  have hargs : RV W1 L1 ρ0 v (ar.map a1.eval).toList := by
    refine ha.rv (RV.free (ρ := ρ1) ⟨by simp, fun i u x hu hx => ?_⟩ ys.idf)
    simp only [List.getElem?_map, Option.map_eq_some_iff, Array.toList_map] at hu hx
    obtain ⟨p, hp, rfl⟩ := hu
    obtain ⟨q, hq, rfl⟩ := hx
    rw [hp] at hq
    injection hq with hq
    subst hq
    exact g1.tm.eval g1.g.gl p
  have hLl : ∀ b, L1 b → Y.L0 b ∨ Y.B ≤ b := fun b hb => hC.LB b (g1.g.ll b hb).2
  obtain ⟨fn, tmps, assign, body, hyr, hR⟩ := Y.hY k (ar.map a1.eval) W1 hk ⟨v, hv, L1, fun b hbl => by
    rcases hLl b hbl with h | h
    · exact .inl h
    · exact .inr ⟨Nat.le_trans Y.hB h, (g1.g.ll b hbl).1, by have := Y.hl.2; omega⟩, hargs⟩ hb1 hj1
  have hfe : a1.eval fo = .func (.yield Y.l) #[] #[] := by
    have := g1.tm.eval g1.g.gl fo
    rw [ys.hf] at this
    exact this.c_inv
  have ho : ol.toArray[n]? = some y := by simp [hy, hyd]
  unfold wpOpIn
  rw [ho]
  simp only
  have hwt : Region.wanted y (yielded ol.toArray a1.tmps) = true := by rw [hyd]; rfl
  rw [if_pos hwt]
  refine ⟨fun f _ => trivial, ?_⟩
  have hrun : (y.semAt Fence.wide.round a1.eval).run P W1 = .ok (.round Y.l fn tmps assign body) W1 := by
    rw [Oper.semAt_eq _ _ _ (fun c e => by rw [hyd] at e; cases e), hyd]
    simp [execOp, resolve, Deferred.ofValue, invoke, hfe, hyr]
  rw [hrun, Oper.uponIn_round]
  refine ⟨fun e => by simp [Fence.wide] at e, hR.mono ?_⟩
  rintro e W2 ⟨b, rfl, ht2, j1, j2⟩
  have hyd2 : y.dst = some d := by rw [hyd]
  have hdN : d < N := h1 y (hmem y (by simp)) d hyd2
  have nL : ∀ j, L1 j → ¬ (Y.R0 j ∨ j = Y.l) := by
    rintro j hjl (h | rfl)
    · have q := Y.hR j h
      rcases hLl j hjl with h' | h'
      · exact q.2 h'
      · have := Y.hB; omega
    · rcases hLl _ hjl with h' | h'
      · have := Y.hL _ h'; have := Y.hl.1; omega
      · have := Y.hl.2; omega
  have nW : ∀ j, C.W j → ¬ (Y.R0 j ∨ j = Y.l) := by
    rintro j hjw (h | rfl)
    · have q := Y.hR j h; have := hC.W j hjw; have := Y.hB; omega
    · have := hC.W _ hjw; have := Y.hl.2; omega
  have ex : Ext W1 L1 ρ1 W2 L1 ρ1 := ⟨fun b hb => ⟨hb, ht2.block b (g1.g.ll b hb).1 (nL b hb)⟩, fun _ _ h => h⟩
  have gb : ∀ z : Bool, z = b → Gam C.W C.LB N C.dfs fr1 (upd tm1 d (.b z)) σ1 (a1.put y.dst (.bool b)) W2 L1 ρ1 := by
    rintro z rfl
    rw [hyd2]
    refine ⟨⟨fun b hb => ⟨Nat.lt_of_lt_of_le (g1.g.ll b hb).1 ht2.size, (g1.g.ll b hb).2⟩, fun b hb => g1.g.new b (Nat.le_trans ht2.size hb), fun id o ho => ?_, g1.g.sep, g1.g.glE ex⟩, g1.fr, (show TM (updO tm1 (some d) (V.b z)) _ _ _ _ from (g1.tm.ext ex).put (fun t ht => by injection ht with ht; rw [← ht, g1.size]; exact hdN) (.c _ _)), by simp [Act.put, g1.size], ?_, g1.pin⟩
    · have hr1 := g1.g.ob id o ho
      obtain ⟨u, hu, hu2⟩ := hr1.lt
      refine hr1.keep ex fun x j hx hj => ?_
      rw [hx] at hu; injection hu with hu; subst hu
      exact ⟨ht2.block j (hu2 j hj).1 (nW j (hu2 j hj).2.1), (hu2 j hj).2.2⟩
    · obtain ⟨Es, p1, p2, p3⟩ := g1.defers
      exact ⟨Es, p1, p2, fun D hD => ⟨(ht2.block D (Array.getElem?_eq_some_iff.1 (p3 D hD).1).1 (nW D (p3 D hD).2.1)).trans (p3 D hD).1, (p3 D hD).2⟩⟩
  have hb2 : Y.B ≤ W2.heap.size := Nat.le_trans hb1 ht2.size
  have hnd : ((ol.drop (n + 1)).filterMap (·.dst)).Nodup := by
    rw [hsp, List.filterMap_append, List.filterMap_cons, hyd2] at h2
    exact (List.nodup_cons.1 (List.nodup_append.1 h2).2.1).2
  have tail : ∀ (z : Bool) (k' : Nat), z = b → Y.J k' z W2 → AOps C ol.toArray nx (ol.drop (n + 1)) (upd tm1 d (.b z)) σ1 [] (fun tm' σ' _ => Q .normal ⟨tm', σ', nx + 1⟩ k' z) →
      wpOpsIn Fence.wide 0 P ol.toArray (fun e a' w' => ∃ s' k' g', Q e s' k' g' ∧ Gm C s' a' w' ∧ Y.J k' g' w' ∧ Y.B ≤ w'.heap.size) (List.range' (n + 1) (ol.drop (n + 1)).length) (a1.put y.dst (.bool b)) W2 := by
    intro z k' hz hj' hA
    obtain ⟨tr2, tm2, σ2, h4, hq⟩ := hA.run
    exact run_text (P := P) (W := C.W) (LB := C.LB) (ops := ol.toArray) (nx := nx) (N := N) (dfs := C.dfs) (.inl rfl) (by simpa using h1) (ol.drop (n + 1)) (n + 1) tr2 _ tm2 _ σ2 _ W2 W2 L1 ρ1 fr1 (fun j => by simp) h4 (gb z hz) (fun o ho => q1 o (by simp [ho])) q2 hnd (Tch.refl _ _) fun a' w' L' ρ' g' t' =>
      ⟨⟨tm2, σ2, nx + 1⟩, k', z, hq, ⟨L', ρ', g'⟩, Y.hJ _ _ _ _ hj' (t'.below hb2 fun j hj hW => by have := hC.W j hW; omega), Nat.le_trans hb2 t'.size⟩
  cases b with
  | true => exact tail true (k + 1) rfl (j1 rfl) ys.t
  | false => exact tail false k rfl (j2 rfl) ys.f

/-- how an iterator ends -/
def EndIt (n : Nat) (e : Exit) (_ : S) (k : Nat) (g : Bool) : Prop := (e = .normal ∨ e = .ret) ∧ (g = true → k = n) ∧ (g = false → k < n)
theorem ait_intro {T : List TI} {P : Program} (hT : TabOk T P) (hmx : P.follows .mixedOrders = true) {f : FuncId} {fn : Func} {c : Code} {N : Nat} (hk : FnOk P f fn c N) (hres : fn.results = #[]) {caps : List V} {es : List (List V)} (hargs : caps.length + 1 ≤ N)
    (h : ∀ (C : Cx P N) (Y : YE P es), YC C Y → AWJ C Y c (EndIt es.length) ⟨fun t => ((V.c (.func (.yield Y.l) #[] #[])) :: caps).getD t .any, fun _ => none, 1⟩ 0 true) : AIt P f caps es := by
  refine ⟨hk.call, fun L w lb hL hgl hlb R hR => ?_⟩
  intro l J Jx W hT0 hl hlW hJ hJx hY h0
  obtain ⟨C, cW, cLB, cd, cF⟩ : ∃ C : Cx P N, C.W = (fun b => W.heap.size ≤ b) ∧ C.LB = (fun b => L b ∨ W.heap.size ≤ b) ∧ C.dfs = dp0 ∧ C.F = Fence.wide := ⟨⟨fun b => W.heap.size ≤ b, fun b => L b ∨ W.heap.size ≤ b, fun b h => .inr h, dp0, hmx, Fence.wide, .inl rfl⟩, rfl, rfl, rfl, rfl⟩
  obtain ⟨Y, yl, yJ, yL, yw, yR, yB⟩ : ∃ Y : YE P es, Y.l = l ∧ Y.J = (fun k g w => (g = true → J k w) ∧ (g = false → k < es.length ∧ Jx k w)) ∧ Y.L0 = L ∧ Y.w0 = w ∧ Y.R0 = R ∧ Y.B = W.heap.size := by
    refine ⟨⟨l, fun k g w => (g = true → J k w) ∧ (g = false → k < es.length ∧ Jx k w), L, w, R, W.heap.size, fun k x W1 hk hE hs hj => ?_, fun k g W1 W2 hj hb => ⟨fun e => hJ k _ _ (hj.1 e) hb, fun e => ⟨(hj.2 e).1, hJx k _ _ (hj.2 e).2 hb⟩⟩, hT0.size, ⟨hl, hlW⟩, hR, hL⟩, rfl, rfl, rfl, rfl, rfl, rfl⟩
    obtain ⟨fn', tmps, assign, body, h1, h2⟩ := hY k x W1 hk hE hs (hj.1 rfl)
    refine ⟨fn', tmps, assign, body, h1, h2.mono ?_⟩
    rintro e W2 ⟨b, rfl, t, q1, q2⟩
    exact ⟨b, rfl, t, fun e => ⟨fun _ => q1 e, fun e' => by cases e'⟩, fun e => ⟨fun e' => (by cases e'), fun _ => ⟨hk, q2 e⟩⟩⟩
  have hC : YC C Y := ⟨cF, fun b hb => by rw [yB]; rw [cW] at hb; exact hb, fun b hb => by rw [cLB] at hb; rw [yL, yB]; exact hb⟩
  have eW : ∀ b, L b → W.heap[b]? = w.heap[b]? := fun b hb => hT0.block b (hL b hb) fun hc => (hR b hc).2 hb
  have hvs : RV W L ρ0 ((V.c (.func (.yield Y.l) #[] #[])) :: caps) (#[Value.func (.yield l) #[] #[]] ++ lb).toList := by
    have e1 : (#[Value.func (.yield l) #[] #[]] ++ lb).toList = Value.func (.yield l) #[] #[] :: lb.toList := by simp
    rw [e1, yl]
    exact .cons (.c _ _) ⟨hlb.1, fun i u x hu hx => (hlb.2 i u x hu hx).ext ⟨fun b hb => ⟨hb, eW b hb⟩, fun _ _ h => h⟩⟩
  generalize hargsL : ((V.c (.func (.yield Y.l) #[] #[])) :: caps) = args at hvs
  generalize (#[Value.func (.yield l) #[] #[]] ++ lb) = vs at hvs
  have hal : args.length = caps.length + 1 := by rw [← hargsL]; simp
  have hvl : vs.size = args.length := by have := hvs.1; simpa using this.symm
  refine callsIn_of_wp_marks (n := 0) hk.hf hk.hb trivial ?_ rfl
  have hw := h C Y hC
  rw [hargsL] at hw
  refine wpIn_mono (hw _ W ⟨L, ρ0, ⟨⟨fun b hb => ⟨Nat.lt_of_lt_of_le (hL b hb) hT0.size, by rw [cLB]; exact .inl hb⟩, fun b hb => ⟨by rw [cW]; exact hb, by rw [cLB]; exact .inr hb⟩, (fun id o ho => by cases ho), fun i j x y k _ hi => absurd rfl hi, fun g => (hgl g).mono (fun b hb => ⟨hb, eW b hb⟩) fun _ _ h => h⟩, fun _ _ => rfl, fun t => ?_, ?_, ?_, fun id x hp => by rw [cd] at hp; cases hp⟩⟩ ?_ ?_) ?_
  · by_cases ht : t < args.length
    · have h1 : args[t]? = some args[t] := List.getElem?_eq_getElem ht
      obtain ⟨x, hx, hr⟩ := hvs.get h1
      have e1 : args.getD t .any = args[t] := by simp [List.getD_eq_getElem?_getD, h1]
      have e2 : (vs ++ Array.replicate (fn.ntmps - vs.size) undef).getD t undef = x := by
        rw [Array.getD_eq_getD_getElem?, Array.getElem?_append_left (by omega)]
        have : vs[t]? = some x := by simpa using hx
        rw [this]; rfl
      show Go.Ab.R W L ρ0 (args.getD t .any) _
      rw [e1, e2]; exact hr
    · have e1 : args.getD t .any = .any := by simp [List.getD_eq_getElem?_getD, List.getElem?_eq_none (Nat.le_of_not_lt ht)]
      show Go.Ab.R W L ρ0 (args.getD t .any) _
      rw [e1]; exact .any _ _
  · have := hk.hn
    simp; omega
  · exact ⟨[], by rw [cd]; rfl, by simp, by simp⟩
  · rw [yJ]; exact ⟨fun _ => h0, fun e => by cases e⟩
  · rw [yB]; exact Nat.le_refl _
  · rintro e a' w' ⟨s', k, g, ⟨he, hg1, hg2⟩, ⟨L', ρ', g'⟩, hj, hb⟩
    obtain ⟨Ds, d1, d2, d3⟩ := g'.defers
    rw [cd, show dp0.tl = [] from rfl, List.append_nil] at d1
    refine end_marks' Ds he d1 d2 (fun D hD => (d3 D hD).1) fun w2 ht2 => ?_
    obtain ⟨g2, e2⟩ := g'.g.marks ht2 d3
    obtain ⟨x, hx, _⟩ := resV_run hT g2 (fun t => (g'.tm t).ext e2) fn (v := .tup []) (by rw [hres]; rfl)
    have hWD : ∀ D ∈ Ds, Y.B ≤ D := fun D hD => hC.W D (d3 D hD).2.1
    have hj2 := Y.hJ k g _ _ hj (ht2.below (B := Y.B) hb fun j hj hD => by have := hWD j hD; omega)
    rw [yJ] at hj2
    refine ⟨x, hx, ⟨x, rfl⟩, ?_⟩
    cases g with
    | true =>
      have := hg1 rfl; subst this
      exact .inl (hj2.1 rfl)
    | false => exact .inr ⟨k, hj2.2 rfl⟩
theorem AIter.it {P : Program} {gf : FuncId} {caps : List V} {es : List (List V)} (h : AIter P gf caps es) : AIt P gf caps es := by
  refine ⟨h.1, fun L w lb hL _ hlb R hR => ?_⟩
  obtain ⟨xs, h1, h2, h3⟩ := h.2 L w lb hL hlb
  intro l J Jx W hT hl hlW hJ hJx hY h0
  have e0 : ∀ b, L b → W.heap[b]? = w.heap[b]? := fun b hb => hT.block b (hL b hb) fun hc => (hR b hc).2 hb
  have := h3 R hR l (fun k W1 => J k W1 ∧ ∀ b, L b → W1.heap[b]? = w.heap[b]?) Jx W hT hl hlW (fun k W1 W2 hj hb => ⟨hJ k _ _ hj.1 hb, fun b hbL => (hb.block b (Nat.lt_of_lt_of_le (hL b hbL) hT.size)).trans (hj.2 b hbL)⟩) hJx (fun k x W1 hx hs hj => ?_) ⟨h0, e0⟩
  · rw [h1] at this
    refine this.mono ?_
    rintro e W' ⟨hv, hj | hj⟩
    · exact ⟨hv, .inl hj.1⟩
    · exact ⟨hv, .inr hj⟩
  · have hk : k < es.length := by have := (List.getElem?_eq_some_iff.1 hx).1; omega
    have hv : es[k]? = some es[k] := List.getElem?_eq_getElem hk
    have hxr := h2 k _ x hv hx
    obtain ⟨fn', tmps, assign, body, q1, q2⟩ := hY k x W1 hk ⟨_, hv, L, fun b hb => .inl hb, hxr.1, fun i u y hu hy => (hxr.2 i u y hu hy).ext ⟨fun b hb => ⟨hb, hj.2 b hb⟩, fun _ _ h => h⟩⟩ hs hj.1
    refine ⟨fn', tmps, assign, body, q1, q2.mono ?_⟩
    rintro e W2 ⟨b, rfl, ht, a1, a2⟩
    refine ⟨b, rfl, ht, fun e => ⟨a1 e, fun c hc => ?_⟩, a2⟩
    refine (ht.block c ?_ ?_).trans (hj.2 c hc)
    · exact Nat.lt_of_lt_of_le (Nat.lt_of_lt_of_le (hL c hc) hT.size) hs
    · rintro (h | h)
      · exact (hR c h).2 hc
      · have := hL c hc; omega
end Go.Ab
