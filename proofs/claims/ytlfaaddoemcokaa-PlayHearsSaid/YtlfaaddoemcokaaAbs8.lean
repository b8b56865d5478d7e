/-
  A region in whatever order its edges allow, for values without addresses. Condition: operations that may stand in either order touch different objects.
-/
import Derived.Test.YtlfaaddoemcokaaAbs7
import Derived.OrdersIn
namespace Go.Ab
open Go.RowKit Go.Dw

def cev : Value → V
  | .agg cs => if cs.toList.all (·.oneCell') then .agg (cs.toList.map toV) else .c (.agg cs)
  | v => toV v
def ev (tm : Nat → V) : Operand → V
  | .tmp t => tm t
  | .const v => cev v
  | .global _ => .any
  | .func f => .fn (.func f) [] []
theorem R.cev (w : World) (L : Nat → Prop) (ρ : Nat → Option Value) (v : Value) : R w L ρ (cev v) v := by
  unfold Ab.cev
  split
  · split
    · exact .agg' (toV_rl _ _ _ _ (by assumption))
    · exact .c _ _
  · exact R.toV _ _ _ _
def TM (tm : Nat → V) (a : Act) (w : World) (L : Nat → Prop) (ρ : Nat → Option Value) : Prop := ∀ t, R w L ρ (tm t) (a.tmps.getD t undef)
theorem TM.eval {tm : Nat → V} {a : Act} {w : World} {L : Nat → Prop} {ρ : Nat → Option Value} (h : TM tm a w L ρ) (x : Operand) : R w L ρ (ev tm x) (a.eval x) := by
  cases x with
  | tmp t => exact h t
  | const v => exact R.cev _ _ _ _
  | global g => exact .any _ _
  | func f => exact .fn' .nil .nil
def updO (tm : Nat → V) (d : Option Tmp) (v : V) : Nat → V := match d with | some d => upd tm d v | none => tm
theorem TM.put {tm : Nat → V} {a : Act} {w : World} {L : Nat → Prop} {ρ : Nat → Option Value} (h : TM tm a w L ρ) {d : Option Tmp} (hd : ∀ t, d = some t → t < a.tmps.size) {v : V} {x : Value} (hv : R w L ρ v x) : TM (updO tm d v) (a.put d x) w L ρ := by
  cases d with
  | none => exact h
  | some d =>
    intro t
    have hd := hd d rfl
    by_cases ht : t = d
    · subst ht
      simp only [updO, upd_same, Act.put]
      simpa [hd] using hv
    · simp only [updO, upd_ne _ _ ht, Act.put]
      have := h t
      simpa [Array.getElem?_setIfInBounds, Ne.symm ht] using this
theorem TM.ext {tm : Nat → V} {a : Act} {w w' : World} {L L' : Nat → Prop} {ρ ρ' : Nat → Option Value} (h : TM tm a w L ρ) (e : Ext w L ρ w' L' ρ') : TM tm a w' L' ρ' := fun t => (h t).ext e

def wantedV (ops : Array Oper) (tm : Nat → V) (o : Oper) : Option Bool :=
  match o.guard with
  | none => some true
  | some (j, b) => match (ops[j]?).bind (·.dst) with
    | some d => match tm d with
      | .c (.bool x) => some (x == b)
      | .gd g (.c (.bool x)) => some (g && (x == b))
      | _ => none
    | none => none
theorem wantedV_spec {ops : Array Oper} {tm : Nat → V} {a : Act} {w : World} {L : Nat → Prop} {ρ : Nat → Option Value} {o : Oper} {b : Bool} (h : TM tm a w L ρ) (hw : wantedV ops tm o = some b) : Region.wanted o (yielded ops a.tmps) = b := by
  unfold wantedV at hw
  unfold Region.wanted
  split at hw
  · rename_i hg
    injection hw with hw
    rw [hg]; exact hw
  · rename_i j b' hg
    rw [hg]
    split at hw
    · rename_i d hd
      split at hw
      · rename_i x hx
        injection hw with hw
        have h1 := h d
        rw [hx] at h1
        have e1 := h1.c_inv
        have e2 : a.tmps[d]? = some (.bool x) := by
          cases hq : a.tmps[d]? with
          | none =>
            simp only [Array.getD_eq_getD_getElem?, hq] at e1
            simp [undef] at e1
          | some y => simp only [Array.getD_eq_getD_getElem?, hq, Option.getD_some] at e1; rw [e1]
        have hy : yielded ops a.tmps j = some x := by
          unfold yielded
          rw [hd]
          simp only [Option.bind_some]
          rw [e2]
        show (yielded ops a.tmps j == some b') = b
        rw [hy]
        subst hw
        cases x <;> cases b' <;> rfl
      · rename_i g x hx
        injection hw with hw
        have h1 := h d
        rw [hx] at h1
        show (yielded ops a.tmps j == some b') = b
        subst hw
        cases g with
        | false =>
          have e1 : a.tmps.getD d undef = undef := by generalize a.tmps.getD d undef = q at h1; cases h1 with | gd _ _ _ _ h h' => exact h' rfl
          have hy : yielded ops a.tmps j = none := by
            unfold yielded
            rw [hd]
            simp only [Option.bind_some]
            cases hq : a.tmps[d]? with
            | none => rfl
            | some y =>
              simp only [Array.getD_eq_getD_getElem?, hq, Option.getD_some] at e1
              rw [e1]; rfl
          rw [hy]; rfl
        | true =>
          have e1 : a.tmps.getD d undef = .bool x := by generalize a.tmps.getD d undef = q at h1; cases h1 with | gd _ _ _ _ h h' => exact (h rfl).c_inv
          have e2 : a.tmps[d]? = some (.bool x) := by
            cases hq : a.tmps[d]? with
            | none =>
              simp only [Array.getD_eq_getD_getElem?, hq] at e1
              simp [undef] at e1
            | some y => simp only [Array.getD_eq_getD_getElem?, hq, Option.getD_some] at e1; rw [e1]
          have hy : yielded ops a.tmps j = some x := by
            unfold yielded
            rw [hd]
            simp only [Option.bind_some]
            rw [e2]
          rw [hy]
          cases x <;> cases b' <;> rfl
      · cases hw
    · cases hw

structure TE where
  run : Bool
  v : V
  pre : List (Nat × Ob)
  nw : List Nat
  δ : List (Nat × Option Ob)
def keysP (l : List (Nat × Ob)) : List Nat := l.map (·.1)
def keysD (l : List (Nat × Option Ob)) : List Nat := l.map (·.1)
def nwOk (nx : Nat) (d : Option Tmp) (nw : List Nat) : Prop := ∀ id ∈ nw, ∃ t, d = some t ∧ nx * 100000 ≤ id ∧ id < (nx + 1) * 100000 ∧ id % 1000 = t

def StepOk (P : Program) (W LB : Nat → Prop) (ops : Array Oper) (nx : Nat) (tm : Nat → V) (σ : Nat → Option Ob) (o : Oper) (e : TE) : Prop :=
  wantedV ops tm o = some e.run ∧ (e.run = true → AStep P W LB o (ev tm) e.v e.pre e.nw e.δ ∧ (∀ p ∈ e.pre, σ p.1 = some p.2) ∧ nwOk nx o.dst e.nw) ∧ (e.run = false → (∀ w L ρ, R w L ρ e.v undef) ∧ e.nw = [] ∧ e.δ = [])
def Run (P : Program) (W LB : Nat → Prop) (ops : Array Oper) (nx : Nat) : List Oper → List TE → (Nat → V) → (Nat → Option Ob) → (Nat → V) → (Nat → Option Ob) → Prop
  | [], [], tm, σ, tm', σ' => tm' = tm ∧ σ' = σ
  | o :: os, e :: tr, tm, σ, tm', σ' => StepOk P W LB ops nx tm σ o e ∧ Run P W LB ops nx os tr (updO tm o.dst e.v) (upds σ e.δ) tm' σ'
  | _, _, _, _, _, _ => False

/-- what stays as it is: the deferred calls, and what some names stand for -/
structure Dp where
  pin : Nat → Option Value
  lo : ∀ id x, pin id = some x → 500 ≤ id ∧ id < 1000
def dp0 : Dp := ⟨fun _ => none, fun _ _ h => by cases h⟩
/-- The state of a frame, and of what it owns. -/
structure Gam (W LB : Nat → Prop) (N : Nat) (dfs : Dp) (fresh : Nat → Prop) (tm : Nat → V) (σ : Nat → Option Ob) (a : Act) (w : World) (L : Nat → Prop) (ρ : Nat → Option Value) : Prop where
  g : G W LB σ w L ρ
  fr : ∀ id, fresh id → ρ id = none
  tm : TM tm a w L ρ
  size : a.tmps.size = N
  defers : ∃ Ds : List Nat, a.defers = marks Ds ∧ Ds.Nodup ∧ ∀ D ∈ Ds, w.heap[D]? = some (.deferred (some [])) ∧ W D ∧ ¬ L D
  pin : ∀ id x, dfs.pin id = some x → ρ id = some x

/-- one operation, in a frame -/
theorem step_in {P : Program} {W LB : Nat → Prop} {ops : Array Oper} {N : Nat} {dfs : Dp} {tm tm0 : Nat → V} {σ : Nat → Option Ob} {o : Oper} {e : TE} {i : Nat} {F : Fence} (hF : FW F) {fresh fresh' : Nat → Prop} {a : Act} {w : World} {L : Nat → Prop} {ρ : Nat → Option Value} {Q : Exit → Act → World → Prop} {K : Act → World → Prop}
    (h : Gam W LB N dfs fresh tm σ a w L ρ) (hi : ops[i]? = some o) (hd : ∀ t, o.dst = some t → t < N)
    (hw : wantedV ops tm o = some e.run) (hs : e.run = true → AStep P W LB o (ev tm0) e.v e.pre e.nw e.δ ∧ (∀ p ∈ e.pre, σ p.1 = some p.2) ∧ (∀ id ∈ e.nw, fresh id)) (hev : ∀ x ∈ o.op.operands, ev tm x = ev tm0 x)
    (hn : e.run = false → (∀ w L ρ, R w L ρ e.v undef) ∧ e.nw = [] ∧ e.δ = []) (hfr : ∀ id, fresh' id → fresh id ∧ id ∉ e.nw)
    (hK : ∀ a' w' L' ρ', Gam W LB N dfs fresh' (updO tm o.dst e.v) (upds σ e.δ) a' w' L' ρ' → Tch W w w' → Ext w L ρ w' L' ρ' → K a' w') : wpOpIn F 0 P ops Q i K a w := by
  have hwt := wantedV_spec h.tm hw
  unfold wpOpIn
  rw [hi]
  simp only [hwt]
  cases hr : e.run with
  | false =>
    obtain ⟨h1, h3, h4⟩ := hn hr
    simp only [Bool.false_eq_true, if_false]
    refine ⟨fun f _ => hF.fn f, hK _ _ L ρ ⟨?_, fun id hid => h.fr id (hfr id hid).1, ?_, ?_, ?_, h.pin⟩ (Tch.refl _ _) (Ext.refl _ _ _)⟩
    · rw [h4]; exact h.g
    · exact h.tm.put (fun t ht => by rw [h.size]; exact hd t ht) (h1 _ _ _)
    · cases o.dst <;> simp [Act.put, h.size]
    · cases o.dst <;> exact h.defers
  | true =>
    obtain ⟨h1, h2, h3⟩ := hs hr
    simp only [if_true]
    refine h1 σ w L ρ a.eval h.g (fun x hx => by rw [← hev x hx]; exact h.tm.eval x) h2 (fun id hid => h.fr id (h3 id hid)) F hF a _ Q (fun _ _ => rfl) ?_
    rintro x w' ⟨L', ρ', hG, hv, ht, hx, hρ, hdk⟩
    refine hK _ _ L' ρ' ⟨hG, fun id hid => ?_, (h.tm.ext hx).put (fun t ht => by rw [h.size]; exact hd t ht) hv, ?_, ?_, fun id x hp => hx.r id x (h.pin id x hp)⟩ ht hx
    · rw [hρ id (hfr id hid).2]; exact h.fr id (hfr id hid).1
    · cases o.dst <;> simp [Act.put, h.size]
    · obtain ⟨Ds, h4, h5, h6⟩ := h.defers
      refine ⟨Ds, by cases o.dst <;> exact h4, h5, fun D hD => ?_⟩
      obtain ⟨h7, h8, h9⟩ := h6 D hD
      exact ⟨(hdk D h7).1, h8, fun hL => h9 ((hdk D h7).2 hL)⟩

def freshA (nx : Nat) (id : Nat) : Prop := nx * 100000 ≤ id
/-- in the order of the text -/
theorem run_text {P : Program} {W LB : Nat → Prop} {ops : Array Oper} {nx N : Nat} {dfs : Dp} {F : Fence} (hF : FW F) {Q : Exit → Act → World → Prop} (hd : ∀ o ∈ ops.toList, ∀ t, o.dst = some t → t < N) :
    ∀ (os : List Oper) (i : Nat) (tr : List TE) (tm tm' : Nat → V) (σ σ' : Nat → Option Ob) (a : Act) (w w0 : World) (L : Nat → Prop) (ρ : Nat → Option Value) (fresh : Nat → Prop),
      (∀ j, os[j]? = ops[i + j]?) → Run P W LB ops nx os tr tm σ tm' σ' → Gam W LB N dfs fresh tm σ a w L ρ → (∀ o ∈ os, ∀ t, o.dst = some t → ∀ id, nx * 100000 ≤ id → id % 1000 = t → id < (nx + 1) * 100000 → fresh id) → (∀ id, freshA (nx + 1) id → fresh id) → (os.filterMap (·.dst)).Nodup → Tch W w0 w →
      (∀ a' w' L' ρ', Gam W LB N dfs (freshA (nx + 1)) tm' σ' a' w' L' ρ' → Tch W w0 w' → Q .normal a' w') → wpOpsIn F 0 P ops Q (List.range' i os.length) a w := by
  intro os
  induction os with
  | nil =>
    intro i tr tm tm' σ σ' a w w0 L ρ fresh _ hr h _ hfr _ ht hQ
    cases tr with
    | cons => exact hr.elim
    | nil =>
      obtain ⟨rfl, rfl⟩ := hr
      simp only [List.length_nil, List.range'_zero, wpOpsIn]
      exact hQ a w L ρ ⟨h.g, fun id hid => h.fr id (hfr id hid), h.tm, h.size, h.defers, h.pin⟩ ht
  | cons o os ih =>
    intro i tr tm tm' σ σ' a w w0 L ρ fresh hj hr h hfr1 hfr hnd ht hQ
    cases tr with
    | nil => exact hr.elim
    | cons e tr =>
      obtain ⟨⟨hw, hs, hn⟩, hr⟩ := hr
      have hi : ops[i]? = some o := by have := hj 0; simpa using this.symm
      rw [List.length_cons, List.range'_succ, wpOpsIn_cons]
      refine step_in (fresh' := fun id => fresh id ∧ id ∉ e.nw) hF h hi (hd o (by have := Array.mem_of_getElem? hi; simpa using this)) hw (fun he => ⟨(hs he).1, (hs he).2.1, fun id hid => by
        obtain ⟨t, h1, h2, h3, h4⟩ := (hs he).2.2 id hid
        exact hfr1 o (by simp) t h1 id h2 h4 h3⟩) (fun _ _ => rfl) hn (fun id h => h) ?_
      intro a' w' L' ρ' h' ht' _
      have f1 : ∀ o' ∈ os, ∀ t, o'.dst = some t → ∀ id, nx * 100000 ≤ id → id % 1000 = t → id < (nx + 1) * 100000 → id ∉ e.nw := by
        intro o' ho' t ht id h1 h2 h3 hc
        cases hrun : e.run with
        | false => rw [(hn hrun).2.1] at hc; simp at hc
        | true =>
          obtain ⟨t', g1, g2, g3, g4⟩ := (hs hrun).2.2 id hc
          have htt : t = t' := by rw [← h2, ← g4]
          subst htt
          simp only [List.filterMap_cons, g1, List.nodup_cons] at hnd
          exact hnd.1 (List.mem_filterMap.2 ⟨o', ho', ht⟩)
      have f2 : ∀ id, freshA (nx + 1) id → id ∉ e.nw := by
        intro id hid hc
        cases hrun : e.run with
        | false => rw [(hn hrun).2.1] at hc; simp at hc
        | true =>
          obtain ⟨t', g1, g2, g3, g4⟩ := (hs hrun).2.2 id hc
          unfold freshA at hid
          omega
      refine ih (i + 1) tr _ _ _ _ a' w' w0 L' ρ' _ (fun j => by have := hj (j + 1); simpa [Nat.add_assoc, Nat.add_comm 1 j] using this) hr h' (fun o' ho' t ht id h1 h2 h3 => ⟨hfr1 o' (by simp [ho']) t ht id h1 h2 h3, f1 o' ho' t ht id h1 h2 h3⟩) (fun id hid => ⟨hfr id hid, f2 id hid⟩) ?_ (ht.trans ht') hQ
      cases hdst : o.dst with
      | none => simpa [List.filterMap_cons, hdst] using hnd
      | some t => simp only [List.filterMap_cons, hdst, List.nodup_cons] at hnd; exact hnd.2

/-! ### Any order -/
theorem upds_notin {δ : List (Nat × Option Ob)} : ∀ {σ : Nat → Option Ob} {k : Nat}, k ∉ keysD δ → upds σ δ k = σ k := by
  induction δ with
  | nil => intro σ k _; rfl
  | cons p δ ih =>
    intro σ k hk
    obtain ⟨j, o⟩ := p
    simp only [keysD, List.map_cons, List.mem_cons, not_or] at hk
    rw [upds, ih (by simpa [keysD] using hk.2), upd_ne _ _ hk.1]
theorem upds_in {δ : List (Nat × Option Ob)} : ∀ {σ τ : Nat → Option Ob} {k : Nat}, k ∈ keysD δ → upds σ δ k = upds τ δ k := by
  induction δ with
  | nil => intro σ τ k hk; simp [keysD] at hk
  | cons p δ ih =>
    intro σ τ k hk
    obtain ⟨j, o⟩ := p
    by_cases h : k ∈ keysD δ
    · rw [upds, upds]; exact ih h
    · simp only [keysD, List.map_cons, List.mem_cons] at hk h
      have hkj : k = j := hk.resolve_right h
      subst hkj
      rw [upds, upds, upds_notin (by simpa [keysD] using h), upds_notin (by simpa [keysD] using h), upd_same, upd_same]

/-- what an operation looks at, and what it waits for -/
def afterOf (o : Oper) : List Nat := (o.after.toList.filter (Region.binds .any ·)).map (·.on)
/-- closed under what waits -/
def Closed (ops : List Oper) (E : Nat → Prop) : Prop := ∀ i o, ops[i]? = some o → E i → ∀ j ∈ afterOf o, E j
def reach (ops : List Oper) : Nat → List Nat → List Nat
  | 0, s => s
  | n + 1, s => reach ops n (s ++ s.flatMap fun j => match ops[j]? with | some o => afterOf o | none => []).eraseDups
theorem reach_closed {ops : List Oper} {E : Nat → Prop} (h : Closed ops E) : ∀ (n : Nat) (s : List Nat), (∀ j ∈ s, E j) → ∀ j ∈ reach ops n s, E j
  | 0, s, hs, j, hj => hs j hj
  | n + 1, s, hs, j, hj => by
    refine reach_closed h n _ (fun k hk => ?_) j hj
    rw [List.mem_eraseDups, List.mem_append] at hk
    rcases hk with hk | hk
    · exact hs k hk
    · rw [List.mem_flatMap] at hk
      obtain ⟨i, hi, hk⟩ := hk
      cases ho : ops[i]? with
      | none => rw [ho] at hk; simp at hk
      | some o => rw [ho] at hk; exact h i o ho (hs i hi) k hk
def looks (ds : List (Option Tmp)) (o : Oper) : List Tmp :=
  (o.op.operands.toList.filterMap fun | .tmp t => some t | _ => none) ++
  (match o.guard with
   | some (g, _) => ((ds[g]?).bind id).toList
   | none => [])
/-- operations that may stand in either order touch different objects -/
def okDraw (ops : List Oper) (ks : List (List Nat × List Nat)) : Bool :=
  let ds := ops.map (·.dst)
  let n := ops.length
  decide ((ops.filterMap (·.dst)).Nodup) &&
  (List.range n).all (fun i => match ops[i]? with
    | some o => (afterOf o).all (· < i) &&
        (List.range n).all (fun j => j == i || match (ds[j]?).bind id with
          | some t => !(looks ds o).contains t || (afterOf o).contains j || (reach ops n [j]).contains i
          | none => true) &&
        (match ks[i]? with
         | some (wi, fi) => (wi.isEmpty && fi.isEmpty) || ((List.range n).all fun j => match ks[j]? with
            | some (wj, fj) => i == j || (wi.all (fun k => !fj.contains k) && wj.all (fun k => !fi.contains k)) || (reach ops n [i]).contains j || (reach ops n [j]).contains i
            | none => true)
         | none => true)
    | none => true)

section
variable {P : Program} {W LB : Nat → Prop} {ops : List Oper} {nx : Nat}
/-- the text's own states -/
def tmAt (ops : List Oper) (tr : List TE) (tm : Nat → V) : Nat → Nat → V
  | 0 => tm
  | i + 1 => match ops[i]?, tr[i]? with
    | some o, some e => updO (tmAt ops tr tm i) o.dst e.v
    | _, _ => tmAt ops tr tm i
def σAt (tr : List TE) (σ : Nat → Option Ob) : Nat → Nat → Option Ob
  | 0 => σ
  | i + 1 => match tr[i]? with
    | some e => upds (σAt tr σ i) e.δ
    | none => σAt tr σ i
theorem tmAt_cons (o : Oper) (os : List Oper) (e : TE) (tr : List TE) (tm : Nat → V) : ∀ i, tmAt (o :: os) (e :: tr) tm (i + 1) = tmAt os tr (updO tm o.dst e.v) i
  | 0 => by simp [tmAt]
  | i + 1 => by
    rw [tmAt, tmAt_cons o os e tr tm i]
    simp [tmAt]
theorem σAt_cons (e : TE) (tr : List TE) (σ : Nat → Option Ob) : ∀ i, σAt (e :: tr) σ (i + 1) = σAt tr (upds σ e.δ) i
  | 0 => by simp [σAt]
  | i + 1 => by
    rw [σAt, σAt_cons e tr σ i]
    simp [σAt]
theorem Run.at_ {pops : Array Oper} : ∀ {os : List Oper} {tr : List TE} {tm tm' : Nat → V} {σ σ' : Nat → Option Ob}, Run P W LB pops nx os tr tm σ tm' σ' →
    os.length = tr.length ∧ (∀ i o e, os[i]? = some o → tr[i]? = some e → StepOk P W LB pops nx (tmAt os tr tm i) (σAt tr σ i) o e) ∧ tm' = tmAt os tr tm os.length ∧ σ' = σAt tr σ os.length
  | [], [], tm, tm', σ, σ', h => ⟨rfl, fun i o e h => by simp at h, h.1, h.2⟩
  | [], _ :: _, _, _, _, _, h => h.elim
  | _ :: _, [], _, _, _, _, h => h.elim
  | o :: os, e :: tr, tm, tm', σ, σ', h => by
    obtain ⟨h0, h1⟩ := h
    obtain ⟨hl, hs, ht, hσ⟩ := Run.at_ h1
    refine ⟨by simp [hl], fun i o' e' ho he => ?_, ?_, ?_⟩
    · cases i with
      | zero => simp at ho he; subst ho he; exact h0
      | succ i =>
        rw [tmAt_cons, σAt_cons]
        exact hs i o' e' (by simpa using ho) (by simpa using he)
    · rw [List.length_cons, tmAt_cons]; exact ht
    · rw [List.length_cons, σAt_cons]; exact hσ

def IT (ops : List Oper) (tr : List TE) (tm0 : Nat → V) (E : Nat → Prop) (tm : Nat → V) : Prop :=
  (∀ t, (∀ j o, ops[j]? = some o → E j → o.dst ≠ some t) → tm t = tm0 t) ∧ ∀ j o e t, ops[j]? = some o → tr[j]? = some e → E j → o.dst = some t → tm t = e.v
def IS (tr : List TE) (σ0 : Nat → Option Ob) (E : Nat → Prop) (σ : Nat → Option Ob) : Prop :=
  (∀ k, (∀ (j : Nat) e, tr[j]? = some e → E j → k ∉ keysD e.δ) → σ k = σ0 k) ∧
  ∀ (j : Nat) e k, tr[j]? = some e → E j → k ∈ keysD e.δ → (∀ (l : Nat) e', tr[l]? = some e' → E l → j < l → k ∉ keysD e'.δ) → σ k = upds (fun _ => none) e.δ k

theorem IT.same {tr : List TE} {tm0 tm tm' : Nat → V} {E : Nat → Prop} (hl : ops.length = tr.length) (h : IT ops tr tm0 E tm) (h' : IT ops tr tm0 E tm') : tm = tm' := by
  funext t
  by_cases hw : ∃ j o, ops[j]? = some o ∧ E j ∧ o.dst = some t
  · obtain ⟨j, o, ho, hE, hd⟩ := hw
    have hj : j < tr.length := by rw [← hl]; exact (List.getElem?_eq_some_iff.1 ho).1
    rw [h.2 j o tr[j] t ho (List.getElem?_eq_getElem hj) hE hd, h'.2 j o tr[j] t ho (List.getElem?_eq_getElem hj) hE hd]
  · have : ∀ j o, ops[j]? = some o → E j → o.dst ≠ some t := fun j o ho hE hd => hw ⟨j, o, ho, hE, hd⟩
    rw [h.1 t this, h'.1 t this]
theorem last_of {tr : List TE} {E : Nat → Prop} {k : Nat} : ∀ (n : Nat), n ≤ tr.length → (∀ (j : Nat) e, tr[j]? = some e → E j → k ∈ keysD e.δ → j < n) → (∃ (j : Nat) (e : TE), tr[j]? = some e ∧ E j ∧ k ∈ keysD e.δ) →
    ∃ (j : Nat) (e : TE), tr[j]? = some e ∧ E j ∧ k ∈ keysD e.δ ∧ ∀ (l : Nat) e', tr[l]? = some e' → E l → j < l → k ∉ keysD e'.δ := by
  intro n
  induction n with
  | zero => rintro _ hb ⟨j, e, h1, h2, h3⟩; exact absurd (hb j e h1 h2 h3) (by omega)
  | succ n ih =>
    intro hn hb hex
    have hlt : n < tr.length := by omega
    by_cases hc : E n ∧ k ∈ keysD tr[n].δ
    · exact ⟨n, tr[n], List.getElem?_eq_getElem hlt, hc.1, hc.2, fun l e' hl hE hjl hk => by have := hb l e' hl hE hk; omega⟩
    · refine ih (by omega) (fun j e h1 h2 h3 => ?_) hex
      have := hb j e h1 h2 h3
      rcases Nat.lt_succ_iff_lt_or_eq.1 this with h | rfl
      · exact h
      · rw [List.getElem?_eq_getElem hlt] at h1
        injection h1 with h1
        subst h1
        exact absurd ⟨h2, h3⟩ hc
theorem IS.same {tr : List TE} {σ0 σ σ' : Nat → Option Ob} {E : Nat → Prop} (h : IS tr σ0 E σ) (h' : IS tr σ0 E σ') : σ = σ' := by
  funext k
  by_cases hw : ∃ (j : Nat) (e : TE), tr[j]? = some e ∧ E j ∧ k ∈ keysD e.δ
  · obtain ⟨j, e, h1, h2, h3, h4⟩ := last_of tr.length (Nat.le_refl _) (fun j e h _ _ => (List.getElem?_eq_some_iff.1 h).1) hw
    rw [h.2 j e k h1 h2 h3 h4, h'.2 j e k h1 h2 h3 h4]
  · have : ∀ (j : Nat) e, tr[j]? = some e → E j → k ∉ keysD e.δ := fun j e ho hE hd => hw ⟨j, e, ho, hE, hd⟩
    rw [h.1 k this, h'.1 k this]
theorem IT.step {tr : List TE} {tm0 tm : Nat → V} {E : Nat → Prop} {i : Nat} {o : Oper} {e : TE} (hu : ∀ (i j : Nat) (o o' : Oper) (t : Tmp), ops[i]? = some o → ops[j]? = some o' → o.dst = some t → o'.dst = some t → i = j) (h : IT ops tr tm0 E tm) (ho : ops[i]? = some o) (he : tr[i]? = some e) :
    IT ops tr tm0 (fun j => E j ∨ j = i) (updO tm o.dst e.v) := by
  refine ⟨fun t ht => ?_, fun j o' e' t ho' he' hE hd => ?_⟩
  · have h1 := ht i o ho (.inr rfl)
    have h2 := h.1 t fun j o' ho' hE => ht j o' ho' (.inl hE)
    cases hd : o.dst with
    | none => exact h2
    | some d => rw [updO, upd_ne _ _ (fun hc => h1 (by rw [hd, hc])), h2]
  · rcases hE with hE | rfl
    · by_cases hji : j = i
      · subst hji
        rw [ho] at ho'; injection ho' with ho'; subst ho'
        rw [he] at he'; injection he' with he'; subst he'
        rw [hd, updO, upd_same]
      · have h2 := h.2 j o' e' t ho' he' hE hd
        cases hd' : o.dst with
        | none => exact h2
        | some d => rw [updO, upd_ne _ _ (fun hc => hji (hu j i o' o t ho' ho hd (by rw [hd', hc]))), h2]
    · rw [ho] at ho'; injection ho' with ho'; subst ho'
      rw [he] at he'; injection he' with he'; subst he'
      rw [hd, updO, upd_same]
theorem IS.step {tr : List TE} {σ0 σ : Nat → Option Ob} {E : Nat → Prop} {i : Nat} {e : TE} (h : IS tr σ0 E σ) (he : tr[i]? = some e) (hE : ¬ E i) (hlater : ∀ k ∈ keysD e.δ, ∀ (j : Nat) e', tr[j]? = some e' → E j → k ∈ keysD e'.δ → j < i) :
    IS tr σ0 (fun j => E j ∨ j = i) (upds σ e.δ) := by
  refine ⟨fun k hk => ?_, fun j e' k he' hj hk hlast => ?_⟩
  · rw [upds_notin (hk i e he (.inr rfl)), h.1 k fun j e' he' hE => hk j e' he' (.inl hE)]
  · by_cases hji : j = i
    · subst hji
      rw [he] at he'; injection he' with he'; subst he'
      exact upds_in hk
    · have hEj : E j := hj.resolve_right hji
      have hni : k ∉ keysD e.δ := fun hc => by
        have h1 := hlater k hc j e' he' hEj hk
        exact hlast i e he (.inr rfl) h1 hc
      rw [upds_notin hni]
      exact h.2 j e' k he' hEj hk fun l e'' hl hEl hjl => hlast l e'' hl (.inl hEl) hjl
end
end Go.Ab
