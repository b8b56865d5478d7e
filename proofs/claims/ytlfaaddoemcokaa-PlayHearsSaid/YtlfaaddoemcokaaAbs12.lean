/-
  Contracts of functions, for values without addresses; calls; small operations. No condition.
-/
import Derived.Test.YtlfaaddoemcokaaAbs11
import Derived.Test.YtlfaaddoemcokaaAbsE
import Derived.RangeFuncLeaves
namespace Go.Ab
open Go.RowKit Go.Dw

/-! ### What the tables say, in one list -/
structure TI where
  fld : List (Option Nat)
  pl : Option (List (Nat × Nat))
  agg : Option Bool
  size : Option Nat
  bytes : Option Nat
  elem : Option Nat
  arr : Option (Nat × Nat)
  kind : Option IntKind
  zero : Option (List V)
  some' : Bool
  eqn : Option Nat := none
def tiOf (P : Program) (t : Nat) : TI :=
  { fld := match tFlds P t with | some pl => (List.range pl.length).map (tFld P t) | none => [], pl := tFlds P t, agg := tAgg P t, size := tSize P t, bytes := tBytes P t, elem := tElem P t, arr := tArr P t, kind := tKind P t, zero := tZero P t, some' := (P.underlying t).isSome }
def ti0 : TI := ⟨[], none, none, none, none, none, none, none, none, false, none⟩
def TI.clr (x : TI) : TI := ⟨x.fld, x.pl, x.agg, x.size, x.bytes, x.elem, x.arr, x.kind, x.zero, x.some', none⟩
/-- the table of a program -/
def TabOk (T : List TI) (P : Program) : Prop := (∃ mask : List Nat, T.map TI.clr = (List.range T.length).map fun t => if mask.contains t then ti0 else tiOf P t) ∧ (T.zipIdx.all fun p => match p.1.eqn with | none => true | some n => tEq P p.2 == some n) = true
theorem TabOk.at_ {T : List TI} {P : Program} (h : TabOk T P) (t : Nat) : (T.getD t ti0).clr = tiOf P t ∨ (T.getD t ti0).clr = ti0 := by
  obtain ⟨⟨mask, h⟩, _⟩ := h
  by_cases ht : t < T.length
  · have h1 : (T.map TI.clr)[t]? = some (if mask.contains t then ti0 else tiOf P t) := by rw [h]; simp [ht]
    have h2 : (T.map TI.clr)[t]? = some (T.getD t ti0).clr := by simp [List.getD_eq_getElem?_getD, List.getElem?_eq_getElem ht]
    rw [h2] at h1
    injection h1 with h1
    rw [h1]
    split
    · exact .inr rfl
    · exact .inl rfl
  · right
    simp [List.getD_eq_getElem?_getD, List.getElem?_eq_none (Nat.le_of_not_lt ht), TI.clr, ti0]
theorem TabOk.eqn {T : List TI} {P : Program} (h : TabOk T P) {t n : Nat} (k : (T.getD t ti0).eqn = some n) : tEq P t = some n := by
  by_cases ht : t < T.length
  · have h2 := List.all_eq_true.1 h.2 (T[t], t) (by rw [List.mem_zipIdx_iff_getElem?]; simp [List.getElem?_eq_getElem ht])
    simp only [List.getD_eq_getElem?_getD, List.getElem?_eq_getElem ht, Option.getD_some] at k
    simp only [k] at h2
    simpa using h2
  · simp [List.getD_eq_getElem?_getD, List.getElem?_eq_none (Nat.le_of_not_lt ht), ti0] at k
section
variable {T : List TI} {P : Program} (h : TabOk T P) {t : Nat}
include h
theorem TabOk.fld {f off : Nat} (k : ((T.getD t ti0).fld[f]?).join = some off) : tFld P t f = some off := by
  replace k : ((T.getD t ti0).clr.fld[f]?).join = some off := k
  rcases h.at_ t with e | e
  · rw [e] at k
    simp only [tiOf] at k
    split at k
    · rename_i pl hpl
      simp only [List.getElem?_map] at k
      cases hf : (List.range pl.length)[f]? with
      | none => rw [hf] at k; cases k
      | some f' =>
        rw [hf] at k
        have : f' = f := by
          have := List.getElem?_eq_some_iff.1 hf
          obtain ⟨h1, h2⟩ := this
          simpa using h2.symm
        subst this
        simpa using k
    · simp at k
  · rw [e] at k; simp [ti0] at k
theorem TabOk.pl {x : List (Nat × Nat)} (k : (T.getD t ti0).pl = some x) : tFlds P t = some x := by
  replace k : (T.getD t ti0).clr.pl = some x := k
  rcases h.at_ t with e | e <;> rw [e] at k
  · exact k
  · cases k
theorem TabOk.agg {x : Bool} (k : (T.getD t ti0).agg = some x) : tAgg P t = some x := by
  replace k : (T.getD t ti0).clr.agg = some x := k
  rcases h.at_ t with e | e <;> rw [e] at k
  · exact k
  · cases k
theorem TabOk.size {x : Nat} (k : (T.getD t ti0).size = some x) : tSize P t = some x := by
  replace k : (T.getD t ti0).clr.size = some x := k
  rcases h.at_ t with e | e <;> rw [e] at k
  · exact k
  · cases k
theorem TabOk.bytes {x : Nat} (k : (T.getD t ti0).bytes = some x) : tBytes P t = some x := by
  replace k : (T.getD t ti0).clr.bytes = some x := k
  rcases h.at_ t with e | e <;> rw [e] at k
  · exact k
  · cases k
theorem TabOk.elem {x : Nat} (k : (T.getD t ti0).elem = some x) : tElem P t = some x := by
  replace k : (T.getD t ti0).clr.elem = some x := k
  rcases h.at_ t with e | e <;> rw [e] at k
  · exact k
  · cases k
theorem TabOk.arr {x : Nat × Nat} (k : (T.getD t ti0).arr = some x) : tArr P t = some x := by
  replace k : (T.getD t ti0).clr.arr = some x := k
  rcases h.at_ t with e | e <;> rw [e] at k
  · exact k
  · cases k
theorem TabOk.kind {x : IntKind} (k : (T.getD t ti0).kind = some x) : tKind P t = some x := by
  replace k : (T.getD t ti0).clr.kind = some x := k
  rcases h.at_ t with e | e <;> rw [e] at k
  · exact k
  · cases k
theorem TabOk.zero {x : List V} (k : (T.getD t ti0).zero = some x) : tZero P t = some x := by
  replace k : (T.getD t ti0).clr.zero = some x := k
  rcases h.at_ t with e | e <;> rw [e] at k
  · exact k
  · cases k
theorem TabOk.isSome (k : (T.getD t ti0).some' = true) : (P.underlying t).isSome = true := by
  replace k : (T.getD t ti0).clr.some' = true := k
  rcases h.at_ t with e | e <;> rw [e] at k
  · exact k
  · cases k
end

/-! ### Contracts -/
def obsF (obs : List Ob) (i : Nat) : Option Ob := obs[i]?
def AC (P : Program) (f : FuncId) (args : List V) (v : V) (obs : List Ob) : Prop :=
  (∀ (args : Array Value) (w : World), (callFunc f args).run P w = .ok (.enter f args) w) ∧
  ∀ (L : Nat → Prop) (w : World) (vs : Array Value), (∀ b, L b → b < w.heap.size) → RV w L ρ0 args vs.toList →
    Calls P f vs w fun e w' => ∃ x, e = .returned x ∧ Below w.heap.size w w' ∧ ∃ L' ρ', G (fun b => w.heap.size ≤ b) (fun b => L b ∨ w.heap.size ≤ b) (obsF obs) w' L' ρ' ∧ (∀ b, L b → L' b) ∧ R w' L' ρ' v x ∧ ∀ j, obs.length ≤ j → ρ' j = none

/-- names from n on are none's -/
def clamp (n nx i : Nat) : Nat := if i < n then i else nx * 100000 + i
def loadV (T : List TI) (t : Nat) (cs : List V) : Option V :=
  match (T.getD t ti0).agg with
  | some false => cs[0]?
  | some true => match (T.getD t ti0).size with
    | some n => if n ≤ cs.length then some (.agg (cs.take n)) else none
    | none => none
  | none => none
def resV1 (T : List TI) (s : S) : ResultVar → Option V
  | .tmp t => some (s.tm t)
  | .cell a t => match s.tm a with
    | .ptr cs => loadV T t cs
    | .ref id o => match s.σ id with
      | some (.box _ cs) => loadV T t (cs.drop o)
      | _ => none
    | _ => none
def resVs (T : List TI) (s : S) : List ResultVar → Option (List V)
  | [] => some []
  | r :: rs => match resV1 T s r, resVs T s rs with
    | some v, some vs => some (v :: vs)
    | _, _ => none
def resV (T : List TI) (s : S) (rs : List ResultVar) : Option V := match resVs T s rs with
  | some [v] => some v
  | some vs => some (.tup vs)
  | none => none
def RetPost (T : List TI) (fn : Func) (v : V) (obs : List Ob) : Exit → S → Prop := fun e s => (e = .normal ∨ e = .ret) ∧ ∃ s', Le s s' ∧ resV T s' fn.results.toList = some v ∧ (∀ i ob, obs[i]? = some ob → s'.σ i = some ob) ∧ v.ren (clamp obs.length s'.nx) = v ∧ (∀ ob ∈ obs, ob.ren (clamp obs.length s'.nx) = ob)

section
variable {T : List TI} {P : Program}
theorem loadV_run (hT : TabOk T P) {t b o : Nat} {cs : List V} {v : V} {w : World} {L : Nat → Prop} {ρ : Nat → Option Value} (h : loadV T t cs = some v) (hc : ∀ (j : Nat) u, cs[j]? = some u → ∃ y, w.cell? ⟨b, o + j, none⟩ = some y ∧ y.oneCell' = true ∧ R w L ρ u y) :
    ∃ x, (loadVar t ⟨b, o, none⟩).run P w = .ok x w ∧ R w L ρ v x := by
  unfold loadV at h
  split at h
  · rename_i ha
    obtain ⟨y, h1, h2, h3⟩ := hc 0 v h
    exact ⟨y, run_loadVar1 (hT.agg ha) (by simpa using h1), h3⟩
  · rename_i ha
    split at h
    · rename_i n hn
      split at h
      · rename_i hle
        injection h with h
        subst h
        obtain ⟨xs, h1, h2⟩ := cells_list (cs.take n) fun j u hu => hc j u (by
          rw [List.getElem?_take] at hu
          split at hu
          · exact hu
          · cases hu)
        exact ⟨.agg xs.toArray, run_loadVarN (hT.agg ha) (hT.size hn) (by rw [← h1.1]; simp; omega) h2, .agg' (by simpa using h1)⟩
      · cases h
    · cases h
  · cases h
def rM (tmps : Array Value) : ResultVar → Sem Value
  | .tmp t => pure (tmps.getD t undef)
  | .cell a t => do loadVar t (← asAddr (tmps.getD a undef))
theorem results_eq (fn : Func) (tmps : Array Value) : results fn tmps = (do let vs ← fn.results.mapM (rM tmps); pure (if h : vs.size = 1 then vs[0] else .tuple vs)) := by
  unfold results
  congr 2
theorem resV1_run (hT : TabOk T P) {W LB : Nat → Prop} {s : S} {a : Act} {w : World} {L : Nat → Prop} {ρ : Nat → Option Value} (g : G W LB s.σ w L ρ) (tm : TM s.tm a w L ρ) (r : ResultVar) {v : V} (h : resV1 T s r = some v) :
    ∃ x, (rM a.tmps r).run P w = .ok x w ∧ R w L ρ v x := by
  cases r with
  | tmp t =>
    simp only [resV1, Option.some.injEq] at h
    subst h
    exact ⟨_, rfl, tm t⟩
  | cell x t =>
    have hx := tm x
    simp only [resV1] at h
    split at h
    · rename_i cs hcs
      rw [hcs] at hx
      obtain ⟨b, o, e, hb, hc⟩ := hx.ptr_inv
      obtain ⟨y, hy, hr⟩ := loadV_run (ρ := ρ) hT h fun j u hu => by obtain ⟨y, h1, h2, h3⟩ := hc j u hu; exact ⟨y, h1, h2, h3.of0⟩
      exact ⟨y, by simp only [rM, e]; simp [asAddr, hy], hr⟩
    · rename_i id o hid
      rw [hid] at hx
      split at h
      · rename_i t' cs hσ
        obtain ⟨b, xs, e, hρ, hW, hL, hh, hl⟩ := box_of g hx hσ
        obtain ⟨y, hy, hr⟩ := loadV_run (ρ := ρ) hT (o := o) (b := b) h fun j u hu => by
          rw [List.getElem?_drop] at hu
          obtain ⟨y, h1, h2, h3⟩ := hl.get hu
          exact ⟨y, by rw [cell_of_row w b _ xs t' (0, 0) hh]; simpa using h1, h3, h2⟩
        exact ⟨y, by simp only [rM, e]; simp [asAddr, hy], hr⟩
      · cases h
    · cases h
theorem resV_run (hT : TabOk T P) {W LB : Nat → Prop} {s : S} {a : Act} {w : World} {L : Nat → Prop} {ρ : Nat → Option Value} (g : G W LB s.σ w L ρ) (tm : TM s.tm a w L ρ) (fn : Func) {v : V} (h : resV T s fn.results.toList = some v) :
    ∃ x, (results fn a.tmps).run P w = .ok x w ∧ R w L ρ v x := by
  have key : ∀ (rs : List ResultVar) (vs : List V), resVs T s rs = some vs → ∃ xs, (rs.mapM (rM a.tmps)).run P w = .ok xs w ∧ RV w L ρ vs xs := by
    intro rs
    induction rs with
    | nil => intro vs h; simp [resVs] at h; subst h; exact ⟨[], rfl, .nil⟩
    | cons r rs ih =>
      intro vs h
      simp only [resVs] at h
      split at h
      · rename_i v' vs' h1 h2
        injection h with h
        subst h
        obtain ⟨x, hx, hr⟩ := resV1_run hT g tm r h1
        obtain ⟨xs, hxs, hrs⟩ := ih vs' h2
        refine ⟨x :: xs, ?_, .cons hr hrs⟩
        rw [List.mapM_cons]
        simp [hx, hxs]
      · cases h
  have fin : ∀ vs, resVs T s fn.results.toList = some vs → ∃ xs, (results fn a.tmps).run P w = .ok (if h : xs.length = 1 then xs[0] else .tuple xs.toArray) w ∧ RV w L ρ vs xs := by
    intro vs hvs
    obtain ⟨xs, h1, h2⟩ := key _ _ hvs
    refine ⟨xs, ?_, h2⟩
    rw [results_eq, Array.mapM_eq_mapM_toList]
    simp [h1]
  unfold resV at h
  split at h
  · rename_i v' hv
    injection h with h
    subst h
    obtain ⟨xs, h1, h2⟩ := fin _ hv
    have hl : xs.length = 1 := by rw [← h2.1]; rfl
    rw [dif_pos hl] at h1
    exact ⟨_, h1, h2.2 0 v' _ rfl (by rw [List.getElem?_eq_getElem (by omega)])⟩
  · rename_i vs hne hv
    injection h with h
    subst h
    obtain ⟨xs, h1, h2⟩ := fin _ hv
    have hl : ¬ xs.length = 1 := by
      intro hl
      rw [← h2.1] at hl
      obtain ⟨y, hy⟩ := List.length_eq_one_iff.1 hl
      exact hne y hy
    rw [dif_neg hl] at h1
    exact ⟨_, h1, .tup' (by simpa using h2)⟩
  · cases h

/-- what is known of a function's row, all at once -/
structure FnOk (P : Program) (f : FuncId) (fn : Func) (c : Code) (N : Nat) : Prop where
  hf : P.funcs[f]? = some fn
  hb : fn.body = some c
  hn : fn.ntmps = N
  hname : (fn.name == "runtime.NumGoroutine") = false
theorem FnOk.call {f : FuncId} {fn : Func} {c : Code} {N : Nat} (h : FnOk P f fn c N) (args : Array Value) (w : World) : (callFunc f args).run P w = .ok (.enter f args) w := by
  have hn : ¬ fn.name = "runtime.NumGoroutine" := by simpa using h.hname
  simp [callFunc, h.hf, hn, h.hb]
theorem leaves_marks' {P : Program} {fn : Func} {tmps : Array Value} {R : Ending → World → Prop} {n : Nat} : ∀ (Ds : List Nat) (w : World), Ds.Nodup → (∀ D ∈ Ds, w.heap[D]? = some (.deferred (some []))) →
    (∀ w', Tch (· ∈ Ds) w w' → ∃ v, (results fn tmps).run P w' = .ok v w' ∧ R (.returned v) w') → LeavesInM Fence.wide n P fn tmps R (marks Ds) .returning w
  | [], w, _, _, hR => hR w (Tch.refl _ _)
  | D :: Ds, w, hn, hD, hR => by
    refine ⟨by simp, .inl ⟨D, w.putObj D (.deferred none), rfl, run_takeDeferred (hD D (by simp)), ?_⟩⟩
    have hn' := List.nodup_cons.1 hn
    refine leaves_marks' Ds _ hn'.2 (fun E hE => ?_) (fun w' ht => hR w' ?_)
    · exact (World.putObj_heap_other (by rintro rfl; exact hn'.1 hE)).trans (hD E (by simp [hE]))
    · exact (((Tch.refl _ w).putObj _ fun _ => by simp).trans (ht.mono fun k _ h => by simp [h]))
theorem end_marks' {P : Program} {fn : Func} {R : Ending → World → Prop} {e : Exit} {a : Act} {w : World} (Ds : List Nat) (he : e = .normal ∨ e = .ret) (hd : a.defers = marks Ds)
    (hn : Ds.Nodup) (hD : ∀ D ∈ Ds, w.heap[D]? = some (.deferred (some []))) (hR : ∀ w', Tch (· ∈ Ds) w w' → ∃ v, (results fn a.tmps).run P w' = .ok v w' ∧ R (.returned v) w') :
    bodyPostM Fence.wide 0 P fn R e a w := by
  rcases he with rfl | rfl
  · show LeavesInM _ _ _ _ _ _ a.defers _ _
    rw [hd]
    exact leaves_marks' Ds w hn hD hR
  · show LeavesInM _ _ _ _ _ _ a.defers _ _
    rw [hd]
    exact leaves_marks' Ds w hn hD hR
/-- what stays when marked deferred objects alone are touched -/
theorem G.marks {W LB : Nat → Prop} {σ : Nat → Option Ob} {w w2 : World} {L : Nat → Prop} {ρ : Nat → Option Value} {Ds : List Nat} (g : G W LB σ w L ρ) (ht : Tch (· ∈ Ds) w w2)
    (hD : ∀ D ∈ Ds, w.heap[D]? = some (.deferred (some [])) ∧ W D ∧ ¬ L D) : G W LB σ w2 L ρ ∧ Ext w L ρ w2 L ρ := by
  have hE : ∀ b, L b → w2.heap[b]? = w.heap[b]? := fun b hb => ht.block b (g.ll b hb).1 fun hc => (hD b hc).2.2 hb
  have he : Ext w L ρ w2 L ρ := ⟨fun b hb => ⟨hb, hE b hb⟩, fun _ _ h => h⟩
  refine ⟨⟨fun b hb => ⟨Nat.lt_of_lt_of_le (g.ll b hb).1 ht.size, (g.ll b hb).2⟩, fun b hb => g.new b (Nat.le_trans ht.size hb), fun id o ho => ?_, g.sep⟩, he⟩
  have hr := g.ob id o ho
  obtain ⟨y, hy, hy2⟩ := hr.lt
  refine hr.keep he fun x k hx hk => ?_
  rw [hx] at hy; injection hy with hy; subst hy
  refine ⟨ht.block k (hy2 k hk).1 fun hc => ?_, (hy2 k hk).2.2⟩
  have h7 := (hD k hc).1
  cases o with
  | box t cs =>
    obtain ⟨b, xs, q1, _, _, q4, _⟩ := hr
    rw [hx] at q1; injection q1 with q1; rw [q1] at hk; simp [blk] at hk; subst hk
    rw [q4] at h7; cases h7
  | row e sz n row =>
    obtain ⟨v, xs, q1, q2, _⟩ := hr
    rw [hx] at q1; injection q1 with q1; subst q1
    rcases q2.2 with ⟨h, _⟩ | ⟨g', cap, cur, h, _, hh, _⟩
    · rw [h] at hk; simp [blk] at hk
    · rw [h] at hk; simp [blk] at hk; subst hk; rw [hh] at h7; cases h7
theorem ac_intro (hT : TabOk T P) (hmx : P.follows .mixedOrders = true) {f : FuncId} {fn : Func} {c : Code} {N : Nat} (hk : FnOk P f fn c N) {args : List V} {v : V} {obs : List Ob} (hargs : args.length ≤ N)
    (h : ∀ C : Cx P N, C.dfs = dp0 → C.F = Fence.wide → AW C c (RetPost T fn v obs) ⟨fun t => args.getD t .any, fun _ => none, 1⟩) : AC P f args v obs := by
  refine ⟨hk.call, fun L w vs hL hvs => ?_⟩
  have hC : ∃ C : Cx P N, C.W = (fun b => w.heap.size ≤ b) ∧ C.LB = (fun b => L b ∨ w.heap.size ≤ b) ∧ C.dfs = dp0 ∧ C.F = Fence.wide := ⟨⟨fun b => w.heap.size ≤ b, fun b => L b ∨ w.heap.size ≤ b, fun b h => .inr h, dp0, hmx, Fence.wide, .inl rfl⟩, rfl, rfl, rfl, rfl⟩
  obtain ⟨C, hW, hLB, hd, hFw⟩ := hC
  have hvl : vs.size = args.length := by have := hvs.1; simpa using this.symm
  refine callsIn_wide.1 (callsIn_of_wp_marks (n := 0) hk.hf hk.hb trivial ?_ rfl)
  have hw := h C hd hFw
  unfold AW at hw
  rw [hFw] at hw
  refine wpIn_mono (hw _ w ⟨L, ρ0, ⟨⟨fun b hb => ⟨hL b hb, by rw [hLB]; exact .inl hb⟩, fun b hb => ⟨by rw [hW]; exact hb, by rw [hLB]; exact .inr hb⟩, (fun id o ho => by cases ho), fun i j x y k _ hi => absurd rfl hi⟩, fun _ _ => rfl, fun t => ?_, ?_, ?_, fun id x hp => by rw [hd] at hp; cases hp⟩⟩) ?_
  · by_cases ht : t < args.length
    · have h1 : args[t]? = some args[t] := List.getElem?_eq_getElem ht
      obtain ⟨x, hx, hr⟩ := hvs.get h1
      have e1 : args.getD t .any = args[t] := by simp [List.getD_eq_getElem?_getD, h1]
      have e2 : (vs ++ Array.replicate (fn.ntmps - vs.size) undef).getD t undef = x := by
        rw [Array.getD_eq_getD_getElem?, Array.getElem?_append_left (by omega)]
        have : vs[t]? = some x := by simpa using hx
        rw [this]; rfl
      show R w L ρ0 (args.getD t .any) _
      rw [e1, e2]; exact hr
    · have e1 : args.getD t .any = .any := by simp [List.getD_eq_getElem?_getD, List.getElem?_eq_none (Nat.le_of_not_lt ht)]
      show R w L ρ0 (args.getD t .any) _
      rw [e1]; exact .any _ _
  · rw [← hk.hn] at hargs ⊢
    simp; omega
  · exact ⟨[], rfl, by simp, by simp⟩
  · rintro e a' w' ⟨s', ⟨he, s'', hle, hres, hob, hcv, hco⟩, g', t⟩
    obtain ⟨L', ρ', g''⟩ := hle C a' w' g'
    have hbel : Below w.heap.size w w' := by
      rw [hW] at t
      exact t.below (Nat.le_refl _) fun k hk => by omega
    obtain ⟨Ds, d1, d2, d3⟩ := g''.defers
    refine end_marks' Ds he d1 d2 (fun D hD => (d3 D hD).1) fun w2 ht2 => ?_
    obtain ⟨g2, e2⟩ := g''.g.marks ht2 d3
    obtain ⟨x, hx, hr⟩ := resV_run hT g2 (fun t => (g''.tm t).ext e2) fn hres
    refine ⟨x, hx, x, rfl, ?_⟩
    have hWD : ∀ D ∈ Ds, w.heap.size ≤ D := fun D hD => by have := (d3 D hD).2.1; rw [hW] at this; exact this
    have hb2 : Below w.heap.size w w2 := ⟨ht2.os.trans hbel.os, ht2.tape.trans hbel.tape, ht2.output.trans hbel.output, Nat.le_trans hbel.size ht2.size, fun k hk => (ht2.block k (Nat.lt_of_lt_of_le hk hbel.size) fun hc => by have := hWD k hc; omega).trans (hbel.block k hk)⟩
    have hr2 : R w2 L' (fun i => ρ' (clamp obs.length s''.nx i)) v x := R_ren _ _ _ (by rw [hcv]; exact hr)
    have hlt : ∀ i ob, obs[i]? = some ob → clamp obs.length s''.nx i = i := fun i ob hi => by
      unfold clamp; rw [if_pos (List.getElem?_eq_some_iff.1 hi).1]
    have hcl : ∀ i, obsF obs i ≠ none → clamp obs.length s''.nx i = i := fun i hi => by
      cases ho : obs[i]? with
      | none => exact absurd ho hi
      | some o => exact hlt i o ho
    have hE2 : Ext w2 L' (fun i => ρ' (clamp obs.length s''.nx i)) w2 (fun b => L' b ∨ L b) (fun i => ρ' (clamp obs.length s''.nx i)) := ⟨fun b hb => ⟨.inl hb, rfl⟩, fun _ _ h => h⟩
    refine ⟨hb2, fun b => L' b ∨ L b, fun i => ρ' (clamp obs.length s''.nx i), ⟨fun b hb => ?_, fun b hb => ?_, fun id o ho => ?_, fun i j x y k hij hi hj => ?_⟩, fun b hb => .inr hb, hr2.ext hE2, fun j hj => ?_⟩
    · rcases hb with hb | hb
      · have := g2.ll b hb
        rw [hLB] at this
        exact ⟨this.1, this.2⟩
      · exact ⟨Nat.lt_of_lt_of_le (hL b hb) hb2.size, .inl hb⟩
    · exact ⟨Nat.le_trans hb2.size hb, .inr (Nat.le_trans hb2.size hb)⟩
    · have hr0 := g2.ob id o (hob id o ho)
      rw [hW] at hr0
      have hr : Real (fun b => w.heap.size ≤ b) w2 L' (fun i => ρ' (clamp obs.length s''.nx i)) id o := Real.ren (by rw [hlt id o ho, hco o (List.mem_of_getElem? ho)]; exact hr0)
      obtain ⟨y, hy, hy2⟩ := hr.lt
      refine hr.keep hE2 fun x k hx hk => ?_
      rw [hx] at hy; injection hy with hy; subst hy
      refine ⟨rfl, ?_⟩
      rintro (h1 | h1)
      · exact (hy2 k hk).2.2 h1
      · have := hL k h1
        have := (hy2 k hk).2.1
        omega
    · simp only [hcl i hi, hcl j hj]
      refine g2.sep i j x y k hij ?_ ?_
      · cases ho : obsF obs i with
        | none => exact absurd ho hi
        | some o => rw [hob i o ho]; simp
      · cases ho : obsF obs j with
        | none => exact absurd ho hj
        | some o => rw [hob j o ho]; simp
    · have e3 : clamp obs.length s''.nx j = s''.nx * 100000 + j := if_neg (by omega)
      show ρ' (clamp obs.length s''.nx j) = none
      rw [e3]
      exact g''.fr _ (by unfold freshA; omega)
end
end Go.Ab
