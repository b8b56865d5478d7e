/-
  A region that draws its order, for values without addresses. Condition: operations that may stand in either order touch different objects.
-/
import Derived.Test.YtlfaaddoemcokaaAbs8
namespace Go.Ab
open Go.RowKit Go.Dw

section
variable {P : Program} {W LB : Nat → Prop} {ops : List Oper} {nx : Nat}

theorem nodup_dst : ∀ {l : List Oper}, (l.filterMap (·.dst)).Nodup → ∀ (i j : Nat) (o o' : Oper) (t : Tmp), l[i]? = some o → l[j]? = some o' → o.dst = some t → o'.dst = some t → i = j
  | [], _, i, j, o, o', t, h, _, _, _ => by simp at h
  | x :: l, hn, i, j, o, o', t, hi, hj, h1, h2 => by
    have hn' : (l.filterMap (·.dst)).Nodup := by
      cases hx : x.dst with
      | none => simpa [List.filterMap_cons, hx] using hn
      | some d => simp only [List.filterMap_cons, hx, List.nodup_cons] at hn; exact hn.2
    have key : ∀ (k : Nat) (p : Oper), l[k]? = some p → p.dst = some t → x.dst ≠ some t := by
      intro k p hk hp hx
      simp only [List.filterMap_cons, hx, List.nodup_cons] at hn
      exact hn.1 (List.mem_filterMap.2 ⟨p, List.mem_of_getElem? hk, hp⟩)
    cases i with
    | zero =>
      simp at hi; subst hi
      cases j with
      | zero => rfl
      | succ j => exact absurd h1 (key j o' (by simpa using hj) h2)
    | succ i =>
      cases j with
      | zero => simp at hj; subst hj; exact absurd h2 (key i o (by simpa using hi) h1)
      | succ j => rw [nodup_dst hn' i j o o' t (by simpa using hi) (by simpa using hj) h1 h2]

theorem IT.congr {tr : List TE} {tm0 tm : Nat → V} {E E' : Nat → Prop} (h : IT ops tr tm0 E tm) (he : ∀ j, j < ops.length → (E j ↔ E' j)) : IT ops tr tm0 E' tm :=
  ⟨fun t ht => h.1 t fun j o ho hE => ht j o ho ((he j (List.getElem?_eq_some_iff.1 ho).1).1 hE), fun j o e t ho he' hE hd => h.2 j o e t ho he' ((he j (List.getElem?_eq_some_iff.1 ho).1).2 hE) hd⟩
theorem IS.congr {tr : List TE} {σ0 σ : Nat → Option Ob} {E E' : Nat → Prop} (h : IS tr σ0 E σ) (he : ∀ j, j < tr.length → (E j ↔ E' j)) : IS tr σ0 E' σ :=
  ⟨fun k hk => h.1 k fun j e hj hE => hk j e hj ((he j (List.getElem?_eq_some_iff.1 hj).1).1 hE),
   fun j e k hj hE hk hl => h.2 j e k hj ((he j (List.getElem?_eq_some_iff.1 hj).1).2 hE) hk fun l e' hl' hEl hjl => hl l e' hl' ((he l (List.getElem?_eq_some_iff.1 hl').1).1 hEl) hjl⟩
theorem IT.at_ {tr : List TE} {tm0 : Nat → V} (hl : ops.length = tr.length) (hu : ∀ (i j : Nat) (o o' : Oper) (t : Tmp), ops[i]? = some o → ops[j]? = some o' → o.dst = some t → o'.dst = some t → i = j) : ∀ i, i ≤ ops.length → IT ops tr tm0 (· < i) (tmAt ops tr tm0 i)
  | 0, _ => ⟨fun t _ => rfl, fun j o e t _ _ h => absurd h (Nat.not_lt_zero _)⟩
  | i + 1, hi => by
    have ih := IT.at_ (tm0 := tm0) hl hu i (by omega)
    have h1 : i < tr.length := by omega
    have h2 : i < ops.length := by omega
    have := ih.step hu (List.getElem?_eq_getElem h2) (List.getElem?_eq_getElem h1)
    rw [tmAt, List.getElem?_eq_getElem h2, List.getElem?_eq_getElem h1]
    exact this.congr fun j _ => by omega
theorem IS.at_ {tr : List TE} {σ0 : Nat → Option Ob} : ∀ i, i ≤ tr.length → IS tr σ0 (· < i) (σAt tr σ0 i)
  | 0, _ => ⟨fun t _ => rfl, fun j e k _ h => absurd h (Nat.not_lt_zero _)⟩
  | i + 1, hi => by
    have ih := IS.at_ (tr := tr) (σ0 := σ0) i (by omega)
    have h1 : i < tr.length := by omega
    have := ih.step (List.getElem?_eq_getElem h1) (by omega) fun k _ j e' _ hE _ => hE
    rw [σAt, List.getElem?_eq_getElem h1]
    exact this.congr fun j _ => by omega
theorem IS.key {tr : List TE} {σ0 σ σ' : Nat → Option Ob} {E E' : Nat → Prop} (h : IS tr σ0 E σ) (h' : IS tr σ0 E' σ') {k : Nat} (he : ∀ (j : Nat) e, tr[j]? = some e → k ∈ keysD e.δ → (E j ↔ E' j)) : σ k = σ' k := by
  by_cases hw : ∃ (j : Nat) (e : TE), tr[j]? = some e ∧ E j ∧ k ∈ keysD e.δ
  · obtain ⟨j, e, h1, h2, h3, h4⟩ := last_of tr.length (Nat.le_refl _) (fun j e h _ _ => (List.getElem?_eq_some_iff.1 h).1) hw
    rw [h.2 j e k h1 h2 h3 h4, h'.2 j e k h1 ((he j e h1 h3).1 h2) h3 fun l e' hl hE hjl hk => h4 l e' hl ((he l e' hl hk).2 hE) hjl hk]
  · have h1 : ∀ (j : Nat) e, tr[j]? = some e → E j → k ∉ keysD e.δ := fun j e ho hE hd => hw ⟨j, e, ho, hE, hd⟩
    rw [h.1 k h1, h'.1 k fun j e ho hE hd => h1 j e ho ((he j e ho hd).2 hE) hd]
theorem IT.key {tr : List TE} {tm0 tm tm' : Nat → V} {E E' : Nat → Prop} (hl : ops.length = tr.length) (h : IT ops tr tm0 E tm) (h' : IT ops tr tm0 E' tm') {t : Tmp} (he : ∀ (j : Nat) o, ops[j]? = some o → o.dst = some t → (E j ↔ E' j)) : tm t = tm' t := by
  by_cases hw : ∃ j o, ops[j]? = some o ∧ E j ∧ o.dst = some t
  · obtain ⟨j, o, ho, hE, hd⟩ := hw
    have hj : j < tr.length := by rw [← hl]; exact (List.getElem?_eq_some_iff.1 ho).1
    rw [h.2 j o tr[j] t ho (List.getElem?_eq_getElem hj) hE hd, h'.2 j o tr[j] t ho (List.getElem?_eq_getElem hj) ((he j o ho hd).1 hE) hd]
  · have h1 : ∀ j o, ops[j]? = some o → E j → o.dst ≠ some t := fun j o ho hE hd => hw ⟨j, o, ho, hE, hd⟩
    rw [h.1 t h1, h'.1 t fun j o ho hE hd => h1 j o ho ((he j o ho hd).2 hE) hd]

def trKeys (tr : List TE) : List (List Nat × List Nat) := tr.map fun e => (keysD e.δ, keysP e.pre ++ keysD e.δ)
structure OkD (ops : List Oper) (tr : List TE) : Prop where
  uniq : ∀ (i j : Nat) (o o' : Oper) (t : Tmp), ops[i]? = some o → ops[j]? = some o' → o.dst = some t → o'.dst = some t → i = j
  after : ∀ (i : Nat) o, ops[i]? = some o → ∀ j ∈ afterOf o, j < i
  data : ∀ (i : Nat) o, ops[i]? = some o → ∀ (j : Nat) o' t, ops[j]? = some o' → o'.dst = some t → t ∈ looks (ops.map (·.dst)) o → j = i ∨ j ∈ afterOf o ∨ i ∈ reach ops ops.length [j]
  conf : ∀ (i : Nat) e, tr[i]? = some e → ∀ (j : Nat) e', tr[j]? = some e' → i ≠ j → ∀ k, k ∈ keysP e.pre ++ keysD e.δ → k ∈ keysD e'.δ → j ∈ reach ops ops.length [i] ∨ i ∈ reach ops ops.length [j]
theorem okDraw_spec {tr : List TE} (hl : ops.length = tr.length) (h : okDraw ops (trKeys tr) = true) : OkD ops tr := by
  unfold okDraw at h
  simp only [Bool.and_eq_true, decide_eq_true_eq, List.all_eq_true, List.mem_range] at h
  obtain ⟨hn, h⟩ := h
  refine ⟨nodup_dst hn, fun i o ho j hj => ?_, fun i o ho j o' t ho' hd ht => ?_, fun i e he j e' he' hij k hk hk' => ?_⟩
  · have := h i (List.getElem?_eq_some_iff.1 ho).1
    rw [ho] at this
    simp only [Bool.and_eq_true, List.all_eq_true, decide_eq_true_eq] at this
    exact this.1.1 j hj
  · have := h i (List.getElem?_eq_some_iff.1 ho).1
    rw [ho] at this
    simp only [Bool.and_eq_true, List.all_eq_true, decide_eq_true_eq, List.mem_range] at this
    have h2 := this.1.2 j (List.getElem?_eq_some_iff.1 ho').1
    have e1 : ((ops.map (·.dst))[j]?).bind id = some t := by rw [List.getElem?_map, ho']; simp [hd]
    rw [e1] at h2
    simp only [Bool.or_eq_true, beq_iff_eq, Bool.not_eq_true', List.contains_eq_mem, decide_eq_false_iff_not, decide_eq_true_eq] at h2
    rcases h2 with h2 | (h2 | h2) | h2
    · exact .inl h2
    · exact absurd ht h2
    · exact .inr (.inl h2)
    · exact .inr (.inr h2)
  · have hi : i < ops.length := by rw [hl]; exact (List.getElem?_eq_some_iff.1 he).1
    have hj : j < ops.length := by rw [hl]; exact (List.getElem?_eq_some_iff.1 he').1
    have := h i hi
    rw [List.getElem?_eq_getElem hi] at this
    simp only [Bool.and_eq_true, List.all_eq_true, decide_eq_true_eq, List.mem_range] at this
    have h2 := this.2
    have e1 : (trKeys tr)[i]? = some (keysD e.δ, keysP e.pre ++ keysD e.δ) := by rw [trKeys, List.getElem?_map, he]; rfl
    have e2 : (trKeys tr)[j]? = some (keysD e'.δ, keysP e'.pre ++ keysD e'.δ) := by rw [trKeys, List.getElem?_map, he']; rfl
    rw [e1] at h2
    simp only [Bool.or_eq_true, Bool.and_eq_true, List.all_eq_true, List.mem_range, List.isEmpty_iff] at h2
    rcases h2 with h2 | h2
    · rw [h2.2] at hk; simp at hk
    · have h3 := h2 j hj
      rw [e2] at h3
      simp only [Bool.or_eq_true, Bool.and_eq_true, List.all_eq_true, beq_iff_eq, Bool.not_eq_true', List.contains_eq_mem, decide_eq_false_iff_not, decide_eq_true_eq] at h3
      rcases h3 with ((h3 | h3) | h3) | h3
      · exact absurd h3 hij
      · exact absurd hk (h3.2 k hk')
      · exact .inl h3
      · exact .inr h3

theorem wantedV_congr {pops : Array Oper} {tm tm' : Nat → V} {o : Oper} (h : ∀ t ∈ looks (pops.toList.map (·.dst)) o, tm t = tm' t) : wantedV pops tm o = wantedV pops tm' o := by
  unfold wantedV
  cases hg : o.guard with
  | none => rfl
  | some p =>
    obtain ⟨j, b⟩ := p
    simp only
    cases hd : (pops[j]?).bind (·.dst) with
    | none => rfl
    | some d =>
      have : d ∈ looks (pops.toList.map (·.dst)) o := by
        unfold looks
        rw [hg]
        refine List.mem_append_right _ ?_
        simp only [List.getElem?_map, Array.getElem?_toList]
        cases hp : pops[j]? with
        | none => rw [hp] at hd; cases hd
        | some q => rw [hp] at hd; simpa using hd
      simp only [h d this]

theorem run_any {pops : Array Oper} (hpo : pops = ops.toArray) {N : Nat} {dfs : Dp} {F : Fence} (hF : FW F) {Q : Exit → Act → World → Prop} {tr : List TE} {tm0 tm' : Nat → V} {σ0 σ' : Nat → Option Ob} {w0 : World} (hd : ∀ o ∈ ops, ∀ t, o.dst = some t → t < N)
    (hr : Run P W LB pops nx ops tr tm0 σ0 tm' σ') (hok : OkD ops tr) (hQ : ∀ a' w' L' ρ', Gam W LB N dfs (freshA (nx + 1)) tm' σ' a' w' L' ρ' → Tch W w0 w' → Q .normal a' w') :
    ∀ (fuel : Nat) (listed : Array Bool) (a : Act) (w : World) (L : Nat → Prop) (ρ : Nat → Option Value) (tm : Nat → V) (σ : Nat → Option Ob) (fresh : Nat → Prop), listed.size = ops.length → listed.toList.count false = fuel →
      Closed ops (fun j => listed.getD j false = true) → IT ops tr tm0 (fun j => listed.getD j false = true) tm → IS tr σ0 (fun j => listed.getD j false = true) σ → Gam W LB N dfs fresh tm σ a w L ρ →
      (∀ (i : Nat) o, ops[i]? = some o → listed.getD i false = false → ∀ t, o.dst = some t → ∀ id, nx * 100000 ≤ id → id % 1000 = t → id < (nx + 1) * 100000 → fresh id) → (∀ id, freshA (nx + 1) id → fresh id) → Tch W w0 w →
      wpAnyIn F 0 P .any pops Q fuel listed a w := by
  obtain ⟨hl, hs, htm, hσ⟩ := hr.at_
  have hall : ∀ (listed : Array Bool) (a : Act) (w : World) (L : Nat → Prop) (ρ : Nat → Option Value) (tm : Nat → V) (σ : Nat → Option Ob) (fresh : Nat → Prop), listed.size = ops.length → listed.toList.count false = 0 →
      IT ops tr tm0 (fun j => listed.getD j false = true) tm → IS tr σ0 (fun j => listed.getD j false = true) σ → Gam W LB N dfs fresh tm σ a w L ρ → (∀ id, freshA (nx + 1) id → fresh id) → Tch W w0 w → Q .normal a w := by
    intro listed a w L ρ tm σ fresh hsz hc hIT hIS h hfr ht
    have hE : ∀ j, j < ops.length → (listed.getD j false = true ↔ j < ops.length) := by
      intro j hj
      refine ⟨fun _ => hj, fun _ => ?_⟩
      have hj' : j < listed.size := by omega
      have := List.count_eq_zero.1 hc
      simp only [Array.getD_eq_getD_getElem?, Array.getElem?_eq_getElem hj', Option.getD_some]
      cases hb : listed[j] with
      | true => rfl
      | false => exact absurd (by rw [← hb]; simp) this
    have e1 : tm = tm' := by rw [htm]; exact (hIT.congr hE).same hl (IT.at_ hl hok.uniq _ (Nat.le_refl _))
    have e2 : σ = σ' := by rw [hσ]; exact (hIS.congr fun j hj => hE j (by omega)).same (by rw [hl]; exact IS.at_ _ (Nat.le_refl _))
    subst e1 e2
    exact hQ a w L ρ ⟨h.g, fun id hid => h.fr id (hfr id hid), h.tm, h.size, h.defers, h.pin⟩ ht
  have hmem : ∀ (listed : Array Bool), listed.size = ops.length → ∀ i, i ∈ Region.ready .any pops listed ↔ (∃ o, ops[i]? = some o ∧ listed.getD i false = false ∧ ∀ j ∈ afterOf o, listed.getD j false = true) := by
    intro listed hsz i
    subst hpo
    simp only [Region.ready, List.mem_filter, List.mem_range, List.size_toArray, Bool.and_eq_true, Bool.not_eq_true', List.getElem?_toArray]
    constructor
    · rintro ⟨hi, h1, h2⟩
      have hi' : i < listed.size := by omega
      rw [List.getElem?_eq_getElem hi] at h2
      refine ⟨ops[i], List.getElem?_eq_getElem hi, ?_, fun j hj => ?_⟩
      · simp only [Array.getD_eq_getD_getElem?, Array.getElem?_eq_getElem hi', Option.getD_some] at h1 ⊢; exact h1
      · simp only [Option.map_some, Option.getD_some, Array.all_eq_true_iff_forall_mem] at h2
        simp only [afterOf, List.mem_map, List.mem_filter] at hj
        obtain ⟨e, ⟨he, hb⟩, rfl⟩ := hj
        have := h2 e (by simpa using he)
        rw [hb] at this
        simpa using this
    · rintro ⟨o, ho, h1, h2⟩
      have hi := (List.getElem?_eq_some_iff.1 ho).1
      have hi' : i < listed.size := by omega
      refine ⟨hi, ?_, ?_⟩
      · simp only [Array.getD_eq_getD_getElem?, Array.getElem?_eq_getElem hi', Option.getD_some] at h1 ⊢; exact h1
      · rw [ho]
        simp only [Option.map_some, Option.getD_some, Array.all_eq_true_iff_forall_mem]
        intro e he
        cases hb : Region.binds .any e with
        | false => simp
        | true =>
          simp only [Bool.not_true, Bool.false_or]
          exact h2 e.on (List.mem_map.2 ⟨e, List.mem_filter.2 ⟨by simpa using he, hb⟩, rfl⟩)
  intro fuel
  induction fuel with
  | zero =>
    intro listed a w L ρ tm σ fresh hsz hc hcl hIT hIS h hfr1 hfr ht
    refine ⟨?_, hall listed a w L ρ tm σ fresh hsz hc hIT hIS h hfr ht⟩
    refine List.eq_nil_iff_forall_not_mem.2 fun i hi => ?_
    obtain ⟨o, ho, h1, _⟩ := (hmem listed hsz i).1 hi
    have hi' : i < listed.size := by rw [hsz]; exact (List.getElem?_eq_some_iff.1 ho).1
    simp only [Array.getD_eq_getD_getElem?, Array.getElem?_eq_getElem hi', Option.getD_some] at h1
    exact List.count_eq_zero.1 hc (by rw [← h1]; simp)
  | succ fuel ih =>
    intro listed a w L ρ tm σ fresh hsz hc hcl hIT hIS h hfr1 hfr ht
    refine ⟨fun hnil => ?_, fun i hi => ?_⟩
    · exfalso
      -- the first one that is not listed is ready
      have hex : ∃ i, i < ops.length ∧ listed.getD i false = false := by
        have : false ∈ listed.toList := List.count_pos_iff.1 (by omega)
        obtain ⟨i, hi, he⟩ := List.getElem_of_mem this
        have hi' : i < listed.size := by simpa using hi
        exact ⟨i, by omega, by simp only [Array.getD_eq_getD_getElem?, Array.getElem?_eq_getElem hi', Option.getD_some]; simpa using he⟩
      have key : ∀ m, ∀ i, i < m → i < ops.length → listed.getD i false = false → False := by
        intro m
        induction m with
        | zero => intro i h; omega
        | succ m ihm =>
          intro i him hil hf
          have : i ∈ Region.ready .any pops listed := (hmem listed hsz i).2 ⟨ops[i], List.getElem?_eq_getElem hil, hf, fun j hj => by
            have hji := hok.after i _ (List.getElem?_eq_getElem hil) j hj
            cases hb : listed.getD j false with
            | true => rfl
            | false => exact (ihm j (by omega) (by omega) hb).elim⟩
          rw [hnil] at this
          simp at this
      obtain ⟨i, hi, hf⟩ := hex
      exact key (i + 1) i (by omega) hi hf
    · obtain ⟨o, ho, hf, haf⟩ := (hmem listed hsz i).1 hi
      have hil := (List.getElem?_eq_some_iff.1 ho).1
      have hil' : i < listed.size := by omega
      have hit : i < tr.length := by omega
      have hte := List.getElem?_eq_getElem hit
      have hst := hs i o tr[i] ho hte
      have hnE : ¬ listed.getD i false = true := by rw [hf]; simp
      -- writers of a temporary that is looked at
      have hlook : ∀ t ∈ looks (ops.map (·.dst)) o, tm t = tmAt ops tr tm0 i t := by
        intro t ht'
        refine hIT.key hl (IT.at_ hl hok.uniq i (by omega)) fun j o' ho' hd' => ?_
        rcases hok.data i o ho j o' t ho' hd' ht' with rfl | hj | hc1
        · exact ⟨fun h => absurd h hnE, fun h => absurd h (by omega)⟩
        · exact ⟨fun _ => hok.after i o ho j hj, fun _ => haf j hj⟩
        · have hle : Closed ops (fun l => l ≤ j) := by
            intro l ol hol hE m hm
            have := hok.after l ol hol m hm
            omega
          have h2 := reach_closed hle ops.length [j] (by simp) i hc1
          exact ⟨fun hE => absurd (reach_closed hcl ops.length [j] (by simpa using hE) i hc1) hnE, fun h => by omega⟩
      -- writers of an object that is touched
      have hkey : ∀ k ∈ keysP tr[i].pre ++ keysD tr[i].δ, ∀ (j : Nat) e', tr[j]? = some e' → j ≠ i → k ∈ keysD e'.δ → (listed.getD j false = true ↔ j < i) := by
        intro k hk j e' he' hji hk'
        have hcl2 : Closed ops (fun l => listed.getD l false = true ∨ l = i) := by
          intro l ol hol hE m hm
          rcases hE with hE | rfl
          · exact .inl (hcl l ol hol hE m hm)
          · rw [ho] at hol; injection hol with hol; subst hol; exact .inl (haf m hm)
        have hle : ∀ q, Closed ops (fun l => l ≤ q) := by
          intro q l ol hol hE m hm
          have := hok.after l ol hol m hm
          omega
        rcases hok.conf i _ hte j e' he' (fun e => hji e.symm) k hk hk' with hc1 | hc1
        · have h1 := reach_closed hcl2 ops.length [i] (by simp) j hc1
          have h2 := reach_closed (hle i) ops.length [i] (by simp) j hc1
          have h1' := h1.resolve_right hji
          exact ⟨fun _ => by omega, fun _ => h1'⟩
        · have h2 := reach_closed (hle j) ops.length [j] (by simp) i hc1
          refine ⟨fun hE => ?_, fun h => by omega⟩
          exact absurd (reach_closed hcl ops.length [j] (by simpa using hE) i hc1) hnE
      have hlt : listed.setIfInBounds i true = listed.set i true hil' := by simp [Array.setIfInBounds, hil']
      have hgd : ∀ j, (listed.setIfInBounds i true).getD j false = true ↔ (listed.getD j false = true ∨ j = i) := by
        intro j
        by_cases hji : j = i
        · subst hji; simp [hil']
        · simp [Ne.symm hji, hji]
      have hpi : pops[i]? = some o := by subst hpo; simpa using ho
      refine step_in (tm0 := tmAt ops tr tm0 i) (fresh' := fun id => fresh id ∧ id ∉ tr[i].nw) hF h hpi (hd o (List.mem_of_getElem? ho)) (e := tr[i]) ?_ (fun he => ⟨(hst.2.1 he).1, fun p hp => ?_, fun id hid => ?_⟩) (fun x hx => ?_) hst.2.2 (fun id h => h) ?_
      · rw [← hst.1]
        exact wantedV_congr (by subst hpo; simpa using hlook)
      · rw [← (hst.2.1 he).2.1 p hp]
        refine hIS.key (IS.at_ i (by omega)) fun j e' he' hk' => ?_
        by_cases hji : j = i
        · subst hji
          exact ⟨fun h => absurd h hnE, fun h => absurd h (by omega)⟩
        · exact hkey p.1 (List.mem_append_left _ (List.mem_map.2 ⟨p, hp, rfl⟩)) j e' he' hji hk'
      · obtain ⟨t, g1, g2, g3, g4⟩ := (hst.2.1 he).2.2 id hid
        exact hfr1 i o ho hf t g1 id g2 g4 g3
      · cases x with
        | tmp t => exact hlook t (List.mem_append_left _ (List.mem_filterMap.2 ⟨.tmp t, by simpa using hx, rfl⟩))
        | const v => rfl
        | global g => rfl
        | func f => rfl
      · intro a' w' L' ρ' h' ht' _
        refine ih (listed.setIfInBounds i true) a' w' L' ρ' _ _ _ (by simpa using hsz) ?_ ?_ ?_ ?_ h' ?_ ?_ (ht.trans ht')
        · rw [Array.toList_setIfInBounds, List.count_set (by simpa using hil')]
          have e1 : listed.toList[i]'(by simpa using hil') = false := by
            simp only [Array.getD_eq_getD_getElem?, Array.getElem?_eq_getElem hil', Option.getD_some] at hf
            simpa using hf
          rw [e1, hc]; simp
        · intro l ol hol hE m hm
          rw [hgd] at hE ⊢
          rcases hE with hE | rfl
          · exact .inl (hcl l ol hol hE m hm)
          · rw [ho] at hol; injection hol with hol; subst hol; exact .inl (haf m hm)
        · exact (hIT.step hok.uniq ho hte).congr fun j _ => (hgd j).symm
        · refine (hIS.step hte hnE fun k hk j e' he' hE hk' => ?_).congr fun j _ => (hgd j).symm
          have hji : j ≠ i := by rintro rfl; exact hnE hE
          exact (hkey k (List.mem_append_right _ hk) j e' he' hji hk').1 hE
        · intro j o' ho' hf' t ht2 id h1 h2 h3
          have hE := (hgd j)
          rw [hf'] at hE
          simp only [Bool.false_eq_true, false_iff, not_or] at hE
          refine ⟨hfr1 j o' ho' (by cases hb : listed.getD j false with | false => rfl | true => exact absurd hb hE.1) t ht2 id h1 h2 h3, fun hc => ?_⟩
          cases hrun : tr[i].run with
          | false => rw [(hst.2.2 hrun).2.1] at hc; simp at hc
          | true =>
            obtain ⟨t', g1, g2, g3, g4⟩ := (hst.2.1 hrun).2.2 id hc
            have htt : t = t' := by rw [← h2, ← g4]
            subst htt
            exact hE.2 (hok.uniq j i o' o t ho' ho ht2 g1)
        · intro id hid
          refine ⟨hfr id hid, fun hc => ?_⟩
          cases hrun : tr[i].run with
          | false => rw [(hst.2.2 hrun).2.1] at hc; simp at hc
          | true =>
            obtain ⟨t', g1, g2, g3, g4⟩ := (hst.2.1 hrun).2.2 id hc
            unfold freshA at hid
            omega
end
end Go.Ab
