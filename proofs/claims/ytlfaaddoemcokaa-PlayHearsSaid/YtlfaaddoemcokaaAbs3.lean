/-
  Operations on memory, for values without addresses. No condition but those that the step names.
-/
import Derived.Test.YtlfaaddoemcokaaAbs2
namespace Go.Ab
open Go.RowKit Go.Dw

mutual
def V.idf : V → Bool
  | .agg cs => V.idfL cs
  | .tup cs => V.idfL cs
  | .fn _ a b => V.idfL a && V.idfL b
  | .ifc _ v => v.idf
  | .gd _ v => v.idf
  | .own _ => false
  | .ref _ _ => false
  | .oel _ _ _ _ => false
  | _ => true
def V.idfL : List V → Bool
  | [] => true
  | v :: l => v.idf && V.idfL l
end
theorem V.idfL_get : ∀ {l : List V} (_ : V.idfL l = true) {i : Nat} {u : V} (_ : l[i]? = some u), u.idf = true
  | v :: l, h, 0, u, hu => by
    simp at hu; subst hu
    simp only [V.idfL, Bool.and_eq_true] at h
    exact h.1
  | v :: l, h, i + 1, u, hu => by
    simp only [V.idfL, Bool.and_eq_true] at h
    exact V.idfL_get h.2 (by simpa using hu)
theorem V.idfL_append : ∀ {l m : List V}, V.idfL l = true → V.idfL m = true → V.idfL (l ++ m) = true
  | [], m, _, h => h
  | v :: l, m, h, k => by
    simp only [V.idfL, Bool.and_eq_true, List.cons_append] at h ⊢
    exact ⟨h.1, V.idfL_append h.2 k⟩
theorem R.free {w : World} {L : Nat → Prop} {ρ : Nat → Option Value} {u : V} {x : Value} (h : R w L ρ u x) : ∀ (_ : u.idf = true) (ρ' : Nat → Option Value), R w L ρ' u x := by
  induction h with
  | any => exact fun _ _ => .any _ _
  | c => exact fun _ _ => .c _ _
  | agg ρ cs xs f hl hf hr ih =>
    intro hi ρ'
    simp only [V.idf] at hi
    exact .agg _ _ _ f hl hf fun i u hu => ih i u hu (V.idfL_get hi hu) ρ'
  | tup ρ cs xs f hl hf hr ih =>
    intro hi ρ'
    simp only [V.idf] at hi
    exact .tup _ _ _ f hl hf fun i u hu => ih i u hu (V.idfL_get hi hu) ρ'
  | nil => exact fun _ _ => .nil _
  | emp => exact fun _ _ => .emp _ _
  | sl0 => exact fun _ _ => .sl0 _ _ _ _ _
  | sl ρ sz n row b o c f hb hcap hlen hf hr ih => exact fun _ _ => .sl _ _ _ _ _ _ _ f hb hcap hlen hf hr
  | ptr ρ cs b o f hb hf hr ih => exact fun _ _ => .ptr _ _ _ _ f hb hf hr
  | own => intro hi; simp [V.idf] at hi
  | ref => intro hi; simp [V.idf] at hi
  | oel => intro hi; simp [V.idf] at hi
  | fn ρ f fs cs xs ys g h hl hm hg hh hr hs ih1 ih2 =>
    intro hi ρ'
    simp only [V.idf, Bool.and_eq_true] at hi
    exact .fn _ _ _ _ _ _ g h hl hm hg hh (fun i u hu => ih1 i u hu (V.idfL_get hi.1 hu) ρ') fun i u hu => ih2 i u hu (V.idfL_get hi.2 hu) ρ'
  | ifc ρ t u x h ih =>
    intro hi ρ'
    simp only [V.idf] at hi
    exact .ifc _ _ _ _ (ih hi ρ')
  | gd ρ g u x h h' ih =>
    intro hi ρ'
    simp only [V.idf] at hi
    exact .gd _ _ _ _ (fun hg => ih hg hi ρ') h'

/-- the cells of a value -/
def cellsV : V → Option (List V)
  | .agg cs => some cs
  | .c v => if v.oneCell' then some [.c v] else none
  | .any => none
  | .tup _ => none
  | .gd _ _ => none
  | v => some [v]
theorem cells_one {x : Value} (h : x.oneCell' = true) : x.cells = #[x] := by cases x <;> first | rfl | (simp [Value.oneCell'] at h)
theorem cellsV_rl {w : World} {L : Nat → Prop} {ρ : Nat → Option Value} {u : V} {x : Value} {us : List V} (h : R w L ρ u x) (hc : cellsV u = some us) : RL w L ρ us x.cells.toList := by
  have one : x.oneCell' = true → us = [u] → RL w L ρ us x.cells.toList := by
    rintro h1 rfl
    rw [cells_one h1]
    exact .cons h h1 .nil
  cases u with
  | any => simp [cellsV] at hc
  | c v =>
    simp only [cellsV] at hc
    split at hc
    · rename_i h1
      injection hc with hc
      exact one (by rw [h.c_inv]; exact h1) hc.symm
    · cases hc
  | agg cs =>
    simp only [cellsV] at hc
    injection hc with hc
    subst hc
    obtain ⟨xs, rfl, hl⟩ := h.agg_inv
    exact hl
  | tup => simp [cellsV] at hc
  | gd => simp [cellsV] at hc
  | nil => simp only [cellsV] at hc; injection hc with hc; exact one (by cases h; rfl) hc.symm
  | emp => simp only [cellsV] at hc; injection hc with hc; exact one (by cases h; rfl) hc.symm
  | sl => simp only [cellsV] at hc; injection hc with hc; exact one (by cases h <;> rfl) hc.symm
  | ptr => simp only [cellsV] at hc; injection hc with hc; exact one (by cases h; rfl) hc.symm
  | own => simp only [cellsV] at hc; injection hc with hc; exact one (by cases h; assumption) hc.symm
  | ref => simp only [cellsV] at hc; injection hc with hc; exact one (by cases h; rfl) hc.symm
  | oel => simp only [cellsV] at hc; injection hc with hc; exact one (by cases h; rfl) hc.symm
  | fn => simp only [cellsV] at hc; injection hc with hc; exact one (by cases h; rfl) hc.symm
  | ifc => simp only [cellsV] at hc; injection hc with hc; exact one (by cases h; rfl) hc.symm

/-! ### Reading and making relations -/
section
variable {w w' : World} {L L' : Nat → Prop} {ρ ρ' : Nat → Option Value}
theorem R.ptr_inv {cs : List V} {x : Value} (h : R w L ρ (.ptr cs) x) : ∃ b o, x = .pointer (some ⟨b, o, none⟩) ∧ L b ∧ ∀ (j : Nat) u, cs[j]? = some u → ∃ y, w.cell? ⟨b, o + j, none⟩ = some y ∧ y.oneCell' = true ∧ R w L ρ0 u y := by
  cases h with
  | ptr _ _ b o f hb hf hr => exact ⟨b, o, rfl, hb, fun j u hu => ⟨_, (hf j u hu).1, (hf j u hu).2, hr j u hu⟩⟩
theorem R.ptr' {cs : List V} {b o : Nat} (hb : L b) (h : ∀ (j : Nat) u, cs[j]? = some u → ∃ y, w.cell? ⟨b, o + j, none⟩ = some y ∧ y.oneCell' = true ∧ R w L ρ0 u y) : R w L ρ (.ptr cs) (.pointer (some ⟨b, o, none⟩)) := by
  refine .ptr _ _ _ _ (fun j => (w.cell? ⟨b, o + j, none⟩).getD undef) hb (fun j u hu => ?_) fun j u hu => ?_
  · obtain ⟨y, h1, h2, h3⟩ := h j u hu
    simp only [h1, Option.getD_some]
    exact ⟨trivial, h2⟩
  · obtain ⟨y, h1, h2, h3⟩ := h j u hu
    simp only [h1, Option.getD_some]
    exact h3
theorem R.sl_inv {sz n : Nat} {row : Nat → List V} {x : Value} (h : R w L ρ (.sl sz n row) x) : ∃ A c, x = .slice A n c ∧ (0 < n → ∃ b o, A = some ⟨b, o, none⟩ ∧ L b ∧ (∀ i, i < n → (row i).length = sz) ∧
    ∀ (i j : Nat) u, i < n → (row i)[j]? = some u → ∃ y, w.cell? ⟨b, o + i * sz + j, none⟩ = some y ∧ y.oneCell' = true ∧ R w L ρ0 u y) := by
  cases h with
  | sl0 => exact ⟨_, _, rfl, fun h => by omega⟩
  | sl _ _ _ _ b o c f hb _ hlen hf hr => exact ⟨_, _, rfl, fun _ => ⟨b, o, rfl, hb, hlen, fun i j u hi hu => ⟨_, (hf i j u hi hu).1, (hf i j u hi hu).2, hr i j u hi hu⟩⟩⟩
theorem R.sl_cap {sz n m : Nat} {row : Nat → List V} {A : Option Addr} {c : Nat} (h : R w L ρ (.sl sz n row) (.slice A m c)) : n ≤ c := by
  cases h with
  | sl0 => exact Nat.zero_le _
  | sl _ _ _ _ b o c f hb hcap => exact hcap
theorem R.sl' {sz n : Nat} {row : Nat → List V} {A : Option Addr} {c : Nat} (hcap : n ≤ c) (h : 0 < n → ∃ b o, A = some ⟨b, o, none⟩ ∧ L b ∧ (∀ i, i < n → (row i).length = sz) ∧
    ∀ (i j : Nat) u, i < n → (row i)[j]? = some u → ∃ y, w.cell? ⟨b, o + i * sz + j, none⟩ = some y ∧ y.oneCell' = true ∧ R w L ρ0 u y) : R w L ρ (.sl sz n row) (.slice A n c) := by
  rcases Nat.eq_zero_or_pos n with rfl | hn
  · exact .sl0 _ _ _ _ _
  · obtain ⟨b, o, rfl, hb, hlen, hc⟩ := h hn
    refine .sl _ _ _ _ _ _ _ (fun i j => (w.cell? ⟨b, o + i * sz + j, none⟩).getD undef) hb hcap hlen (fun i j u hi hu => ?_) fun i j u hi hu => ?_
    · obtain ⟨y, h1, h2, h3⟩ := hc i j u hi hu
      simp only [h1, Option.getD_some]
      exact ⟨trivial, h2⟩
    · obtain ⟨y, h1, h2, h3⟩ := hc i j u hi hu
      simp only [h1, Option.getD_some]
      exact h3
theorem cells_list {b o : Nat} : ∀ (us : List V), (∀ (j : Nat) u, us[j]? = some u → ∃ y, w.cell? ⟨b, o + j, none⟩ = some y ∧ y.oneCell' = true ∧ R w L ρ u y) →
    ∃ xs, RL w L ρ us xs ∧ ∀ (j : Nat) y, xs[j]? = some y → w.cell? ⟨b, o + j, none⟩ = some y := by
  intro us h
  induction us generalizing o with
  | nil => exact ⟨[], .nil, fun j y hy => by simp at hy⟩
  | cons u us ih =>
    obtain ⟨y, h1, h2, h3⟩ := h 0 u rfl
    obtain ⟨xs, hl, hc⟩ := ih (o := o + 1) fun j v hv => by
      have := h (j + 1) v (by simpa using hv)
      rwa [show o + 1 + j = o + (j + 1) by omega]
    refine ⟨y :: xs, .cons h3 h2 hl, fun j z hz => ?_⟩
    cases j with
    | zero => simp at hz; subst hz; exact h1
    | succ j => have := hc j z (by simpa using hz); rwa [show o + 1 + j = o + (j + 1) by omega] at this
theorem RL.free {us : List V} {xs : List Value} (h : RL w L ρ us xs) (hi : V.idfL us = true) : RL w L ρ' us xs :=
  ⟨h.1, fun i u x hu hx => ⟨(h.2 i u x hu hx).1.free (V.idfL_get hi hu) _, (h.2 i u x hu hx).2⟩⟩
theorem RV.free {us : List V} {xs : List Value} (h : RV w L ρ us xs) (hi : V.idfL us = true) : RV w L ρ' us xs :=
  ⟨h.1, fun i u x hu hx => (h.2 i u x hu hx).free (V.idfL_get hi hu) _⟩
end

/-! ### A step that turns one object -/
theorem G.put {W LB L : Nat → Prop} {w w' : World} {σ σ1 : Nat → Option Ob} {ρ ρ' : Nat → Option Value} {ch : Option Nat} (h : G W LB σ w L ρ) (hg : w.grownBy w' ch)
    (hch : ∀ k, ch = some k → W k ∧ ¬ L k) (tgt : Nat) (x : Value) (ob : Ob)
    (hsub : ∀ id o, id ≠ tgt → σ1 id = some o → σ id = some o ∧ ∀ y, ρ id = some y → ∀ k, ch = some k → blk y ≠ some k)
    (hρ : ∀ id, id ≠ tgt → ρ' id = ρ id) (hx : ρ' tgt = some x) (ht : ρ tgt = none ∨ ρ tgt = some x) (hblk : ∀ k, blk x = some k → ch = some k ∨ w.heap.size ≤ k)
    (hr : Ext w L ρ w' L ρ' → Real W w' L ρ' tgt ob) : G W LB (upd σ1 tgt (some ob)) w' L ρ' ∧ Ext w L ρ w' L ρ' := by
  have e : Ext w L ρ w' L ρ' := by
    refine ⟨fun b hb => ⟨hb, hg.block b (h.ll b hb).1 fun e => (hch b e.symm).2 hb⟩, fun id v hv => ?_⟩
    by_cases hid : id = tgt
    · subst hid
      rcases ht with h1 | h1
      · rw [h1] at hv; cases hv
      · rw [h1] at hv; injection hv with hv; subst hv; exact hx
    · rw [hρ id hid]; exact hv
  have stand : ∀ id o, id ≠ tgt → σ1 id = some o → ∀ y k, ρ id = some y → blk y = some k → k < w.heap.size ∧ w'.heap[k]? = w.heap[k]? ∧ ¬ L k := by
    intro id o hid ho y k hy hk
    obtain ⟨h1, h2⟩ := hsub id o hid ho
    obtain ⟨z, hz, hlt⟩ := (h.ob id o h1).lt
    rw [hy] at hz; injection hz with hz; subst hz
    obtain ⟨l1, l2, l3⟩ := hlt k hk
    exact ⟨l1, hg.block k l1 fun e => h2 y hy k e.symm hk, l3⟩
  refine ⟨⟨fun b hb => ⟨Nat.lt_of_lt_of_le (h.ll b hb).1 hg.size, (h.ll b hb).2⟩, fun b hb => h.new b (Nat.le_trans hg.size hb), fun id o ho => ?_, ?_⟩, e⟩
  · by_cases hid : id = tgt
    · subst hid
      rw [upd_same] at ho; injection ho with ho; subst ho
      exact hr e
    · rw [upd_ne _ _ hid] at ho
      refine (h.ob id o (hsub id o hid ho).1).keep e fun y k hy hk => ?_
      exact (stand id o hid ho y k hy hk).2
  · intro i j y z k hij hi hj hy hz hk hkz
    have pair : ∀ (i : Nat) (y : Value), i ≠ tgt → upd σ1 tgt (some ob) i ≠ none → ρ' i = some y → ∀ k, blk y = some k → blk x ≠ some k := by
      intro i y hne hi hy k hk hkx
      rw [upd_ne _ _ hne] at hi
      rw [hρ i hne] at hy
      cases ho : σ1 i with
      | none => exact hi ho
      | some o =>
        obtain ⟨l1, l2, l3⟩ := stand i o hne ho y k hy hk
        rcases hblk k hkx with h1 | h1
        · exact (hsub i o hne ho).2 y hy k h1 hk
        · omega
    by_cases h1 : i = tgt
    · subst h1
      rw [hx] at hy; injection hy with hy; subst hy
      exact pair j z (fun e => hij e.symm) hj hz k hkz hk
    · by_cases h2 : j = tgt
      · subst h2
        rw [hx] at hz; injection hz with hz; subst hz
        exact pair i y h1 hi hy k hk hkz
      · rw [upd_ne _ _ h1] at hi
        rw [upd_ne _ _ h2] at hj
        rw [hρ i h1] at hy
        rw [hρ j h2] at hz
        refine h.sep i j y z k hij ?_ ?_ hy hz hk hkz
        · cases ho : σ1 i with
          | none => exact absurd ho hi
          | some o => rw [(hsub i o h1 ho).1]; simp
        · cases ho : σ1 j with
          | none => exact absurd ho hj
          | some o => rw [(hsub j o h2 ho).1]; simp

theorem tch_grown {W L : Nat → Prop} {w w' : World} {ch : Option Nat} (hg : w.grownBy w' ch) (hch : ∀ k, ch = some k → W k ∧ ¬ L k) : Tch W w w' :=
  ⟨hg.os, hg.tape, hg.output, hg.size, fun k hk hW => hg.block k hk fun e => hW (hch k e.symm).1⟩
theorem G.none_of {W LB L : Nat → Prop} {w : World} {σ : Nat → Option Ob} {ρ : Nat → Option Value} (h : G W LB σ w L ρ) {id : Nat} (hn : ρ id = none) : σ id = none := by
  cases ho : σ id with
  | none => rfl
  | some o => obtain ⟨x, hx, _⟩ := (h.ob id o ho).lt; rw [hn] at hx; cases hx
/-- A new box. -/
theorem G.newBox {W LB L : Nat → Prop} {w : World} {σ : Nat → Option Ob} {ρ : Nat → Option Value} (h : G W LB σ w L ρ) {id : Nat} (hn : ρ id = none) (t : TypeId) {us : List V} {xs : Array Value} (hl : RL w L ρ us xs.toList) :
    G W LB (upd σ id (some (.box t us))) (w.alloc (.cells xs t)) L (upd ρ id (some (.pointer (some ⟨w.heap.size, 0, none⟩)))) ∧ Ext w L ρ (w.alloc (.cells xs t)) L (upd ρ id (some (.pointer (some ⟨w.heap.size, 0, none⟩)))) := by
  refine h.put (World.grownBy_alloc w _ none) (by simp) id _ _ (fun i o hi ho => ⟨ho, by simp⟩) (fun i hi => upd_ne _ _ hi) (upd_same _ _ _) (.inl hn) (fun k hk => .inr (by simp [blk] at hk; omega)) fun e => ?_
  exact ⟨w.heap.size, xs, upd_same _ _ _, (h.new _ (Nat.le_refl _)).1, fun hL => by have := (h.ll _ hL).1; omega, heap_alloc_new w _, hl.ext e⟩
theorem flatten_len {sz : Nat} : ∀ {rows : List (List V)}, (∀ r ∈ rows, r.length = sz) → rows.flatten.length = rows.length * sz
  | [], _ => by simp
  | r :: rows, h => by
    rw [List.flatten_cons, List.length_append, h r (by simp), flatten_len (rows := rows) fun r hr => h r (by simp [hr]), List.length_cons, Nat.add_mul]
    omega
/-- A new row. -/
theorem G.newRow {W LB L : Nat → Prop} {w : World} {σ : Nat → Option Ob} {ρ : Nat → Option Value} (h : G W LB σ w L ρ) {id : Nat} (hn : ρ id = none) (e : TypeId) (sz n : Nat) {row : Nat → List V} {xs : Array Value} (hsz : ∀ i, i < n → (row i).length = sz)
    (hl : RL w L ρ (slRows n row).flatten xs.toList) (hm : n ≤ maxLen) :
    G W LB (upd σ id (some (.row e sz n row))) (w.alloc (.cells xs e)) L (upd ρ id (some (.slice (some ⟨w.heap.size, 0, none⟩) n n))) ∧ Ext w L ρ (w.alloc (.cells xs e)) L (upd ρ id (some (.slice (some ⟨w.heap.size, 0, none⟩) n n))) := by
  refine h.put (World.grownBy_alloc w _ none) (by simp) id _ _ (fun i o hi ho => ⟨ho, by simp⟩) (fun i hi => upd_ne _ _ hi) (upd_same _ _ _) (.inl hn) (fun k hk => .inr (by simp [blk] at hk; omega)) fun ex => ?_
  have hxs : xs.size = n * sz := by
    have h1 := hl.1
    have h2 := flatten_len (slRows_sz hsz)
    rw [slRows_len] at h2
    rw [← h2, h1]; simp
  refine ⟨_, xs.toList, upd_same _ _ _, ⟨by simpa using hxs, .inr ⟨w.heap.size, n, xs, rfl, Nat.zero_le _, heap_alloc_new w _, Nat.le_refl _, hm, hxs, ?_⟩⟩, hsz, hl.ext ex, fun k hk => ?_⟩
  · rw [← hxs]; exact List.take_of_length_le (by simp)
  · simp [blk] at hk; subst hk
    exact ⟨(h.new _ (Nat.le_refl _)).1, fun hL => by have := (h.ll _ hL).1; omega⟩
end Go.Ab
