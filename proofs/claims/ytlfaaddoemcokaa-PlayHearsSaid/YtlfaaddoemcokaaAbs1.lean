/-
  Values without addresses: what a value of the model stands for where its memory is never written again, and objects of a call's own by names. No condition.
-/
import Derived.Test.YtlfaaddoemcokaaIter
namespace Go.Ab
open Go.RowKit Go.Dw

/-- A value, read to the bottom. 'sl' and 'ptr': memory that no step of the call turns. 'own', 'ref', 'oel': an object of the call's own, by its name. -/
inductive V where
  | any
  | c (v : Value)
  | agg (cs : List V)
  | tup (cs : List V)
  | nil
  | emp
  | sl (sz n : Nat) (row : Nat → List V)
  | ptr (cs : List V)
  | own (id : Nat)
  | ref (id off : Nat)
  | oel (id sz i off : Nat)
  | fn (f : Fn) (first caps : List V)
  | ifc (t : TypeId) (v : V)
  | gd (g : Bool) (v : V)

abbrev V.i (n : Int) : V := .c (.int .i64 n)
abbrev V.b (b : Bool) : V := .c (.bool b)

def ρ0 : Nat → Option Value := fun _ => none

inductive R (w : World) (L : Nat → Prop) : (Nat → Option Value) → V → Value → Prop
  | any (ρ x) : R w L ρ .any x
  | c (ρ v) : R w L ρ (.c v) v
  | agg (ρ) (cs : List V) (xs : Array Value) (f : Nat → Value) (hl : xs.size = cs.length)
      (hf : ∀ i u, cs[i]? = some u → xs[i]? = some (f i) ∧ (f i).oneCell' = true) (hr : ∀ i u, cs[i]? = some u → R w L ρ u (f i)) : R w L ρ (.agg cs) (.agg xs)
  | tup (ρ) (cs : List V) (xs : Array Value) (f : Nat → Value) (hl : xs.size = cs.length)
      (hf : ∀ i u, cs[i]? = some u → xs[i]? = some (f i)) (hr : ∀ i u, cs[i]? = some u → R w L ρ u (f i)) : R w L ρ (.tup cs) (.tuple xs)
  | nil (ρ) : R w L ρ .nil (.slice none 0 0)
  | emp (ρ A) : R w L ρ .emp (.slice A 0 0)
  | sl0 (ρ sz row A c) : R w L ρ (.sl sz 0 row) (.slice A 0 c)
  | sl (ρ) (sz n : Nat) (row : Nat → List V) (b o c : Nat) (f : Nat → Nat → Value) (hb : L b) (hcap : n ≤ c) (hlen : ∀ i, i < n → (row i).length = sz)
      (hf : ∀ i j u, i < n → (row i)[j]? = some u → w.cell? ⟨b, o + i * sz + j, none⟩ = some (f i j) ∧ (f i j).oneCell' = true)
      (hr : ∀ i j u, i < n → (row i)[j]? = some u → R w L ρ0 u (f i j)) : R w L ρ (.sl sz n row) (.slice (some ⟨b, o, none⟩) n c)
  | ptr (ρ) (cs : List V) (b o : Nat) (f : Nat → Value) (hb : L b)
      (hf : ∀ j u, cs[j]? = some u → w.cell? ⟨b, o + j, none⟩ = some (f j) ∧ (f j).oneCell' = true)
      (hr : ∀ j u, cs[j]? = some u → R w L ρ0 u (f j)) : R w L ρ (.ptr cs) (.pointer (some ⟨b, o, none⟩))
  | own (ρ) (id : Nat) (x : Value) (h : ρ id = some x) (h1 : x.oneCell' = true) : R w L ρ (.own id) x
  | ref (ρ) (id off b : Nat) (h : ρ id = some (.pointer (some ⟨b, 0, none⟩))) : R w L ρ (.ref id off) (.pointer (some ⟨b, off, none⟩))
  | oel (ρ) (id sz i off b n c : Nat) (h : ρ id = some (.slice (some ⟨b, 0, none⟩) n c)) : R w L ρ (.oel id sz i off) (.pointer (some ⟨b, i * sz + off, none⟩))
  | fn (ρ) (f : Fn) (fs cs : List V) (xs ys : Array Value) (g h : Nat → Value) (hl : xs.size = fs.length) (hm : ys.size = cs.length)
      (hg : ∀ i u, fs[i]? = some u → xs[i]? = some (g i)) (hh : ∀ i u, cs[i]? = some u → ys[i]? = some (h i))
      (hr : ∀ i u, fs[i]? = some u → R w L ρ u (g i)) (hs : ∀ i u, cs[i]? = some u → R w L ρ u (h i)) : R w L ρ (.fn f fs cs) (.func f xs ys)
  | ifc (ρ) (t : TypeId) (u : V) (x : Value) (h : R w L ρ u x) : R w L ρ (.ifc t u) (.iface t x)
  | gd (ρ) (g : Bool) (u : V) (x : Value) (h : g = true → R w L ρ u x) (h' : g = false → x = undef) : R w L ρ (.gd g u) x

theorem R.mono {w w' : World} {L L' : Nat → Prop} {ρ ρ' : Nat → Option Value} {u : V} {x : Value} (h : R w L ρ u x)
    (hL : ∀ b, L b → L' b ∧ w'.heap[b]? = w.heap[b]?) (hρ : ∀ id v, ρ id = some v → ρ' id = some v) : R w' L' ρ' u x := by
  induction h generalizing ρ' with
  | any => exact .any _ _
  | c => exact .c _ _
  | agg ρ cs xs f hl hf hr ih => exact .agg _ _ _ f hl hf fun i u hu => ih i u hu hρ
  | tup ρ cs xs f hl hf hr ih => exact .tup _ _ _ f hl hf fun i u hu => ih i u hu hρ
  | nil => exact .nil _
  | emp => exact .emp _ _
  | sl0 => exact .sl0 _ _ _ _ _
  | sl ρ sz n row b o c f hb hcap hlen hf hr ih =>
    exact .sl _ _ _ _ _ _ _ f (hL b hb).1 hcap hlen (fun i j u hi hu => ⟨(World.cell?_of_block (w := w) (a := ⟨b, o + i * sz + j, none⟩) (hL b hb).2).trans (hf i j u hi hu).1, (hf i j u hi hu).2⟩) fun i j u hi hu => ih i j u hi hu fun _ _ h => h
  | ptr ρ cs b o f hb hf hr ih =>
    exact .ptr _ _ _ _ f (hL b hb).1 (fun j u hu => ⟨(World.cell?_of_block (w := w) (a := ⟨b, o + j, none⟩) (hL b hb).2).trans (hf j u hu).1, (hf j u hu).2⟩) fun j u hu => ih j u hu fun _ _ h => h
  | own ρ id x h h1 => exact .own _ _ _ (hρ _ _ h) h1
  | ref ρ id off b h => exact .ref _ _ _ _ (hρ _ _ h)
  | oel ρ id sz i off b n c h => exact .oel _ _ _ _ _ _ n c (hρ _ _ h)
  | fn ρ f fs cs xs ys g h hl hm hg hh hr hs ih1 ih2 => exact .fn _ _ _ _ _ _ g h hl hm hg hh (fun i u hu => ih1 i u hu hρ) fun i u hu => ih2 i u hu hρ
  | ifc ρ t u x h ih => exact .ifc _ _ _ _ (ih hρ)
  | gd ρ g u x h h' ih => exact .gd _ _ _ _ (fun hg => ih hg hρ) h'

theorem R.of0 {w : World} {L : Nat → Prop} {ρ : Nat → Option Value} {u : V} {x : Value} (h : R w L ρ0 u x) : R w L ρ u x :=
  h.mono (fun _ hb => ⟨hb, rfl⟩) fun _ _ h => by cases h

/-- A list of cells. -/
def RL (w : World) (L : Nat → Prop) (ρ : Nat → Option Value) (us : List V) (xs : List Value) : Prop :=
  us.length = xs.length ∧ ∀ (i : Nat) u x, us[i]? = some u → xs[i]? = some x → R w L ρ u x ∧ x.oneCell' = true
/-- A list of values. -/
def RV (w : World) (L : Nat → Prop) (ρ : Nat → Option Value) (us : List V) (xs : List Value) : Prop :=
  us.length = xs.length ∧ ∀ (i : Nat) u x, us[i]? = some u → xs[i]? = some x → R w L ρ u x

section
variable {w w' : World} {L L' : Nat → Prop} {ρ ρ' : Nat → Option Value}
theorem RL.mono {us : List V} {xs : List Value} (h : RL w L ρ us xs) (hL : ∀ b, L b → L' b ∧ w'.heap[b]? = w.heap[b]?) (hρ : ∀ id v, ρ id = some v → ρ' id = some v) : RL w' L' ρ' us xs :=
  ⟨h.1, fun i u x hu hx => ⟨(h.2 i u x hu hx).1.mono hL hρ, (h.2 i u x hu hx).2⟩⟩
theorem RL.rv {us : List V} {xs : List Value} (h : RL w L ρ us xs) : RV w L ρ us xs := ⟨h.1, fun i u x hu hx => (h.2 i u x hu hx).1⟩
theorem RV.mono {us : List V} {xs : List Value} (h : RV w L ρ us xs) (hL : ∀ b, L b → L' b ∧ w'.heap[b]? = w.heap[b]?) (hρ : ∀ id v, ρ id = some v → ρ' id = some v) : RV w' L' ρ' us xs :=
  ⟨h.1, fun i u x hu hx => (h.2 i u x hu hx).mono hL hρ⟩
theorem RL.get {us : List V} {xs : List Value} (h : RL w L ρ us xs) {i : Nat} {u : V} (hu : us[i]? = some u) : ∃ x, xs[i]? = some x ∧ R w L ρ u x ∧ x.oneCell' = true := by
  have hi : i < xs.length := by rw [← h.1]; exact (List.getElem?_eq_some_iff.1 hu).1
  exact ⟨xs[i], List.getElem?_eq_getElem hi, h.2 i u _ hu (List.getElem?_eq_getElem hi)⟩
theorem RV.get {us : List V} {xs : List Value} (h : RV w L ρ us xs) {i : Nat} {u : V} (hu : us[i]? = some u) : ∃ x, xs[i]? = some x ∧ R w L ρ u x := by
  have hi : i < xs.length := by rw [← h.1]; exact (List.getElem?_eq_some_iff.1 hu).1
  exact ⟨xs[i], List.getElem?_eq_getElem hi, h.2 i u _ hu (List.getElem?_eq_getElem hi)⟩
theorem RL.nil : RL w L ρ [] [] := ⟨rfl, fun i u x hu => by simp at hu⟩
theorem RV.nil : RV w L ρ [] [] := ⟨rfl, fun i u x hu => by simp at hu⟩
theorem RL.cons {u : V} {x : Value} {us : List V} {xs : List Value} (h : R w L ρ u x) (h1 : x.oneCell' = true) (hs : RL w L ρ us xs) : RL w L ρ (u :: us) (x :: xs) := by
  refine ⟨by simp [hs.1], fun i v y hv hy => ?_⟩
  cases i with
  | zero => simp at hv hy; subst hv hy; exact ⟨h, h1⟩
  | succ i => simp at hv hy; exact hs.2 i v y hv hy
theorem RV.cons {u : V} {x : Value} {us : List V} {xs : List Value} (h : R w L ρ u x) (hs : RV w L ρ us xs) : RV w L ρ (u :: us) (x :: xs) := by
  refine ⟨by simp [hs.1], fun i v y hv hy => ?_⟩
  cases i with
  | zero => simp at hv hy; subst hv hy; exact h
  | succ i => simp at hv hy; exact hs.2 i v y hv hy
theorem RL.append {us vs : List V} {xs ys : List Value} (h : RL w L ρ us xs) (k : RL w L ρ vs ys) : RL w L ρ (us ++ vs) (xs ++ ys) := by
  refine ⟨by simp [h.1, k.1], fun i u x hu hx => ?_⟩
  by_cases hi : i < us.length
  · rw [List.getElem?_append_left hi] at hu
    rw [List.getElem?_append_left (by rw [← h.1]; exact hi)] at hx
    exact h.2 i u x hu hx
  · rw [List.getElem?_append_right (by omega)] at hu
    rw [List.getElem?_append_right (by rw [← h.1]; omega), ← h.1] at hx
    exact k.2 _ u x hu hx
theorem RV.append {us vs : List V} {xs ys : List Value} (h : RV w L ρ us xs) (k : RV w L ρ vs ys) : RV w L ρ (us ++ vs) (xs ++ ys) := by
  refine ⟨by simp [h.1, k.1], fun i u x hu hx => ?_⟩
  by_cases hi : i < us.length
  · rw [List.getElem?_append_left hi] at hu
    rw [List.getElem?_append_left (by rw [← h.1]; exact hi)] at hx
    exact h.2 i u x hu hx
  · rw [List.getElem?_append_right (by omega)] at hu
    rw [List.getElem?_append_right (by rw [← h.1]; omega), ← h.1] at hx
    exact k.2 _ u x hu hx
theorem RL.set {us : List V} {xs : List Value} (h : RL w L ρ us xs) (i : Nat) {u : V} {x : Value} (hu : R w L ρ u x) (h1 : x.oneCell' = true) : RL w L ρ (us.set i u) (xs.set i x) := by
  refine ⟨by simp [h.1], fun j v y hv hy => ?_⟩
  rw [List.getElem?_set] at hv hy
  by_cases hij : i = j
  · subst hij
    rw [if_pos rfl] at hv hy
    split at hv
    · split at hy
      · injection hv with hv; injection hy with hy; subst hv hy; exact ⟨hu, h1⟩
      · cases hy
    · cases hv
  · rw [if_neg hij] at hv hy
    exact h.2 j v y hv hy
theorem RL.sub {us : List V} {xs : List Value} (h : RL w L ρ us xs) (a n : Nat) : RL w L ρ ((us.drop a).take n) ((xs.drop a).take n) := by
  refine ⟨by simp [h.1], fun i u x hu hx => ?_⟩
  rw [List.getElem?_take] at hu hx
  split at hu
  · rename_i hi
    rw [if_pos hi] at hx
    rw [List.getElem?_drop] at hu hx
    exact h.2 _ u x hu hx
  · cases hu
theorem RL.one {us : List V} {xs : List Value} (h : RL w L ρ us xs) : ∀ x ∈ xs, x.oneCell' = true := by
  intro x hx
  obtain ⟨i, hi, rfl⟩ := List.getElem_of_mem hx
  have : i < us.length := by rw [h.1]; exact hi
  exact (h.2 i us[i] _ (List.getElem?_eq_getElem this) (List.getElem?_eq_getElem hi)).2
theorem R.agg' {cs : List V} {xs : Array Value} (h : RL w L ρ cs xs.toList) : R w L ρ (.agg cs) (.agg xs) := by
  refine .agg _ _ _ (fun i => xs.toList.getD i undef) (by simpa using h.1.symm) (fun i u hu => ?_) fun i u hu => ?_
  · obtain ⟨x, hx, _, h1⟩ := h.get hu
    simp only [List.getD, hx, Option.getD_some]
    exact ⟨by simpa using hx, h1⟩
  · obtain ⟨x, hx, hr, h1⟩ := h.get hu
    simp only [List.getD, hx, Option.getD_some]
    exact hr
theorem R.agg_inv {cs : List V} {x : Value} (h : R w L ρ (.agg cs) x) : ∃ xs, x = .agg xs ∧ RL w L ρ cs xs.toList := by
  cases h with
  | agg _ _ xs f hl hf hr =>
    refine ⟨xs, rfl, by simpa using hl.symm, fun i u x hu hx => ?_⟩
    have := hf i u hu
    rw [Array.getElem?_toList, this.1] at hx
    injection hx with hx
    subst hx
    exact ⟨hr i u hu, this.2⟩
theorem R.tup' {cs : List V} {xs : Array Value} (h : RV w L ρ cs xs.toList) : R w L ρ (.tup cs) (.tuple xs) := by
  refine .tup _ _ _ (fun i => xs.toList.getD i undef) (by simpa using h.1.symm) (fun i u hu => ?_) fun i u hu => ?_
  · obtain ⟨x, hx, _⟩ := h.get hu
    simp only [List.getD, hx, Option.getD_some]
    simpa using hx
  · obtain ⟨x, hx, hr⟩ := h.get hu
    simp only [List.getD, hx, Option.getD_some]
    exact hr
theorem R.tup_inv {cs : List V} {x : Value} (h : R w L ρ (.tup cs) x) : ∃ xs, x = .tuple xs ∧ RV w L ρ cs xs.toList := by
  cases h with
  | tup _ _ xs f hl hf hr =>
    refine ⟨xs, rfl, by simpa using hl.symm, fun i u x hu hx => ?_⟩
    have := hf i u hu
    rw [Array.getElem?_toList, this] at hx
    injection hx with hx
    subst hx
    exact hr i u hu
theorem R.fn' {f : Fn} {fs cs : List V} {xs ys : Array Value} (h : RV w L ρ fs xs.toList) (k : RV w L ρ cs ys.toList) : R w L ρ (.fn f fs cs) (.func f xs ys) := by
  refine .fn _ _ _ _ _ _ (fun i => xs.toList.getD i undef) (fun i => ys.toList.getD i undef) (by simpa using h.1.symm) (by simpa using k.1.symm) (fun i u hu => ?_) (fun i u hu => ?_) (fun i u hu => ?_) fun i u hu => ?_
  · obtain ⟨x, hx, _⟩ := h.get hu
    simp only [List.getD, hx, Option.getD_some]
    simpa using hx
  · obtain ⟨x, hx, _⟩ := k.get hu
    simp only [List.getD, hx, Option.getD_some]
    simpa using hx
  · obtain ⟨x, hx, hr⟩ := h.get hu
    simp only [List.getD, hx, Option.getD_some]
    exact hr
  · obtain ⟨x, hx, hr⟩ := k.get hu
    simp only [List.getD, hx, Option.getD_some]
    exact hr
theorem R.fn_inv {f : Fn} {fs cs : List V} {x : Value} (h : R w L ρ (.fn f fs cs) x) : ∃ xs ys, x = .func f xs ys ∧ RV w L ρ fs xs.toList ∧ RV w L ρ cs ys.toList := by
  cases h with
  | fn _ _ _ _ xs ys g h hl hm hg hh hr hs =>
    refine ⟨xs, ys, rfl, ⟨by simpa using hl.symm, fun i u x hu hx => ?_⟩, by simpa using hm.symm, fun i u x hu hx => ?_⟩
    · rw [Array.getElem?_toList, hg i u hu] at hx
      injection hx with hx
      subst hx
      exact hr i u hu
    · rw [Array.getElem?_toList, hh i u hu] at hx
      injection hx with hx
      subst hx
      exact hs i u hu
theorem R.c_inv {v x : Value} (h : R w L ρ (.c v) x) : x = v := by cases h; rfl
end

/-! ### Objects of the call's own -/
inductive Ob where
  | box (t : TypeId) (cs : List V)
  | row (e : TypeId) (sz n : Nat) (row : Nat → List V)

/-- the rows of a slice -/
def slRows (n : Nat) (row : Nat → List V) : List (List V) := (List.range n).map row
theorem slRows_len (n : Nat) (row : Nat → List V) : (slRows n row).length = n := by simp [slRows]
theorem slRows_get {n : Nat} {row : Nat → List V} {i : Nat} (h : i < n) : (slRows n row)[i]? = some (row i) := by simp [slRows, h]
theorem slRows_sz {n sz : Nat} {row : Nat → List V} (h : ∀ i, i < n → (row i).length = sz) : ∀ r ∈ slRows n row, r.length = sz := by
  intro r hr
  simp only [slRows, List.mem_map, List.mem_range] at hr
  obtain ⟨i, hi, rfl⟩ := hr
  exact h i hi

def blk : Value → Option Nat
  | .pointer (some a) => some a.block
  | .slice (some a) _ _ => some a.block
  | _ => none

def Real (W : Nat → Prop) (w : World) (L : Nat → Prop) (ρ : Nat → Option Value) (id : Nat) : Ob → Prop
  | .box t cs => ∃ b xs, ρ id = some (.pointer (some ⟨b, 0, none⟩)) ∧ W b ∧ ¬ L b ∧ w.heap[b]? = some (.cells xs t (0, 0)) ∧ RL w L ρ cs xs.toList
  | .row e sz n row => ∃ v xs, ρ id = some v ∧ w.ownsRow 0 e sz v n xs ∧ (∀ i, i < n → (row i).length = sz) ∧ RL w L ρ (slRows n row).flatten xs ∧ (∀ k, blk v = some k → W k ∧ ¬ L k)

/-- The store: which memory is never written again, what each object is. -/
structure G (W LB : Nat → Prop) (σ : Nat → Option Ob) (w : World) (L : Nat → Prop) (ρ : Nat → Option Value) : Prop where
  ll : ∀ b, L b → b < w.heap.size ∧ LB b
  new : ∀ b, w.heap.size ≤ b → W b ∧ LB b
  ob : ∀ id o, σ id = some o → Real W w L ρ id o
  sep : ∀ i j x y k, i ≠ j → σ i ≠ none → σ j ≠ none → ρ i = some x → ρ j = some y → blk x = some k → blk y ≠ some k

theorem Real.lt {W L : Nat → Prop} {w : World} {ρ : Nat → Option Value} {id : Nat} {o : Ob} (h : Real W w L ρ id o) : ∃ x, ρ id = some x ∧ ∀ k, blk x = some k → k < w.heap.size ∧ W k ∧ ¬ L k := by
  cases o with
  | box t cs =>
    obtain ⟨b, xs, h1, h2, h3, h4, _⟩ := h
    exact ⟨_, h1, fun k hk => by simp [blk] at hk; subst hk; exact ⟨(Array.getElem?_eq_some_iff.1 h4).1, h2, h3⟩⟩
  | row e sz n row =>
    obtain ⟨v, xs, h1, h2, h3, h4, h5⟩ := h
    refine ⟨_, h1, fun k hk => ⟨?_, h5 k hk⟩⟩
    rcases h2.2 with ⟨rfl, _⟩ | ⟨g, cap, cur, rfl, _, hg, _⟩
    · simp [blk] at hk
    · simp [blk] at hk; subst hk; exact (Array.getElem?_eq_some_iff.1 hg).1

/-- What a step may do to what stands. -/
structure Ext (w : World) (L : Nat → Prop) (ρ : Nat → Option Value) (w' : World) (L' : Nat → Prop) (ρ' : Nat → Option Value) : Prop where
  l : ∀ b, L b → L' b ∧ w'.heap[b]? = w.heap[b]?
  r : ∀ id v, ρ id = some v → ρ' id = some v
theorem Ext.refl (w : World) (L : Nat → Prop) (ρ : Nat → Option Value) : Ext w L ρ w L ρ := ⟨fun _ h => ⟨h, rfl⟩, fun _ _ h => h⟩
theorem Ext.trans {w w' w'' : World} {L L' L'' : Nat → Prop} {ρ ρ' ρ'' : Nat → Option Value} (h : Ext w L ρ w' L' ρ') (k : Ext w' L' ρ' w'' L'' ρ'') : Ext w L ρ w'' L'' ρ'' :=
  ⟨fun b hb => ⟨(k.l b (h.l b hb).1).1, (k.l b (h.l b hb).1).2.trans (h.l b hb).2⟩, fun id v hv => k.r id v (h.r id v hv)⟩
theorem R.ext {w w' : World} {L L' : Nat → Prop} {ρ ρ' : Nat → Option Value} {u : V} {x : Value} (h : R w L ρ u x) (e : Ext w L ρ w' L' ρ') : R w' L' ρ' u x := h.mono e.l e.r
theorem RL.ext {w w' : World} {L L' : Nat → Prop} {ρ ρ' : Nat → Option Value} {u : List V} {x : List Value} (h : RL w L ρ u x) (e : Ext w L ρ w' L' ρ') : RL w' L' ρ' u x := h.mono e.l e.r
theorem RV.ext {w w' : World} {L L' : Nat → Prop} {ρ ρ' : Nat → Option Value} {u : List V} {x : List Value} (h : RV w L ρ u x) (e : Ext w L ρ w' L' ρ') : RV w' L' ρ' u x := h.mono e.l e.r

/-- An object whose blocks stand. -/
theorem Real.keep {W L L' : Nat → Prop} {w w' : World} {ρ ρ' : Nat → Option Value} {id : Nat} {o : Ob} (h : Real W w L ρ id o) (e : Ext w L ρ w' L' ρ')
    (hb : ∀ x k, ρ id = some x → blk x = some k → w'.heap[k]? = w.heap[k]? ∧ ¬ L' k) : Real W w' L' ρ' id o := by
  cases o with
  | box t cs =>
    obtain ⟨b, xs, h1, h2, h3, h4, h5⟩ := h
    have := hb _ b h1 rfl
    exact ⟨b, xs, e.r _ _ h1, h2, this.2, this.1.trans h4, h5.ext e⟩
  | row t sz n row =>
    obtain ⟨v, xs, h1, h2, h3, h4, h5⟩ := h
    refine ⟨v, xs, e.r _ _ h1, ⟨h2.1, ?_⟩, h3, h4.ext e, fun k hk => ⟨(h5 k hk).1, (hb _ k h1 hk).2⟩⟩
    rcases h2.2 with hn | ⟨g, cap, cur, rfl, hg, hh, rest⟩
    · exact .inl hn
    · exact .inr ⟨g, cap, cur, rfl, hg, (hb _ g h1 rfl).1.trans hh, rest⟩

def upd {α : Type} (f : Nat → α) (k : Nat) (x : α) : Nat → α := fun i => if i = k then x else f i
theorem upd_same {α : Type} (f : Nat → α) (k : Nat) (x : α) : upd f k x k = x := by simp [upd]
theorem upd_ne {α : Type} (f : Nat → α) {k i : Nat} (x : α) (h : i ≠ k) : upd f k x i = f i := by simp [upd, h]

/-- A step that leaves all objects alone: new blocks at most. -/
theorem G.quiet {W LB L L' : Nat → Prop} {w w' : World} {σ : Nat → Option Ob} {ρ : Nat → Option Value} (h : G W LB σ w L ρ) (hb : Below w.heap.size w w')
    (hL : ∀ b, L b → L' b) (hL' : ∀ b, L' b → L b ∨ (w.heap.size ≤ b ∧ b < w'.heap.size)) : G W LB σ w' L' ρ ∧ Ext w L ρ w' L' ρ := by
  have e : Ext w L ρ w' L' ρ := ⟨fun b hbl => ⟨hL b hbl, hb.block b (h.ll b hbl).1⟩, fun _ _ h => h⟩
  refine ⟨⟨fun b hbl => ?_, fun b hbs => h.new b (Nat.le_trans hb.size hbs), fun id o ho => ?_, h.sep⟩, e⟩
  · rcases hL' b hbl with h1 | ⟨h1, h2⟩
    · exact ⟨Nat.lt_of_lt_of_le (h.ll b h1).1 hb.size, (h.ll b h1).2⟩
    · exact ⟨h2, (h.new b h1).2⟩
  · refine (h.ob id o ho).keep e fun x k hx hk => ?_
    obtain ⟨y, hy, hlt⟩ := (h.ob id o ho).lt
    rw [hx] at hy
    injection hy with hy
    subst hy
    obtain ⟨l1, l2, l3⟩ := hlt k hk
    exact ⟨hb.block k l1, fun hk' => (hL' k hk').elim l3 fun h => by omega⟩
/-- the marks of loops over functions stay as they are -/
def DefK (w : World) (L : Nat → Prop) (w' : World) (L' : Nat → Prop) : Prop := ∀ D, w.heap[D]? = some (.deferred (some [])) → w'.heap[D]? = some (.deferred (some [])) ∧ (L' D → L D)
theorem DefK.refl (w : World) (L : Nat → Prop) : DefK w L w L := fun _ h => ⟨h, id⟩
theorem DefK.trans {w w' w'' : World} {L L' L'' : Nat → Prop} (h : DefK w L w' L') (k : DefK w' L' w'' L'') : DefK w L w'' L'' := fun D hD => ⟨(k D (h D hD).1).1, fun hL => (h D hD).2 ((k D (h D hD).1).2 hL)⟩
theorem DefK.below {w w' : World} {L L' : Nat → Prop} (h : Below w.heap.size w w') (hL : ∀ b, L' b → L b ∨ w.heap.size ≤ b) : DefK w L w' L' := fun D hD => by
  have hlt := (Array.getElem?_eq_some_iff.1 hD).1
  exact ⟨(h.block D hlt).trans hD, fun h => (hL D h).resolve_right (by omega)⟩
theorem DefK.grown {w w' : World} {L : Nat → Prop} {ch : Option Nat} (h : w.grownBy w' ch) (hc : ∀ k, ch = some k → ∃ cs t f, w.heap[k]? = some (.cells cs t f)) : DefK w L w' L := fun D hD => by
  have hlt := (Array.getElem?_eq_some_iff.1 hD).1
  refine ⟨(h.block D hlt fun e => ?_).trans hD, id⟩
  obtain ⟨cs, t, f, hk⟩ := hc D e.symm
  rw [hD] at hk; cases hk
end Go.Ab
