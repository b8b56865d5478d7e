/-
  What a slice, a box and a row of the call's own hold, said once for all texts of this seat. No condition.
-/
import Derived.WalkKit
import Derived.Lib.Hide
import Derived.BigQuiet
import Derived.Deep.QuietTactic
import Derived.Deep.Draws
import Derived.StillTailTactics
import Derived.Maps.AppendAt
namespace Go.Dw
open Go.RowKit

/-! ### Slices -/
/-- The slice value '.slice A n _' reads as the list l, each element laid as the cells 'enc x' of one size. -/
def SlAt {α : Type} (enc : α → List Value) (sz : Nat) (w : World) (A : Option Addr) (n : Nat) (l : List α) : Prop :=
  l.length = n ∧ (∀ x : α, (enc x).length = sz) ∧ (0 < n → ∃ b o, A = some ⟨b, o, none⟩ ∧ b < w.heap.size ∧ ∀ i (h : i < l.length) j (_ : j < sz), w.cell? ⟨b, o + i * sz + j, none⟩ = (enc l[i])[j]?)

/-- The element at an index. (Plain definitions: the walk does not look into them.) -/
def gi (l : List Int) (k : Nat) : Int := l.getD k 0
def gp (l : List (Int × Int)) (k : Nat) : Int × Int := l.getD k (0, 0)
theorem gi_eq {l : List Int} {k : Nat} (h : k < l.length) : gi l k = l[k] := by simp [gi, h]
theorem gp_eq {l : List (Int × Int)} {k : Nat} (h : k < l.length) : gp l k = l[k] := by simp [gp, h]
theorem gi_mem {l : List Int} {k : Nat} (h : k < l.length) : gi l k ∈ l := by rw [gi_eq h]; exact List.getElem_mem h
theorem gp_mem {l : List (Int × Int)} {k : Nat} (h : k < l.length) : gp l k ∈ l := by rw [gp_eq h]; exact List.getElem_mem h
theorem take_succ_gi {l : List Int} {k : Nat} (h : k < l.length) : l.take (k + 1) = l.take k ++ [gi l k] := by rw [gi_eq h, List.take_succ_eq_append_getElem h]
theorem take_succ_gp {l : List (Int × Int)} {k : Nat} (h : k < l.length) : l.take (k + 1) = l.take k ++ [gp l k] := by rw [gp_eq h, List.take_succ_eq_append_getElem h]
theorem forall_gi {l : List Int} {p : Int → Prop} : (∀ x ∈ l, p x) ↔ ∀ k, k < l.length → p (gi l k) :=
  ⟨fun h k hk => h _ (gi_mem hk), fun h x hx => by obtain ⟨k, hk, rfl⟩ := List.getElem_of_mem hx; rw [← gi_eq hk]; exact h k hk⟩
theorem forall_gp {l : List (Int × Int)} {p : Int × Int → Prop} : (∀ x ∈ l, p x) ↔ ∀ k, k < l.length → p (gp l k) :=
  ⟨fun h k hk => h _ (gp_mem hk), fun h x hx => by obtain ⟨k, hk, rfl⟩ := List.getElem_of_mem hx; rw [← gp_eq hk]; exact h k hk⟩

def encI (x : Int) : List Value := [.int .i64 x]
abbrev Pt := Int × Int
def encP (p : Pt) : List Value := [.int .i64 p.1, .int .i64 p.2]
abbrev IntsAt (w : World) (A : Option Addr) (n : Nat) (l : List Int) : Prop := SlAt encI 1 w A n l
abbrev PtsAt (w : World) (A : Option Addr) (n : Nat) (l : List Pt) : Prop := SlAt encP 2 w A n l

section
variable {α : Type} {enc : α → List Value} {sz : Nat} {w w' : World} {A : Option Addr} {n : Nat} {l : List α}
theorem SlAt.len (h : SlAt enc sz w A n l) : l.length = n := h.1
theorem SlAt.keep (h : SlAt enc sz w A n l) (hs : w.heap.size ≤ w'.heap.size) (hk : ∀ p : Addr, p.block < w.heap.size → A.map (·.block) = some p.block → w'.cell? p = w.cell? p) : SlAt enc sz w' A n l := by
  refine ⟨h.1, h.2.1, fun hn => ?_⟩
  obtain ⟨b, o, rfl, hb, hc⟩ := h.2.2 hn
  exact ⟨b, o, rfl, by omega, fun i hi j hj => (hk ⟨b, o + i * sz + j, none⟩ hb rfl).trans (hc i hi j hj)⟩
theorem SlAt.below {B : Nat} (h : SlAt enc sz w A n l) (hb : Below B w w') (hB : w.heap.size ≤ B) : SlAt enc sz w' A n l :=
  h.keep hb.size fun _ hp _ => hb.cell (by omega)
theorem SlAt.below' (h : SlAt enc sz w A n l) (hb : Below w.heap.size w w') : SlAt enc sz w' A n l := h.below hb (Nat.le_refl _)
theorem SlAt.nil (enc : α → List Value) (sz : Nat) (he : ∀ x, (enc x).length = sz) (w : World) (A : Option Addr) : SlAt enc sz w A 0 [] := ⟨rfl, he, fun h => absurd h (by omega)⟩
/-- a part of a slice: s[a:b] -/
theorem SlAt.part (h : SlAt enc sz w A n l) {a b : Nat} (hab : a ≤ b) (hb : b ≤ n) {A' : Option Addr} (hA : a < b → A' = A.map (fun p => ⟨p.block, p.off + a * sz, p.spot⟩)) : SlAt enc sz w A' (b - a) ((l.take b).drop a) := by
  refine ⟨by simp [h.1]; omega, h.2.1, fun hn => ?_⟩
  obtain ⟨b', o, rfl, hb', hc⟩ := h.2.2 (by omega)
  refine ⟨b', o + a * sz, hA (by omega), hb', fun i hi j hj => ?_⟩
  have hi' : i < b - a := by simpa [h.1, hb] using hi
  have := hc (a + i) (by rw [h.1]; omega) j hj
  have e : o + a * sz + i * sz + j = o + (a + i) * sz + j := by rw [Nat.add_mul]; omega
  rw [e, this]
  simp
end
theorem encI_len (x : Int) : (encI x).length = 1 := rfl
theorem encP_len (x : Pt) : (encP x).length = 2 := rfl

section
variable {w : World} {A : Option Addr} {n : Nat}
theorem ints_at {l : List Int} (h : IntsAt w A n l) {k : Nat} (hk : k < n) : ∃ b o, A = some ⟨b, o, none⟩ ∧ b < w.heap.size ∧ w.cell? ⟨b, o + k, none⟩ = some (.int .i64 (gi l k)) := by
  obtain ⟨b, o, hA, hb, hc⟩ := h.2.2 (by omega)
  have := hc k (by have := h.1; omega) 0 (by omega)
  simp [encI] at this
  exact ⟨b, o, hA, hb, by rw [this, gi_eq (by have := h.1; omega)]⟩
theorem pts_at {l : List Pt} (h : PtsAt w A n l) {k : Nat} (hk : k < n) : ∃ b o, A = some ⟨b, o, none⟩ ∧ b < w.heap.size ∧ w.cell? ⟨b, o + k * 2, none⟩ = some (.int .i64 (gp l k).1) ∧ w.cell? ⟨b, o + k * 2 + 1, none⟩ = some (.int .i64 (gp l k).2) := by
  obtain ⟨b, o, hA, hb, hc⟩ := h.2.2 (by omega)
  have h0 := hc k (by have := h.1; omega) 0 (by omega)
  have h1 := hc k (by have := h.1; omega) 1 (by omega)
  simp [encP] at h0 h1
  have e := gp_eq (l := l) (k := k) (by have := h.1; omega)
  exact ⟨b, o, hA, hb, by rw [h0, e], by rw [h1, e]⟩
end

/-! ### Boxes: a block that is known whole -/
def Box (w : World) (g : Nat) (t : TypeId) (cs : Array Value) : Prop := w.heap[g]? = some (.cells cs t (0, 0))
section
variable {w w' : World} {g : Nat} {t : TypeId} {cs : Array Value}
theorem Box.lt (h : Box w g t cs) : g < w.heap.size := (Array.getElem?_eq_some_iff.1 h).1
theorem Box.cell (h : Box w g t cs) (i : Nat) : w.cell? ⟨g, i, none⟩ = cs[i]? := cell_of_row w g i cs t (0, 0) h
theorem Box.frozen (h : Box w g t cs) (i : Nat) : w.frozen? ⟨g, i, none⟩ = false := by unfold Box at h; simp [World.frozen?, h]
theorem Box.new (w : World) (t : TypeId) (cs : Array Value) : Box (w.alloc (.cells cs t)) w.heap.size t cs := heap_alloc_new w _
theorem Box.newD {g : Nat} (w : World) (t : TypeId) (cs : Array Value) (hg : g = w.heap.size) : Box (w.alloc (.cells cs t)).drew g t cs := by subst hg; exact heap_alloc_new w _
theorem Box.newA {g : Nat} (w : World) (t : TypeId) (cs : Array Value) (hg : g = w.heap.size) : Box (w.alloc (.cells cs t)) g t cs := by subst hg; exact heap_alloc_new w _
theorem Box.drew (h : Box w g t cs) : Box w.drew g t cs := h
theorem Box.drewN (h : Box w g t cs) (n : Nat) : Box (w.drewN n) g t cs := h
theorem Box.alloc (h : Box w g t cs) (o : Obj) : Box (w.alloc o) g t cs := (Below.heap_alloc w o g h.lt).trans h
theorem Box.set (h : Box w g t cs) (i : Nat) (u : Value) : Box (w.setCell ⟨g, i, none⟩ u) g t (cs.setIfInBounds i u) := by
  unfold Box at h ⊢
  simp [World.setCell, Array.getElem?_modify, h]
theorem Box.far (h : Box w g t cs) {p : Addr} (hp : g ≠ p.block) (u : Value) : Box (w.setCell p u) g t cs := (Below.heap_setCell w p u g hp).trans h
theorem Box.below {B : Nat} (h : Box w g t cs) (hb : Below B w w') (hg : g < B) : Box w' g t cs := (hb.block g hg).trans h
theorem Box.below' (h : Box w g t cs) (hb : Below w.heap.size w w') : Box w' g t cs := h.below hb h.lt
theorem Box.grown {row : Option Nat} (h : Box w g t cs) (hb : w.grownBy w' row) (hg : some g ≠ row) : Box w' g t cs := (hb.block g h.lt hg).trans h
end

theorem below_drewN {B : Nat} {a w : World} (h : Below B a w) (n : Nat) : Below B a (w.drewN n) := ⟨h.os, h.tape, h.output, h.size, h.block⟩
theorem below_undrew {B : Nat} {w w' : World} (h : Below B w.drew w') : Below B w w' := ⟨h.os, h.tape, h.output, h.size, h.block⟩
/-- A new block and nothing else. -/
theorem below_new (w : World) (o : Obj) : Below w.heap.size w (w.alloc o) := (Below.refl _ _).alloc (Nat.le_refl _) _
theorem size_new (w : World) (o : Obj) : (w.alloc o).heap.size = w.heap.size + 1 := by simp
/-- Two steps, the second one told of the whole memory of the first one. -/
theorem below_then {B : Nat} {a b c : World} (h : Below B a b) (k : Below b.heap.size b c) (hB : B ≤ b.heap.size) : Below B a c := h.trans (k.mono hB)

/-! ### Rows of the call's own, as slices -/
section
variable {α : Type} {enc : α → List Value} {sz : Nat} {w : World} {base : Nat} {e : TypeId} {n c : Nat} {A : Option Addr} {l : List α}
theorem flat_getElem? (henc : ∀ x : α, (enc x).length = sz) : ∀ (l : List α) (i : Nat) (h : i < l.length) (j : Nat) (_ : j < sz), (l.flatMap enc)[i * sz + j]? = (enc l[i])[j]?
  | x :: l, 0, _, j, hj => by
    simp only [List.flatMap_cons, Nat.zero_mul, Nat.zero_add, List.getElem_cons_zero]
    rw [List.getElem?_append_left (by rw [henc]; exact hj)]
  | x :: l, i + 1, h, j, hj => by
    simp only [List.flatMap_cons, List.getElem_cons_succ]
    rw [List.getElem?_append_right (by rw [henc, Nat.add_mul]; omega), henc]
    have e : (i + 1) * sz + j - sz = i * sz + j := by rw [Nat.add_mul]; omega
    rw [e]
    exact flat_getElem? henc l i (by simpa using h) j hj
theorem flat_length (henc : ∀ x : α, (enc x).length = sz) (l : List α) : (l.flatMap enc).length = l.length * sz := by
  induction l with
  | nil => simp
  | cons x l ih => simp [henc, ih, Nat.add_mul, Nat.add_comm]
/-- A row of the call's own reads as a slice. -/
theorem SlAt.of_own (henc : ∀ x : α, (enc x).length = sz) (hsz : 0 < sz) (h : w.ownsRow base e sz (.slice A n c) n (l.flatMap enc)) : SlAt enc sz w A n l := by
  have hl : l.length = n := by
    have := h.1
    rw [flat_length henc] at this
    exact Nat.eq_of_mul_eq_mul_right hsz this
  refine ⟨hl, henc, fun hn => ?_⟩
  rcases h.2 with ⟨hv, h0⟩ | ⟨g, cap, cur, hv, hg, hh, h1, h2, h3, h4⟩
  · omega
  · injection hv with hv
    subst hv
    refine ⟨g, 0, rfl, (Array.getElem?_eq_some_iff.1 hh).1, fun i hi j hj => ?_⟩
    have hlt : i * sz + j < n * sz := by
      have h1 : i * sz + sz ≤ n * sz := by rw [← Nat.succ_mul]; exact Nat.mul_le_mul_right _ (by omega)
      omega
    have := cell_of_row w g (0 + i * sz + j) cur e (0, 0) hh
    rw [this]
    simp only [Nat.zero_add]
    rw [← flat_getElem? henc l i hi j hj, ← h4, List.getElem?_take, if_pos hlt]
    simp
theorem own_form {v : Value} {xs : List Value} (h : w.ownsRow base e sz v n xs) : ∃ A c, v = .slice A n c := by
  rcases h.2 with ⟨rfl, rfl⟩ | ⟨g, cap, cur, rfl, _⟩
  · exact ⟨_, _, rfl⟩
  · exact ⟨_, _, rfl⟩
/-- An owned row over a step that leaves the memory below alone. -/
theorem own_below {v : Value} {xs : List Value} {w' : World} {B : Nat} (h : w.ownsRow base e sz v n xs) (hb : Below B w w') (hB : ∀ k, v.ownBlock = some k → k < B) : w'.ownsRow base e sz v n xs := by
  refine ⟨h.1, ?_⟩
  rcases h.2 with hn | ⟨g, cap, cur, rfl, hg, hh, rest⟩
  · exact .inl hn
  · exact .inr ⟨g, cap, cur, rfl, hg, (hb.block g (hB g rfl)).trans hh, rest⟩
theorem own_below' {v : Value} {xs : List Value} {w' : World} (h : w.ownsRow base e sz v n xs) (hb : Below w.heap.size w w') : w'.ownsRow base e sz v n xs :=
  own_below h hb fun k hk => (h.lt k hk).2
theorem own_setCell {v : Value} {xs : List Value} (h : w.ownsRow base e sz v n xs) {p : Addr} (hp : ∀ k, v.ownBlock = some k → k ≠ p.block) (u : Value) : (w.setCell p u).ownsRow base e sz v n xs := by
  refine ⟨h.1, ?_⟩
  rcases h.2 with hn | ⟨g, cap, cur, rfl, hg, hh, rest⟩
  · exact .inl hn
  · exact .inr ⟨g, cap, cur, rfl, hg, (Below.heap_setCell _ _ _ _ (hp g rfl)).trans hh, rest⟩
/-- Rows of different element types lie apart. -/
theorem own_ne {v : Value} {xs : List Value} {g : Nat} {t : TypeId} {cs : Array Value} (h : w.ownsRow base e sz v n xs) (hg : Box w g t cs) (hne : e ≠ t) : ∀ k, v.ownBlock = some k → k ≠ g := by
  intro k hk
  rcases h.2 with ⟨rfl, _⟩ | ⟨g', cap, cur, rfl, _, hh, _⟩
  · simp [Value.ownBlock] at hk
  · simp [Value.ownBlock] at hk
    subst hk
    rintro rfl
    unfold Box at hg
    rw [hh] at hg
    injection hg with hg
    injection hg with _ ht
    exact hne ht
end

/-! ### append(out, x) -/
/-- What the table says of an element's type. -/
structure ElemT (P : Program) (t e : TypeId) (i : TypeInfo) (z : Value) (size bytes : Nat) : Prop where
  ht : P.underlying t = some (.slice e)
  hi : P.info? e = some i
  hz : i.zero = some z
  hsize : i.size = size
  hbytes : i.bytes = bytes
  hzs : z.cells.size = size
  hpos : 0 < size
theorem elemT {P : Program} {t e : TypeId} {z : Value} {size bytes : Nat} (ht : P.underlying t = some (.slice e)) (h : (P.info? e).map (fun i => (i.zero, i.size, i.bytes)) = some (some z, size, bytes))
    (hzs : z.cells.size = size) (hpos : 0 < size) : ∃ i, ElemT P t e i z size bytes := by
  obtain ⟨i, hi, a, b, c⟩ := info_parts h
  exact ⟨i, ht, hi, a, b, c, hzs, hpos⟩

/-- 'append(out, x)' of one element, just laid in a new block: a law for the walk. -/
theorem wpList_push {P : Program} {w : World} {ops : Array Oper} {rest : List Oper} {o : Oper} {a : Act} {Q : Exit → Act → World → Prop} {t e : TypeId} {i : TypeInfo} {z : Value} {size bytes : Nat}
    (T : ElemT P t e i z size bytes) (hgd : o.guard = none) (s x : Operand) (ho : o.op = .call { callee := .builtin .append, args := #[s, x], argTypes := #[t, t] })
    {base : Nat} {v : Value} {n : Nat} {xs : List Value} (hs : a.eval s = v) (hown : w.ownsRow base e size v n xs)
    {B : Nat} {cs : Array Value} {te : TypeId} (hx : a.eval x = .slice (some ⟨B, 0, none⟩) 1 1) (hB : Box w B te cs) (hcs : cs.size = size) (h1 : ∀ u ∈ cs.toList, u.oneCell' = true)
    (hn : n < 1099511627776) (hb : bytes ≤ 128) (hbase : base ≤ w.heap.size)
    (h : ∀ v' w', w'.ownsRow base e size v' (n + 1) (xs ++ cs.toList) → w.grownBy w' v.ownBlock → wpList P ops Q rest (a.put o.dst v') w') : wpList P ops Q (o :: rest) a w := by
  refine wpList_append_own w hgd s x t ho base e i z size bytes T.ht T.hi T.hz T.hsize T.hbytes T.hzs T.hpos v n xs hs hown ⟨B, 0, none⟩ 1 1 cs.toList hx (by simp [hcs]) ?_ h1 ?_ ?_ hbase ?_
  · intro j u hu
    have hadd : (⟨B, 0, none⟩ : Addr).add j = ⟨B, j, none⟩ := by unfold Addr.add; split <;> simp_all
    rw [hadd, hB.cell]
    simpa using hu
  · unfold maxLen; omega
  · have : (n + 1) * bytes ≤ 1099511627776 * 128 := Nat.mul_le_mul (by omega) hb
    omega
  · intro v' w' h2 h3 _
    exact h v' w' h2 h3

/-- The same, as a step of a region that draws its order ('go_region_law'). -/
theorem step_push {P : Program} {w : World} {ops : Array Oper} {o : Oper} {a : Act} {K : Act → World → Prop} {Q : Exit → Act → World → Prop} {E : Prop} {t e : TypeId} {i : TypeInfo} {z : Value} {size bytes : Nat}
    (T : ElemT P t e i z size bytes) (hgd : o.guard = none) (s x : Operand) (ho : o.op = .call { callee := .builtin .append, args := #[s, x], argTypes := #[t, t] })
    {base : Nat} {v : Value} {n : Nat} {xs : List Value} (hs : a.eval s = v) (hown : w.ownsRow base e size v n xs)
    {B : Nat} {cs : Array Value} {te : TypeId} (hx : a.eval x = .slice (some ⟨B, 0, none⟩) 1 1) (hB : Box w B te cs) (hcs : cs.size = size) (h1 : ∀ u ∈ cs.toList, u.oneCell' = true)
    (hn : n < 1099511627776) (hb : bytes ≤ 128) (hbase : base ≤ w.heap.size)
    (h : ∀ v' w', w'.ownsRow base e size v' (n + 1) (xs ++ cs.toList) → w.grownBy w' v.ownBlock → K (a.put o.dst v') w') : if Region.wanted o (yielded ops a.tmps) = true then Oper.wp P o a w K Q else E := by
  have hw : Region.wanted o (yielded ops a.tmps) = true := by simp [Region.wanted, hgd]
  rw [if_pos hw]
  refine wp_append_own w s x t ho base e i z size bytes T.ht T.hi T.hz T.hsize T.hbytes T.hzs T.hpos v n xs hs hown ⟨B, 0, none⟩ 1 1 cs.toList hx (by simp [hcs]) ?_ h1 ?_ ?_ hbase ?_
  · intro j u hu
    have hadd : (⟨B, 0, none⟩ : Addr).add j = ⟨B, j, none⟩ := by unfold Addr.add; split <;> simp_all
    rw [hadd, hB.cell]
    simpa using hu
  · unfold maxLen; omega
  · have : (n + 1) * bytes ≤ 1099511627776 * 128 := Nat.mul_le_mul (by omega) hb
    omega
  · intro v' w' h2 h3 _
    exact h v' w' h2 h3

/-! ### max and min stay whole in the walk -/
theorem max2_int (k : IntKind) (a b : Int) : Builtin.max2 (.int k a) (.int k b) = pure (.int k (max a b)) := by
  simp only [Builtin.max2, pure]
  congr 2
  first | rfl | (split <;> congr 1 <;> omega)
theorem min2_int (k : IntKind) (a b : Int) : Builtin.min2 (.int k a) (.int k b) = pure (.int k (min a b)) := by
  simp only [Builtin.min2, pure]
  congr 2
  first | rfl | (split <;> congr 1 <;> omega)
@[go_sem ↓] theorem max_int2 (ats : Array TypeId) (ty : TypeId) (k : IntKind) (a b : Int) : Builtin.max_ ats ty #[.int k a, .int k b] = pure (.int k (max a b)) := by
  simp [Builtin.max_, max2_int]
@[go_sem ↓] theorem min_int2 (ats : Array TypeId) (ty : TypeId) (k : IntKind) (a b : Int) : Builtin.min_ ats ty #[.int k a, .int k b] = pure (.int k (min a b)) := by
  simp [Builtin.min_, min2_int]
@[go_sem ↓] theorem max_int3 (ats : Array TypeId) (ty : TypeId) (k : IntKind) (a b c : Int) : Builtin.max_ ats ty #[.int k a, .int k b, .int k c] = pure (.int k (max (max a b) c)) := by
  simp [Builtin.max_, max2_int]
@[go_sem ↓] theorem min_int3 (ats : Array TypeId) (ty : TypeId) (k : IntKind) (a b c : Int) : Builtin.min_ ats ty #[.int k a, .int k b, .int k c] = pure (.int k (min (min a b) c)) := by
  simp [Builtin.min_, min2_int]
@[go_sem ↓] theorem max_int4 (ats : Array TypeId) (ty : TypeId) (k : IntKind) (a b c d : Int) : Builtin.max_ ats ty #[.int k a, .int k b, .int k c, .int k d] = pure (.int k (max (max (max a b) c) d)) := by
  simp [Builtin.max_, max2_int]

/-! ### make([]T, n); a block of integers -/
def intCells (l : List Int) : Array Value := (l.map (Value.int .i64)).toArray
theorem intCells_size (l : List Int) : (intCells l).size = l.length := by simp [intCells]
theorem intCells_get (l : List Int) (k : Nat) (h : k < l.length) : (intCells l)[k]? = some (.int .i64 (gi l k)) := by simp [intCells, gi, h]
theorem intCells_set (l : List Int) (k : Nat) (x : Int) : (intCells l).setIfInBounds k (.int .i64 x) = intCells (l.set k x) := by simp [intCells]
theorem intCells_flat (l : List Int) : (intCells l).toList = l.flatMap encI := by
  induction l with
  | nil => rfl
  | cons x l ih => simp [intCells, encI] at ih ⊢; exact ih
theorem make_ints {P : Program} {t e : TypeId} {i : TypeInfo} {bytes : Nat} (T : ElemT P t e i (.int .i64 0) 1 bytes) (n : Nat) (hn : n < 1099511627776) (hb : bytes ≤ 128) (w : World) :
    (Instr.makeSlice t (.int .i64 (n : Int)) (.int .i64 (n : Int))).run P w = .ok (.slice (some ⟨w.heap.size, 0, none⟩) n n) (w.alloc (.cells (intCells (List.replicate n 0)) e)) := by
  have hbb : (i.bytes : Int) * (n : Int) ≤ 281474976710656 := by
    have h1 : i.bytes * n ≤ 128 * 1099511627776 := Nat.mul_le_mul (by rw [T.hbytes]; exact hb) (by omega)
    have h : ((i.bytes * n : Nat) : Int) ≤ 281474976710656 := by omega
    rwa [Int.natCast_mul] at h
  have hr := run_make (P := P) w t e i (.int .i64 0) T.ht T.hi T.hz .i64 .i64 n n (by omega) (by omega) hbb (by omega)
  simp only [Int.toNat_natCast, T.hsize, Nat.mul_one] at hr
  rw [hr]
  congr 3
  apply Array.ext'
  rw [show (Value.int IntKind.i64 0).cells = #[Value.int .i64 0] from rfl, toList_madeCells_one]
  simp [intCells]
theorem ints_of_box {w : World} {g : Nat} {t : TypeId} {l : List Int} (h : Box w g t (intCells l)) : IntsAt w (some ⟨g, 0, none⟩) l.length l :=
  ⟨rfl, encI_len, fun _ => ⟨g, 0, rfl, h.lt, fun i hi j hj => by
    obtain rfl : j = 0 := by omega
    rw [h.cell]
    simp [intCells, encI, hi]⟩⟩

theorem ret_int {k : IntKind} {a b : Int} (h : a = b) : Ending.returned (.int k a) = .returned (.int k b) := by rw [h]
theorem ret_bool {a b : Bool} (h : a = b) : Ending.returned (.bool a) = .returned (.bool b) := by rw [h]
end Go.Dw
