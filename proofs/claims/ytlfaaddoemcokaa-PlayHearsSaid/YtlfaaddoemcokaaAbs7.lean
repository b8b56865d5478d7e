/-
  make, append, len, parts of slices, functions and interface values, for values without addresses. No condition but those that the step names.
-/
import Derived.Test.YtlfaaddoemcokaaAbs6
namespace Go.Ab
open Go.RowKit Go.Dw

def tBytes (P : Program) (t : Nat) : Option Nat := (P.info? t).map (·.bytes)
theorem slRows_const (n : Nat) (zs : List V) : slRows n (fun _ => zs) = List.replicate n zs := by simp [slRows, List.map_const']
def appRow (n : Nat) (row row' : Nat → List V) : Nat → List V := fun j => if j < n then row j else row' (j - n)
theorem slRows_app (n m : Nat) (row row' : Nat → List V) : slRows (n + m) (appRow n row row') = slRows n row ++ slRows m row' := by
  apply List.ext_getElem?
  intro j
  by_cases hj : j < n
  · rw [List.getElem?_append_left (by rw [slRows_len]; exact hj), slRows_get (by omega), slRows_get hj]; simp [appRow, hj]
  · rw [List.getElem?_append_right (by rw [slRows_len]; omega), slRows_len]
    by_cases hj2 : j < n + m
    · rw [slRows_get hj2, slRows_get (by omega)]; simp [appRow, hj]
    · rw [List.getElem?_eq_none (by rw [slRows_len]; omega), List.getElem?_eq_none (by rw [slRows_len]; omega)]
theorem mul_lt_row {i n sz : Nat} (hi : i < n) : i * sz + sz ≤ n * sz := by rw [← Nat.succ_mul]; exact Nat.mul_le_mul_right _ hi

section
variable {P : Program} {d : Option Tmp} {ty : TypeId} {pos : String} {af : Array Edge} {gd : Option (Nat × Bool)} {ev : Operand → V} {W LB : Nat → Prop}

theorem as_make (t : Nat) (x y : Operand) {e sz by' : Nat} {zs : List V} {k k' : IntKind} {l c : Int} (he : tElem P t = some e) (hs : tSize P e = some sz) (hb : tBytes P e = some by') (hz : tZero P e = some zs) (hsz : zs.length = sz) (hpos : 0 < sz)
    (hx : ev x = .c (.int k l)) (hy : ev y = .c (.int k' c)) (hc : 0 ≤ l ∧ l ≤ c ∧ c ≤ 1099511627776) (hb1 : by' ≤ 128) (id : Nat) :
    AStep P W LB ⟨d, .makeSlice t x y, ty, pos, af, gd⟩ ev (.own id) [] [id] [(id, some (.row e sz l.toNat fun _ => zs))] := by
  intro σ w L ρ g hG hr hpre hn
  have h1 := hr x (by simp [Op.operands])
  have h2 := hr y (by simp [Op.operands])
  rw [hx] at h1
  rw [hy] at h2
  have e1 := h1.c_inv
  have e2 := h2.c_inv
  obtain ⟨i, z, hi, hz', h1', rfl⟩ := tZero_some hz
  have hzs : z.cells.size = sz := by simpa using hsz
  have hsi : i.size = sz := by simpa [tSize, hi] using hs
  have hbi : i.bytes = by' := by simpa [tBytes, hi] using hb
  have hbytes : (i.bytes : Int) * c ≤ 281474976710656 := by
    have h3 : (i.bytes : Int) * c ≤ 128 * c := Int.mul_le_mul_of_nonneg_right (by omega) (by omega)
    omega
  have hm := run_make (P := P) w t e i z (tElem_some he) hi hz' k k' l c hc.1 hc.2.1 hbytes (by omega)
  rw [hsi] at hm
  have hrl := rep_rl (w := w) (L := L) (ρ := ρ) (toV_rl w L ρ z.cells.toList h1') (by omega) c.toNat
  rw [hzs] at hrl
  have hmade : madeCells z.cells (c.toNat * sz) = (Array.range (c.toNat * sz)).map (z.cells[· % z.cells.size]!) := rfl
  rw [hzs] at hmade
  rw [← hmade] at hrl
  have hlc : l.toNat ≤ c.toNat := by omega
  obtain ⟨hG', ex⟩ := hG.put (w' := w.alloc (.cells (madeCells z.cells (c.toNat * sz)) e)) (σ1 := σ) (ρ' := upd ρ id (some (.slice (some ⟨w.heap.size, 0, none⟩) l.toNat c.toNat))) (World.grownBy_alloc w _ none) (by simp) id _ (.row e sz l.toNat fun _ => z.cells.toList.map toV)
    (fun i o hi ho => ⟨ho, by simp⟩) (fun i hi => upd_ne _ _ hi) (upd_same _ _ _) (.inl (hn id (by simp))) (fun k hk => .inr (by simp [blk] at hk; omega)) (fun ex => by
      refine ⟨_, (madeCells z.cells (c.toNat * sz)).toList.take (l.toNat * sz), upd_same _ _ _, ⟨?_, .inr ⟨w.heap.size, c.toNat, _, by simp, Nat.zero_le _, heap_alloc_new w _, by simpa using hlc, by unfold maxLen; omega, size_madeCells _ _, by simp⟩⟩, ?_, ?_, fun k hk => ?_⟩
      · have : l.toNat * sz ≤ c.toNat * sz := Nat.mul_le_mul_right _ hlc
        rw [List.length_take, Array.length_toList, size_madeCells]; omega
      · intro i hi; exact hsz
      · rw [slRows_const]
        have h5 := (hrl.ext ex).sub 0 (l.toNat * sz)
        simp only [List.drop_zero] at h5
        have e5 : (repV c.toNat (z.cells.toList.map toV)).take (l.toNat * sz) = (List.replicate l.toNat (z.cells.toList.map toV)).flatten := by
          obtain ⟨q, hq⟩ := Nat.le.dest hlc
          rw [← hq, repV, ← List.replicate_append_replicate, List.flatten_append, List.take_append_of_le_length (by rw [flatten_len (sz := sz) fun r hr => by rw [List.eq_of_mem_replicate hr]; exact hsz]; simp), List.take_of_length_le (by rw [flatten_len (sz := sz) fun r hr => by rw [List.eq_of_mem_replicate hr]; exact hsz]; simp)]
        rw [← e5]; exact h5
      · simp [blk] at hk; subst hk
        exact ⟨(hG.new _ (Nat.le_refl _)).1, fun hL => by have := (hG.ll _ hL).1; omega⟩)
  refine OpDoes.value rfl (v := .slice (some ⟨w.heap.size, 0, none⟩) l.toNat c.toNat) (w' := w.alloc (.cells (madeCells z.cells (c.toNat * sz)) e)) (by simp [execOp, e1, e2, hm]) ⟨L, _, hG', .own _ _ _ (upd_same _ _ _) rfl, tch_grown (L := L) (World.grownBy_alloc w _ none) (by simp), ex, fun i hi => upd_ne _ _ (by simpa using hi), DefK.grown (World.grownBy_alloc w _ none) (by simp)⟩

/-- the cells of a slice that is never written, one after another -/
theorem sl_cells {w : World} {L : Nat → Prop} {ρ : Nat → Option Value} {sz n b o : Nat} {row : Nat → List V} (hlen : ∀ i, i < n → (row i).length = sz)
    (h : ∀ (i j : Nat) u, i < n → (row i)[j]? = some u → ∃ y, w.cell? ⟨b, o + i * sz + j, none⟩ = some y ∧ y.oneCell' = true ∧ R w L ρ0 u y) :
    ∃ xs, RL w L ρ (slRows n row).flatten xs ∧ xs.length = n * sz ∧ ∀ (j : Nat) y, xs[j]? = some y → w.cell? ⟨b, o + j, none⟩ = some y := by
  have hfl : (slRows n row).flatten.length = n * sz := by
    rw [flatten_len (sz := sz)]
    · simp [slRows]
    · intro r hr
      simp only [slRows, List.mem_map, List.mem_range] at hr
      obtain ⟨i, hi, rfl⟩ := hr
      exact hlen i hi
  obtain ⟨xs, h1, h2⟩ := cells_list (w := w) (L := L) (ρ := ρ) (b := b) (o := o) (slRows n row).flatten fun j u hu => by
    have hj : j < n * sz := by rw [← hfl]; exact (List.getElem?_eq_some_iff.1 hu).1
    have hsz : 0 < sz := by
      rcases Nat.eq_zero_or_pos sz with h | h
      · subst h; omega
      · exact h
    have hq : j / sz < n := by rw [Nat.div_lt_iff_lt_mul hsz]; exact hj
    have hm := Nat.mod_lt j hsz
    have hdm := Nat.div_add_mod j sz
    rw [Nat.mul_comm] at hdm
    rw [← hdm, flat_get (sz := sz) (r := row (j / sz)) ?_ (by simp [slRows, hq]) hm] at hu
    · obtain ⟨y, hy, h1, hr⟩ := h (j / sz) (j % sz) u hq hu
      exact ⟨y, by rw [← hy, show o + j = o + j / sz * sz + j % sz by omega], h1, hr.of0⟩
    · intro r hr
      simp only [slRows, List.mem_map, List.mem_range] at hr
      obtain ⟨i, hi, rfl⟩ := hr
      exact hlen i hi
  exact ⟨xs, h1, by rw [← h1.1]; exact hfl, h2⟩

theorem run_append_zero (t ty : TypeId) {e sz : Nat} (he : tElem P t = some e) (hs : tSize P e = some sz) (base A : Option Addr) (n cap c : Nat) (hn : n ≤ cap) (w : World) :
    (Builtin.append_ #[t, t] ty #[.slice base n cap, .slice A 0 c]).run P w = .ok (.slice base n cap) w := by
  cases A <;> cases base <;> simp [Builtin.append_, run_underlying' (tElem_some he), run_sizeOf' hs, Builtin.lenOf, Builtin.firstCells, loadCells, loadCellsFrom, storeCells, hn]

/-- append of a row that is never written to a row of the call's own, at the level of the operation -/
theorem run_append_row {w : World} {L : Nat → Prop} {ρ : Nat → Option Value} (t : Nat) {e sz by' : Nat} {zs : List V} (he : tElem P t = some e) (hs : tSize P e = some sz) (hb : tBytes P e = some by') (hz : tZero P e = some zs) (hsz : zs.length = sz) (hpos : 0 < sz) (hb1 : by' ≤ 128)
    {v : Value} {n : Nat} {xs : List Value} (hown : w.ownsRow 0 e sz v n xs) {m : Nat} {row : Nat → List V} {x : Value} (hx : R w L ρ (.sl sz m row) x) (hnm : n + m ≤ 1099511627776) :
    ∃ v' w' ys, (Builtin.append_ #[t, t] t #[v, x]).run P w = .ok v' w' ∧ RL w L ρ (slRows m row).flatten ys ∧ w'.ownsRow 0 e sz v' (n + m) (xs ++ ys) ∧ w.grownBy w' v.ownBlock ∧ (v'.ownBlock = v.ownBlock ∨ v'.ownBlock = some w.heap.size) ∧ (∀ i, i < m → (row i).length = sz) := by
  obtain ⟨i, z, hi, hz', h1', rfl⟩ := tZero_some hz
  have hzs : z.cells.size = sz := by simpa using hsz
  have hsi : i.size = sz := by simpa [tSize, hi] using hs
  have hbi : i.bytes = by' := by simpa [tBytes, hi] using hb
  obtain ⟨A, c, rfl, hA⟩ := hx.sl_inv
  rcases Nat.eq_zero_or_pos m with rfl | hm
  · obtain ⟨B, cap, rfl, hcap⟩ : ∃ B cap, v = .slice B n cap ∧ n ≤ cap := by
      rcases hown.2 with ⟨rfl, rfl⟩ | ⟨g, cap, cur, rfl, _, _, hc, _⟩
      · exact ⟨none, 0, rfl, Nat.le_refl _⟩
      · exact ⟨_, _, rfl, hc⟩
    exact ⟨_, w, [], run_append_zero t t he hs B A n cap c hcap w, by simp [slRows]; exact .nil, by simpa using hown, World.grownBy.refl _ _, .inl rfl, fun i hi => by omega⟩
  · obtain ⟨b, o, rfl, hb, hlen, hcell⟩ := hA hm
    obtain ⟨ys, hl, hyl, hc⟩ := sl_cells (ρ := ρ) hlen hcell
    obtain ⟨v', w', h1, h2, h3, _, h4⟩ := run_append_own_at (P := P) w 0 t t e i z sz by' (tElem_some he) hi hz' hsi hbi hzs hpos v n xs hown ⟨b, o, none⟩ m c ys hyl (fun j u hu => by rw [Addr.add_lit]; exact hc j u hu) hl.one (by unfold maxLen; omega)
      (by have h1 : (n + m) * by' ≤ 1099511627776 * 128 := Nat.mul_le_mul hnm hb1
          omega) (Nat.zero_le _)
    exact ⟨v', w', ys, h1, hl, h2, h3, h4, hlen⟩

theorem blk_own {v : Value} {w : World} {e sz n : Nat} {xs : List Value} (h : w.ownsRow 0 e sz v n xs) : blk v = v.ownBlock := by
  rcases h.2 with ⟨rfl, _⟩ | ⟨g, cap, cur, rfl, _⟩ <;> rfl

theorem as_appendN (t : Nat) (s x : Operand) {e sz by' m : Nat} {zs : List V} {row : Nat → List V} (he : tElem P t = some e) (hs : tSize P e = some sz) (hb : tBytes P e = some by') (hz : tZero P e = some zs) (hsz : zs.length = sz) (hpos : 0 < sz) (hb1 : by' ≤ 128)
    (hsn : ev s = .nil) (hx : ev x = .sl sz m row) (hm : m ≤ 1099511627776) (id : Nat) :
    AStep P W LB ⟨d, .call { callee := .builtin .append, args := #[s, x], argTypes := #[t, t] }, t, pos, af, gd⟩ ev (.own id) [] [id] [(id, some (.row e sz m row))] := by
  intro σ w L ρ g hG hr hpre hn
  have h1 := hr s (by simp [Op.operands, Call.operands])
  have h2 := hr x (by simp [Op.operands, Call.operands])
  rw [hsn] at h1
  rw [hx] at h2
  have e1 : g s = .slice none 0 0 := by generalize g s = gs at h1; cases h1; rfl
  have hown := World.ownsRow_nil w 0 e sz
  obtain ⟨v', w', ys, h3, h4, h5, h6, h7, hlen⟩ := run_append_row t he hs hb hz hsz hpos hb1 hown h2 (by omega)
  rw [Nat.zero_add, List.nil_append] at h5
  have hbo := blk_own h5
  obtain ⟨hG', ex⟩ := hG.put (w' := w') (σ1 := σ) (ρ' := upd ρ id (some v')) h6 (by simp [Value.ownBlock]) id v' (.row e sz m row) (fun i o hi ho => ⟨ho, by simp [Value.ownBlock]⟩) (fun i hi => upd_ne _ _ hi) (upd_same _ _ _) (.inl (hn id (by simp)))
    (fun k hk => .inr (by rw [hbo] at hk; rcases h7 with h7 | h7 <;> rw [h7] at hk <;> simp [Value.ownBlock] at hk; omega)) (fun ex => by
      refine ⟨v', ys, upd_same _ _ _, h5, hlen, h4.ext ex, fun k hk => ?_⟩
      · rw [hbo] at hk
        rcases h7 with h7 | h7 <;> rw [h7] at hk <;> simp [Value.ownBlock] at hk
        subst hk
        exact ⟨(hG.new _ (Nat.le_refl _)).1, fun hL => by have := (hG.ll _ hL).1; omega⟩)
  have hone : v'.oneCell' = true := by rcases h5.2 with ⟨rfl, _⟩ | ⟨g, cap, cur, rfl, _⟩ <;> rfl
  refine OpDoes.value rfl (v := v') (w' := w') ?_ ⟨L, _, hG', .own _ _ _ (upd_same _ _ _) hone, tch_grown (L := L) h6 (by simp [Value.ownBlock]), ex, fun i hi => upd_ne _ _ (by simpa using hi), DefK.grown h6 (by simp [Value.ownBlock])⟩
  simp [execOp, resolve, invoke, builtin, e1, h3]

theorem as_appendO (t : Nat) (s x : Operand) {e sz by' m id0 n : Nat} {zs : List V} {row row0 : Nat → List V} (he : tElem P t = some e) (hs : tSize P e = some sz) (hb : tBytes P e = some by') (hz : tZero P e = some zs) (hsz : zs.length = sz) (hpos : 0 < sz) (hb1 : by' ≤ 128)
    (hsn : ev s = .own id0) (hx : ev x = .sl sz m row) (hm : n + m ≤ 1099511627776) (id : Nat) (hne : id ≠ id0) :
    AStep P W LB ⟨d, .call { callee := .builtin .append, args := #[s, x], argTypes := #[t, t] }, t, pos, af, gd⟩ ev (.own id) [(id0, .row e sz n row0)] [id] [(id0, none), (id, some (.row e sz (n + m) (appRow n row0 row)))] := by
  intro σ w L ρ g hG hr hpre hn
  have h1 := hr s (by simp [Op.operands, Call.operands])
  have h2 := hr x (by simp [Op.operands, Call.operands])
  rw [hsn] at h1
  rw [hx] at h2
  have hσ := hpre _ (List.Mem.head _)
  have hρ := h1.own_inv
  obtain ⟨v, xs, hv, hown, hrs, hl, hbl⟩ := hG.ob id0 _ hσ
  rw [hρ] at hv; injection hv with hv
  subst hv
  obtain ⟨v', w', ys, h3, h4, h5, h6, h7, hlen⟩ := run_append_row t he hs hb hz hsz hpos hb1 hown h2 hm
  have hbo := blk_own h5
  have hbv := blk_own hown
  rw [← hbv] at h6 h7
  have hch : ∀ k, blk (g s) = some k → W k ∧ ¬ L k := hbl
  have hidn := hn id (by simp)
  obtain ⟨hG', ex⟩ := hG.put (w' := w') (σ1 := upd σ id0 none) (ρ' := upd ρ id (some v')) h6 hch id v' (.row e sz (n + m) (appRow n row0 row)) (fun i o hi ho => by
      by_cases h0 : i = id0
      · subst h0; rw [upd_same] at ho; cases ho
      · rw [upd_ne _ _ h0] at ho
        exact ⟨ho, fun y hy k hk hky => hG.sep i id0 y _ k h0 (by rw [ho]; simp) (by rw [hσ]; simp) hy hρ hky hk⟩) (fun i hi => upd_ne _ _ hi) (upd_same _ _ _) (.inl hidn)
    (fun k hk => by
      rw [hbo] at hk
      rcases h7 with h7 | h7
      · exact .inl (by rw [← h7]; exact hk)
      · rw [h7] at hk; injection hk with hk; exact .inr (by omega)) (fun ex => by
      refine ⟨v', xs ++ ys, upd_same _ _ _, h5, ?_, by rw [slRows_app, List.flatten_append]; exact (hl.ext ex).append (h4.ext ex), fun k hk => ?_⟩
      · intro j hj
        unfold appRow
        split
        · exact hrs j (by assumption)
        · exact hlen _ (by omega)
      · rw [hbo] at hk
        rcases h7 with h7 | h7
        · rw [h7] at hk; exact hbl k hk
        · rw [h7] at hk; injection hk with hk
          subst hk
          exact ⟨(hG.new _ (Nat.le_refl _)).1, fun hL => by have := (hG.ll _ hL).1; omega⟩)
  have hone : v'.oneCell' = true := by rcases h5.2 with ⟨rfl, _⟩ | ⟨g, cap, cur, rfl, _⟩ <;> rfl
  refine OpDoes.value rfl (v := v') (w' := w') ?_ ⟨L, _, hG', .own _ _ _ (upd_same _ _ _) hone, tch_grown (L := L) h6 hch, ex, fun i hi => upd_ne _ _ (by simpa using hi), DefK.grown h6 fun k hk => by
      rcases hown.2 with ⟨h, _⟩ | ⟨g', cap, cur, h, _, hh, _⟩
      · rw [h] at hk; simp [blk] at hk
      · rw [h] at hk; simp [blk] at hk; subst hk; exact ⟨_, _, _, hh⟩⟩
  simp [execOp, resolve, invoke, builtin, h3]

theorem ap_lenS (t : Nat) (x : Operand) {e sz n : Nat} {row : Nat → List V} (he : tElem P t = some e) (hx : ev x = .sl sz n row) : APure P ⟨d, .call { callee := .builtin .len, args := #[x], argTypes := #[t] }, ty, pos, af, gd⟩ ev (.i n) :=
  APure.same rfl fun w L ρ g hr => by
    have h1 := hr x (by simp [Op.operands, Call.operands])
    rw [hx] at h1
    obtain ⟨A, c, e1, _⟩ := h1.sl_inv
    exact ⟨_, by simp [execOp, resolve, invoke, builtin, Builtin.len_, e1, run_underlying' (tElem_some he), goInt], .c _ _⟩
theorem ap_lenN (t : Nat) (x : Operand) {e : Nat} (he : tElem P t = some e) (hx : ev x = .nil) : APure P ⟨d, .call { callee := .builtin .len, args := #[x], argTypes := #[t] }, ty, pos, af, gd⟩ ev (.i 0) :=
  APure.same rfl fun w L ρ g hr => by
    have h1 := hr x (by simp [Op.operands, Call.operands])
    rw [hx] at h1
    have e1 : g x = .slice none 0 0 := by generalize g x = gs at h1; cases h1; rfl
    exact ⟨_, by simp [execOp, resolve, invoke, builtin, Builtin.len_, e1, run_underlying' (tElem_some he), goInt], .c _ _⟩
theorem as_lenO (t : Nat) (x : Operand) {e e' sz id n : Nat} {row : Nat → List V} (he : tElem P t = some e) (hx : ev x = .own id) :
    AStep P W LB ⟨d, .call { callee := .builtin .len, args := #[x], argTypes := #[t] }, ty, pos, af, gd⟩ ev (.i n) [(id, .row e' sz n row)] [] [] := by
  intro σ w L ρ g hG hr hpre _
  have h1 := hr x (by simp [Op.operands, Call.operands])
  rw [hx] at h1
  obtain ⟨v, xs, hv, hown, _⟩ := hG.ob id _ (hpre _ (List.Mem.head _))
  rw [h1.own_inv] at hv; injection hv with hv
  obtain ⟨A, c, e1⟩ : ∃ A c, g x = .slice A n c := by
    rw [hv]
    rcases hown.2 with ⟨h1, h2⟩ | ⟨g', cap, cur, h1, _⟩
    · exact ⟨_, _, by rw [h1, h2]⟩
    · exact ⟨_, _, h1⟩
  refine OpDoes.value rfl (v := goInt n) (w' := w) ?_ ⟨L, ρ, hG, .c _ _, Tch.refl _ _, Ext.refl _ _ _, fun _ _ => rfl, DefK.refl _ _⟩
  simp [execOp, resolve, invoke, builtin, Builtin.len_, e1, run_underlying' (tElem_some he)]
end
end Go.Ab
