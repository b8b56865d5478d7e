/-
  Steps that write or make memory, for values without addresses. No condition but those that the step names.
-/
import Derived.Test.YtlfaaddoemcokaaAbs4
import Derived.Maps.AppendAt
namespace Go.Ab
open Go.RowKit Go.Dw

theorem grown_setRow (w : World) (g : Nat) (cs : Array Value) : w.grownBy (w.setRow g cs) (some g) :=
  ⟨rfl, rfl, rfl, by simp, fun k _ hk => setRow_other w g k _ (fun e => hk (by simp [e]))⟩
theorem toV_rl (w : World) (L : Nat → Prop) (ρ : Nat → Option Value) (xs : List Value) (h : xs.all (·.oneCell') = true) : RL w L ρ (xs.map toV) xs := by
  refine ⟨by simp, fun i u x hu hx => ?_⟩
  rw [List.getElem?_map, hx] at hu
  simp at hu
  subst hu
  exact ⟨R.toV _ _ _ _, by rw [List.all_eq_true] at h; exact h x (List.mem_of_getElem? hx)⟩
def splice (cs : List V) (o : Nat) (us : List V) : List V := cs.take o ++ us ++ cs.drop (o + us.length)
theorem splice_len {cs us : List V} {o : Nat} (h : o + us.length ≤ cs.length) : (splice cs o us).length = cs.length := by simp [splice]; omega
theorem splice_one (cs : List V) (o : Nat) (u : V) (h : o < cs.length) : splice cs o [u] = cs.set o u := by
  simp [splice, List.set_eq_take_append_cons_drop, h]
theorem RL.splice {w : World} {L : Nat → Prop} {ρ : Nat → Option Value} {cs us : List V} {xs ys : List Value} (h : RL w L ρ cs xs) (k : RL w L ρ us ys) (o : Nat) : RL w L ρ (splice cs o us) (xs.take o ++ ys ++ xs.drop (o + ys.length)) := by
  have h1 := h.sub 0 o
  have h2 := h.sub (o + us.length) (cs.length)
  rw [k.1] at h2
  simp only [List.drop_zero] at h1
  have e1 : ((cs.drop (o + ys.length)).take cs.length) = cs.drop (o + ys.length) := List.take_of_length_le (by simp)
  have e2 : ((xs.drop (o + ys.length)).take cs.length) = xs.drop (o + ys.length) := List.take_of_length_le (by simp [h.1])
  rw [e1, e2] at h2
  rw [Ab.splice, k.1]
  exact (h1.append k).append h2
theorem splice_flat {sz : Nat} : ∀ {rows : List (List V)} (_ : ∀ r ∈ rows, r.length = sz) {i o : Nat} {r us : List V} (_ : rows[i]? = some r) (_ : o + us.length ≤ sz), splice rows.flatten (i * sz + o) us = (rows.set i (splice r o us)).flatten
  | r :: rows, h, 0, o, r', us, hr, hj => by
    simp at hr; subst hr
    have hl := h r (by simp)
    simp only [splice, Nat.zero_mul, Nat.zero_add, List.flatten_cons, List.set_cons_zero, List.append_assoc]
    rw [List.take_append_of_le_length (by omega), List.drop_append_of_le_length (by omega)]
  | r :: rows, h, i + 1, o, r', us, hr, hj => by
    have hl := h r (by simp)
    have ih := splice_flat (rows := rows) (fun r hr => h r (by simp [hr])) (i := i) (o := o) (us := us) (by simpa using hr) hj
    simp only [splice] at ih ⊢
    simp only [List.flatten_cons, List.set_cons_succ]
    rw [← ih, List.take_append, List.drop_append, hl]
    rw [List.take_of_length_le (by rw [hl, Nat.add_mul]; omega), List.drop_eq_nil_of_le (by rw [hl, Nat.add_mul]; omega)]
    rw [show (i + 1) * sz + o - sz = i * sz + o by rw [Nat.add_mul]; omega, show (i + 1) * sz + o + us.length - sz = i * sz + o + us.length by rw [Nat.add_mul]; omega]
    simp

theorem slRows_set {n i : Nat} {row : Nat → List V} (r : List V) (hi : i < n) : slRows n (fun j => if j = i then r else row j) = (slRows n row).set i r := by
  apply List.ext_getElem?
  intro j
  rw [List.getElem?_set]
  by_cases hj : j < n
  · rw [slRows_get hj, slRows_get hj, slRows_len]
    by_cases hij : i = j
    · subst hij; simp [hi]
    · simp [hij, Ne.symm hij]
  · rw [List.getElem?_eq_none (by rw [slRows_len]; omega), List.getElem?_eq_none (by rw [slRows_len]; omega)]
    split
    · simp; omega
    · rfl
section
variable {P : Program} {d : Option Tmp} {ty : TypeId} {pos : String} {af : Array Edge} {gd : Option (Nat × Bool)} {ev : Operand → V} {W LB : Nat → Prop}

theorem run_storeVar' {t : Nat} {b o : Nat} {w : World} {x : Value} {cur : Array Value} {e : TypeId} (hs : tSize P t = some x.cells.size) (hh : w.heap[b]? = some (.cells cur e (0, 0))) (hfit : o + x.cells.size ≤ cur.size) (h1 : ∀ v ∈ x.cells.toList, v.oneCell' = true) :
    (storeVar t ⟨b, o, none⟩ x).run P w = .ok () (w.setRow b (cur.toList.take o ++ x.cells.toList ++ cur.toList.drop (o + x.cells.size)).toArray) := by
  have := run_storeCells_at P b o e x.cells.toList 0 cur w hh (by simpa using hfit) h1
  simp only [Nat.add_zero, Array.length_toList] at this
  simp only [storeVar]
  simp [run_sizeOf' hs, this]
theorem as_storeR (t : Nat) (x y : Operand) {id o t' : Nat} {cs us : List V} {vy : V} (hx : ev x = .ref id o) (hy : ev y = vy) (hc : cellsV vy = some us) (hs : tSize P t = some us.length) (hn : o + us.length ≤ cs.length) :
    AStep P W LB ⟨d, .store t x y, ty, pos, af, gd⟩ ev .any [(id, .box t' cs)] [] [(id, some (.box t' (splice cs o us)))] := by
  intro σ w L ρ g hG hr hpre _
  have h1 := hr x (by simp [Op.operands])
  have h2 := hr y (by simp [Op.operands])
  rw [hx] at h1
  rw [hy] at h2
  have hσ := hpre _ (List.Mem.head _)
  obtain ⟨b, xs, e1, hρ, hW, hL, hh, hl⟩ := box_of hG h1 hσ
  have hu := cellsV_rl h2 hc
  have hul : (g y).cells.size = us.length := by have := hu.1; simpa using this.symm
  have hxl : xs.size = cs.length := by have := hl.1; simpa using this.symm
  have hst := run_storeVar' (P := P) (t := t) (b := b) (o := o) (w := w) (x := g y) (cur := xs) (e := t') (by rw [hul]; exact hs) hh (by rw [hul, hxl]; exact hn) hu.one
  obtain ⟨hG', e⟩ := hG.put (σ1 := σ) (ρ' := ρ) (grown_setRow w b (xs.toList.take o ++ (g y).cells.toList ++ xs.toList.drop (o + (g y).cells.size)).toArray) (by rintro k hk; injection hk with hk; subst hk; exact ⟨hW, hL⟩) id _ (.box t' (splice cs o us))
    (fun i ob hi ho => ⟨ho, fun z hz k hk hkz => by
      injection hk with hk; subst hk
      exact hG.sep i id z _ b hi (by rw [ho]; simp) (by rw [hσ]; simp) hz hρ hkz rfl⟩) (fun _ _ => rfl) hρ (.inr hρ) (fun k hk => .inl (by simpa [blk] using hk)) (fun ex => ⟨b, _, hρ, hW, hL, setRow_heap w b xs _ t' (0, 0) hh, by
        have := (hl.ext ex).splice (hu.ext ex) o
        simpa using this⟩)
  refine OpDoes.skip rfl (w' := w.setRow b (xs.toList.take o ++ (g y).cells.toList ++ xs.toList.drop (o + (g y).cells.size)).toArray) ?_ ⟨L, ρ, hG', .any _ _, tch_grown (grown_setRow w b _) (by rintro k hk; injection hk with hk; subst hk; exact ⟨hW, hL⟩), e, fun _ _ => rfl, DefK.grown (grown_setRow w b _) (by rintro k hk; injection hk with hk; subst hk; exact ⟨_, _, _, hh⟩)⟩
  simp only [execOp, Instr.storeAt]
  simp [e1, Instr.sureAddr, hst]
theorem as_storeO (t : Nat) (x y : Operand) {id sz i o e n : Nat} {row : Nat → List V} {us : List V} {vy : V} (hx : ev x = .oel id sz i o) (hy : ev y = vy) (hc : cellsV vy = some us) (hs : tSize P t = some us.length) (hi : i < n) (hn0 : o + us.length ≤ (row i).length) :
    AStep P W LB ⟨d, .store t x y, ty, pos, af, gd⟩ ev .any [(id, .row e sz n row)] [] [(id, some (.row e sz n fun j => if j = i then splice (row i) o us else row j))] := by
  intro σ w L ρ g hG hr hpre _
  have h1 := hr x (by simp [Op.operands])
  have h2 := hr y (by simp [Op.operands])
  rw [hx] at h1
  rw [hy] at h2
  have hσ := hpre _ (List.Mem.head _)
  obtain ⟨b, m, c, e1, hρ⟩ := h1.oel_inv
  obtain ⟨xs, cur, rfl, hW, hL, hh, hnc, hcm, hcs, htk, hsz, hl⟩ := row_of hG hρ hσ
  have hu := cellsV_rl h2 hc
  have hul : (g y).cells.size = us.length := by have := hu.1; simpa using this.symm
  have hrl := hsz i hi
  have hn : o + us.length ≤ sz := by rw [← hrl]; exact hn0
  have hfit : i * sz + o + us.length ≤ m * sz := by
    have : i * sz + sz ≤ m * sz := by rw [← Nat.succ_mul]; exact Nat.mul_le_mul_right _ hi
    omega
  have hcap : m * sz ≤ c * sz := Nat.mul_le_mul_right _ hnc
  have hst := run_storeVar' (P := P) (t := t) (b := b) (o := i * sz + o) (w := w) (x := g y) (cur := cur) (e := e) (by rw [hul]; exact hs) hh (by rw [hul, hcs]; omega) hu.one
  generalize hnew : (cur.toList.take (i * sz + o) ++ (g y).cells.toList ++ cur.toList.drop (i * sz + o + (g y).cells.size)).toArray = new at hst
  have hnl : new.size = cur.size := by rw [← hnew]; simp; omega
  obtain ⟨hG', ex⟩ := hG.put (σ1 := σ) (ρ' := ρ) (grown_setRow w b new) (by rintro k hk; injection hk with hk; subst hk; exact ⟨hW, hL⟩) id _ (.row e sz m fun j => if j = i then splice (row i) o us else row j)
    (fun j ob hj ho => ⟨ho, fun z hz k hk hkz => by
      injection hk with hk; subst hk
      exact hG.sep j id z _ b hj (by rw [ho]; simp) (by rw [hσ]; simp) hz hρ hkz rfl⟩) (fun _ _ => rfl) hρ (.inr hρ) (fun k hk => .inl (by simpa [blk] using hk)) (fun ex => by
        refine ⟨_, xs.take (i * sz + o) ++ (g y).cells.toList ++ xs.drop (i * sz + o + (g y).cells.toList.length), hρ, ?_, ?_, ?_, fun k hk => by simp [blk] at hk; subst hk; exact ⟨hW, hL⟩⟩
        · have hxl : xs.length = m * sz := by rw [← htk]; simp; omega
          refine ⟨by simp; omega, .inr ⟨b, c, new, by simp, Nat.zero_le _, setRow_heap w b cur _ e (0, 0) hh, by simpa using hnc, hcm, by rw [hnl]; exact hcs, ?_⟩⟩
          rw [← hnew, ← htk]
          simp only [List.append_assoc, Array.length_toList]
          rw [List.take_append, List.take_append, List.take_take, List.take_take, List.drop_take]
          congr 1
          · congr 1; omega
          · congr 1
            · exact List.take_of_length_le (by simp; omega)
            · congr 1; simp; omega
        · intro j hj
          by_cases hji : j = i
          · simp only [hji, if_true]; rw [splice_len (by omega)]; exact hrl
          · simp only [hji, if_false]; exact hsz j hj
        · rw [slRows_set _ hi, ← splice_flat (slRows_sz hsz) (slRows_get hi) hn]
          have := (hl.ext ex).splice (hu.ext ex) (i * sz + o)
          simpa using this)
  refine OpDoes.skip rfl (w' := w.setRow b new) ?_ ⟨L, ρ, hG', .any _ _, tch_grown (grown_setRow w b _) (by rintro k hk; injection hk with hk; subst hk; exact ⟨hW, hL⟩), ex, fun _ _ => rfl, DefK.grown (grown_setRow w b _) (by rintro k hk; injection hk with hk; subst hk; exact ⟨_, _, _, hh⟩)⟩
  simp only [execOp, Instr.storeAt]
  simp [e1, Instr.sureAddr, hst]

theorem tZero_some {t : Nat} {zs : List V} (h : tZero P t = some zs) : ∃ i z, P.info? t = some i ∧ i.zero = some z ∧ z.cells.toList.all (·.oneCell') = true ∧ zs = z.cells.toList.map toV := by
  unfold tZero at h
  split at h
  · rename_i i hi
    split at h
    · rename_i z hz
      split at h
      · injection h with h; exact ⟨i, z, hi, hz, by assumption, h.symm⟩
      · cases h
    · cases h
  · cases h
theorem as_alloc (t : Nat) {zs : List V} (hz : tZero P t = some zs) (id : Nat) : AStep P W LB ⟨d, .alloc t, ty, pos, af, gd⟩ ev (.ref id 0) [] [id] [(id, some (.box t zs))] := by
  intro σ w L ρ g hG hr hpre hn
  obtain ⟨i, z, hi, hz', h1, rfl⟩ := tZero_some hz
  obtain ⟨hG', e⟩ := hG.newBox (hn id (by simp)) t (toV_rl w L ρ z.cells.toList h1)
  refine OpDoes.value rfl (v := .pointer (some ⟨w.heap.size, 0, none⟩)) (w' := w.alloc (.cells z.cells t)) ?_ ⟨L, _, hG', .ref _ _ _ _ (upd_same _ _ _), tch_grown (L := L) (World.grownBy_alloc w _ none) (by simp), e, fun i hi => upd_ne _ _ (by simpa using hi), DefK.grown (World.grownBy_alloc w _ none) (by simp)⟩
  simp only [execOp, Instr.alloc]
  simp [zeroValue, typeInfo, hi, hz', newVar, newRow]
theorem as_box (t : Nat) (y : Operand) {us : List V} {vy : V} (hy : ev y = vy) (hc : cellsV vy = some us) (id : Nat) : AStep P W LB ⟨d, .box t y, ty, pos, af, gd⟩ ev (.ref id 0) [] [id] [(id, some (.box t us))] := by
  intro σ w L ρ g hG hr hpre hn
  have h2 := hr y (by simp [Op.operands])
  rw [hy] at h2
  obtain ⟨hG', e⟩ := hG.newBox (hn id (by simp)) t (cellsV_rl h2 hc)
  refine OpDoes.value rfl (v := .pointer (some ⟨w.heap.size, 0, none⟩)) (w' := w.alloc (.cells (g y).cells t)) ?_ ⟨L, _, hG', .ref _ _ _ _ (upd_same _ _ _), tch_grown (L := L) (World.grownBy_alloc w _ none) (by simp), e, fun i hi => upd_ne _ _ (by simpa using hi), DefK.grown (World.grownBy_alloc w _ none) (by simp)⟩
  simp [execOp, Instr.box, newVar, newRow]
/-- A new block that is never written again. -/
theorem freeze_new {w : World} {L : Nat → Prop} {ρ : Nat → Option Value} {us : List V} {xs : Array Value} (t : TypeId) (hlt : ∀ b, L b → b < w.heap.size) (hl : RL w L ρ us xs.toList) (hi : V.idfL us = true) :
    ∀ (j : Nat) u, us[j]? = some u → ∃ y, (w.alloc (.cells xs t)).cell? ⟨w.heap.size, 0 + j, none⟩ = some y ∧ y.oneCell' = true ∧ R (w.alloc (.cells xs t)) (fun b => L b ∨ b = w.heap.size) ρ0 u y := by
  intro j u hu
  obtain ⟨y, hy, hr, h1⟩ := (hl.free (ρ' := ρ0) hi).get hu
  refine ⟨y, ?_, h1, hr.mono (fun b hb => ⟨.inl hb, heap_alloc_old w _ b (hlt b hb)⟩) fun _ _ h => h⟩
  rw [cell_of_row _ w.heap.size (0 + j) xs t (0, 0) (heap_alloc_new w _), Nat.zero_add]
  simpa using hy
theorem ap_box (t : Nat) (y : Operand) {us : List V} {vy : V} (hy : ev y = vy) (hc : cellsV vy = some us) (hi : V.idfL us = true) : APure P ⟨d, .box t y, ty, pos, af, gd⟩ ev (.ptr us) := by
  intro w L ρ g hr hlt
  have h2 := hr y (by simp [Op.operands])
  rw [hy] at h2
  have hf := freeze_new t hlt (cellsV_rl h2 hc) hi
  refine OpDoes.value rfl (v := .pointer (some ⟨w.heap.size, 0, none⟩)) (w' := w.alloc (.cells (g y).cells t)) ?_ ⟨below_new _ _, fun b => L b ∨ b = w.heap.size, fun _ h => .inl h, fun b h => h.imp id fun e => by subst e; simp, .ptr' (.inr rfl) hf⟩
  simp [execOp, Instr.box, newVar, newRow]
end
end Go.Ab
