/-
  Steps on memory, for values without addresses. No condition but those that the step names.
-/
import Derived.Test.YtlfaaddoemcokaaAbs3
namespace Go.Ab
open Go.RowKit Go.Dw

section
variable {P : Program} {d : Option Tmp} {ty : TypeId} {pos : String} {af : Array Edge} {gd : Option (Nat × Bool)} {ev : Operand → V} {W LB : Nat → Prop}

theorem tFld_some {s f off : Nat} (h : tFld P s f = some off) : ∃ fs fd i, P.underlying s = some (.struct fs) ∧ fs[f]? = some fd ∧ P.info? fd.type = some i ∧ i.size ≠ 0 ∧ fd.offset = off := by
  unfold tFld at h
  split at h
  · rename_i fs hfs
    split at h
    · rename_i fd hfd
      split at h
      · rename_i i hi
        split at h
        · cases h
        · injection h with h; exact ⟨fs, fd, i, hfs, hfd, hi, by assumption, h⟩
      · cases h
    · cases h
  · cases h
theorem run_fieldAt {s f off : Nat} (h : tFld P s f = some off) (b o : Nat) (w : World) : (Instr.fieldAt s (.pointer (some ⟨b, o, none⟩)) f).run P w = .ok (.pointer (some ⟨b, o + off, none⟩)) w := by
  obtain ⟨fs, fd, i, h1, h2, h3, h4, rfl⟩ := tFld_some h
  simp [Instr.fieldAt, run_underlying' h1, h2, Instr.sureAddr, fieldPlace, sizeOf, typeInfo, h3, h4, Addr.add_lit]
theorem ap_fieldP (s f : Nat) (x : Operand) {cs : List V} {off : Nat} (hf : tFld P s f = some off) (hx : ev x = .ptr cs) : APure P ⟨d, .fieldAddr s x f, ty, pos, af, gd⟩ ev (.ptr (cs.drop off)) :=
  APure.same rfl fun w L ρ g hr => by
    have h1 := hr x (by simp [Op.operands])
    rw [hx] at h1
    obtain ⟨b, o, e, hb, hc⟩ := h1.ptr_inv
    refine ⟨.pointer (some ⟨b, o + off, none⟩), by simp [execOp, e, run_fieldAt hf], .ptr' hb fun j u hu => ?_⟩
    have := hc (off + j) u (by simpa using hu)
    rwa [show o + off + j = o + (off + j) by omega]
theorem ap_fieldR (s f : Nat) (x : Operand) {id o off : Nat} (hf : tFld P s f = some off) (hx : ev x = .ref id o) : APure P ⟨d, .fieldAddr s x f, ty, pos, af, gd⟩ ev (.ref id (o + off)) :=
  APure.same rfl fun w L ρ g hr => by
    have h1 := hr x (by simp [Op.operands])
    rw [hx] at h1
    generalize g x = gx at h1
    have e : ∃ b, gx = .pointer (some ⟨b, o, none⟩) ∧ ρ id = some (.pointer (some ⟨b, 0, none⟩)) := by cases h1 with | ref _ _ _ b h => exact ⟨b, rfl, h⟩
    obtain ⟨b, rfl, hρ⟩ := e
    have e2 : g x = .pointer (some ⟨b, o, none⟩) := by
      have h2 := hr x (by simp [Op.operands])
      rw [hx] at h2
      generalize g x = gx at h2
      cases h2 with | ref _ _ _ b' h => rw [hρ] at h; injection h with h; injection h with h; injection h with h; injection h with h; subst h; rfl
    exact ⟨.pointer (some ⟨b, o + off, none⟩), by simp [execOp, e2, run_fieldAt hf], .ref _ _ _ _ hρ⟩
theorem R.ref_inv {w : World} {L : Nat → Prop} {ρ : Nat → Option Value} {id o : Nat} {x : Value} (h : R w L ρ (.ref id o) x) : ∃ b, x = .pointer (some ⟨b, o, none⟩) ∧ ρ id = some (.pointer (some ⟨b, 0, none⟩)) := by
  cases h with | ref _ _ _ b h => exact ⟨b, rfl, h⟩
theorem R.own_inv {w : World} {L : Nat → Prop} {ρ : Nat → Option Value} {id : Nat} {x : Value} (h : R w L ρ (.own id) x) : ρ id = some x := by
  cases h with | own _ _ _ h => exact h
theorem R.oel_inv {w : World} {L : Nat → Prop} {ρ : Nat → Option Value} {id sz i o : Nat} {x : Value} (h : R w L ρ (.oel id sz i o) x) : ∃ b n c, x = .pointer (some ⟨b, i * sz + o, none⟩) ∧ ρ id = some (.slice (some ⟨b, 0, none⟩) n c) := by
  cases h with | oel _ _ _ _ _ b n c h => exact ⟨b, n, c, rfl, h⟩
theorem ap_fieldO (s f : Nat) (x : Operand) {id sz i o off : Nat} (hf : tFld P s f = some off) (hx : ev x = .oel id sz i o) : APure P ⟨d, .fieldAddr s x f, ty, pos, af, gd⟩ ev (.oel id sz i (o + off)) :=
  APure.same rfl fun w L ρ g hr => by
    have h1 := hr x (by simp [Op.operands])
    rw [hx] at h1
    obtain ⟨b, n, c, e, hρ⟩ := h1.oel_inv
    refine ⟨.pointer (some ⟨b, i * sz + (o + off), none⟩), by simp [execOp, e, run_fieldAt hf, Nat.add_assoc], .oel _ _ _ _ _ _ n c hρ⟩

theorem tElem_some {t e : Nat} (h : tElem P t = some e) : P.underlying t = some (.slice e) := by
  unfold tElem at h
  split at h
  · injection h with h; subst h; assumption
  · cases h
theorem tArr_some {t n e : Nat} (h : tArr P t = some (n, e)) : P.underlying t = some (.array n e) := by
  unfold tArr at h
  split at h
  · injection h with h; injection h with h1 h2; subst h1 h2; assumption
  · cases h
theorem run_sizeOf' {e sz : Nat} (h : tSize P e = some sz) (w : World) : (sizeOf e).run P w = .ok sz w := by
  unfold tSize at h
  cases hi : P.info? e with
  | none => rw [hi] at h; cases h
  | some i => rw [hi] at h; injection h with h; simp [sizeOf, typeInfo, hi, h]
theorem ap_indexS (t : Nat) (x ix : Operand) {sz n e : Nat} {row : Nat → List V} {k : IntKind} {i : Int} (he : tElem P t = some e) (hs : tSize P e = some sz) (hx : ev x = .sl sz n row) (hi : ev ix = .c (.int k i))
    (hc : 0 ≤ i ∧ i < n) : APure P ⟨d, .indexAddr t x ix, ty, pos, af, gd⟩ ev (.ptr (row i.toNat)) :=
  APure.same rfl fun w L ρ g hr => by
    have h1 := hr x (by simp [Op.operands])
    have h2 := hr ix (by simp [Op.operands])
    rw [hx] at h1
    rw [hi] at h2
    have e2 := h2.c_inv
    obtain ⟨A, c, e1, hA⟩ := h1.sl_inv
    obtain ⟨b, o, rfl, hb, hlen, hcell⟩ := hA (by omega)
    refine ⟨.pointer (some ⟨b, o + i.toNat * sz, none⟩), ?_, .ptr' hb fun j u hu => hcell i.toNat j u (by omega) hu⟩
    simp [execOp, e1, e2, Instr.indexAt, asIntOf, run_underlying' (tElem_some he), hc.1, hc.2, run_sizeOf' hs, Addr.add_lit]
theorem ap_indexA (t : Nat) (x ix : Operand) {sz n e : Nat} {cs : List V} {k : IntKind} {i : Int} (he : tArr P t = some (n, e)) (hs : tSize P e = some sz) (hx : ev x = .ptr cs) (hi : ev ix = .c (.int k i))
    (hc : 0 ≤ i ∧ i < n) : APure P ⟨d, .indexAddr t x ix, ty, pos, af, gd⟩ ev (.ptr (cs.drop (i.toNat * sz))) :=
  APure.same rfl fun w L ρ g hr => by
    have h1 := hr x (by simp [Op.operands])
    have h2 := hr ix (by simp [Op.operands])
    rw [hx] at h1
    rw [hi] at h2
    have e2 := h2.c_inv
    obtain ⟨b, o, e1, hb, hcell⟩ := h1.ptr_inv
    refine ⟨.pointer (some ⟨b, o + i.toNat * sz, none⟩), ?_, .ptr' hb fun j u hu => ?_⟩
    · simp [execOp, e1, e2, Instr.indexAt, Instr.sureAddr, asIntOf, run_underlying' (tArr_some he), hc.1, hc.2, run_sizeOf' hs, Addr.add_lit]
    · have := hcell (i.toNat * sz + j) u (by simpa using hu)
      rwa [show o + i.toNat * sz + j = o + (i.toNat * sz + j) by omega]
theorem ap_indexAR (t : Nat) (x ix : Operand) {sz n e id o : Nat} {k : IntKind} {i : Int} (he : tArr P t = some (n, e)) (hs : tSize P e = some sz) (hx : ev x = .ref id o) (hi : ev ix = .c (.int k i))
    (hc : 0 ≤ i ∧ i < n) : APure P ⟨d, .indexAddr t x ix, ty, pos, af, gd⟩ ev (.ref id (o + i.toNat * sz)) :=
  APure.same rfl fun w L ρ g hr => by
    have h1 := hr x (by simp [Op.operands])
    have h2 := hr ix (by simp [Op.operands])
    rw [hx] at h1
    rw [hi] at h2
    have e2 := h2.c_inv
    obtain ⟨b, e1, hρ⟩ := h1.ref_inv
    refine ⟨.pointer (some ⟨b, o + i.toNat * sz, none⟩), ?_, .ref _ _ _ _ hρ⟩
    simp [execOp, e1, e2, Instr.indexAt, Instr.sureAddr, asIntOf, run_underlying' (tArr_some he), hc.1, hc.2, run_sizeOf' hs, Addr.add_lit]
theorem as_indexO (t : Nat) (x ix : Operand) {sz e e' id n : Nat} {row : Nat → List V} {k : IntKind} {i : Int} (he : tElem P t = some e) (hs : tSize P e = some sz) (hx : ev x = .own id) (hi : ev ix = .c (.int k i))
    (hc : 0 ≤ i ∧ i < n) : AStep P W LB ⟨d, .indexAddr t x ix, ty, pos, af, gd⟩ ev (.oel id sz i.toNat 0) [(id, .row e' sz n row)] [] [] := by
  intro σ w L ρ g hG hr hpre _
  have h1 := hr x (by simp [Op.operands])
  have h2 := hr ix (by simp [Op.operands])
  rw [hx] at h1
  rw [hi] at h2
  have e2 := h2.c_inv
  have hρ := h1.own_inv
  obtain ⟨v, xs, hv, hown, _⟩ := hG.ob id _ (hpre _ (List.Mem.head _))
  rw [hρ] at hv; injection hv with hv
  rcases hown.2 with ⟨_, h0⟩ | ⟨g', cap, cur, hv2, _⟩
  · omega
  rw [hv2] at hv
  have e1 : g x = .slice (some ⟨g', 0, none⟩) n cap := hv
  refine OpDoes.value rfl (v := .pointer (some ⟨g', i.toNat * sz, none⟩)) (w' := w) ?_ ⟨L, ρ, hG, ?_, Tch.refl _ _, Ext.refl _ _ _, fun _ _ => rfl, DefK.refl _ _⟩
  · simp [execOp, e1, e2, Instr.indexAt, asIntOf, run_underlying' (tElem_some he), hc.1, hc.2, run_sizeOf' hs, Addr.add_lit]
  · exact .oel _ _ _ _ _ _ n cap (by rw [hρ, e1])

/-! loads -/
theorem tAgg_some {t : Nat} {b : Bool} (h : tAgg P t = some b) (w : World) : (isAgg t).run P w = .ok b w := by
  unfold tAgg at h
  cases hu : P.underlying t with
  | none => rw [hu] at h; cases h
  | some u =>
    rw [hu] at h
    injection h with h
    subst h
    cases u <;> simp [isAgg, run_underlying' hu]
theorem run_loadVar1 {t : Nat} (h : tAgg P t = some false) {b o : Nat} {w : World} {y : Value} (hc : w.cell? ⟨b, o, none⟩ = some y) : (loadVar t ⟨b, o, none⟩).run P w = .ok y w := by
  simp [loadVar, tAgg_some h, hc]
theorem run_loadVarN {t n : Nat} (h : tAgg P t = some true) (hs : tSize P t = some n) {b o : Nat} {w : World} {xs : List Value} (hl : xs.length = n) (hc : ∀ (j : Nat) y, xs[j]? = some y → w.cell? ⟨b, o + j, none⟩ = some y) :
    (loadVar t ⟨b, o, none⟩).run P w = .ok (.agg xs.toArray) w := by
  have hl' := run_loadCells_list (P := P) w ⟨b, o, none⟩ xs fun j y hy => by rw [Addr.add_lit]; exact hc j y hy
  rw [hl] at hl'
  simp [loadVar, tAgg_some h, run_sizeOf' hs, hl']
theorem ap_load1 (t : Nat) (x : Operand) {cs : List V} {v : V} (h : tAgg P t = some false) (hx : ev x = .ptr cs) (hv : cs[0]? = some v) : APure P ⟨d, .load t x, ty, pos, af, gd⟩ ev v :=
  APure.same rfl fun w L ρ g hr => by
    have h1 := hr x (by simp [Op.operands])
    rw [hx] at h1
    obtain ⟨b, o, e1, hb, hcell⟩ := h1.ptr_inv
    obtain ⟨y, hy, _, hr0⟩ := hcell 0 v hv
    rw [Nat.add_zero] at hy
    refine ⟨y, ?_, hr0.of0⟩
    simp [execOp, e1, Instr.loadAt, Instr.sureAddr, run_loadVar1 h hy]
theorem ap_loadN (t : Nat) (x : Operand) {cs : List V} {n : Nat} (h : tAgg P t = some true) (hs : tSize P t = some n) (hx : ev x = .ptr cs) (hn : n ≤ cs.length) : APure P ⟨d, .load t x, ty, pos, af, gd⟩ ev (.agg (cs.take n)) :=
  APure.same rfl fun w L ρ g hr => by
    have h1 := hr x (by simp [Op.operands])
    rw [hx] at h1
    obtain ⟨b, o, e1, hb, hcell⟩ := h1.ptr_inv
    obtain ⟨xs, hl, hc⟩ := cells_list (ρ := ρ0) (cs.take n) fun j u hu => hcell j u (by
      rw [List.getElem?_take] at hu
      split at hu
      · exact hu
      · cases hu)
    refine ⟨.agg xs.toArray, ?_, .agg' (hl.mono (fun _ h => ⟨h, rfl⟩) fun _ _ h => by cases h)⟩
    simp [execOp, e1, Instr.loadAt, Instr.sureAddr, run_loadVarN h hs (by rw [← hl.1]; simp; omega) hc]
theorem box_of {σ : Nat → Option Ob} {w : World} {L : Nat → Prop} {ρ : Nat → Option Value} {id o : Nat} {t : TypeId} {cs : List V} {x : Value} (hG : G W LB σ w L ρ) (h1 : R w L ρ (.ref id o) x) (hσ : σ id = some (.box t cs)) :
    ∃ b xs, x = .pointer (some ⟨b, o, none⟩) ∧ ρ id = some (.pointer (some ⟨b, 0, none⟩)) ∧ W b ∧ ¬ L b ∧ w.heap[b]? = some (.cells xs t (0, 0)) ∧ RL w L ρ cs xs.toList := by
  obtain ⟨b, e1, hρ⟩ := h1.ref_inv
  obtain ⟨b', xs, hv, r⟩ := hG.ob id _ hσ
  rw [hρ] at hv; injection hv with hv; injection hv with hv; injection hv with hv; injection hv with hv
  subst hv
  exact ⟨b, xs, e1, hρ, r⟩
theorem as_loadR1 (t : Nat) (x : Operand) {id o t' : Nat} {cs : List V} {v : V} (h : tAgg P t = some false) (hx : ev x = .ref id o) (hv : cs[o]? = some v) :
    AStep P W LB ⟨d, .load t x, ty, pos, af, gd⟩ ev v [(id, .box t' cs)] [] [] := by
  intro σ w L ρ g hG hr hpre _
  have h1 := hr x (by simp [Op.operands])
  rw [hx] at h1
  obtain ⟨b, xs, e1, hρ, hW, hL, hh, hl⟩ := box_of hG h1 (hpre _ (List.Mem.head _))
  obtain ⟨y, hy, hry, _⟩ := hl.get hv
  have hcell : w.cell? ⟨b, o, none⟩ = some y := by rw [cell_of_row w b o xs t' (0, 0) hh]; simpa using hy
  refine OpDoes.value rfl (v := y) (w' := w) ?_ ⟨L, ρ, hG, hry, Tch.refl _ _, Ext.refl _ _ _, fun _ _ => rfl, DefK.refl _ _⟩
  simp [execOp, e1, Instr.loadAt, Instr.sureAddr, run_loadVar1 h hcell]
theorem as_loadRN (t : Nat) (x : Operand) {id o t' n : Nat} {cs : List V} (h : tAgg P t = some true) (hs : tSize P t = some n) (hx : ev x = .ref id o) (hn : o + n ≤ cs.length) :
    AStep P W LB ⟨d, .load t x, ty, pos, af, gd⟩ ev (.agg ((cs.drop o).take n)) [(id, .box t' cs)] [] [] := by
  intro σ w L ρ g hG hr hpre _
  have h1 := hr x (by simp [Op.operands])
  rw [hx] at h1
  obtain ⟨b, xs, e1, hρ, hW, hL, hh, hl⟩ := box_of hG h1 (hpre _ (List.Mem.head _))
  refine OpDoes.value rfl (v := .agg ((xs.toList.drop o).take n).toArray) (w' := w) ?_ ⟨L, ρ, hG, .agg' (hl.sub o n), Tch.refl _ _, Ext.refl _ _ _, fun _ _ => rfl, DefK.refl _ _⟩
  have := run_loadVarN (P := P) h hs (b := b) (o := o) (w := w) (xs := (xs.toList.drop o).take n) (by have := hl.1; simp at this ⊢; omega) fun j y hy => by
    rw [cell_of_row w b (o + j) xs t' (0, 0) hh]
    rw [List.getElem?_take] at hy
    split at hy
    · simpa using hy
    · cases hy
  simp [execOp, e1, Instr.loadAt, Instr.sureAddr, this]
theorem flat_get {sz : Nat} : ∀ {rows : List (List V)} (_ : ∀ r ∈ rows, r.length = sz) {i j : Nat} {r : List V} (_ : rows[i]? = some r) (_ : j < sz), rows.flatten[i * sz + j]? = r[j]?
  | r :: rows, h, 0, j, r', hr, hj => by
    simp at hr; subst hr
    rw [Nat.zero_mul, Nat.zero_add, List.flatten_cons, List.getElem?_append_left (by rw [h r (by simp)]; exact hj)]
  | r :: rows, h, i + 1, j, r', hr, hj => by
    rw [List.flatten_cons, List.getElem?_append_right (by rw [h r (by simp), Nat.add_mul]; omega), h r (by simp), show (i + 1) * sz + j - sz = i * sz + j by rw [Nat.add_mul]; omega]
    exact flat_get (fun r hr => h r (by simp [hr])) (by simpa using hr) hj
theorem row_of {σ : Nat → Option Ob} {w : World} {L : Nat → Prop} {ρ : Nat → Option Value} {id : Nat} {e sz m : Nat} {row : Nat → List V} {b n c : Nat} (hG : G W LB σ w L ρ) (hρ : ρ id = some (.slice (some ⟨b, 0, none⟩) n c)) (hσ : σ id = some (.row e sz m row)) :
    ∃ xs cur, n = m ∧ W b ∧ ¬ L b ∧ w.heap[b]? = some (.cells cur e (0, 0)) ∧ n ≤ c ∧ c ≤ maxLen ∧ cur.size = c * sz ∧ cur.toList.take (n * sz) = xs ∧ (∀ i, i < m → (row i).length = sz) ∧ RL w L ρ (slRows m row).flatten xs := by
  obtain ⟨v, xs, hv, hown, hsz, hl, hb⟩ := hG.ob id _ hσ
  rw [hρ] at hv; injection hv with hv; subst hv
  rcases hown.2 with ⟨hn, _⟩ | ⟨g', cap, cur, hv2, _, h1, h2, h3, h4, h5⟩
  · cases hn
  injection hv2 with a1 a2 a3
  injection a1 with a1; injection a1 with a1
  subst a1 a2 a3
  exact ⟨xs, cur, rfl, (hb _ rfl).1, (hb _ rfl).2, h1, h2, h3, h4, h5, hsz, hl⟩
theorem as_loadO1 (t : Nat) (x : Operand) {id sz i o e n : Nat} {row : Nat → List V} {v : V} (h : tAgg P t = some false) (hx : ev x = .oel id sz i o) (hi : i < n) (hv : (row i)[o]? = some v) :
    AStep P W LB ⟨d, .load t x, ty, pos, af, gd⟩ ev v [(id, .row e sz n row)] [] [] := by
  intro σ w L ρ g hG hr hpre _
  have h1 := hr x (by simp [Op.operands])
  rw [hx] at h1
  obtain ⟨b, m, c, e1, hρ⟩ := h1.oel_inv
  obtain ⟨xs, cur, rfl, hW, hL, hh, hnc, _, hcs, htk, hsz, hl⟩ := row_of hG hρ (hpre _ (List.Mem.head _))
  have ho : o < sz := by rw [← hsz i hi]; exact (List.getElem?_eq_some_iff.1 hv).1
  have hv' : (slRows m row).flatten[i * sz + o]? = some v := by rw [flat_get (slRows_sz hsz) (slRows_get hi) ho, hv]
  obtain ⟨y, hy, hry, _⟩ := hl.get hv'
  have hcell : w.cell? ⟨b, i * sz + o, none⟩ = some y := by
    rw [cell_of_row w b _ cur e (0, 0) hh]
    rw [← htk, List.getElem?_take] at hy
    split at hy
    · simpa using hy
    · cases hy
  refine OpDoes.value rfl (v := y) (w' := w) ?_ ⟨L, ρ, hG, hry, Tch.refl _ _, Ext.refl _ _ _, fun _ _ => rfl, DefK.refl _ _⟩
  simp [execOp, e1, Instr.loadAt, Instr.sureAddr, run_loadVar1 h hcell]
theorem as_loadON (t : Nat) (x : Operand) {id sz i o e n N : Nat} {row : Nat → List V} (h : tAgg P t = some true) (hs : tSize P t = some n) (hx : ev x = .oel id sz i o) (hi : i < N) (ho : o + n ≤ (row i).length) :
    AStep P W LB ⟨d, .load t x, ty, pos, af, gd⟩ ev (.agg (((row i).drop o).take n)) [(id, .row e sz N row)] [] [] := by
  intro σ w L ρ g hG hr hpre _
  have h1 := hr x (by simp [Op.operands])
  rw [hx] at h1
  obtain ⟨b, m, c, e1, hρ⟩ := h1.oel_inv
  obtain ⟨xs, cur, rfl, hW, hL, hh, hnc, _, hcs, htk, hsz, hl⟩ := row_of hG hρ (hpre _ (List.Mem.head _))
  have hrl := hsz i hi
  obtain ⟨ys, hyl, hyc⟩ := cells_list (w := w) (L := L) (ρ := ρ) (b := b) (o := i * sz + o) (((row i).drop o).take n) fun j u hu => by
    rw [List.getElem?_take] at hu
    split at hu
    · rename_i hj
      rw [List.getElem?_drop] at hu
      have hv' : (slRows m row).flatten[i * sz + (o + j)]? = some u := by rw [flat_get (slRows_sz hsz) (slRows_get hi) (by omega), hu]
      obtain ⟨y, hy, hry, h1y⟩ := hl.get hv'
      refine ⟨y, ?_, h1y, hry⟩
      rw [cell_of_row w b _ cur e (0, 0) hh, Nat.add_assoc]
      rw [← htk, List.getElem?_take] at hy
      split at hy
      · simpa using hy
      · cases hy
    · cases hu
  refine OpDoes.value rfl (v := .agg ys.toArray) (w' := w) ?_ ⟨L, ρ, hG, .agg' (by simpa using hyl), Tch.refl _ _, Ext.refl _ _ _, fun _ _ => rfl, DefK.refl _ _⟩
  simp [execOp, e1, Instr.loadAt, Instr.sureAddr, run_loadVarN h hs (by rw [← hyl.1]; simp; omega) hyc]
end
end Go.Ab
