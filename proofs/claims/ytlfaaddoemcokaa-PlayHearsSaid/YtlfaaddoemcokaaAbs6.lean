/-
  Steps that build values, for values without addresses. No condition but those that the step names.
-/
import Derived.Test.YtlfaaddoemcokaaAbs5
import Derived.Great.BuildSlice
namespace Go.Ab
open Go.RowKit Go.Dw

def fillV (place : Nat → Option (Nat × Nat)) : List V → List (Nat × V) → Option (List V)
  | cs, [] => some cs
  | cs, (i, v) :: rest =>
    match place i with
    | some (off, size) =>
      match cellsV v with
      | some us => if us.length = size ∧ off + us.length ≤ cs.length then fillV place (splice cs off us) rest else none
      | none => none
    | none => none
theorem foldl_set (ys : List Value) : ∀ (cs : Array Value) (off k : Nat), off + k + ys.length ≤ cs.size →
    ((ys.zipIdx k).foldl (fun (cs : Array Value) (p : Value × Nat) => cs.setIfInBounds (off + p.2) p.1) cs).toList = cs.toList.take (off + k) ++ ys ++ cs.toList.drop (off + k + ys.length) := by
  induction ys with
  | nil => intro cs off k _; simp
  | cons y ys ih =>
    intro cs off k h
    simp only [List.length_cons] at h
    rw [List.zipIdx_cons, List.foldl_cons, ih _ _ _ (by simp; omega)]
    simp only [Array.toList_setIfInBounds, List.length_cons, List.append_assoc, List.cons_append]
    rw [show off + (k + 1) = off + k + 1 by omega, List.take_set, List.drop_set]
    rw [if_pos (by omega)]
    have hlt : off + k < cs.toList.length := by simp; omega
    rw [show off + k + 1 + ys.length = off + k + (ys.length + 1) by omega]
    rw [List.take_succ_eq_append_getElem hlt, List.set_append_right _ _ (by simp only [List.length_take]; omega)]
    have hz : off + k - min (off + k) cs.size = 0 := by omega
    simp [hz]
theorem fill_rl {w : World} {L : Nat → Prop} {ρ : Nat → Option Value} {place : Nat → Option (Nat × Nat)} : ∀ (ps : List (Nat × V)) (qs : List (Nat × Value)) (cs : List V) (xs : Array Value) (us : List V), RL w L ρ cs xs.toList →
    ps.map (·.1) = qs.map (·.1) → RV w L ρ (ps.map (·.2)) (qs.map (·.2)) → fillV place cs ps = some us → ∃ ys, Instr.fill place xs qs = some ys ∧ RL w L ρ us ys.toList
  | [], [], cs, xs, us, h, _, _, hf => by simp [fillV] at hf; subst hf; exact ⟨xs, rfl, h⟩
  | [], _ :: _, cs, xs, us, h, e, _, hf => by simp at e
  | _ :: _, [], cs, xs, us, h, e, _, hf => by simp at e
  | (i, v) :: ps, (i', x) :: qs, cs, xs, us, h, e, hv, hf => by
    simp only [List.map_cons, List.cons.injEq] at e
    obtain ⟨rfl, e⟩ := e
    have hx : R w L ρ v x := hv.2 0 v x rfl rfl
    have hv' : RV w L ρ (ps.map (·.2)) (qs.map (·.2)) := ⟨by simpa using hv.1, fun j u y hu hy => hv.2 (j + 1) u y (by simpa using hu) (by simpa using hy)⟩
    simp only [fillV] at hf
    split at hf
    · rename_i off size hp
      split at hf
      · rename_i vs hc
        split at hf
        · rename_i hcond
          have hu := cellsV_rl hx hc
          have hul : x.cells.size = vs.length := by have := hu.1; simpa using this.symm
          have hxl : xs.size = cs.length := by have := h.1; simpa using this.symm
          have hnew := h.splice hu off
          have hfold := foldl_set x.cells.toList xs off 0 (by simp; omega)
          obtain ⟨ys, h1, h2⟩ := fill_rl (place := place) ps qs (splice cs off vs) (x.cells.toList.zipIdx.foldl (fun (cs : Array Value) (p : Value × Nat) => cs.setIfInBounds (off + p.2) p.1) xs) us (by rw [hfold]; simpa using hnew) e hv' hf
          refine ⟨ys, ?_, h2⟩
          simp only [Instr.fill, hp]
          rw [if_neg (by simp; omega), ← h1]
          congr 1
          rw [← Array.foldl_toList, Array.toList_zipIdx]
        · cases hf
      · cases hf
    · cases hf

section
variable {P : Program} {d : Option Tmp} {ty : TypeId} {pos : String} {af : Array Edge} {gd : Option (Nat × Bool)} {ev : Operand → V} {W LB : Nat → Prop}

theorem parts_rv {w : World} {L : Nat → Prop} {ρ : Nat → Option Value} {g : Operand → Value} (parts : Array (Nat × Operand)) (h : ∀ x ∈ (parts.toList.map (·.2)).toArray, R w L ρ (ev x) (g x)) :
    ((parts.toList.map fun p => (p.1, ev p.2)).map (·.1)) = ((parts.map fun (i, x) => (i, g x)).toList.map (·.1)) ∧ RV w L ρ ((parts.toList.map fun p => (p.1, ev p.2)).map (·.2)) ((parts.map fun (i, x) => (i, g x)).toList.map (·.2)) := by
  refine ⟨by simp, by simp, fun i u x hu hx => ?_⟩
  simp only [List.map_map, List.getElem?_map, Option.map_eq_some_iff, Function.comp, Array.toList_map] at hu hx
  obtain ⟨p, hp, rfl⟩ := hu
  obtain ⟨q, hq, rfl⟩ := hx
  rw [hp] at hq
  injection hq with hq
  subst hq
  exact h p.2 (by simp; exact ⟨p.1, by have := List.mem_of_getElem? hp; simpa using this⟩)
theorem mapM_flds {fs : List Field} {pl : List (Nat × Nat)} (w : World) (h : (fs.mapM fun f => (P.info? f.type).map fun i => (f.offset, i.size)) = some pl) :
    (fs.mapM (fun f => Prod.mk f.offset <$> sizeOf f.type : Field → Sem (Nat × Nat))).run P w = .ok pl w := by
  induction fs generalizing pl with
  | nil => simp at h; subst h; simp
  | cons f fs ih =>
    rw [List.mapM_cons] at h
    cases hi : P.info? f.type with
    | none => rw [hi] at h; simp at h
    | some i =>
      rw [hi] at h
      cases hr : (fs.mapM fun f => (P.info? f.type).map fun i => (f.offset, i.size)) with
      | none => rw [hr] at h; simp at h
      | some qs =>
        rw [hr] at h
        simp at h
        subst h
        rw [List.mapM_cons]
        have hs := run_sizeOf' (P := P) (e := f.type) (sz := i.size) (by simp [tSize, hi]) w
        simp [hs, ih hr]
theorem tFlds_some {t : Nat} {pl : List (Nat × Nat)} (h : tFlds P t = some pl) : ∃ fs, P.underlying t = some (.struct fs) ∧ (fs.toList.mapM fun f => (P.info? f.type).map fun i => (f.offset, i.size)) = some pl := by
  unfold tFlds at h
  split at h
  · exact ⟨_, by assumption, h⟩
  · cases h
theorem ap_build (t : Nat) (parts : Array (Nat × Operand)) {zs us : List V} {pl : List (Nat × Nat)} (hz : tZero P t = some zs) (hp : tFlds P t = some pl) (hf : fillV (pl[·]?) zs (parts.toList.map fun p => (p.1, ev p.2)) = some us) :
    APure P ⟨d, .build t parts, ty, pos, af, gd⟩ ev (.agg us) :=
  APure.same rfl fun w L ρ g hr => by
    obtain ⟨i, z, hi, hz', h1, rfl⟩ := tZero_some hz
    obtain ⟨fs, hu, hm⟩ := tFlds_some hp
    obtain ⟨e1, e2⟩ := parts_rv (w := w) (L := L) (ρ := ρ) (ev := ev) (g := g) parts (fun x hx => hr x hx)
    obtain ⟨ys, hy, hl⟩ := fill_rl _ _ _ z.cells _ (toV_rl w L ρ z.cells.toList h1) e1 e2 hf
    refine ⟨.agg ys, ?_, .agg' hl⟩
    have hm' := mapM_flds (P := P) w hm
    simp only [execOp, Instr.build]
    have e3 : (fs.mapM (fun f => Prod.mk f.offset <$> sizeOf f.type : Field → Sem (Nat × Nat))).run P w = .ok pl.toArray w := by
      rw [Array.mapM_eq_mapM_toList]
      simp [hm']
    simp at hy
    simp [zeroValue, typeInfo, hi, hz', run_underlying' hu, e3, hy]

/-! a slice of so many parts -/
def repV (n : Nat) (zs : List V) : List V := (List.replicate n zs).flatten
def rowsOf (sz n : Nat) (cs : List V) : List (List V) := (List.range n).map fun i => (cs.drop (i * sz)).take sz
theorem rowsOf_flat (sz : Nat) : ∀ (n : Nat) (cs : List V), cs.length = n * sz → (rowsOf sz n cs).flatten = cs
  | 0, cs, h => by simp at h; subst h; rfl
  | n + 1, cs, h => by
    have ih := rowsOf_flat sz n (cs.drop sz) (by simp [h, Nat.add_mul])
    simp only [rowsOf, List.range_succ_eq_map, List.map_cons, List.map_map, List.flatten_cons] at ih ⊢
    have e : ((List.range n).map ((fun i => (cs.drop (i * sz)).take sz) ∘ Nat.succ)) = (List.range n).map fun i => ((cs.drop sz).drop (i * sz)).take sz := by
      apply List.map_congr_left
      intro i _
      simp only [Function.comp, List.drop_drop]
      rw [show sz + i * sz = i.succ * sz by rw [Nat.succ_mul]; omega]
    rw [e, ih]
    simp
theorem rowsOf_sz {sz n : Nat} {cs : List V} (h : cs.length = n * sz) : ∀ r ∈ rowsOf sz n cs, r.length = sz := by
  intro r hr
  simp only [rowsOf, List.mem_map, List.mem_range] at hr
  obtain ⟨i, hi, rfl⟩ := hr
  have : i * sz + sz ≤ n * sz := by rw [← Nat.succ_mul]; exact Nat.mul_le_mul_right _ hi
  simp; omega
theorem rep_rl {w : World} {L : Nat → Prop} {ρ : Nat → Option Value} {zs : List V} {z : Array Value} (h : RL w L ρ zs z.toList) (hz : 0 < z.size) : ∀ n : Nat, RL w L ρ (repV n zs) (((Array.range (n * z.size)).map (z[· % z.size]!)).toList)
  | 0 => by simp [repV]; exact .nil
  | n + 1 => by
    have ih := rep_rl h hz n
    have e : repV (n + 1) zs = repV n zs ++ zs := by simp [repV, List.replicate_succ', List.flatten_append]
    rw [e]
    have e2 : ((Array.range ((n + 1) * z.size)).map (z[· % z.size]!)).toList = ((Array.range (n * z.size)).map (z[· % z.size]!)).toList ++ z.toList := by
      rw [Nat.add_mul, Nat.one_mul]
      simp only [Array.toList_map, Array.toList_range, List.range_add, List.map_append, List.map_map]
      congr 1
      apply List.ext_getElem
      · simp
      · intro i h1 h2
        simp at h1 h2
        simp [Nat.add_mod, Nat.mod_eq_of_lt h2, h2]
    rw [e2]
    exact ih.append h
theorem tElem_bs {t e n sz : Nat} {zs cs : List V} (he : tElem P t = some e) (hs : tSize P e = some sz) (hz : tZero P e = some zs) (hsz : zs.length = sz) (hpos : 0 < sz) (hn : n * sz ≤ 4096) (parts : Array (Nat × Operand)) (hcs : fillV (fun i => some (i * sz, sz)) (repV n zs) (parts.toList.map fun p => (p.1, ev p.2)) = some cs)
    {w : World} {L : Nat → Prop} {ρ : Nat → Option Value} {g : Operand → Value} (hr : ∀ x ∈ (parts.toList.map (·.2)).toArray, R w L ρ (ev x) (g x)) : ∃ xs : Array Value, (Instr.buildSlice t n (parts.map fun (i, x) => (i, g x))).run P w = .ok (.slice (some ⟨w.heap.size, 0, none⟩) n n) (w.alloc (.cells xs e)) ∧ RL w L ρ cs xs.toList := by
  obtain ⟨i, z, hi, hz', h1, rfl⟩ := tZero_some hz
  obtain ⟨e1, e2⟩ := parts_rv (w := w) (L := L) (ρ := ρ) (ev := ev) (g := g) parts hr
  have hzs : z.cells.size = sz := by simpa using hsz
  have hsi : i.size = sz := by simpa [tSize, hi] using hs
  have h0 := rep_rl (toV_rl w L ρ z.cells.toList h1) (by omega) n
  rw [hzs] at h0
  obtain ⟨ys, hy, hl⟩ := fill_rl _ _ _ _ _ h0 e1 e2 hcs
  refine ⟨ys, ?_, hl⟩
  have e0 : ∀ f : Nat → Value, Array.map f (Array.range 0) = #[] := fun f => by simp
  subst hsi
  by_cases hn0 : n * i.size = 0
  · have hn' : n = 0 := by
      rcases Nat.mul_eq_zero.1 hn0 with h | h
      · exact h
      · omega
    subst hn'
    rw [Nat.zero_mul, e0] at hy
    simp at hy
    simp [Instr.buildSlice, run_underlying' (tElem_some he), run_sizeOf' hs, e0, hy, newRow]
  · have hsm : ¬ n * i.size > 2 ^ 24 := by omega
    exact run_buildSlice w t e n _ ys i z (tElem_some he) hi hz' hsm hn0 (by rw [hzs]; exact hy)
theorem ap_buildS (t n : Nat) (parts : Array (Nat × Operand)) {e sz : Nat} {zs cs : List V} (he : tElem P t = some e) (hs : tSize P e = some sz) (hz : tZero P e = some zs) (hsz : zs.length = sz) (hpos : 0 < sz) (hn : n * sz ≤ 4096)
    (hcs : fillV (fun i => some (i * sz, sz)) (repV n zs) (parts.toList.map fun p => (p.1, ev p.2)) = some cs) (hlen : cs.length = n * sz) (hid : V.idfL cs = true) :
    APure P ⟨d, .buildSlice t n parts, ty, pos, af, gd⟩ ev (.sl sz n fun i => (cs.drop (i * sz)).take sz) := by
  intro w L ρ g hr hlt
  obtain ⟨xs, hx, hl⟩ := tElem_bs he hs hz hsz hpos hn parts hcs (w := w) (L := L) (ρ := ρ) (g := g) hr
  have hf := freeze_new e hlt hl hid
  refine OpDoes.value rfl (v := .slice (some ⟨w.heap.size, 0, none⟩) n n) (w' := w.alloc (.cells xs e)) ?_ ⟨below_new _ _, fun b => L b ∨ b = w.heap.size, fun _ h => .inl h, fun b h => h.imp id fun e => by subst e; simp, .sl' (Nat.le_refl _) fun _ => ⟨w.heap.size, 0, rfl, .inr rfl, fun i hi => ?_, fun i j u hi hu => ?_⟩⟩
  · simp [execOp, hx]
  · have : i * sz + sz ≤ n * sz := by rw [← Nat.succ_mul]; exact Nat.mul_le_mul_right _ hi
    simp; omega
  · rw [List.getElem?_take] at hu
    split at hu
    · rw [List.getElem?_drop] at hu
      have := hf _ u hu
      rwa [← Nat.add_assoc] at this
    · cases hu
theorem as_buildS (t n : Nat) (parts : Array (Nat × Operand)) {e sz : Nat} {zs cs : List V} (he : tElem P t = some e) (hs : tSize P e = some sz) (hz : tZero P e = some zs) (hsz : zs.length = sz) (hpos : 0 < sz) (hn : n * sz ≤ 4096)
    (hcs : fillV (fun i => some (i * sz, sz)) (repV n zs) (parts.toList.map fun p => (p.1, ev p.2)) = some cs) (hlen : cs.length = n * sz) (id : Nat) :
    AStep P W LB ⟨d, .buildSlice t n parts, ty, pos, af, gd⟩ ev (.own id) [] [id] [(id, some (.row e sz n fun i => (cs.drop (i * sz)).take sz))] := by
  intro σ w L ρ g hG hr hpre hnew
  obtain ⟨xs, hx, hl⟩ := tElem_bs he hs hz hsz hpos hn parts hcs (w := w) (L := L) (ρ := ρ) (g := g) hr
  have hn4 : n ≤ 4096 := by
    have : n * 1 ≤ n * sz := Nat.mul_le_mul_left _ hpos
    omega
  obtain ⟨hG', ex⟩ := hG.newRow (hnew id (by simp)) e sz n (row := fun i => (cs.drop (i * sz)).take sz) (xs := xs) (fun i hi => rowsOf_sz hlen _ (List.mem_map.2 ⟨i, by simpa using hi, rfl⟩)) (by have := rowsOf_flat _ _ _ hlen; unfold rowsOf at this; unfold slRows; rw [this]; exact hl) (by unfold maxLen; omega)
  exact OpDoes.value rfl (v := .slice (some ⟨w.heap.size, 0, none⟩) n n) (w' := w.alloc (.cells xs e)) (by simp [execOp, hx]) ⟨L, _, hG', .own _ _ _ (upd_same _ _ _) rfl, tch_grown (L := L) (World.grownBy_alloc w _ none) (by simp), ex, fun i hi => upd_ne _ _ (by simpa using hi), DefK.grown (World.grownBy_alloc w _ none) (by simp)⟩
end
end Go.Ab
