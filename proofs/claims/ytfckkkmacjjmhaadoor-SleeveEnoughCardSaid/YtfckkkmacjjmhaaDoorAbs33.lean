/-
  Maps of a call's own: made, written, looked up. No condition.
-/
import Derived.Test.YtfckkkmacjjmhaaDoorAbs32
import Derived.Test.YtfckkkmacjjmhaaDoorAbs28
import Derived.Maps.OwnSet
namespace Go.Ab
open Go.RowKit Go.Dw

def mpos (k : MK) : List MapEntry → Nat → Option (Nat × Value)
  | [], _ => none
  | e :: es, i => if k.is e.key then some (i, e.val) else mpos k es (i + 1)
theorem mpos_find (k : MK) : ∀ (es : List MapEntry) (i : Nat), (mpos k es i).map (·.2) = mfind k es
  | [], _ => rfl
  | e :: es, i => by
    rw [mpos, mfind]
    split
    · rfl
    · exact mpos_find k es (i + 1)
def KD (str : Bool) (kd : TypeDesc) : Prop := match str with
  | true => kd = .string
  | false => kd = .int .i64
theorem MK.is_val (k q : MK) (h : k.str = q.str) : k.is q.val = decide (k = q) := by
  cases k <;> cases q <;> simp [MK.str] at h <;> simp [MK.is, MK.val]
theorem sameNow_is {kd : TypeDesc} {k q : MK} (hd : KD k.str kd) (h : q.str = k.str) : Instr.sameNow kd k.val q.val = some (k.is q.val) := by
  cases k <;> cases q <;> simp [MK.str] at h
  · have hd : kd = .int .i64 := hd
    subst hd
    simp [Instr.sameNow, MK.val, MK.is, BEq.beq]
  · have hd : kd = .string := hd
    subst hd
    simp only [Instr.sameNow, MK.val, MK.is]
    congr 1
    rw [Bool.eq_iff_iff, MapKept.bytes_beq, decide_eq_true_eq]
def MKeys (str : Bool) (es : List MapEntry) : Prop := ∀ e ∈ es, ∃ q : MK, q.str = str ∧ e.key = q.val
theorem findNow_eq {kd : TypeDesc} {k : MK} (hd : KD k.str kd) : ∀ (es : List MapEntry) (i : Nat), MKeys k.str es → Instr.findNow kd k.val es i = some (mpos k es i)
  | [], i, _ => by simp [Instr.findNow, mpos]
  | e :: es, i, h => by
    obtain ⟨q, hq, he⟩ := h e (by simp)
    rw [Instr.findNow, mpos, he, sameNow_is hd hq]
    cases hb : k.is q.val with
    | true => simp
    | false => simp; exact findNow_eq hd es (i + 1) fun e' he' => h e' (by simp [he'])
theorem run_findKey {P : Program} {w : World} {kt : TypeId} {kd : TypeDesc} {k : MK} (hk : P.underlying kt = some kd) (hd : KD k.str kd) {es : List MapEntry} (h : MKeys k.str es) : (Instr.findKey kt k.val es).run P w = .ok (mpos k es 0) w := by
  unfold Instr.findKey
  simp [run_underlying' hk, findNow_eq hd es 0 h]
theorem run_checkKey {P : Program} {w : World} {kt : TypeId} {kd : TypeDesc} {k : MK} (b : Bool) (hk : P.underlying kt = some kd) (hd : KD k.str kd) : (Instr.checkKey b 10000 kt k.val).run P w = .ok () w := by
  cases k with
  | i n => exact MapKept.run_checkKey hk (by have hd : kd = .int .i64 := hd; subst hd; exact rfl) b 9999
  | s c => exact MapKept.run_checkKey hk (by have hd : kd = .string := hd; subst hd; trivial) b 9999
theorem mpos_at {k : MK} : ∀ {es : List MapEntry} {j i : Nat} {v : Value}, mpos k es j = some (i, v) → j ≤ i ∧ ∃ e, es[i - j]? = some e ∧ k.is e.key = true
  | [], j, i, v, h => by simp [mpos] at h
  | e :: es, j, i, v, h => by
    rw [mpos] at h
    split at h
    · simp at h
      obtain ⟨rfl, rfl⟩ := h
      exact ⟨Nat.le_refl _, e, by simp, by assumption⟩
    · obtain ⟨h1, e', h2, h3⟩ := mpos_at h
      refine ⟨by omega, e', ?_, h3⟩
      have : i - j = (i - (j + 1)) + 1 := by omega
      rw [this]; simpa using h2
theorem mfind_append {k : MK} (e : MapEntry) : ∀ (es : List MapEntry), mfind k (es ++ [e]) = match mfind k es with | some x => some x | none => if k.is e.key then some e.val else none
  | [] => by simp [mfind]
  | e' :: es => by
    rw [List.cons_append, mfind, mfind]
    split
    · rfl
    · exact mfind_append e es
theorem mfind_modify {key : MK} {x : Value} : ∀ {es : List MapEntry} {j i : Nat} {v : Value}, mpos key es j = some (i, v) → MKeys key.str es → ∀ k : MK, k.str = key.str →
    mfind k (es.modify (i - j) fun e => { e with key := key.val, val := x }) = if k = key then some x else mfind k es
  | [], j, i, v, h, _, _, _ => by simp [mpos] at h
  | e :: es, j, i, v, h, hk, k, hs => by
    obtain ⟨q, hq, he⟩ := hk e (by simp)
    rw [mpos] at h
    by_cases hb : key.is e.key = true
    · rw [if_pos hb] at h
      simp at h
      obtain ⟨rfl, rfl⟩ := h
      rw [Nat.sub_self, List.modify_zero_cons, mfind, mfind]
      simp only
      rw [MK.is_val k key hs]
      rw [he, MK.is_val key q hq.symm] at hb
      have : key = q := of_decide_eq_true hb
      by_cases hkk : k = key
      · simp [hkk]
      · rw [if_neg (by simpa using hkk), if_neg hkk, he, MK.is_val k q (by rw [hs, hq]), if_neg (by rw [← this]; simpa using hkk)]
    · rw [if_neg hb] at h
      obtain ⟨h1, _⟩ := mpos_at h
      have e1 : i - j = (i - (j + 1)) + 1 := by omega
      rw [e1, List.modify_succ_cons, mfind, mfind, mfind_modify h (fun e' he' => hk e' (by simp [he'])) k hs]
      by_cases hkk : k = key
      · subst hkk; simp [hb]
      · simp only [if_neg hkk]
/-- what a map's type tells -/
def mapT (P : Program) (t : TypeId) (str : Bool) (et : TypeId) : Prop := ∃ kt kd, P.underlying t = some (.map kt et) ∧ P.underlying kt = some kd ∧ KD str kd
def mset (f : MK → Option V) (key : MK) (u : V) : MK → Option V := fun k => if k = key then some u else f k
theorem MRel.nil (r : V → Value → Prop) (str : Bool) : MRel r str (fun _ => none) [] :=
  ⟨by simp, fun k x _ h => by simp [mfind] at h, fun _ _ _ => rfl⟩
theorem MRel.set {r : V → Value → Prop} {f : MK → Option V} {es es' : List MapEntry} {key : MK} {u : V} {x : Value} (h : MRel r key.str f es) (hu : r u x) (hk : MKeys key.str es')
    (he : ∀ k : MK, k.str = key.str → mfind k es' = if k = key then some x else mfind k es) : MRel r key.str (mset f key u) es' := by
  refine ⟨hk, fun k y hs hy => ?_, fun k hs hy => ?_⟩
  · rw [he k hs] at hy
    by_cases hkk : k = key
    · rw [if_pos hkk] at hy; injection hy with hy; subst hy
      exact ⟨u, by rw [mset, if_pos hkk], hu⟩
    · rw [if_neg hkk] at hy
      obtain ⟨v, h1, h2⟩ := h.2.1 k y hs hy
      exact ⟨v, by rw [mset, if_neg hkk]; exact h1, h2⟩
  · rw [he k hs] at hy
    by_cases hkk : k = key
    · rw [if_pos hkk] at hy; cases hy
    · rw [if_neg hkk] at hy
      rw [mset, if_neg hkk]; exact h.2.2 k hs hy
section
variable {P : Program} {W LB : Nat → Prop} {d : Option Tmp} {ty : TypeId} {pos : String} {af : Array Edge} {gd : Option (Nat × Bool)} {ev : Operand → V}
/-- a map is made -/
theorem as_makeMap (t : TypeId) (str : Bool) (id : Nat) : AStep P W LB ⟨d, .makeMap t none, ty, pos, af, gd⟩ ev (.own id) [] [id] [(id, some (.mp str fun _ => none))] := by
  intro σ w L ρ g hG hr hpre hn
  have hn' := hn id (by simp)
  obtain ⟨hG', e⟩ := hG.put (World.grownBy_alloc w (.map #[] 0) none) (by simp) id (.map (some w.heap.size)) (.mp str fun _ => none) (σ1 := σ) (ρ' := upd ρ id (some (.map (some w.heap.size))))
    (fun i o hi ho => ⟨ho, by simp⟩) (fun i hi => upd_ne _ _ hi) (upd_same _ _ _) (.inl hn') (fun k hk => .inr (by simp [blk] at hk; omega)) fun e =>
      ⟨w.heap.size, #[], 0, upd_same _ _ _, (hG.new _ (Nat.le_refl _)).1, fun hL => by have := (hG.ll _ hL).1; omega, heap_alloc_new w _, MRel.nil _ _⟩
  refine OpDoes.value rfl (v := .map (some w.heap.size)) (w' := w.alloc (.map #[] 0)) ?_ ⟨L, _, hG', .own _ _ _ (upd_same _ _ _) rfl, tch_grown (L := L) (World.grownBy_alloc w _ none) (by simp), e, fun i hi => upd_ne _ _ (by simpa using hi), DefK.grown (World.grownBy_alloc w _ none) (by simp)⟩
  simp [execOp, run_makeMap t w]
theorem run_update {w : World} {t et : TypeId} {key : MK} {b : Nat} {es : Array MapEntry} {cl : Nat} {x : Value} (ht : mapT P t key.str et) (hb : w.heap[b]? = some (.map es cl)) (hk : MKeys key.str es.toList) :
    ∃ es' cl', (Instr.mapUpdate t (.map (some b)) key.val x).run P w = .ok () (ChangeMaps.setBlock w b (.map es' cl')) ∧ MKeys key.str es'.toList ∧ ∀ k : MK, k.str = key.str → mfind k es'.toList = if k = key then some x else mfind k es.toList := by
  obtain ⟨kt, kd, h1, h2, hd⟩ := ht
  have hfk := run_findKey (P := P) (w := w) h2 hd hk
  have hck := run_checkKey (P := P) (w := w) (k := key) false h2 hd
  cases hp : mpos key es.toList 0 with
  | none =>
    have hf : mfind key es.toList = none := by rw [← mpos_find key es.toList 0, hp]; rfl
    refine ⟨es.push ⟨key.val, x, cl⟩, cl + 1, ?_, fun e he => ?_, fun k hs => ?_⟩
    · rw [hp] at hfk
      simp [Instr.mapUpdate, run_underlying' h1, MapKept.run_getObj_map hb, hck, hfk, MapKept.run_setObj_map _ hb, Result.andThen, ChangeMaps.setBlock]
    · rw [Array.toList_push, List.mem_append] at he
      rcases he with he | he
      · exact hk e he
      · simp at he; subst he; exact ⟨key, rfl, rfl⟩
    · rw [Array.toList_push, mfind_append]
      by_cases hkk : k = key
      · subst hkk
        rw [hf, if_pos rfl]
        simp [MK.is_val]
      · rw [if_neg hkk]
        cases hm : mfind k es.toList with
        | some y => rfl
        | none => simp [MK.is_val k key hs, hkk]
  | some p =>
    obtain ⟨i, v⟩ := p
    obtain ⟨_, e, he, hq⟩ := mpos_at hp
    have hm := fun k hs => mfind_modify (x := x) hp hk k hs
    obtain ⟨q, hqs, hqe⟩ := hk e (List.mem_of_getElem? he)
    have hqk : key = q := by
      rw [hqe, MK.is_val key q hqs.symm] at hq
      exact of_decide_eq_true hq
    have hei : es[i]? = some e := by simpa using he
    have hst : (Instr.keyThatStays key.val key.val).run P w = .ok key.val w := by
      unfold Instr.keyThatStays
      have : Instr.sameBits 10000 key.val key.val = true := by cases key <;> simp [Instr.sameBits, MK.val, MapKept.bytes_beq]
      simp [this]
    rw [hp] at hfk
    refine ⟨es.modify i fun e => { e with key := key.val, val := x }, cl, ?_, fun e' he' => ?_, fun k hs => ?_⟩
    · have hek : e.key = key.val := by rw [hqe, hqk]
      simp [Instr.mapUpdate, run_underlying' h1, MapKept.run_getObj_map hb, hck, hfk, hei, hek, hst, MapKept.run_setObj_map _ hb, Result.andThen, ChangeMaps.setBlock]
    · rcases MapFrom.mem_modify he' with h | ⟨e0, _, rfl⟩
      · exact hk e' h
      · exact ⟨key, rfl, rfl⟩
    · have := hm k hs
      rw [Nat.sub_zero] at this
      rw [Array.toList_modify]
      exact this
/-- a map is written -/
theorem as_insert (t : TypeId) (m k x : Operand) {id : Nat} {f : MK → Option V} {key : MK} {u : V} {et : TypeId} (hm : ev m = .own id) (hk : ev k = .c key.val) (hx : ev x = u) (ht : mapT P t key.str et) :
    AStep P W LB ⟨d, .insert t m k x, ty, pos, af, gd⟩ ev .any [(id, .mp key.str f)] [] [(id, some (.mp key.str (mset f key u)))] := by
  intro σ w L ρ g hG hr hpre _
  have hσ := hpre _ (List.mem_singleton.2 rfl)
  have r1 := hr m (by simp [Op.operands])
  have r2 := hr k (by simp [Op.operands])
  have r3 := hr x (by simp [Op.operands])
  rw [hm] at r1
  rw [hk] at r2
  rw [hx] at r3
  obtain ⟨b, es, cl, hρ, hW, hL, hh, hrel⟩ := hG.ob id _ hσ
  have e1 := r1.own_inv
  rw [hρ] at e1; injection e1 with e1
  have e2 := r2.c_inv
  obtain ⟨es', cl', hrun, hk', hf'⟩ := run_update (x := g x) ht hh hrel.1
  have hgr : w.grownBy (ChangeMaps.setBlock w b (.map es' cl')) (some b) := World.mapTurned.grown ⟨es, cl, es', cl', hh, rfl⟩
  have hch : ∀ k, some b = some k → W k ∧ ¬ L k := by rintro k hk; injection hk with hk; subst hk; exact ⟨hW, hL⟩
  obtain ⟨hG', ex⟩ := hG.put (σ1 := σ) (ρ' := ρ) hgr hch id _ (.mp key.str (mset f key u))
    (fun j ob hj ho => ⟨ho, fun z hz k hk hkz => by
      injection hk with hk; subst hk
      exact hG.sep j id z _ b hj (by rw [ho]; simp) (by rw [hσ]; simp) hz hρ hkz rfl⟩) (fun _ _ => rfl) hρ (.inr hρ) (fun k hk => .inl (by simpa [blk] using hk)) (fun ex =>
        ⟨b, es', cl', hρ, hW, hL, ChangeMaps.heap_setBlock_same hh _, (hrel.imp fun _ _ _ _ h => h.ext ex).set (r3.ext ex) hk' hf'⟩)
  refine OpDoes.skip rfl (w' := ChangeMaps.setBlock w b (.map es' cl')) ?_ ⟨L, ρ, hG', .any _ _, tch_grown hgr hch, ex, fun _ _ => rfl, fun D hD => ⟨(hgr.block D (Array.getElem?_eq_some_iff.1 hD).1 fun e => ?_).trans hD, fun h => h⟩⟩
  · simp only [execOp]
    rw [← e1, e2]
    simp [hrun]
  · injection e with e; subst e; rw [hh] at hD; cases hD
theorem as_mapUpdate (t : TypeId) (m k x : Operand) {id : Nat} {f : MK → Option V} {key : MK} {u : V} {et : TypeId} (hm : ev m = .own id) (hk : ev k = .c key.val) (hx : ev x = u) (ht : mapT P t key.str et) :
    AStep P W LB ⟨d, .mapUpdate t m k x, ty, pos, af, gd⟩ ev .any [(id, .mp key.str f)] [] [(id, some (.mp key.str (mset f key u)))] := by
  intro σ w L ρ g hG hr hpre _
  have hσ := hpre _ (List.mem_singleton.2 rfl)
  have r1 := hr m (by simp [Op.operands])
  have r2 := hr k (by simp [Op.operands])
  have r3 := hr x (by simp [Op.operands])
  rw [hm] at r1
  rw [hk] at r2
  rw [hx] at r3
  obtain ⟨b, es, cl, hρ, hW, hL, hh, hrel⟩ := hG.ob id _ hσ
  have e1 := r1.own_inv
  rw [hρ] at e1; injection e1 with e1
  have e2 := r2.c_inv
  obtain ⟨es', cl', hrun, hk', hf'⟩ := run_update (x := g x) ht hh hrel.1
  have hgr : w.grownBy (ChangeMaps.setBlock w b (.map es' cl')) (some b) := World.mapTurned.grown ⟨es, cl, es', cl', hh, rfl⟩
  have hch : ∀ k, some b = some k → W k ∧ ¬ L k := by rintro k hk; injection hk with hk; subst hk; exact ⟨hW, hL⟩
  obtain ⟨hG', ex⟩ := hG.put (σ1 := σ) (ρ' := ρ) hgr hch id _ (.mp key.str (mset f key u))
    (fun j ob hj ho => ⟨ho, fun z hz k hk hkz => by
      injection hk with hk; subst hk
      exact hG.sep j id z _ b hj (by rw [ho]; simp) (by rw [hσ]; simp) hz hρ hkz rfl⟩) (fun _ _ => rfl) hρ (.inr hρ) (fun k hk => .inl (by simpa [blk] using hk)) (fun ex =>
        ⟨b, es', cl', hρ, hW, hL, ChangeMaps.heap_setBlock_same hh _, (hrel.imp fun _ _ _ _ h => h.ext ex).set (r3.ext ex) hk' hf'⟩)
  refine OpDoes.skip rfl (w' := ChangeMaps.setBlock w b (.map es' cl')) ?_ ⟨L, ρ, hG', .any _ _, tch_grown hgr hch, ex, fun _ _ => rfl, fun D hD => ⟨(hgr.block D (Array.getElem?_eq_some_iff.1 hD).1 fun e => ?_).trans hD, fun h => h⟩⟩
  · simp only [execOp]
    rw [← e1, e2]
    simp [hrun]
  · injection e with e; subst e; rw [hh] at hD; cases hD
/-- a map is asked -/
theorem run_look {w : World} {t et : TypeId} {key : MK} {b : Nat} {es : Array MapEntry} {cl : Nat} (c : Bool) (ht : mapT P t key.str et) (hb : w.heap[b]? = some (.map es cl)) (hk : MKeys key.str es.toList) {z : Value} (hz : (zeroValue et).run P w = .ok z w) :
    (Instr.lookup t (.map (some b)) key.val c).run P w = .ok (if c then .tuple #[(mfind key es.toList).getD z, .bool (mfind key es.toList).isSome] else (mfind key es.toList).getD z) w := by
  obtain ⟨kt, kd, h1, h2, hd⟩ := ht
  have hfk := run_findKey (P := P) (w := w) h2 hd hk
  have hck := run_checkKey (P := P) (w := w) (k := key) es.isEmpty h2 hd
  have hp := mpos_find key es.toList 0
  cases hm : mpos key es.toList 0 with
  | none =>
    rw [hm] at hp hfk
    rw [← hp]
    simp [Instr.lookup, run_underlying' h1, MapKept.run_getObj_map hb, hck, hfk, hz, Result.andThen]
  | some p =>
    obtain ⟨i, v⟩ := p
    rw [hm] at hp hfk
    rw [← hp]
    simp [Instr.lookup, run_underlying' h1, MapKept.run_getObj_map hb, hck, hfk, Result.andThen]
theorem as_look (t : TypeId) (m k : Operand) {id : Nat} {f : MK → Option V} {key : MK} {et : TypeId} {z : Value} {vz : V} (hm : ev m = .own id) (hk : ev k = .c key.val) (ht : mapT P t key.str et)
    (hz : ∀ w, (zeroValue et).run P w = .ok z w) (hvz : ∀ w L ρ, R w L ρ vz z) :
    AStep P W LB ⟨d, .lookup t m k true, ty, pos, af, gd⟩ ev (.tup [(f key).getD vz, .b (f key).isSome]) [(id, .mp key.str f)] [] [] := by
  intro σ w L ρ g hG hr hpre _
  have hσ := hpre _ (List.mem_singleton.2 rfl)
  have r1 := hr m (by simp [Op.operands])
  have r2 := hr k (by simp [Op.operands])
  rw [hm] at r1
  rw [hk] at r2
  obtain ⟨b, es, cl, hρ, hW, hL, hh, hrel⟩ := hG.ob id _ hσ
  have e1 := r1.own_inv
  rw [hρ] at e1; injection e1 with e1
  have e2 := r2.c_inv
  have hrun := run_look (c := true) ht hh hrel.1 (hz w)
  have hv : R w L ρ ((f key).getD vz) ((mfind key es.toList).getD z) ∧ (f key).isSome = (mfind key es.toList).isSome := by
    cases hm : mfind key es.toList with
    | none => rw [hrel.2.2 key rfl hm]; exact ⟨hvz _ _ _, rfl⟩
    | some x =>
      obtain ⟨u, hu, hr⟩ := hrel.2.1 key x rfl hm
      rw [hu]; exact ⟨hr, rfl⟩
  refine OpDoes.value rfl (v := .tuple #[(mfind key es.toList).getD z, .bool (mfind key es.toList).isSome]) (w' := w) ?_ ⟨L, ρ, hG, .tup' (.cons hv.1 (.cons (by rw [hv.2]; exact .c _ _) .nil)), Tch.refl _ _, Ext.refl _ _ _, fun _ _ => rfl, DefK.refl _ _⟩
  simp only [execOp]
  rw [← e1, e2]
  simp [hrun]
theorem as_look1 (t : TypeId) (m k : Operand) {id : Nat} {f : MK → Option V} {key : MK} {et : TypeId} {z : Value} {vz : V} (hm : ev m = .own id) (hk : ev k = .c key.val) (ht : mapT P t key.str et)
    (hz : ∀ w, (zeroValue et).run P w = .ok z w) (hvz : ∀ w L ρ, R w L ρ vz z) :
    AStep P W LB ⟨d, .lookup t m k false, ty, pos, af, gd⟩ ev ((f key).getD vz) [(id, .mp key.str f)] [] [] := by
  intro σ w L ρ g hG hr hpre _
  have hσ := hpre _ (List.mem_singleton.2 rfl)
  have r1 := hr m (by simp [Op.operands])
  have r2 := hr k (by simp [Op.operands])
  rw [hm] at r1
  rw [hk] at r2
  obtain ⟨b, es, cl, hρ, hW, hL, hh, hrel⟩ := hG.ob id _ hσ
  have e1 := r1.own_inv
  rw [hρ] at e1; injection e1 with e1
  have e2 := r2.c_inv
  have hrun := run_look (c := false) ht hh hrel.1 (hz w)
  have hv : R w L ρ ((f key).getD vz) ((mfind key es.toList).getD z) := by
    cases hm : mfind key es.toList with
    | none => rw [hrel.2.2 key rfl hm]; exact hvz _ _ _
    | some x =>
      obtain ⟨u, hu, hr⟩ := hrel.2.1 key x rfl hm
      rw [hu]; exact hr
  refine OpDoes.value rfl (v := (mfind key es.toList).getD z) (w' := w) ?_ ⟨L, ρ, hG, hv, Tch.refl _ _, Ext.refl _ _ _, fun _ _ => rfl, DefK.refl _ _⟩
  simp only [execOp]
  rw [← e1, e2]
  simp [hrun]
end
end Go.Ab
