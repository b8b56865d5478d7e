/-
  Calls, and small operations, for values without addresses. No condition but those that the step names.
-/
import Derived.Test.YtlfaaddoemcokaaAbs12
namespace Go.Ab
open Go.RowKit Go.Dw

/-- the names that a call's new objects get -/
def callG (nx : Nat) (d : Option Tmp) (j : Nat) : Nat := nx * 100000 + 1000 * j + d.getD 0
def callD (g : Nat → Nat) : Nat → List Ob → List (Nat × Option Ob)
  | _, [] => []
  | j, ob :: obs => (g j, some (ob.ren g)) :: callD g (j + 1) obs
theorem R_renOn {w : World} {L : Nat → Prop} {ρ ρ' : Nat → Option Value} (g : Nat → Nat) (hg : ∀ j y, ρ j = some y → ρ' (g j) = some y) {v : V} {x : Value} (h : R w L ρ v x) : R w L ρ' (v.ren g) x := by
  have h2 : R w L ρ (v.ren id) x ∨ True := .inr trivial
  clear h2
  induction h generalizing ρ' with
  | any => rw [V.ren]; exact .any _ _
  | c => rw [V.ren]; exact .c _ _
  | agg ρ cs xs f hl hf hr ih =>
    rw [V.ren]
    refine .agg _ _ _ f (by rw [V.renL_len]; exact hl) (fun i u hu => ?_) fun i u hu => ?_
    · rw [V.renL_get] at hu
      cases hc : cs[i]? with
      | none => rw [hc] at hu; cases hu
      | some c => exact hf i c hc
    · rw [V.renL_get] at hu
      cases hc : cs[i]? with
      | none => rw [hc] at hu; cases hu
      | some c =>
        rw [hc] at hu
        simp only [Option.map_some, Option.some.injEq] at hu
        subst hu
        exact ih i c hc hg
  | tup ρ cs xs f hl hf hr ih =>
    rw [V.ren]
    refine .tup _ _ _ f (by rw [V.renL_len]; exact hl) (fun i u hu => ?_) fun i u hu => ?_
    · rw [V.renL_get] at hu
      cases hc : cs[i]? with
      | none => rw [hc] at hu; cases hu
      | some c => exact hf i c hc
    · rw [V.renL_get] at hu
      cases hc : cs[i]? with
      | none => rw [hc] at hu; cases hu
      | some c =>
        rw [hc] at hu
        simp only [Option.map_some, Option.some.injEq] at hu
        subst hu
        exact ih i c hc hg
  | nil => rw [V.ren]; exact .nil _
  | emp => rw [V.ren]; exact .emp _ _
  | sl0 => rw [V.ren]; exact .sl0 _ _ _ _ _
  | sl ρ sz n row b o c f hb hcap hlen hf hr ih => rw [V.ren]; exact .sl _ _ _ _ _ _ _ f hb hcap hlen hf hr
  | ptr ρ cs b o f hb hf hr ih => rw [V.ren]; exact .ptr _ _ _ _ f hb hf hr
  | own ρ id x h h1 => rw [V.ren]; exact .own _ _ _ (hg _ _ h) h1
  | ref ρ id off b h => rw [V.ren]; exact .ref _ _ _ _ (hg _ _ h)
  | oel ρ id sz i off b n c h => rw [V.ren]; exact .oel _ _ _ _ _ _ n c (hg _ _ h)
  | fn ρ f fs cs xs ys p q hl hm hp hq hr hs ih1 ih2 =>
    rw [V.ren]
    refine .fn _ _ _ _ _ _ p q (by rw [V.renL_len]; exact hl) (by rw [V.renL_len]; exact hm) (fun i u hu => ?_) (fun i u hu => ?_) (fun i u hu => ?_) fun i u hu => ?_
    · rw [V.renL_get] at hu
      cases hc : fs[i]? with
      | none => rw [hc] at hu; cases hu
      | some c => exact hp i c hc
    · rw [V.renL_get] at hu
      cases hc : cs[i]? with
      | none => rw [hc] at hu; cases hu
      | some c => exact hq i c hc
    · rw [V.renL_get] at hu
      cases hc : fs[i]? with
      | none => rw [hc] at hu; cases hu
      | some c =>
        rw [hc] at hu
        simp only [Option.map_some, Option.some.injEq] at hu
        subst hu
        exact ih1 i c hc hg
    · rw [V.renL_get] at hu
      cases hc : cs[i]? with
      | none => rw [hc] at hu; cases hu
      | some c =>
        rw [hc] at hu
        simp only [Option.map_some, Option.some.injEq] at hu
        subst hu
        exact ih2 i c hc hg
  | ifc ρ t u x h ih => rw [V.ren]; exact .ifc _ _ _ _ (ih hg)
  | gd ρ q u x h h' ih => rw [V.ren]; exact .gd _ _ _ _ (fun hq => ih hq hg) h'
theorem RL_renOn {w : World} {L : Nat → Prop} {ρ ρ' : Nat → Option Value} (g : Nat → Nat) (hg : ∀ j y, ρ j = some y → ρ' (g j) = some y) {us : List V} {xs : List Value} (h : RL w L ρ us xs) : RL w L ρ' (V.renL g us) xs :=
  ⟨by rw [V.renL_len]; exact h.1, fun i u x hu hx => by
    rw [V.renL_get] at hu
    cases hc : us[i]? with
    | none => rw [hc] at hu; cases hu
    | some c =>
      rw [hc] at hu
      simp only [Option.map_some, Option.some.injEq] at hu
      subst hu
      exact ⟨R_renOn g hg (h.2 i c x hc hx).1, (h.2 i c x hc hx).2⟩⟩
theorem Real.renOn {W W' : Nat → Prop} {w : World} {L : Nat → Prop} {ρ ρ' : Nat → Option Value} (g : Nat → Nat) (hg : ∀ j y, ρ j = some y → ρ' (g j) = some y) (hW : ∀ b, W b → W' b) {j : Nat} {o : Ob} (h : Real W w L ρ j o) : Real W' w L ρ' (g j) (o.ren g) := by
  cases o with
  | box t cs =>
    obtain ⟨b, xs, h1, h2, h3, h4, h5⟩ := h
    exact ⟨b, xs, hg _ _ h1, hW _ h2, h3, h4, RL_renOn g hg h5⟩
  | row e sz n row =>
    obtain ⟨v, xs, h1, h2, h3, h4, h5⟩ := h
    refine ⟨v, xs, hg _ _ h1, h2, fun i hi => ?_, by rw [slRows_ren]; exact RL_renOn g hg h4, fun k hk => ⟨hW _ (h5 k hk).1, (h5 k hk).2⟩⟩
    rw [V.renL_len]; exact h3 i hi
theorem callD_in (g : Nat → Nat) (hg : ∀ i j, g i = g j → i = j) : ∀ (obs : List Ob) (j0 : Nat) (σ : Nat → Option Ob) (id : Nat) (o : Ob), upds σ (callD g j0 obs) id = some o → (∃ j ob, obs[j]? = some ob ∧ id = g (j0 + j) ∧ o = ob.ren g) ∨ (σ id = some o ∧ ∀ j, j < obs.length → id ≠ g (j0 + j))
  | [], j0, σ, id, o, h => .inr ⟨h, fun j hj => by simp at hj⟩
  | ob :: obs, j0, σ, id, o, h => by
    rw [callD, upds] at h
    rcases callD_in g hg obs (j0 + 1) _ id o h with ⟨j, ob', h1, h2, h3⟩ | ⟨h1, h2⟩
    · exact .inl ⟨j + 1, ob', by simpa using h1, by rw [h2]; congr 1; omega, h3⟩
    · by_cases he : id = g j0
      · subst he
        rw [upd_same] at h1; injection h1 with h1
        exact .inl ⟨0, ob, rfl, rfl, h1.symm⟩
      · rw [upd_ne _ _ he] at h1
        refine .inr ⟨h1, fun j hj => ?_⟩
        cases j with
        | zero => exact he
        | succ j => have := h2 j (by simpa using hj); rwa [show j0 + (j + 1) = j0 + 1 + j by omega]

section
variable {P : Program} {W LB : Nat → Prop} {d : Option Tmp} {ty : TypeId} {pos : String} {af : Array Edge} {gd : Option (Nat × Bool)} {ev : Operand → V}

theorem as_call {fo : Operand} {ar : Array Operand} {ats : Array TypeId} {f : FuncId} {first caps args : List V} {v : V} {obs : List Ob} (hc : AC P f args v obs) (hf : ev fo = .fn (.func f) first caps) (hargs : first ++ ar.toList.map ev ++ caps = args) (hidf : V.idfL args = true)
    (nx : Nat) (hd : d.all (fun t => decide (t < 1000)) = true) (hobs : obs.length ≤ 90) :
    AStep P W LB ⟨d, .call { callee := .value fo, args := ar, argTypes := ats }, ty, pos, af, gd⟩ ev (v.ren (callG nx d)) [] ((List.range obs.length).map (callG nx d)) (callD (callG nx d) 0 obs) := by
  intro σ w L ρ g hG hr _ hnew
  have h1 := hr fo (by simp [Op.operands, Call.operands])
  rw [hf] at h1
  obtain ⟨xs, ys, e1, hx, hy⟩ := h1.fn_inv
  have hz : RV w L ρ (ar.toList.map ev) (ar.map g).toList := by
    refine ⟨by simp, fun i u x hu hx => ?_⟩
    simp only [List.getElem?_map, Option.map_eq_some_iff, Array.toList_map] at hu hx
    obtain ⟨p, hp, rfl⟩ := hu
    obtain ⟨q, hq, rfl⟩ := hx
    rw [hp] at hq
    injection hq with hq
    subst hq
    exact hr p (by simp only [Op.operands, Call.operands]; have := List.mem_of_getElem? hp; simp at this ⊢; exact .inr this)
  have hrv : RV w L ρ0 args (xs ++ ar.map g ++ ys).toList := by
    have := (hx.append hz).append hy
    rw [hargs] at this
    exact (by simpa using this.free (ρ' := ρ0) hidf)
  have hrun : (execOp g ⟨d, .call { callee := .value fo, args := ar, argTypes := ats }, ty, pos, af, gd⟩).run P w = .ok (.enter f (xs ++ ar.map g ++ ys)) w := by
    simp [execOp, resolve, Deferred.ofValue, invoke, e1, hc.1]
  refine OpDoes.enter rfl hrun ((hc.2 L w _ (fun b hb => (hG.ll b hb).1) hrv).mono ?_)
  rintro e w' ⟨x, rfl, hb, L', ρ', hG', hL', hv, hn⟩
  obtain ⟨D, hD, hd'⟩ : ∃ D : Nat, d.getD 0 = D ∧ D < 1000 := ⟨_, rfl, by cases d with | none => decide | some t => simpa using hd⟩
  have ginj : ∀ i j, callG nx d i = callG nx d j → i = j := fun i j h => by unfold callG at h; rw [hD] at h; omega
  obtain ⟨ρ2, hρ2⟩ : ∃ ρ2 : Nat → Option Value, ρ2 = fun id => if id ∈ (List.range obs.length).map (callG nx d) then ρ' ((id - nx * 100000) / 1000) else ρ id := ⟨_, rfl⟩
  have hgi : ∀ j, j < obs.length → ρ2 (callG nx d j) = ρ' j := by
    intro j hj
    have : (callG nx d j - nx * 100000) / 1000 = j := by unfold callG; rw [hD]; omega
    rw [hρ2]
    simp only
    rw [if_pos (List.mem_map.2 ⟨j, by simpa using hj, rfl⟩), this]
  have hon : ∀ j y, ρ' j = some y → ρ2 (callG nx d j) = some y := by
    intro j y hy
    by_cases hj : j < obs.length
    · rw [hgi j hj]; exact hy
    · rw [hn j (by omega)] at hy; cases hy
  have hout : ∀ id, id ∉ (List.range obs.length).map (callG nx d) → ρ2 id = ρ id := by
    intro id hid; rw [hρ2]; simp only; rw [if_neg hid]
  have hb2 : ∀ b, L b → L' b ∧ w'.heap[b]? = w.heap[b]? := fun b hbL => ⟨hL' b hbL, hb.block b (hG.ll b hbL).1⟩
  have ex : Ext w L ρ w' L' ρ2 := by
    refine ⟨hb2, fun id y hy => ?_⟩
    rw [hout id (fun hc => by rw [hnew id hc] at hy; cases hy)]
    exact hy
  refine ⟨x, rfl, L', ρ2, ⟨fun b hbl => ?_, fun b hbs => hG.new b (Nat.le_trans hb.size hbs), fun id o ho => ?_, ?_⟩, R_renOn _ hon hv, Tch.of_below hb fun k _ hk => (hG.new k hk).1, ex, fun id hid => hout id hid, DefK.below hb fun b hbl => (hG'.ll b hbl).2⟩
  · have := hG'.ll b hbl
    exact ⟨this.1, this.2.elim (fun h => (hG.ll b h).2) fun h => (hG.new b h).2⟩
  · rcases callD_in _ ginj obs 0 σ id o ho with ⟨j, ob, h1, h2, h3⟩ | ⟨h1, h2⟩
    · subst h2 h3
      rw [Nat.zero_add]
      exact (hG'.ob j ob h1).renOn _ hon fun b hbs => (hG.new b hbs).1
    · have hk := hG.ob id o h1
      refine hk.keep ex fun y k hy hk2 => ?_
      obtain ⟨y', hy', hlt⟩ := hk.lt
      rw [hy] at hy'; injection hy' with hy'; subst hy'
      obtain ⟨l1, l2, l3⟩ := hlt k hk2
      refine ⟨hb.block k l1, fun hc => ?_⟩
      rcases (hG'.ll k hc).2 with h | h
      · exact l3 h
      · omega
  · intro i j y z k hij hi hj hyi hzj hk hkz
    have cases' : ∀ i, upds σ (callD (callG nx d) 0 obs) i ≠ none → (∃ q ob, obs[q]? = some ob ∧ i = callG nx d q) ∨ (σ i ≠ none ∧ ∀ q, q < obs.length → i ≠ callG nx d q) := by
      intro i hi
      cases ho : upds σ (callD (callG nx d) 0 obs) i with
      | none => exact absurd ho hi
      | some o =>
        rcases callD_in _ ginj obs 0 σ i o ho with ⟨q, ob, h1, h2, h3⟩ | ⟨h1, h2⟩
        · exact .inl ⟨q, ob, h1, by rw [h2, Nat.zero_add]⟩
        · exact .inr ⟨by rw [h1]; simp, fun q hq => by have := h2 q hq; rwa [Nat.zero_add] at this⟩
    have notin : ∀ i, (∀ q, q < obs.length → i ≠ callG nx d q) → i ∉ (List.range obs.length).map (callG nx d) := by
      intro i h hc
      obtain ⟨q, hq, rfl⟩ := List.mem_map.1 hc
      exact h q (by simpa using hq) rfl
    have oldb : ∀ i y k, σ i ≠ none → (∀ q, q < obs.length → i ≠ callG nx d q) → ρ2 i = some y → blk y = some k → k < w.heap.size := by
      intro i y k hs hq hy hk
      rw [hout i (notin i hq)] at hy
      cases ho : σ i with
      | none => exact absurd ho hs
      | some o =>
        obtain ⟨y', hy', hlt⟩ := (hG.ob i o ho).lt
        rw [hy] at hy'; injection hy' with hy'; subst hy'
        exact (hlt k hk).1
    have newb : ∀ q ob y k, obs[q]? = some ob → ρ2 (callG nx d q) = some y → blk y = some k → w.heap.size ≤ k := by
      intro q ob y k ho hy hk
      rw [hgi q (List.getElem?_eq_some_iff.1 ho).1] at hy
      obtain ⟨y', hy', hlt⟩ := (hG'.ob q ob ho).lt
      rw [hy] at hy'; injection hy' with hy'; subst hy'
      exact (hlt k hk).2.1
    rcases cases' i hi with ⟨q, ob, h1, rfl⟩ | ⟨h1, h2⟩
    · rcases cases' j hj with ⟨q', ob', h1', rfl⟩ | ⟨h1', h2'⟩
      · rw [hgi q (List.getElem?_eq_some_iff.1 h1).1] at hyi
        rw [hgi q' (List.getElem?_eq_some_iff.1 h1').1] at hzj
        exact hG'.sep q q' y z k (fun e => hij (by rw [e])) (by simp [obsF, h1]) (by simp [obsF, h1']) hyi hzj hk hkz
      · have a1 := newb q ob y k h1 hyi hk
        have a2 := oldb j z k h1' h2' hzj hkz
        omega
    · rcases cases' j hj with ⟨q', ob', h1', rfl⟩ | ⟨h1', h2'⟩
      · have a1 := newb q' ob' z k h1' hzj hkz
        have a2 := oldb i y k h1 h2 hyi hk
        omega
      · rw [hout i (notin i h2)] at hyi
        rw [hout j (notin j h2')] at hzj
        exact hG.sep i j y z k hij h1 h1' hyi hzj hk hkz

theorem ap_fn {fn : Fn} {first caps : Array Operand} : APure P ⟨d, .makeFunc fn first caps, ty, pos, af, gd⟩ ev (.fn fn (first.toList.map ev) (caps.toList.map ev)) :=
  APure.same rfl fun w L ρ g hr => by
    have key : ∀ xs : Array Operand, (∀ x ∈ xs, R w L ρ (ev x) (g x)) → RV w L ρ (xs.toList.map ev) (xs.map g).toList := by
      intro xs h
      refine ⟨by simp, fun i u x hu hx => ?_⟩
      simp only [List.getElem?_map, Option.map_eq_some_iff, Array.toList_map] at hu hx
      obtain ⟨p, hp, rfl⟩ := hu
      obtain ⟨q, hq, rfl⟩ := hx
      rw [hp] at hq
      injection hq with hq
      subst hq
      exact h p (by have := List.mem_of_getElem? hp; simpa using this)
    exact ⟨.func fn (first.map g) (caps.map g), by simp [execOp, Instr.makeFunc], .fn' (key first fun x hx => hr x (by simp [Op.operands, hx])) (key caps fun x hx => hr x (by simp [Op.operands, hx]))⟩

theorem ap_max2 (ats : Array TypeId) (x y : Operand) {k : IntKind} {a b : Int} (hx : ev x = .c (.int k a)) (hy : ev y = .c (.int k b)) : APure P ⟨d, .call { callee := .builtin .max, args := #[x, y], argTypes := ats }, ty, pos, af, gd⟩ ev (.c (.int k (max a b))) :=
  APure.same rfl fun w L ρ g hr => by
    have e1 := (hx ▸ hr x (by simp [Op.operands, Call.operands])).c_inv
    have e2 := (hy ▸ hr y (by simp [Op.operands, Call.operands])).c_inv
    exact ⟨_, by simp [execOp, resolve, invoke, builtin, e1, e2, max_int2], .c _ _⟩
theorem ap_min2 (ats : Array TypeId) (x y : Operand) {k : IntKind} {a b : Int} (hx : ev x = .c (.int k a)) (hy : ev y = .c (.int k b)) : APure P ⟨d, .call { callee := .builtin .min, args := #[x, y], argTypes := ats }, ty, pos, af, gd⟩ ev (.c (.int k (min a b))) :=
  APure.same rfl fun w L ρ g hr => by
    have e1 := (hx ▸ hr x (by simp [Op.operands, Call.operands])).c_inv
    have e2 := (hy ▸ hr y (by simp [Op.operands, Call.operands])).c_inv
    exact ⟨_, by simp [execOp, resolve, invoke, builtin, e1, e2, min_int2], .c _ _⟩
theorem ap_max3 (ats : Array TypeId) (x y z : Operand) {k : IntKind} {a b c : Int} (hx : ev x = .c (.int k a)) (hy : ev y = .c (.int k b)) (hz : ev z = .c (.int k c)) : APure P ⟨d, .call { callee := .builtin .max, args := #[x, y, z], argTypes := ats }, ty, pos, af, gd⟩ ev (.c (.int k (max (max a b) c))) :=
  APure.same rfl fun w L ρ g hr => by
    have e1 := (hx ▸ hr x (by simp [Op.operands, Call.operands])).c_inv
    have e2 := (hy ▸ hr y (by simp [Op.operands, Call.operands])).c_inv
    have e3 := (hz ▸ hr z (by simp [Op.operands, Call.operands])).c_inv
    exact ⟨_, by simp [execOp, resolve, invoke, builtin, e1, e2, e3, max_int3], .c _ _⟩
theorem ap_max4 (ats : Array TypeId) (x y z u : Operand) {k : IntKind} {a b c e : Int} (hx : ev x = .c (.int k a)) (hy : ev y = .c (.int k b)) (hz : ev z = .c (.int k c)) (hu : ev u = .c (.int k e)) : APure P ⟨d, .call { callee := .builtin .max, args := #[x, y, z, u], argTypes := ats }, ty, pos, af, gd⟩ ev (.c (.int k (max (max (max a b) c) e))) :=
  APure.same rfl fun w L ρ g hr => by
    have e1 := (hx ▸ hr x (by simp [Op.operands, Call.operands])).c_inv
    have e2 := (hy ▸ hr y (by simp [Op.operands, Call.operands])).c_inv
    have e3 := (hz ▸ hr z (by simp [Op.operands, Call.operands])).c_inv
    have e4 := (hu ▸ hr u (by simp [Op.operands, Call.operands])).c_inv
    exact ⟨_, by simp [execOp, resolve, invoke, builtin, e1, e2, e3, e4, max_int4], .c _ _⟩
end
end Go.Ab
