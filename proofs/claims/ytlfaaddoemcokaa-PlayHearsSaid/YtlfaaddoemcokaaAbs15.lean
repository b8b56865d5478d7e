/-
  The rules that a walk uses. No condition.
-/
import Derived.Test.YtlfaaddoemcokaaAbs14
namespace Go.Ab
open Go.RowKit Go.Dw

mutual
theorem V.ren_idf (g : Nat → Nat) : ∀ v : V, v.idf = true → v.ren g = v
  | .agg cs, h => by rw [V.idf] at h; rw [V.ren, V.renL_idf g cs h]
  | .tup cs, h => by rw [V.idf] at h; rw [V.ren, V.renL_idf g cs h]
  | .fn f a b, h => by rw [V.idf, Bool.and_eq_true] at h; rw [V.ren, V.renL_idf g a h.1, V.renL_idf g b h.2]
  | .ifc t v, h => by rw [V.idf] at h; rw [V.ren, V.ren_idf g v h]
  | .gd q v, h => by rw [V.idf] at h; rw [V.ren, V.ren_idf g v h]
  | .own _, h => by simp [V.idf] at h
  | .ref _ _, h => by simp [V.idf] at h
  | .oel _ _ _ _, h => by simp [V.idf] at h
  | .any, _ => rfl
  | .c _, _ => rfl
  | .nil, _ => rfl
  | .emp, _ => rfl
  | .sl _ _ _, _ => rfl
  | .ptr _, _ => rfl
theorem V.renL_idf (g : Nat → Nat) : ∀ l : List V, V.idfL l = true → V.renL g l = l
  | [], _ => rfl
  | v :: l, h => by rw [V.idfL, Bool.and_eq_true] at h; rw [V.renL, V.ren_idf g v h.1, V.renL_idf g l h.2]
end

def noGd : List V → Bool
  | [] => true
  | .gd _ _ :: _ => false
  | _ :: l => noGd l
theorem noGd_spec : ∀ {l : List V}, noGd l = true → ∀ v ∈ l, ugOk true v
  | [], _, v, hv => by simp at hv
  | u :: l, h, v, hv => by
    rcases List.mem_cons.1 hv with rfl | hv
    · cases v <;> first | trivial | (simp [noGd] at h)
    · refine noGd_spec (l := l) ?_ v hv
      cases u <;> first | exact h | (simp [noGd] at h)
def ugL (g : Bool) : List V → Prop
  | [] => True
  | v :: l => ugOk g v ∧ ugL g l
theorem ugL_spec {g : Bool} : ∀ {l : List V}, ugL g l → ∀ v ∈ l, ugOk g v
  | [], _, v, hv => by simp at hv
  | u :: l, h, v, hv => by
    rcases List.mem_cons.1 hv with rfl | hv
    · exact h.1
    · exact ugL_spec h.2 v hv
/-- the guards of some values -/
def gds : List V → List Bool
  | [] => []
  | .gd g _ :: l => g :: gds l
  | _ :: l => gds l
theorem gds_spec {g : Bool} : ∀ {l : List V} {n : Nat}, gds l = List.replicate n g → ugL g l
  | [], _, _ => trivial
  | u :: l, n, h => by
    have key : ∀ n, gds (u :: l) = List.replicate n g → ugOk g u ∧ ∃ m, gds l = List.replicate m g := by
      intro n h
      cases u with
      | gd g' v =>
        simp only [gds] at h
        cases n with
        | zero => simp at h
        | succ n =>
          simp only [List.replicate_succ, List.cons.injEq] at h
          exact ⟨fun hg => by rw [h.1]; exact hg, n, h.2⟩
      | _ => exact ⟨trivial, n, h⟩
    obtain ⟨h1, m, h2⟩ := key n h
    exact ⟨h1, gds_spec h2⟩
def opsV (tm : Nat → V) (o : Oper) : List V := o.op.operands.toList.map (ev tm)
theorem opsV_mem {tm : Nat → V} {o : Oper} {x : Operand} (h : x ∈ o.op.operands) : ev tm x ∈ opsV tm o := List.mem_map.2 ⟨x, by simpa using h, rfl⟩
def dstOk (o : Oper) : Bool := match o.dst with
  | some t => decide (t < 1000)
  | none => match o.op with
    | .store _ _ _ => true
    | _ => false
theorem dstOk_spec {o : Oper} (h : dstOk o = true) : o.dst.isSome = true ∨ (match o.op with | .store _ _ _ => True | _ => False) := by
  unfold dstOk at h
  cases hd : o.dst with
  | some t => exact .inl rfl
  | none =>
    rw [hd] at h
    right
    simp only at h
    split at h
    · trivial
    · cases h
theorem dstOk_lt {o : Oper} (h : dstOk o = true) {t : Nat} (ht : o.dst = some t) : t < 1000 := by
  unfold dstOk at h
  rw [ht] at h
  exact of_decide_eq_true h

section
variable {P : Program} {N : Nat} {C : Cx P N} {T : List TI} {ops : Array Oper} {nx : Nat} {o : Oper} {os : List Oper} {tm : Nat → V} {σ : Nat → Option Ob} {ks : List (List Nat × List Nat)} {K : (Nat → V) → (Nat → Option Ob) → List (List Nat × List Nat) → Prop}
theorem aops_ev (hT : TabOk T P) (wr : Bool) (M : List Nat) {c : Prop} {v : V} {pre : List (Nat × Ob)} {nw : List Nat} {δ : List (Nat × Option Ob)} (hg : o.guard = none) (hd : dstOk o = true) (hn : noGd (opsV tm o) = true) (h : astep T wr M nx o (fun x => ug (ev tm x)) σ = some ⟨c, v, pre, nw, δ⟩) (hc : c)
    (hk : AOps C ops nx os (updO tm o.dst v) (upds σ δ) (ks ++ [(keysD δ, keysP pre ++ keysD δ)]) K) : AOps C ops nx (o :: os) tm σ ks K := by
  obtain ⟨h1, h2, h3⟩ := astep_sound (W := C.W) (LB := C.LB) hT o h hc (dstOk_spec hd)
  refine aops_one hg (fun x hx => noGd_spec hn _ (opsV_mem hx)) h1 h2 ?_ hk
  rcases h3 with h3 | ⟨t, ht, h3⟩
  · simp only at h3; subst h3; simp [nwOk]
  · simp only at h3; subst h3
    have hlt : @LT.lt Nat _ t 1000 := dstOk_lt hd ht
    revert hlt ht
    generalize (t : Nat) = t'
    intro ht hlt
    intro id hid
    simp only [List.mem_singleton] at hid
    subst hid
    exact ⟨t', ht, by omega, by omega, by omega⟩
theorem aops_evG (hT : TabOk T P) (wr : Bool) (M : List Nat) (n : Nat) {g : Bool} {c : Prop} {v : V} {pre : List (Nat × Ob)} (hg : guardV (ops.toList.map (·.dst)) tm o = some (some g)) (hd : dstOk o = true) (h : astep T wr M nx o (fun x => ug (ev tm x)) σ = some ⟨c, v, pre, [], []⟩) (hu : gds (opsV tm o) = List.replicate n g) (hc : g = true → c)
    (hk : AOps C ops nx os (updO tm o.dst (.gd g v)) σ (ks ++ [([], keysP pre)]) K) : AOps C ops nx (o :: os) tm σ ks K :=
  aops_guard hg (fun x hx => ugL_spec (gds_spec hu) _ (opsV_mem hx)) (fun hg => ⟨(astep_sound (W := C.W) (LB := C.LB) hT o h (hc hg) (dstOk_spec hd)).1, (astep_sound (W := C.W) (LB := C.LB) hT o h (hc hg) (dstOk_spec hd)).2.1⟩) hk
variable {d : Option Tmp} {ty : TypeId} {pos : String} {af : Array Edge}
theorem aops_pickG {gd' : Nat × Bool} (x a b : Operand) {g t : Bool} {v : V} (hg : guardV (ops.toList.map (·.dst)) tm ⟨d, .pick x a b, ty, pos, af, some gd'⟩ = some (some g)) (h : ug (ev tm x) = .b t) (hv : pickV t (ug (ev tm a)) (ug (ev tm b)) = some v) (hx : ugOk g (ev tm x)) (ha : g = true → pickOk t true (ev tm a)) (hb : g = true → pickOk t false (ev tm b))
    (hk : AOps C ops nx os (updO tm d (.gd g v)) σ (ks ++ [([], [])]) K) : AOps C ops nx (⟨d, .pick x a b, ty, pos, af, some gd'⟩ :: os) tm σ ks K := by
  have hw := guardV_spec hg
  refine ⟨⟨g, .gd g v, [], [], []⟩, ⟨hw, fun he => ?_, fun he => ?_⟩, by simpa [keysD, keysP, upds] using hk⟩
  · subst he
    refine ⟨?_, by simp, by simp [nwOk]⟩
    have key : APure P ⟨d, .pick x a b, ty, pos, af, some gd'⟩ (fun y => ev tm y) v := by
      refine APure.same rfl fun w L ρ q hr => ?_
      have hr' : ∀ y ∈ (Op.pick x a b).operands, R w L ρ (ev tm y) (q y) := fun y hy => by simpa using hr y hy
      have h1 := (hr' x (by simp [Op.operands])).ug hx
      rw [h] at h1
      have hxx := h1.c_inv
      refine ⟨if t then q a else q b, by simp [execOp, hxx, asBool], ?_⟩
      have kk : ∀ (q' : Bool) (u : V) (y : Value), pickOk t q' u → t = q' → R w L ρ u y → R w L ρ (ug u) y := by
        intro q' u y ho hq hu
        refine hu.ug ?_
        cases u <;> first | trivial | exact fun _ => ho hq
      obtain ⟨x', y', ea, eb, rfl⟩ : ∃ x' y', ug (ev tm a) = .b x' ∧ ug (ev tm b) = .b y' ∧ v = .b (cond t x' y') := by
        revert hv
        generalize ug (ev tm a) = A
        generalize ug (ev tm b) = B
        intro hv
        unfold pickV at hv
        split at hv
        · exact ⟨true, _, rfl, rfl, by injection hv with hv; rw [← hv]; cases t <;> rfl⟩
        · exact ⟨_, false, rfl, rfl, by injection hv with hv; rw [← hv]; cases t <;> simp⟩
        · exact ⟨_, _, rfl, rfl, by injection hv with hv; exact hv.symm⟩
        · cases hv
      cases t with
      | true => have := kk true _ _ (ha rfl) rfl (hr' a (by simp [Op.operands])); rw [ea] at this; simpa [this.c_inv] using R.c ρ (.bool x')
      | false => have := kk false _ _ (hb rfl) rfl (hr' b (by simp [Op.operands])); rw [eb] at this; simpa [this.c_inv] using R.c ρ (.bool y')
    intro σ w L ρ q hG hr hp hn
    refine (key.step σ w L ρ q hG (fun y hy => by simpa using hr y hy) hp hn).mono ?_
    rintro y w' ⟨L', ρ', h1, h2, h3⟩
    exact ⟨L', ρ', h1, .gd _ _ _ _ (fun _ => h2) (fun e => by cases e), h3⟩
  · subst he
    exact ⟨fun w L ρ => .gd _ _ _ _ (fun e => by cases e) fun _ => rfl, rfl, rfl⟩
theorem aops_call {fo : Operand} {ar : Array Operand} {ats : Array TypeId} {f : FuncId} {first caps args : List V} {v : V} {obs : List Ob} (hc : AC P f args v obs) (hf : ev tm fo = .fn (.func f) first caps) (hargs : first ++ ar.toList.map (ev tm) ++ caps = args) (hidf : V.idfL args = true)
    (hd : d.all (fun t => decide (t < 1000)) = true) (hds : d.isSome = true) (hobs : obs.length ≤ 90)
    (hk : AOps C ops nx os (updO tm d (v.ren (callG nx d))) (upds σ (callD (callG nx d) 0 obs)) (ks ++ [(keysD (callD (callG nx d) 0 obs), keysD (callD (callG nx d) 0 obs))]) K) : AOps C ops nx (⟨d, .call { callee := .value fo, args := ar, argTypes := ats }, ty, pos, af, none⟩ :: os) tm σ ks K := by
  refine aops_step rfl (as_call hc hf hargs hidf nx hd hobs) (by simp) ?_ (by simpa [keysP] using hk)
  obtain ⟨t, rfl⟩ : ∃ t : Nat, d = some t := Option.isSome_iff_exists.1 hds
  have hd : t < 1000 := by simpa using hd
  intro id hid
  obtain ⟨j, hj, rfl⟩ := List.mem_map.1 hid
  have hj' : j < obs.length := by simpa using hj
  refine ⟨t, rfl, ?_, ?_, ?_⟩ <;> simp only [callG, Option.getD_some] <;> omega
/-- a call that makes nothing to be written on -/
theorem aops_call0 {fo : Operand} {ar : Array Operand} {ats : Array TypeId} {f : FuncId} {first caps args : List V} {v : V} (hc : AC P f args v []) (hf : ev tm fo = .fn (.func f) first caps) (hargs : first ++ ar.toList.map (ev tm) ++ caps = args) (hidf : V.idfL args = true) (hv : v.idf = true)
    (hd : d.all (fun t => decide (t < 1000)) = true) (hds : d.isSome = true)
    (hk : AOps C ops nx os (updO tm d v) σ (ks ++ [([], [])]) K) : AOps C ops nx (⟨d, .call { callee := .value fo, args := ar, argTypes := ats }, ty, pos, af, none⟩ :: os) tm σ ks K := by
  refine aops_call hc hf hargs hidf hd hds (by simp) ?_
  rw [V.ren_idf _ _ hv]
  exact hk
/-- under a guard -/
theorem aops_callG (n : Nat) {gd' : Nat × Bool} {g : Bool} {fo : Operand} {ar : Array Operand} {ats : Array TypeId} {f : FuncId} {first caps args : List V} {v : V} (hg : guardV (ops.toList.map (·.dst)) tm ⟨d, .call { callee := .value fo, args := ar, argTypes := ats }, ty, pos, af, some gd'⟩ = some (some g))
    (hc : g = true → AC P f args v []) (hf : ug (ev tm fo) = .fn (.func f) first caps) (hargs : first ++ ar.toList.map (fun x => ug (ev tm x)) ++ caps = args) (hidf : V.idfL args = true) (hv : v.idf = true) (hd : d.all (fun t => decide (t < 1000)) = true) (hu : gds (opsV tm ⟨d, .call { callee := .value fo, args := ar, argTypes := ats }, ty, pos, af, some gd'⟩) = List.replicate n g)
    (hk : AOps C ops nx os (updO tm d (.gd g v)) σ (ks ++ [([], [])]) K) : AOps C ops nx (⟨d, .call { callee := .value fo, args := ar, argTypes := ats }, ty, pos, af, some gd'⟩ :: os) tm σ ks K := by
  refine aops_guard (pre := []) hg (fun x hx => ugL_spec (gds_spec hu) _ (opsV_mem hx)) (fun he => ?_) (by simpa [keysP] using hk)
  have := as_call (W := C.W) (LB := C.LB) (d := d) (ty := ty) (pos := pos) (af := af) (gd := some gd') (ats := ats) (ev := fun x => ug (ev tm x)) (hc he) hf hargs hidf nx hd (by simp)
  rw [V.ren_idf _ _ hv] at this
  exact ⟨this, by simp⟩
end

/-! ### The same rules, with what they leave spelt out -/
section
variable {P : Program} {N : Nat} {C : Cx P N} {T : List TI} {ops : Array Oper} {nx : Nat} {o : Oper} {os : List Oper} {tm : Nat → V} {σ : Nat → Option Ob} {ks : List (List Nat × List Nat)} {K : (Nat → V) → (Nat → Option Ob) → List (List Nat × List Nat) → Prop}
theorem e_val (hT : TabOk T P) (wr : Bool) (M : List Nat) {t : Nat} {c : Prop} {v0 v : V} {pre : List (Nat × Ob)} {kp : List Nat} (hg : o.guard = none) (ht : o.dst = some t) (hd : dstOk o = true) (hn : noGd (opsV tm o) = true) (h : astep T wr M nx o (fun x => ug (ev tm x)) σ = some ⟨c, v0, pre, [], []⟩) (hv : v0 = v) (hkp : keysP pre = kp) (hc : c)
    (hk : AOps C ops nx os (upd tm t v) σ (ks ++ [([], kp)]) K) : AOps C ops nx (o :: os) tm σ ks K := by
  subst hv hkp
  refine aops_ev hT wr M hg hd hn h hc ?_
  rw [ht]
  simpa [keysD, upds, updO] using hk
theorem e_new (hT : TabOk T P) (wr : Bool) (M : List Nat) {t : Nat} {c : Prop} {v0 v : V} {pre : List (Nat × Ob)} {nw : List Nat} {k k0 : Nat} {ob ob0 : Option Ob} {kp : List Nat} (hg : o.guard = none) (ht : o.dst = some t) (hd : dstOk o = true) (hn : noGd (opsV tm o) = true) (h : astep T wr M nx o (fun x => ug (ev tm x)) σ = some ⟨c, v0, pre, nw, [(k0, ob0)]⟩) (hv : v0 = v) (hk0 : k0 = k) (hob : ob0 = ob) (hkp : keysP pre = kp) (hc : c)
    (hk : AOps C ops nx os (upd tm t v) (upd σ k ob) (ks ++ [([k], kp ++ [k])]) K) : AOps C ops nx (o :: os) tm σ ks K := by
  subst hv hk0 hob hkp
  refine aops_ev hT wr M hg hd hn h hc ?_
  rw [ht]
  simpa [keysD, upds, updO] using hk
theorem e_two (hT : TabOk T P) (wr : Bool) (M : List Nat) {t : Nat} {c : Prop} {v0 v : V} {pre : List (Nat × Ob)} {nw : List Nat} {k k0 k' k0' : Nat} {ob ob0 ob' ob0' : Option Ob} {kp : List Nat} (hg : o.guard = none) (ht : o.dst = some t) (hd : dstOk o = true) (hn : noGd (opsV tm o) = true) (h : astep T wr M nx o (fun x => ug (ev tm x)) σ = some ⟨c, v0, pre, nw, [(k0, ob0), (k0', ob0')]⟩) (hv : v0 = v) (hk0 : k0 = k) (hob : ob0 = ob) (hk0' : k0' = k') (hob' : ob0' = ob') (hkp : keysP pre = kp) (hc : c)
    (hk : AOps C ops nx os (upd tm t v) (upd (upd σ k ob) k' ob') (ks ++ [([k, k'], kp ++ [k, k'])]) K) : AOps C ops nx (o :: os) tm σ ks K := by
  subst hv hk0 hob hk0' hob' hkp
  refine aops_ev hT wr M hg hd hn h hc ?_
  rw [ht]
  simpa [keysD, upds, updO] using hk
theorem e_store (hT : TabOk T P) (wr : Bool) (M : List Nat) {c : Prop} {v0 : V} {pre : List (Nat × Ob)} {k k0 : Nat} {ob ob0 : Option Ob} {kp : List Nat} (hg : o.guard = none) (ht : o.dst = none) (hd : dstOk o = true) (hn : noGd (opsV tm o) = true) (h : astep T wr M nx o (fun x => ug (ev tm x)) σ = some ⟨c, v0, pre, [], [(k0, ob0)]⟩) (hk0 : k0 = k) (hob : ob0 = ob) (hkp : keysP pre = kp) (hc : c)
    (hk : AOps C ops nx os tm (upd σ k ob) (ks ++ [([k], kp ++ [k])]) K) : AOps C ops nx (o :: os) tm σ ks K := by
  subst hk0 hob hkp
  refine aops_ev hT wr M hg hd hn h hc ?_
  rw [ht]
  simpa [keysD, upds, updO] using hk
theorem e_grd (hT : TabOk T P) (wr : Bool) (M : List Nat) (n : Nat) {t : Nat} {g : Bool} {c : Prop} {v0 v : V} {pre : List (Nat × Ob)} {kp : List Nat} (hg : guardV (ops.toList.map (·.dst)) tm o = some (some g)) (ht : o.dst = some t) (hd : dstOk o = true) (h : astep T wr M nx o (fun x => ug (ev tm x)) σ = some ⟨c, v0, pre, [], []⟩) (hu : gds (opsV tm o) = List.replicate n g) (hv : v0 = v) (hkp : keysP pre = kp) (hc : g = true → c)
    (hk : AOps C ops nx os (upd tm t (.gd g v)) σ (ks ++ [([], kp)]) K) : AOps C ops nx (o :: os) tm σ ks K := by
  subst hv hkp
  refine aops_evG hT wr M n hg hd h hu hc ?_
  rw [ht]
  exact hk
variable {ty : TypeId} {pos : String} {af : Array Edge}
theorem e_pick {d : Nat} {x a b : Operand} {t : Bool} {v : V} (h : ev tm x = .b t) (ha : pickOk t true (ev tm a)) (hb : pickOk t false (ev tm b)) (hv : pickV t (ug (ev tm a)) (ug (ev tm b)) = some v)
    (hk : AOps C ops nx os (upd tm d v) σ (ks ++ [([], [])]) K) : AOps C ops nx (⟨some d, .pick x a b, ty, pos, af, none⟩ :: os) tm σ ks K := aops_pick x a b h ha hb hv hk
theorem e_pickG {d : Nat} {gd' : Nat × Bool} {x a b : Operand} {g t : Bool} {v : V} (hg : guardV (ops.toList.map (·.dst)) tm ⟨some d, .pick x a b, ty, pos, af, some gd'⟩ = some (some g)) (h : ug (ev tm x) = .b t) (hv : pickV t (ug (ev tm a)) (ug (ev tm b)) = some v) (hx : ugOk g (ev tm x)) (ha : g = true → pickOk t true (ev tm a)) (hb : g = true → pickOk t false (ev tm b))
    (hk : AOps C ops nx os (upd tm d (.gd g v)) σ (ks ++ [([], [])]) K) : AOps C ops nx (⟨some d, .pick x a b, ty, pos, af, some gd'⟩ :: os) tm σ ks K := aops_pickG x a b hg h hv hx ha hb hk
theorem e_call {d : Nat} {fo : Operand} {ar : Array Operand} {ats : Array TypeId} {f : FuncId} {first caps args : List V} {v : V} (hc : AC P f args v []) (hf : ev tm fo = .fn (.func f) first caps) (hargs : first ++ ar.toList.map (ev tm) ++ caps = args) (hidf : V.idfL args = true) (hv : v.idf = true) (hd : decide (d < 1000) = true)
    (hk : AOps C ops nx os (upd tm d v) σ (ks ++ [([], [])]) K) : AOps C ops nx (⟨some d, .call { callee := .value fo, args := ar, argTypes := ats }, ty, pos, af, none⟩ :: os) tm σ ks K :=
  aops_call0 hc hf hargs hidf hv hd rfl hk
/-- a call that makes one object of the caller's own -/
theorem e_callO {d : Nat} {fo : Operand} {ar : Array Operand} {ats : Array TypeId} {f : FuncId} {first caps args : List V} {v v' : V} {ob ob' : Ob} (hc : AC P f args v [ob]) (hf : ev tm fo = .fn (.func f) first caps) (hargs : first ++ ar.toList.map (ev tm) ++ caps = args) (hidf : V.idfL args = true) (hd : decide (d < 1000) = true)
    (hv : v.ren (callG nx (some d)) = v') (hob : ob.ren (callG nx (some d)) = ob') {k : Nat} (hk0 : nx * 100000 + d = k)
    (hk : AOps C ops nx os (upd tm d v') (upd σ k (some ob')) (ks ++ [([k], [k])]) K) : AOps C ops nx (⟨some d, .call { callee := .value fo, args := ar, argTypes := ats }, ty, pos, af, none⟩ :: os) tm σ ks K := by
  subst hv hob hk0
  have e : callG nx (some d) 0 = nx * 100000 + d := by simp [callG]
  refine aops_call hc hf hargs hidf hd rfl (by simp) ?_
  simp only [callD, keysD, List.map_cons, List.map_nil, upds, e]
  exact hk
theorem e_callG (n : Nat) {d : Nat} {gd' : Nat × Bool} {g : Bool} {fo : Operand} {ar : Array Operand} {ats : Array TypeId} {f : FuncId} {first caps args : List V} {v : V} (hg : guardV (ops.toList.map (·.dst)) tm ⟨some d, .call { callee := .value fo, args := ar, argTypes := ats }, ty, pos, af, some gd'⟩ = some (some g))
    (hc : g = true → AC P f args v []) (hf : ug (ev tm fo) = .fn (.func f) first caps) (hargs : first ++ ar.toList.map (fun x => ug (ev tm x)) ++ caps = args) (hidf : V.idfL args = true) (hv : v.idf = true) (hd : decide (d < 1000) = true) (hu : gds (opsV tm ⟨some d, .call { callee := .value fo, args := ar, argTypes := ats }, ty, pos, af, some gd'⟩) = List.replicate n g)
    (hk : AOps C ops nx os (upd tm d (.gd g v)) σ (ks ++ [([], [])]) K) : AOps C ops nx (⟨some d, .call { callee := .value fo, args := ar, argTypes := ats }, ty, pos, af, some gd'⟩ :: os) tm σ ks K :=
  aops_callG n hg hc hf hargs hidf hv hd hu hk
variable {Q : Exit → S → Prop} {id : Nat} {ol : List Oper}
theorem w_region {n' : Nat} (hok : okReg N ol = true) (hn : nx + 1 = n') (h : AOps C ol.toArray nx ol tm σ [] fun tm' σ' _ => Q .normal ⟨tm', σ', n'⟩) : AW C (.region id ol.toArray false) Q ⟨tm, σ, nx⟩ := by subst hn; exact aw_region hok h
theorem w_regionD {n' : Nat} (hok : okReg N ol = true) (hn : nx + 1 = n') (h : AOps C ol.toArray nx ol tm σ [] fun tm' σ' ks => okDraw ol ks = true ∧ Q .normal ⟨tm', σ', n'⟩) : AW C (.region id ol.toArray true) Q ⟨tm, σ, nx⟩ := by subst hn; exact aw_regionD hok h
theorem w_cond {c : Operand} {x y : Code} {t : Bool} (hc : ev tm c = .b t) (h1 : t = true → AW C x Q ⟨tm, σ, nx⟩) (h2 : t = false → AW C y Q ⟨tm, σ, nx⟩) : AW C (.cond c x y) Q ⟨tm, σ, nx⟩ := aw_cond hc h1 h2
theorem w_true {c : Operand} {x y : Code} {t : Bool} (hc : ev tm c = .b t) (ht : t = true) (h1 : AW C x Q ⟨tm, σ, nx⟩) : AW C (.cond c x y) Q ⟨tm, σ, nx⟩ := aw_cond hc (fun _ => h1) fun h => by rw [ht] at h; cases h
theorem w_false {c : Operand} {x y : Code} {t : Bool} (hc : ev tm c = .b t) (ht : t = false) (h1 : AW C y Q ⟨tm, σ, nx⟩) : AW C (.cond c x y) Q ⟨tm, σ, nx⟩ := aw_cond hc (fun h => by rw [ht] at h; cases h) fun _ => h1
end

section
variable {next : S → Prop} {Q : Exit → S → Prop} {s : S} {id id' : Nat}
theorem xt_n (h : next s) : XThen next Q .normal s := h
theorem xt_r (h : Q .ret s) : XThen next Q .ret s := h
theorem xt_x (h : Q (.exit id) s) : XThen next Q (.exit id) s := h
theorem xb_n (h : Q .normal s) : XBlock id Q .normal s := h
theorem xb_r (h : Q .ret s) : XBlock id Q .ret s := h
theorem xb_same (h : Q .normal s) : XBlock id Q (.exit id) s := by simpa [XBlock] using h
theorem xb_ne (hne : (id' == id) = false) (h : Q (.exit id') s) : XBlock id Q (.exit id') s := by
  have : ¬ id' = id := by simpa using hne
  simpa [XBlock, this] using h
theorem ret_pure {T : List TI} {fn : Func} {v v' : V} {e : Exit} (he : e = .normal ∨ e = .ret) (hres : resV T s fn.results.toList = some v') (hv : v' = v) (hi : v'.idf = true) : RetPost T fn v [] e s := by
  subst hv
  exact ⟨he, s, Le.refl _, hres, by simp, V.ren_idf _ _ hi, by simp⟩
end

/-! ### Slices of numbers and of points -/
def V.ints (l : List Int) : V := .sl 1 l.length fun k => [.i (gi l k)]
def V.pts (l : List Pt) : V := .sl 2 l.length fun k => [.i (gp l k).1, .i (gp l k).2]
end Go.Ab
