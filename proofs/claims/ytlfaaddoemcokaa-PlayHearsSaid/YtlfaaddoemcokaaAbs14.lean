/-
  The step of an operation as a function of values; regions by it. No condition.
-/
import Derived.Test.YtlfaaddoemcokaaAbs13
namespace Go.Ab
open Go.RowKit Go.Dw

structure SR where
  c : Prop
  v : V
  pre : List (Nat × Ob)
  nw : List Nat
  δ : List (Nat × Option Ob)

/-- a value under the guard of its operation -/
def ug : V → V
  | .gd _ v => v
  | v => v
def ugOk (g : Bool) : V → Prop
  | .gd g' _ => g = true → g' = true
  | _ => True
def guardV (ds : List (Option Tmp)) (tm : Nat → V) (o : Oper) : Option (Option Bool) :=
  match o.guard with
  | none => some none
  | some (j, b) => match (ds[j]?).bind id with
    | some d => match tm d with
      | .c (.bool x) => some (some (x == b))
      | .gd g (.c (.bool x)) => some (some (g && (x == b)))
      | _ => none
    | none => none
theorem guardV_spec {ops : Array Oper} {tm : Nat → V} {o : Oper} {r : Option Bool} (h : guardV (ops.toList.map (·.dst)) tm o = some r) : wantedV ops tm o = some (r.getD true) := by
  unfold guardV at h
  unfold wantedV
  split at h
  · rename_i hg
    injection h with h
    subst h
    rw [hg]; rfl
  · rename_i j b hg
    rw [hg]
    simp only
    have e1 : ((ops.toList.map (·.dst))[j]?).bind id = (ops[j]?).bind (·.dst) := by
      rw [List.getElem?_map, Array.getElem?_toList]
      cases ops[j]? <;> rfl
    rw [e1] at h
    split at h
    · rename_i d hd
      rw [hd]
      simp only
      split at h
      · rename_i x hx; injection h with h; subst h; rw [hx]; rfl
      · rename_i g x hx; injection h with h; subst h; rw [hx]; rfl
      · cases h
    · cases h

/-- the step is the same for an environment that says more -/
theorem AStep.weaken {P : Program} {W LB : Nat → Prop} {o : Oper} {e e' : Operand → V} {v : V} {pre : List (Nat × Ob)} {nw : List Nat} {δ : List (Nat × Option Ob)} (h : AStep P W LB o e v pre nw δ)
    (hw : ∀ x ∈ o.op.operands, ∀ w L ρ y, R w L ρ (e' x) y → R w L ρ (e x) y) : AStep P W LB o e' v pre nw δ :=
  fun σ w L ρ g hG hr hp hn => h σ w L ρ g hG (fun x hx => hw x hx w L ρ _ (hr x hx)) hp hn
theorem R.ug {w : World} {L : Nat → Prop} {ρ : Nat → Option Value} {v : V} {y : Value} (h : R w L ρ v y) (hg : ugOk true v) : R w L ρ (ug v) y := by
  cases h with
  | gd _ g u _ h h' => exact h (hg rfl)
  | any => exact .any _ _
  | c => exact .c _ _
  | agg _ _ _ f hl hf hr => exact .agg _ _ _ f hl hf hr
  | tup _ _ _ f hl hf hr => exact .tup _ _ _ f hl hf hr
  | nil => exact .nil _
  | emp => exact .emp _ _
  | sl0 => exact .sl0 _ _ _ _ _
  | sl _ _ _ _ _ _ _ f hb hcap hlen hf hr => exact .sl _ _ _ _ _ _ _ f hb hcap hlen hf hr
  | ptr _ _ _ _ f hb hf hr => exact .ptr _ _ _ _ f hb hf hr
  | own _ _ _ h h1 => exact .own _ _ _ h h1
  | ref _ _ _ _ h => exact .ref _ _ _ _ h
  | oel _ _ _ _ _ _ n c h => exact .oel _ _ _ _ _ _ n c h
  | fn _ _ _ _ _ _ p q hl hm hp hq hr hs => exact .fn _ _ _ _ _ _ p q hl hm hp hq hr hs
  | ifc _ _ _ _ h => exact .ifc _ _ _ _ h

section
variable {P : Program} {N : Nat} {C : Cx P N} {ops : Array Oper} {nx : Nat} {o : Oper} {os : List Oper} {tm : Nat → V} {σ : Nat → Option Ob} {ks : List (List Nat × List Nat)} {K : (Nat → V) → (Nat → Option Ob) → List (List Nat × List Nat) → Prop}
/-- an operation without a guard -/
theorem aops_one {v : V} {pre : List (Nat × Ob)} {nw : List Nat} {δ : List (Nat × Option Ob)} (hg : o.guard = none) (hu : ∀ x ∈ o.op.operands, ugOk true (ev tm x)) (h : AStep P C.W C.LB o (fun x => ug (ev tm x)) v pre nw δ) (hp : ∀ p ∈ pre, σ p.1 = some p.2) (hn : nwOk nx o.dst nw)
    (hk : AOps C ops nx os (updO tm o.dst v) (upds σ δ) (ks ++ [(keysD δ, keysP pre ++ keysD δ)]) K) : AOps C ops nx (o :: os) tm σ ks K :=
  aops_step hg (h.weaken fun x hx w L ρ y hy => hy.ug (hu x hx)) hp hn hk
/-- an operation under a guard that makes nothing -/
theorem aops_guard {v : V} {pre : List (Nat × Ob)} {g : Bool} (hg : guardV (ops.toList.map (·.dst)) tm o = some (some g)) (hu : ∀ x ∈ o.op.operands, ugOk g (ev tm x)) (h : g = true → AStep P C.W C.LB o (fun x => ug (ev tm x)) v pre [] [] ∧ ∀ p ∈ pre, σ p.1 = some p.2)
    (hk : AOps C ops nx os (updO tm o.dst (.gd g v)) σ (ks ++ [([], keysP pre)]) K) : AOps C ops nx (o :: os) tm σ ks K := by
  have hw := guardV_spec hg
  refine ⟨⟨g, .gd g v, pre, [], []⟩, ⟨hw, fun he => ?_, fun he => ?_⟩, by simpa [keysD, upds] using hk⟩
  · subst he
    refine ⟨fun σ w L ρ q hG hr hp hn => ((h rfl).1 σ w L ρ q hG (fun x hx => (hr x hx).ug (hu x hx)) hp hn).mono ?_, (h rfl).2, by simp [nwOk]⟩
    rintro x w' ⟨L', ρ', h1, h2, h3⟩
    exact ⟨L', ρ', h1, .gd _ _ _ _ (fun _ => h2) (fun e => by cases e), h3⟩
  · subst he
    exact ⟨fun w L ρ => .gd _ _ _ _ (fun e => by cases e) fun _ => rfl, rfl, rfl⟩
/-- the choice behind '&&' and '||' -/
def pickV (t : Bool) (a b : V) : Option V :=
  match a, b with
  | .c (.bool true), .c (.bool y) => some (.b (t || y))
  | .c (.bool x), .c (.bool false) => some (.b (t && x))
  | .c (.bool x), .c (.bool y) => some (.b (cond t x y))
  | _, _ => none
def pickOk (t : Bool) (b : Bool) : V → Prop
  | .gd g _ => t = b → g = true
  | _ => True
theorem ap_pickB {d : Option Tmp} {ty : TypeId} {pos : String} {af : Array Edge} {gd : Option (Nat × Bool)} {e : Operand → V} (x a b : Operand) {t : Bool} {v : V} (h : e x = .b t) (ha : pickOk t true (e a)) (hb : pickOk t false (e b)) (hv : pickV t (ug (e a)) (ug (e b)) = some v) :
    APure P ⟨d, .pick x a b, ty, pos, af, gd⟩ e v :=
  APure.same rfl fun w L ρ g hr => by
    have h1 := hr x (by simp [Op.operands])
    have h2 := hr a (by simp [Op.operands])
    have h3 := hr b (by simp [Op.operands])
    rw [h] at h1
    have hx := h1.c_inv
    refine ⟨if t then g a else g b, by simp [execOp, hx, asBool], ?_⟩
    have key : ∀ (q : Bool) (u : V) (y : Value), pickOk t q u → t = q → R w L ρ u y → R w L ρ (ug u) y := by
      intro q u y ho hq hu
      refine hu.ug ?_
      cases u <;> first | trivial | exact fun _ => ho hq
    obtain ⟨x', y', ea, eb, rfl⟩ : ∃ x' y', ug (e a) = .b x' ∧ ug (e b) = .b y' ∧ v = .b (cond t x' y') := by
      revert hv
      generalize ug (e a) = A
      generalize ug (e b) = B
      intro hv
      unfold pickV at hv
      split at hv
      · exact ⟨true, _, rfl, rfl, by injection hv with hv; rw [← hv]; cases t <;> rfl⟩
      · exact ⟨_, false, rfl, rfl, by injection hv with hv; rw [← hv]; cases t <;> simp⟩
      · exact ⟨_, _, rfl, rfl, by injection hv with hv; exact hv.symm⟩
      · cases hv
    cases t with
    | true => have := key true _ _ ha rfl h2; rw [ea] at this; simpa [this.c_inv] using R.c ρ (.bool x')
    | false => have := key false _ _ hb rfl h3; rw [eb] at this; simpa [this.c_inv] using R.c ρ (.bool y')
theorem aops_pick {d : Option Tmp} {ty : TypeId} {pos : String} {af : Array Edge} (x a b : Operand) {t : Bool} {v : V} (h : ev tm x = .b t) (ha : pickOk t true (ev tm a)) (hb : pickOk t false (ev tm b)) (hv : pickV t (ug (ev tm a)) (ug (ev tm b)) = some v)
    (hk : AOps C ops nx os (updO tm d v) σ (ks ++ [([], [])]) K) : AOps C ops nx (⟨d, .pick x a b, ty, pos, af, none⟩ :: os) tm σ ks K :=
  aops_pure rfl (ap_pickB x a b h ha hb hv) hk
end

/-! ### The step as a function -/
/-- within the range of an integer kind -/
def inR : IntKind → Int → Prop
  | .i8, n => -128 ≤ n ∧ n ≤ 127
  | .i16, n => -32768 ≤ n ∧ n ≤ 32767
  | .i32, n => -2147483648 ≤ n ∧ n ≤ 2147483647
  | .i64, n => -9223372036854775808 ≤ n ∧ n ≤ 9223372036854775807
  | .u8, n => 0 ≤ n ∧ n ≤ 255
  | .u16, n => 0 ≤ n ∧ n ≤ 65535
  | .u32, n => 0 ≤ n ∧ n ≤ 4294967295
  | .u64, n => 0 ≤ n ∧ n ≤ 18446744073709551615
theorem inR_wrap {k : IntKind} {n : Int} (h : inR k n) : k.wrap n = n := by
  cases k <;> simp only [inR] at h
  · exact IntWalk.i8_in _ h
  · exact IntWalk.i16_in _ h
  · exact IntWalk.i32_in _ h
  · exact IntWalk.i64_in _ h
  · exact IntWalk.u8_in _ h
  · exact IntWalk.u16_in _ h
  · exact IntWalk.u32_in _ h
  · exact IntWalk.u64_in _ h
theorem inR_tdiv {k : IntKind} {a b : Int} (hb : 0 < b) (h : inR k a) : inR k (a.tdiv b) := by
  have h1 : 0 ≤ a → 0 ≤ a.tdiv b ∧ a.tdiv b ≤ a := fun ha => by
    rw [Int.tdiv_eq_ediv_of_nonneg ha]
    exact ⟨Int.ediv_nonneg ha (by omega), Int.ediv_le_self _ ha⟩
  have h2 : a < 0 → a ≤ a.tdiv b ∧ a.tdiv b ≤ 0 := fun ha => by
    have e : a.tdiv b = -((-a) / b) := by
      have := Int.neg_tdiv (a := -a) (b := b)
      rw [Int.neg_neg] at this
      rw [this, Int.tdiv_eq_ediv_of_nonneg (by omega)]
    have h3 := Int.ediv_nonneg (a := -a) (b := b) (by omega) (by omega)
    have h4 := Int.ediv_le_self (a := -a) b (by omega)
    omega
  by_cases ha : 0 ≤ a
  · have := h1 ha
    cases k <;> simp only [inR] at h ⊢ <;> omega
  · have := h2 (by omega)
    cases k <;> simp only [inR] at h ⊢ <;> omega
def binK (wr : Bool) (op : BinOp) (k : IntKind) (a b : Int) : Option (Prop × V) :=
  match op with
  | .add => if wr then some (True, .c (.int k (k.wrap (a + b)))) else some (inR k (a + b), .c (.int k (a + b)))
  | .sub => if wr then some (True, .c (.int k (k.wrap (a - b)))) else some (inR k (a - b), .c (.int k (a - b)))
  | .mul => if wr then some (True, .c (.int k (k.wrap (a * b)))) else some (inR k (a * b), .c (.int k (a * b)))
  | .quo => if wr then some (b ≠ 0, .c (.int k (k.wrap (a.tdiv b)))) else some (0 < b ∧ inR k a, .c (.int k (a.tdiv b)))
  | .rem => some (b ≠ 0, .c (.int k (a.tmod b)))
  | .eql => some (True, .b (decide (a = b)))
  | .neq => some (True, .b (!decide (a = b)))
  | .lss => some (True, .b (decide (a < b)))
  | .leq => some (True, .b (decide (a ≤ b)))
  | .gtr => some (True, .b (decide (b < a)))
  | .geq => some (True, .b (decide (b ≤ a)))
  | .shl => none
  | .shr => none
  | op => some (True, .c (.int k (bitop op k a b)))
def binV (wr : Bool) (op : BinOp) : V → V → Option (Prop × V)
  | .c (.int k a), .c (.int k' b) => match op with
    | .shl => if wr then some (0 ≤ b, .c (.int k (k.wrap (a * 2 ^ (min b.toNat k.bits))))) else some (0 ≤ b ∧ b ≤ k.bits ∧ inR k (a * 2 ^ b.toNat), .c (.int k (a * 2 ^ b.toNat)))
    | .shr => some (0 ≤ b, .c (.int k (a.fdiv (2 ^ (min b.toNat k.bits)))))
    | op => if k = k' then binK wr op k a b else none
  | _, _ => none
def resSR (c : Prop) (v : V) : SR := ⟨c, v, [], [], []⟩
def loadSR (T : List TI) (t : Nat) (σ : Nat → Option Ob) : V → Option SR
  | .ptr cs => match loadV T t cs with
    | some v => some ⟨True, v, [], [], []⟩
    | none => none
  | .ref id o => match σ id with
    | some (.box t' cs) => match loadV T t (cs.drop o) with
      | some v => some ⟨o ≤ cs.length, v, [(id, .box t' cs)], [], []⟩
      | none => none
    | _ => none
  | .oel id sz i o => match σ id with
    | some (.row e sz' n row) => match loadV T t ((row i).drop o) with
      | some v => if sz' = sz then some ⟨i < n ∧ o ≤ (row i).length, v, [(id, .row e sz' n row)], [], []⟩ else none
      | none => none
    | _ => none
  | _ => none
def setCells (cs : List V) (o : Nat) : List V → List V
  | [u] => cs.set o u
  | us => splice cs o us
def storeSR (T : List TI) (t : Nat) (σ : Nat → Option Ob) (a v : V) : Option SR :=
  match cellsV v with
  | some us => match a with
    | .ref id o => match σ id with
      | some (.box t' cs) => if (T.getD t ti0).size = some us.length then some ⟨o + us.length ≤ cs.length, .any, [(id, .box t' cs)], [], [(id, some (.box t' (setCells cs o us)))]⟩ else none
      | _ => none
    | .oel id sz i o => match σ id with
      | some (.row e sz' n row) => if (T.getD t ti0).size = some us.length ∧ sz' = sz then some ⟨i < n ∧ o + us.length ≤ (row i).length, .any, [(id, .row e sz' n row)], [], [(id, some (.row e sz' n fun j => if j = i then setCells (row i) o us else row j))]⟩ else none
      | _ => none
    | _ => none
  | none => none
def indexSR (T : List TI) (t : Nat) (σ : Nat → Option Ob) (x : V) (i : Int) : Option SR :=
  match x with
  | .sl sz n row => match (T.getD t ti0).elem with
    | some e => if (T.getD e ti0).size = some sz then some (resSR (0 ≤ i ∧ i < n) (.ptr (row i.toNat))) else none
    | none => none
  | .ptr cs => match (T.getD t ti0).arr with
    | some (n, e) => match (T.getD e ti0).size with
      | some sz => some (resSR (0 ≤ i ∧ i < n) (.ptr (cs.drop (i.toNat * sz))))
      | none => none
    | none => none
  | .ref id o => match (T.getD t ti0).arr with
    | some (n, e) => match (T.getD e ti0).size with
      | some sz => some (resSR (0 ≤ i ∧ i < n) (.ref id (o + i.toNat * sz)))
      | none => none
    | none => none
  | .own id => match (T.getD t ti0).elem with
    | some e => match σ id with
      | some (.row e' sz n row) => if (T.getD e ti0).size = some sz then some ⟨0 ≤ i ∧ i < n, .oel id sz i.toNat 0, [(id, .row e' sz n row)], [], []⟩ else none
      | _ => none
    | none => none
  | _ => none
def elemOk (T : List TI) (e sz : Nat) (zs : List V) : Bool := decide ((T.getD e ti0).size = some sz) && decide (zs.length = sz) && decide (0 < sz) && (match (T.getD e ti0).bytes with | some b => decide (b ≤ 128) | none => false)
theorem elemOk_spec {T : List TI} {e sz : Nat} {zs : List V} (h : elemOk T e sz zs = true) : (T.getD e ti0).size = some sz ∧ zs.length = sz ∧ 0 < sz ∧ ∃ b, (T.getD e ti0).bytes = some b ∧ b ≤ 128 := by
  simp only [elemOk, Bool.and_eq_true, decide_eq_true_eq] at h
  obtain ⟨⟨⟨h1, h2⟩, h3⟩, h4⟩ := h
  refine ⟨h1, h2, h3, ?_⟩
  split at h4
  · exact ⟨_, by assumption, by simpa using h4⟩
  · cases h4
def appendSR (T : List TI) (t id : Nat) (σ : Nat → Option Ob) (s x : V) : Option SR :=
  match (T.getD t ti0).elem with
  | some e => match (T.getD e ti0).zero with
    | some zs => match x with
      | .sl sz m row => if elemOk T e sz zs then match s with
        | .nil => some ⟨m ≤ 1099511627776, .own id, [], [id], [(id, some (.row e sz m row))]⟩
        | .own id0 => match σ id0 with
          | some (.row e' sz' n row0) => if e' = e ∧ sz' = sz ∧ id ≠ id0 then some ⟨n + m ≤ 1099511627776, .own id, [(id0, .row e' sz' n row0)], [id], [(id0, none), (id, some (.row e' sz' (n + m) (appRow n row0 row)))]⟩ else none
          | _ => none
        | _ => none
        else none
      | _ => none
    | none => none
  | none => none
def lenSR (T : List TI) (t : Nat) (σ : Nat → Option Ob) : V → Option SR
  | .sl _ n _ => match (T.getD t ti0).elem with
    | some _ => some (resSR True (.i n))
    | none => none
  | .nil => match (T.getD t ti0).elem with
    | some _ => some (resSR True (.i 0))
    | none => none
  | .own id => match (T.getD t ti0).elem with
    | some _ => match σ id with
      | some (.row e' sz n row) => some ⟨True, .i n, [(id, .row e' sz n row)], [], []⟩
      | _ => none
    | none => none
  | _ => none
def slLo (e : Operand → V) : Option Operand → Option Int
  | none => some 0
  | some y => match e y with
    | .c (.int _ a) => some a
    | _ => none
def slHi (e : Operand → V) (n : Nat) : Option Operand → Option Int
  | none => some n
  | some y => match e y with
    | .c (.int _ a) => some a
    | _ => none
theorem ap_slice {P : Program} {d : Option Tmp} {ty : TypeId} {pos : String} {af : Array Edge} {gd : Option (Nat × Bool)} {ev : Operand → V} (t : Nat) (x : Operand) (lo hi : Option Operand) {sz n el : Nat} {row : Nat → List V} {l h : Int} (he : tElem P t = some el) (hs : tSize P el = some sz) (hx : ev x = .sl sz n row)
    (hl : slLo ev lo = some l) (hh : slHi ev n hi = some h) (hc : 0 ≤ l ∧ l ≤ h ∧ h ≤ n) : APure P ⟨d, .slice t x lo hi none, ty, pos, af, gd⟩ ev (.sl sz (h.toNat - l.toNat) fun i => row (i + l.toNat)) :=
  APure.same rfl fun w L ρ g hr => by
    have h1 := hr x (by simp [Op.operands])
    rw [hx] at h1
    obtain ⟨A, c, e1, hA⟩ := h1.sl_inv
    have hcap : n ≤ c := by rw [e1] at h1; exact h1.sl_cap
    have hu := tElem_some he
    have hel : P.elem t = el := by simp [Program.elem, hu]
    have hu' : P.underlying t = some (.slice (P.elem t)) := by rw [hel]; exact hu
    have hlo : ∀ y, lo = some y → ∃ k, g y = .int k l := by
      rintro y rfl
      have h2 := hr y (by simp [Op.operands])
      simp only [slLo] at hl
      split at hl
      · rename_i k a ea
        injection hl with hl; subst hl
        rw [ea] at h2
        exact ⟨k, h2.c_inv⟩
      · cases hl
    have hhi : ∀ y, hi = some y → ∃ k, g y = .int k h := by
      rintro y rfl
      have h2 := hr y (by simp [Op.operands])
      simp only [slHi] at hh
      split at hh
      · rename_i k a ea
        injection hh with hh; subst hh
        rw [ea] at h2
        exact ⟨k, h2.c_inv⟩
      · cases hh
    have run : (Instr.sliceAt t (g x) (lo.map g) (hi.map g) none).run P w = .ok (sliced A l.toNat h.toNat c sz) w := by
      rw [run_sliceAt_slice w t (g x) _ _ _ hu', e1]
      have hsz : (sizeOf (P.elem t)).run P w = .ok sz w := by rw [hel]; exact run_sizeOf' hs w
      cases lo with
      | none =>
        simp only [slLo, Option.some.injEq] at hl
        subst hl
        cases hi with
        | none =>
          simp only [slHi, Option.some.injEq] at hh
          subst hh
          simp only [Option.map_none]
          rw [run_slice_all w t A n c hu', hsz]
          rfl
        | some y =>
          obtain ⟨k, ey⟩ := hhi y rfl
          simp only [Option.map_none, Option.map_some, ey]
          rw [run_slice_h w t A n c hu' k h (by omega) (by omega), hsz]
          rfl
      | some z =>
        obtain ⟨k', ez⟩ := hlo z rfl
        cases hi with
        | none =>
          simp only [slHi, Option.some.injEq] at hh
          subst hh
          simp only [Option.map_none, Option.map_some, ez]
          rw [run_slice_l w t A n c hu' k' l (by omega) (by omega), hsz]
          rfl
        | some y =>
          obtain ⟨k, ey⟩ := hhi y rfl
          simp only [Option.map_some, ey, ez]
          rw [run_slice_lh w t A n c hu' k' k l h (by omega) (by omega) (by omega), hsz]
          rfl
    refine ⟨sliced A l.toNat h.toNat c sz, by simp [execOp, run], R.sl' (by omega) fun hpos => ?_⟩
    obtain ⟨b, o, rfl, hb, hlen, hcell⟩ := hA (by omega)
    refine ⟨b, o + l.toNat * sz, ?_, hb, fun i hi => hlen _ (by omega), fun i j u hi hu => ?_⟩
    · rw [if_neg (by omega)]
      simp [Addr.add_lit]
    · have := hcell (i + l.toNat) j u (by omega) hu
      rwa [show o + l.toNat * sz + i * sz + j = o + (i + l.toNat) * sz + j by rw [Nat.add_mul]; omega]
/-- equality of structs of numbers -/
def eqVL : List V → List V → Option Bool
  | [], [] => some true
  | .c (.int k a) :: l, .c (.int k' b) :: m => if k = k' then (match eqVL l m with | some r => some (decide (a = b) && r) | none => none) else none
  | _, _ => none
theorem eqVL_spec {w : World} {L : Nat → Prop} {ρ : Nat → Option Value} : ∀ {l m : List V} {xs ys : List Value} {r : Bool}, eqVL l m = some r → RL w L ρ l xs → RL w L ρ m ys → Ints2 xs ys ∧ eqZ xs ys = r
  | [], [], [], [], r, h, _, _ => by simp [eqVL] at h; subst h; exact ⟨trivial, rfl⟩
  | [], [], _ :: _, _, r, h, k, _ => by have := k.1; simp at this
  | [], [], [], _ :: _, r, h, _, k => by have := k.1; simp at this
  | .c (.int k a) :: l, .c (.int k' b) :: m, x :: xs, y :: ys, r, h, hx, hy => by
    simp only [eqVL] at h
    split at h
    case isFalse => cases h
    rename_i hk
    subst hk
    have hx0 := (hx.2 0 _ x rfl rfl).1.c_inv
    have hy0 := (hy.2 0 _ y rfl rfl).1.c_inv
    subst hx0 hy0
    have hx1 : RL w L ρ l xs := ⟨by have := hx.1; simpa using this, fun i u z hu hz => hx.2 (i + 1) u z (by simpa using hu) (by simpa using hz)⟩
    have hy1 : RL w L ρ m ys := ⟨by have := hy.1; simpa using this, fun i u z hu hz => hy.2 (i + 1) u z (by simpa using hu) (by simpa using hz)⟩
    split at h
    · rename_i r' hr
      injection h with h
      subst h
      obtain ⟨q1, q2⟩ := eqVL_spec hr hx1 hy1
      exact ⟨⟨rfl, q1⟩, by simp only [eqZ, q2]; congr 1⟩
    · cases h
  | .c (.int k a) :: l, .c (.int k' b) :: m, [], _, r, h, k0, _ => by have := k0.1; simp at this
  | .c (.int k a) :: l, .c (.int k' b) :: m, _ :: _, [], r, h, _, k0 => by have := k0.1; simp at this
def eqSR (T : List TI) (op : BinOp) (t : Nat) (u v : V) : Option SR := match u, v with
  | .agg l, .agg m => match (T.getD t ti0).eqn with
    | some n => if l.length = n then (match eqVL l m with
      | some r => match op with
        | .eql => some (resSR True (.b r))
        | .neq => some (resSR True (.b (!r)))
        | _ => none
      | none => none) else none
    | none => none
  | _, _ => none
def sliceSR (T : List TI) (e : Operand → V) (t : Nat) (x : Operand) (lo hi : Option Operand) : Option SR :=
  match e x with
  | .sl sz n row => match (T.getD t ti0).elem with
    | some el => if (T.getD el ti0).size = some sz then match slLo e lo, slHi e n hi with
        | some l, some h => some (resSR (0 ≤ l ∧ l ≤ h ∧ h ≤ n) (.sl sz (h.toNat - l.toNat) fun i => row (i + l.toNat)))
        | _, _ => none
      else none
    | none => none
  | _ => none
def astep (T : List TI) (wr : Bool) (M : List Nat) (nx : Nat) (o : Oper) (e : Operand → V) (σ : Nat → Option Ob) : Option SR :=
  match o.op with
  | .move x => some (resSR True (e x))
  | .assign x => some (resSR True (e x))
  | .extract x i => match e x with
    | .tup cs => match cs[i]? with
      | some v => some (resSR True v)
      | none => none
    | _ => none
  | .binOp op t x y _ => match binV wr op (e x) (e y) with
    | some (c, v) => some (resSR c v)
    | none => eqSR T op t (e x) (e y)
  | .unOp .not _ x => match e x with
    | .c (.bool b) => some (resSR True (.b (!b)))
    | _ => none
  | .unOp .neg _ x => match e x with
    | .c (.int k a) => if wr then some (resSR True (.c (.int k (k.wrap (0 - a))))) else some (resSR (inR k (-a)) (.c (.int k (-a))))
    | _ => none
  | .convert s t x => match e x with
    | .c (.int _ a) => match (T.getD t ti0).kind with
      | some k => if (T.getD s ti0).some' = true then (if wr then some (resSR True (.c (.int k (k.wrap a)))) else some (resSR (inR k a) (.c (.int k a)))) else none
      | none => none
    | _ => none
  | .fieldAddr s x f => match ((T.getD s ti0).fld[f]?).join with
    | some off => match e x with
      | .ptr cs => some (resSR True (.ptr (cs.drop off)))
      | .ref id o => some (resSR True (.ref id (o + off)))
      | .oel id sz i o => some (resSR True (.oel id sz i (o + off)))
      | _ => none
    | none => none
  | .indexAddr t x ix => match e ix with
    | .c (.int _ i) => indexSR T t σ (e x) i
    | _ => none
  | .load t x => loadSR T t σ (e x)
  | .store t x y => storeSR T t σ (e x) (e y)
  | .slice t x lo hi mx => match mx with
    | none => sliceSR T e t x lo hi
    | some _ => none
  | .alloc t => match (T.getD t ti0).zero with
    | some zs => some ⟨True, .ref (nx * 100000 + o.dst.getD 0) 0, [], [nx * 100000 + o.dst.getD 0], [(nx * 100000 + o.dst.getD 0, some (.box t zs))]⟩
    | none => none
  | .box t y => match cellsV (e y) with
    | some us => if M.contains (o.dst.getD 0) then some ⟨True, .ref (nx * 100000 + o.dst.getD 0) 0, [], [nx * 100000 + o.dst.getD 0], [(nx * 100000 + o.dst.getD 0, some (.box t us))]⟩
      else if V.idfL us = true then some (resSR True (.ptr us)) else none
    | none => none
  | .build t parts => match (T.getD t ti0).zero, (T.getD t ti0).pl with
    | some zs, some pl => match fillV (pl[·]?) zs (parts.toList.map fun p => (p.1, e p.2)) with
      | some us => some (resSR True (.agg us))
      | none => none
    | _, _ => none
  | .buildSlice t n parts => match (T.getD t ti0).elem with
    | some el => match (T.getD el ti0).zero, (T.getD el ti0).size with
      | some zs, some sz => match fillV (fun i => some (i * sz, sz)) (repV n zs) (parts.toList.map fun p => (p.1, e p.2)) with
        | some cs => if zs.length = sz ∧ 0 < sz ∧ n * sz ≤ 4096 ∧ cs.length = n * sz then (if M.contains (o.dst.getD 0) then
            some ⟨True, .own (nx * 100000 + o.dst.getD 0), [], [nx * 100000 + o.dst.getD 0], [(nx * 100000 + o.dst.getD 0, some (.row el sz n fun i => (cs.drop (i * sz)).take sz))]⟩
          else if V.idfL cs = true then some (resSR True (.sl sz n fun i => (cs.drop (i * sz)).take sz)) else none) else none
        | none => none
      | _, _ => none
    | none => none
  | .makeSlice t x y => match e x, e y with
    | .c (.int _ l), .c (.int _ c) => match (T.getD t ti0).elem with
      | some el => match (T.getD el ti0).zero, (T.getD el ti0).size with
        | some zs, some sz => if elemOk T el sz zs then some ⟨0 ≤ l ∧ l ≤ c ∧ c ≤ 1099511627776, .own (nx * 100000 + o.dst.getD 0), [], [nx * 100000 + o.dst.getD 0], [(nx * 100000 + o.dst.getD 0, some (.row el sz l.toNat fun _ => zs))]⟩ else none
        | _, _ => none
      | none => none
    | _, _ => none
  | .makeFunc f first caps => some (resSR True (.fn f (first.toList.map e) (caps.toList.map e)))
  | .call c => match c.callee with
    | .builtin .len => match c.args, c.argTypes with
      | ⟨[x]⟩, ⟨[t]⟩ => lenSR T t σ (e x)
      | _, _ => none
    | .builtin .append => match c.args, c.argTypes with
      | ⟨[s, x]⟩, ⟨[t, t']⟩ => match appendSR T t (nx * 100000 + o.dst.getD 0) σ (e s) (e x) with
        | some r => if t' = t ∧ o.type = t then some r else none
        | none => none
      | _, _ => none
    | .builtin .max => match c.args with
      | ⟨[x, y]⟩ => match e x, e y with
        | .c (.int k a), .c (.int k' b) => if k = k' then some (resSR True (.c (.int k (max a b)))) else none
        | _, _ => none
      | ⟨[x, y, z]⟩ => match e x, e y, e z with
        | .c (.int k a), .c (.int k' b), .c (.int k'' q) => if k = k' ∧ k = k'' then some (resSR True (.c (.int k (max (max a b) q)))) else none
        | _, _, _ => none
      | ⟨[x, y, z, u]⟩ => match e x, e y, e z, e u with
        | .c (.int k a), .c (.int k' b), .c (.int k'' q), .c (.int k3 p) => if k = k' ∧ k = k'' ∧ k = k3 then some (resSR True (.c (.int k (max (max (max a b) q) p)))) else none
        | _, _, _, _ => none
      | _ => none
    | .builtin .min => match c.args with
      | ⟨[x, y]⟩ => match e x, e y with
        | .c (.int k a), .c (.int k' b) => if k = k' then some (resSR True (.c (.int k (min a b)))) else none
        | _, _ => none
      | _ => none
    | _ => none
  | _ => none

section
variable {T : List TI} {P : Program} (hT : TabOk T P) {W LB : Nat → Prop} {wr : Bool} {M : List Nat} {nx : Nat} {σ : Nat → Option Ob} {r : SR} {d : Option Tmp} {ty : TypeId} {pos : String} {af : Array Edge} {gd : Option (Nat × Bool)} {e : Operand → V}

/-- what is owed of a step -/
def StepS (P : Program) (W LB : Nat → Prop) (nx : Nat) (σ : Nat → Option Ob) (o : Oper) (e : Operand → V) (r : SR) : Prop :=
  AStep P W LB o e r.v r.pre r.nw r.δ ∧ (∀ p ∈ r.pre, σ p.1 = some p.2) ∧ (r.nw = [] ∨ ∃ t, o.dst = some t ∧ r.nw = [nx * 100000 + t])
theorem StepS.pure {o : Oper} {c : Prop} {v : V} (h : APure P o e v) : StepS P W LB nx σ o e (resSR c v) := ⟨h.step, by simp [resSR], .inl rfl⟩
theorem binK_sound (op : BinOp) (t t' : TypeId) (x y : Operand) {k : IntKind} {a b : Int} (ex : e x = .c (.int k a)) (ey : e y = .c (.int k b)) {c : Prop} {v : V} (h : binK wr op k a b = some (c, v)) (hc : c) : APure P ⟨d, .binOp op t x y t', ty, pos, af, gd⟩ e v := by
  have base := fun (op : BinOp) (hq : (binI op k a b).1) => ap_binI (P := P) (d := d) (ty := ty) (pos := pos) (af := af) (gd := gd) op t t' x y ex ey hq
  unfold binK at h
  cases op <;> simp only at h
  case add =>
    cases wr
    · simp only [Bool.false_eq_true, if_false, Option.some.injEq, Prod.mk.injEq] at h; obtain ⟨rfl, rfl⟩ := h; have := base .add trivial; simp only [binI] at this; rwa [inR_wrap hc] at this
    · simp only [if_true, Option.some.injEq, Prod.mk.injEq] at h; obtain ⟨rfl, rfl⟩ := h; exact base .add trivial
  case sub =>
    cases wr
    · simp only [Bool.false_eq_true, if_false, Option.some.injEq, Prod.mk.injEq] at h; obtain ⟨rfl, rfl⟩ := h; have := base .sub trivial; simp only [binI] at this; rwa [inR_wrap hc] at this
    · simp only [if_true, Option.some.injEq, Prod.mk.injEq] at h; obtain ⟨rfl, rfl⟩ := h; exact base .sub trivial
  case mul =>
    cases wr
    · simp only [Bool.false_eq_true, if_false, Option.some.injEq, Prod.mk.injEq] at h; obtain ⟨rfl, rfl⟩ := h; have := base .mul trivial; simp only [binI] at this; rwa [inR_wrap hc] at this
    · simp only [if_true, Option.some.injEq, Prod.mk.injEq] at h; obtain ⟨rfl, rfl⟩ := h; exact base .mul trivial
  case quo =>
    cases wr
    · simp only [Bool.false_eq_true, if_false, Option.some.injEq, Prod.mk.injEq] at h
      obtain ⟨rfl, rfl⟩ := h
      have := base .quo (by show b ≠ 0; omega)
      simp only [binI] at this
      rwa [inR_wrap (inR_tdiv hc.1 hc.2)] at this
    · simp only [if_true, Option.some.injEq, Prod.mk.injEq] at h; obtain ⟨rfl, rfl⟩ := h; exact base .quo hc
  case shl => cases h
  case shr => cases h
  all_goals
    simp only [Option.some.injEq, Prod.mk.injEq] at h
    obtain ⟨rfl, rfl⟩ := h
    exact base _ hc
theorem binV_sound (op : BinOp) (t t' : TypeId) (x y : Operand) {c : Prop} {v : V} (h : binV wr op (e x) (e y) = some (c, v)) (hc : c) : APure P ⟨d, .binOp op t x y t', ty, pos, af, gd⟩ e v := by
  unfold binV at h
  split at h
  · rename_i k a k' b ex ey
    split at h
    · split at h
      · simp only [Option.some.injEq, Prod.mk.injEq] at h; obtain ⟨rfl, rfl⟩ := h
        exact ap_shl t t' x y ex ey hc
      · simp only [Option.some.injEq, Prod.mk.injEq] at h; obtain ⟨rfl, rfl⟩ := h
        have := ap_shl (P := P) (d := d) (ty := ty) (pos := pos) (af := af) (gd := gd) t t' x y ex ey hc.1
        rwa [Nat.min_eq_left (by have := hc.2.1; omega), inR_wrap hc.2.2] at this
    · simp only [Option.some.injEq, Prod.mk.injEq] at h; obtain ⟨rfl, rfl⟩ := h
      exact ap_shr t t' x y ex ey hc
    · split at h
      · rename_i hk; subst hk; exact binK_sound _ t t' x y ex ey h hc
      · cases h
  · cases h
include hT in
theorem loadSR_sound (t : TypeId) (x : Operand) (h : loadSR T t σ (e x) = some r) (hc : r.c) : StepS P W LB nx σ ⟨d, .load t x, ty, pos, af, gd⟩ e r := by
  unfold loadSR at h
  split at h
  · rename_i cs ex
    split at h
    · rename_i v hv
      injection h with h; subst h
      refine ⟨APure.step ?_, by simp, .inl rfl⟩
      unfold loadV at hv
      split at hv
      · exact ap_load1 t x (hT.agg (by assumption)) ex hv
      · split at hv
        · split at hv
          · injection hv with hv; subst hv
            exact ap_loadN t x (hT.agg (by assumption)) (hT.size (by assumption)) ex (by assumption)
          · cases hv
        · cases hv
      · cases hv
    · cases h
  · rename_i id o ex
    split at h
    · rename_i t' cs hσ
      split at h
      · rename_i v hv
        injection h with h; subst h
        refine ⟨?_, by simpa using hσ, .inl rfl⟩
        unfold loadV at hv
        split at hv
        · exact as_loadR1 t x (hT.agg (by assumption)) ex (by simpa using hv)
        · split at hv
          · split at hv
            · rename_i n _ hle
              injection hv with hv; subst hv
              rw [List.length_drop] at hle
              exact as_loadRN t x (hT.agg (by assumption)) (hT.size (by assumption)) ex (by have : o ≤ cs.length := hc; omega)
            · cases hv
          · cases hv
        · cases hv
      · cases h
    · cases h
  · rename_i id sz i o ex
    split at h
    · rename_i el sz' n row hσ
      split at h
      · rename_i v hv
        split at h
        case isFalse => cases h
        rename_i hsz
        injection h with h; subst h
        subst hsz
        obtain ⟨h1, h3⟩ := hc
        refine ⟨?_, by simpa using hσ, .inl rfl⟩
        unfold loadV at hv
        split at hv
        · exact as_loadO1 t x (hT.agg (by assumption)) ex h1 (by simpa using hv)
        · split at hv
          · split at hv
            · rename_i m _ hle
              injection hv with hv; subst hv
              rw [List.length_drop] at hle
              exact as_loadON t x (hT.agg (by assumption)) (hT.size (by assumption)) ex h1 (by omega)
            · cases hv
          · cases hv
        · cases hv
      · cases h
    · cases h
  · cases h
theorem setCells_eq {cs : List V} {o : Nat} {us : List V} (h : o + us.length ≤ cs.length) : setCells cs o us = splice cs o us := by
  unfold setCells
  split
  · exact (splice_one _ _ _ (by simp at h; omega)).symm
  · rfl
include hT in
theorem storeSR_sound (t : TypeId) (x y : Operand) (h : storeSR T t σ (e x) (e y) = some r) (hc : r.c) : StepS P W LB nx σ ⟨d, .store t x y, ty, pos, af, gd⟩ e r := by
  unfold storeSR at h
  split at h
  · rename_i us hus
    split at h
    · rename_i id o ex
      split at h
      · rename_i t' cs hσ
        split at h
        case isFalse => cases h
        rename_i h1
        injection h with h; subst h
        have h2 : o + us.length ≤ cs.length := hc
        refine ⟨?_, by simpa using hσ, .inl rfl⟩
        simp only [setCells_eq h2]
        exact as_storeR t x y ex rfl hus (hT.size h1) h2
      · cases h
    · rename_i id sz i o ex
      split at h
      · rename_i el sz' n row hσ
        split at h
        case isFalse => cases h
        rename_i hh
        obtain ⟨h1, rfl⟩ := hh
        injection h with h; subst h
        obtain ⟨h2, h4⟩ := hc
        refine ⟨?_, by simpa using hσ, .inl rfl⟩
        simp only [setCells_eq h4]
        exact as_storeO t x y ex rfl hus (hT.size h1) h2 h4
      · cases h
    · cases h
  · cases h
include hT in
theorem indexSR_sound (t : TypeId) (x ix : Operand) {k : IntKind} {i : Int} (ei : e ix = .c (.int k i)) (h : indexSR T t σ (e x) i = some r) (hc : r.c) : StepS P W LB nx σ ⟨d, .indexAddr t x ix, ty, pos, af, gd⟩ e r := by
  unfold indexSR at h
  split at h
  · rename_i sz n row ex
    split at h
    · split at h
      · rename_i hs
        injection h with h; subst h
        exact .pure (ap_indexS t x ix (hT.elem (by assumption)) (hT.size hs) ex ei hc)
      · cases h
    · cases h
  · rename_i cs ex
    split at h
    · split at h
      · injection h with h; subst h
        exact .pure (ap_indexA t x ix (hT.arr (by assumption)) (hT.size (by assumption)) ex ei hc)
      · cases h
    · cases h
  · rename_i id o ex
    split at h
    · split at h
      · injection h with h; subst h
        exact .pure (ap_indexAR t x ix (hT.arr (by assumption)) (hT.size (by assumption)) ex ei hc)
      · cases h
    · cases h
  · rename_i id ex
    split at h
    · split at h
      · rename_i e' sz n row hσ
        split at h
        · rename_i hs
          injection h with h; subst h
          exact ⟨as_indexO t x ix (hT.elem (by assumption)) (hT.size hs) ex ei hc, by simpa using hσ, .inl rfl⟩
        · cases h
      · cases h
    · cases h
  · cases h
include hT in
theorem lenSR_sound (t : TypeId) (x : Operand) (h : lenSR T t σ (e x) = some r) : StepS P W LB nx σ ⟨d, .call { callee := .builtin .len, args := #[x], argTypes := #[t] }, ty, pos, af, gd⟩ e r := by
  unfold lenSR at h
  split at h
  · rename_i sz n row ex
    split at h
    · injection h with h; subst h
      exact .pure (ap_lenS t x (hT.elem (by assumption)) ex)
    · cases h
  · rename_i ex
    split at h
    · injection h with h; subst h
      exact .pure (ap_lenN t x (hT.elem (by assumption)) ex)
    · cases h
  · rename_i id ex
    split at h
    · split at h
      · rename_i e' sz n row hσ
        injection h with h; subst h
        exact ⟨as_lenO t x (hT.elem (by assumption)) ex, by simpa using hσ, .inl rfl⟩
      · cases h
    · cases h
  · cases h
include hT in
theorem appendSR_sound (t : TypeId) (s x : Operand) {q : Tmp} (h : appendSR T t (nx * 100000 + q) σ (e s) (e x) = some r) (hc : r.c) : StepS P W LB nx σ ⟨some q, .call { callee := .builtin .append, args := #[s, x], argTypes := #[t, t] }, t, pos, af, gd⟩ e r := by
  unfold appendSR at h
  split at h
  · rename_i el hel
    split at h
    · rename_i zs hz
      split at h
      · rename_i sz m row ex
        split at h
        case isFalse => cases h
        rename_i hok
        obtain ⟨h1, h2, h3, b, h4, h5⟩ := elemOk_spec hok
        split at h
        · rename_i es
          injection h with h; subst h
          exact ⟨as_appendN t s x (hT.elem hel) (hT.size h1) (hT.bytes h4) (hT.zero hz) h2 h3 h5 es ex hc _, by simp, .inr ⟨q, rfl, rfl⟩⟩
        · rename_i id0 es
          split at h
          · rename_i e' sz' n row0 hσ
            split at h
            case isFalse => cases h
            rename_i hh
            obtain ⟨rfl, rfl, h7⟩ := hh
            injection h with h; subst h
            exact ⟨as_appendO t s x (hT.elem hel) (hT.size h1) (hT.bytes h4) (hT.zero hz) h2 h3 h5 es ex hc _ h7, by simpa using hσ, .inr ⟨q, rfl, rfl⟩⟩
          · cases h
        · cases h
      · cases h
    · cases h
  · cases h
include hT in
theorem eqSR_sound (op : BinOp) (t t' : TypeId) (x y : Operand) (h : eqSR T op t (e x) (e y) = some r) : StepS P W LB nx σ ⟨d, .binOp op t x y t', ty, pos, af, gd⟩ e r := by
  unfold eqSR at h
  split at h
  case h_2 => cases h
  rename_i l m ex ey
  split at h
  case h_2 => cases h
  rename_i n hn
  split at h
  case isFalse => cases h
  rename_i hl
  split at h
  case h_2 => cases h
  rename_i q hq
  have key : ∀ (w : World) (L : Nat → Prop) (ρ : Nat → Option Value) (g : Operand → Value), R w L ρ (e x) (g x) → R w L ρ (e y) (g y) → ∃ xs ys : Array Value, g x = .agg xs ∧ g y = .agg ys ∧
      (eqGuard .eql t x y (.agg xs) (.agg ys)).run P w = .ok () w ∧ (binOp .eql t (.agg xs) (.agg ys)).run P w = .ok (.bool q) w ∧
      (eqGuard .neq t x y (.agg xs) (.agg ys)).run P w = .ok () w ∧ (binOp .neq t (.agg xs) (.agg ys)).run P w = .ok (.bool (!q)) w := by
    intro w L ρ g h1 h2
    rw [ex] at h1
    rw [ey] at h2
    obtain ⟨xs, e1, hx⟩ := h1.agg_inv
    obtain ⟨ys, e2, hy⟩ := h2.agg_inv
    obtain ⟨q1, q2⟩ := eqVL_spec hq hx hy
    have := tEq_eql (hT.eqn hn) (x := x) (y := y) q1 (by have := hx.1; rw [hl] at this; simpa using this.symm) w
    rw [q2] at this
    exact ⟨xs, ys, e1, e2, this⟩
  split at h
  · injection h with h; subst h
    refine .pure (APure.same rfl fun w L ρ g hr => ?_)
    obtain ⟨xs, ys, e1, e2, g1, g2, _⟩ := key w L ρ g (hr x (by simp [Op.operands])) (hr y (by simp [Op.operands]))
    exact ⟨.bool q, by simp [execOp, e1, e2, g1, g2], .c _ _⟩
  · injection h with h; subst h
    refine .pure (APure.same rfl fun w L ρ g hr => ?_)
    obtain ⟨xs, ys, e1, e2, _, _, g1, g2⟩ := key w L ρ g (hr x (by simp [Op.operands])) (hr y (by simp [Op.operands]))
    exact ⟨.bool (!q), by simp [execOp, e1, e2, g1, g2], .c _ _⟩
  · cases h
include hT in
theorem sliceSR_sound (t : TypeId) (x : Operand) (lo hi : Option Operand) (h : sliceSR T e t x lo hi = some r) (hc : r.c) : StepS P W LB nx σ ⟨d, .slice t x lo hi none, ty, pos, af, gd⟩ e r := by
  unfold sliceSR at h
  split at h
  · rename_i sz n row ex
    split at h
    · rename_i el hel
      split at h
      · rename_i hsz
        split at h
        · rename_i l u hl hu
          injection h with h; subst h
          exact .pure (ap_slice t x lo hi (hT.elem hel) (hT.size hsz) ex hl hu hc)
        · cases h
      · cases h
    · cases h
  · cases h
include hT in
theorem astep_sound (o : Oper) (h : astep T wr M nx o e σ = some r) (hc : r.c) (hd : o.dst.isSome = true ∨ (match o.op with | .store _ _ _ => True | _ => False)) : StepS P W LB nx σ o e r := by
  obtain ⟨d, op, ty, pos, af, gd⟩ := o
  unfold astep at h
  simp only at h hd
  have dst : ∀ (hop : ∀ t x y, op ≠ .store t x y), ∃ q, d = some q := by
    intro hop
    rcases hd with hd | hd
    · exact Option.isSome_iff_exists.1 hd
    · cases op <;> first | exact hd.elim | exact absurd rfl (hop _ _ _)
  split at h
  · injection h with h; subst h; exact .pure (ap_move _ rfl)
  · injection h with h; subst h; exact .pure (ap_assign _ rfl)
  · split at h
    · split at h
      · injection h with h; subst h; exact .pure (ap_extract _ _ (by assumption) (by assumption))
      · cases h
    · cases h
  · split at h
    · rename_i c v hb
      injection h with h; subst h
      exact .pure (binV_sound _ _ _ _ _ hb hc)
    · exact eqSR_sound hT _ _ _ _ _ h
  · split at h
    · injection h with h; subst h; exact .pure (ap_not _ _ (by assumption))
    · cases h
  · split at h
    · split at h
      · injection h with h; subst h; exact .pure (ap_neg _ _ (by assumption))
      · injection h with h; subst h
        refine .pure ?_
        rw [← inR_wrap hc, ← Int.zero_sub]
        exact ap_neg _ _ (by assumption)
    · cases h
  · split at h
    · split at h
      · split at h
        · split at h
          · injection h with h; subst h; exact .pure (ap_convI _ _ _ (hT.isSome (by assumption)) (hT.kind (by assumption)) (by assumption))
          · injection h with h; subst h
            refine .pure ?_
            rw [← inR_wrap hc]
            exact ap_convI _ _ _ (hT.isSome (by assumption)) (hT.kind (by assumption)) (by assumption)
        · cases h
      · cases h
    · cases h
  · split at h
    · split at h
      · injection h with h; subst h; exact .pure (ap_fieldP _ _ _ (hT.fld (by assumption)) (by assumption))
      · injection h with h; subst h; exact .pure (ap_fieldR _ _ _ (hT.fld (by assumption)) (by assumption))
      · injection h with h; subst h; exact .pure (ap_fieldO _ _ _ (hT.fld (by assumption)) (by assumption))
      · cases h
    · cases h
  · split at h
    · exact indexSR_sound hT _ _ _ (by assumption) h hc
    · cases h
  · exact loadSR_sound hT _ _ h hc
  · exact storeSR_sound hT _ _ _ h hc
  · split at h
    · exact sliceSR_sound hT _ _ _ _ h hc
    · cases h
  · split at h
    · injection h with h; subst h
      obtain ⟨q, rfl⟩ := dst (by simp)
      exact ⟨as_alloc _ (hT.zero (by assumption)) _, by simp, .inr ⟨q, rfl, rfl⟩⟩
    · cases h
  · split at h
    · split at h
      · injection h with h; subst h
        obtain ⟨q, rfl⟩ := dst (by simp)
        exact ⟨as_box _ _ rfl (by assumption) _, by simp, .inr ⟨q, rfl, rfl⟩⟩
      · split at h
        · injection h with h; subst h
          exact .pure (ap_box _ _ rfl (by assumption) (by assumption))
        · cases h
    · cases h
  · split at h
    · split at h
      · injection h with h; subst h
        exact .pure (ap_build _ _ (hT.zero (by assumption)) (hT.pl (by assumption)) (by assumption))
      · cases h
    · cases h
  · split at h
    · split at h
      · split at h
        · split at h
          case isFalse => cases h
          rename_i hh
          obtain ⟨h1, h2, h3, h4⟩ := hh
          split at h
          · injection h with h; subst h
            obtain ⟨q, rfl⟩ := dst (by simp)
            exact ⟨as_buildS _ _ _ (hT.elem (by assumption)) (hT.size (by assumption)) (hT.zero (by assumption)) h1 h2 h3 (by assumption) h4 _, by simp, .inr ⟨q, rfl, rfl⟩⟩
          · split at h
            · injection h with h; subst h
              exact .pure (ap_buildS _ _ _ (hT.elem (by assumption)) (hT.size (by assumption)) (hT.zero (by assumption)) h1 h2 h3 (by assumption) h4 (by assumption))
            · cases h
        · cases h
      · cases h
    · cases h
  · split at h
    · split at h
      · split at h
        · split at h
          case isFalse => cases h
          rename_i hok
          obtain ⟨h0, h1, h2, b, h3, h4⟩ := elemOk_spec hok
          injection h with h; subst h
          obtain ⟨q, rfl⟩ := dst (by simp)
          exact ⟨as_make _ _ _ (hT.elem (by assumption)) (hT.size (by assumption)) (hT.bytes h3) (hT.zero (by assumption)) h1 h2 (by assumption) (by assumption) hc h4 _, by simp, .inr ⟨q, rfl, rfl⟩⟩
        · cases h
      · cases h
    · cases h
  · injection h with h; subst h; exact .pure ap_fn
  · rename_i c
    obtain ⟨callee, args, ats⟩ := c
    simp only at h
    split at h
    · split at h
      · exact lenSR_sound hT _ _ h
      · cases h
    · split at h
      · rename_i s x t t' e1 e2
        split at h
        · rename_i r0 hr0
          split at h
          case isFalse => cases h
          rename_i hh
          obtain ⟨rfl, rfl⟩ := hh
          injection h with h; subst h
          obtain ⟨q, rfl⟩ := dst (by simp)
          exact appendSR_sound hT _ _ _ hr0 hc
        · cases h
      · cases h
    · split at h
      · split at h
        · split at h
          case isFalse => cases h
          rename_i hh
          subst hh
          injection h with h; subst h
          exact .pure (ap_max2 _ _ _ (by assumption) (by assumption))
        · cases h
      · split at h
        · split at h
          case isFalse => cases h
          rename_i hh
          obtain ⟨rfl, rfl⟩ := hh
          injection h with h; subst h
          exact .pure (ap_max3 _ _ _ _ (by assumption) (by assumption) (by assumption))
        · cases h
      · split at h
        · split at h
          case isFalse => cases h
          rename_i hh
          obtain ⟨rfl, rfl, rfl⟩ := hh
          injection h with h; subst h
          exact .pure (ap_max4 _ _ _ _ _ (by assumption) (by assumption) (by assumption) (by assumption))
        · cases h
      · cases h
    · split at h
      · split at h
        · split at h
          case isFalse => cases h
          rename_i hh
          subst hh
          injection h with h; subst h
          exact .pure (ap_min2 _ _ _ (by assumption) (by assumption))
        · cases h
      · cases h
    · cases h
  · cases h
end
end Go.Ab
