/-
  What an operation does to values without addresses. No condition but those that the step names.
-/
import Derived.Test.YtlfaaddoemcokaaAbs1
import Derived.Deep.WholeRow
namespace Go.Ab
open Go.RowKit Go.Dw

/-! ### Tables of the program's types -/
def tFld (P : Program) (s f : Nat) : Option Nat :=
  match P.underlying s with
  | some (.struct fs) => match fs[f]? with
    | some fd => match P.info? fd.type with
      | some i => if i.size = 0 then none else some fd.offset
      | none => none
    | none => none
  | _ => none
def tAgg (P : Program) (t : Nat) : Option Bool := (P.underlying t).map fun | .struct _ => true | .array _ _ => true | _ => false
def tSize (P : Program) (t : Nat) : Option Nat := (P.info? t).map (·.size)
def tElem (P : Program) (t : Nat) : Option Nat := match P.underlying t with | some (.slice e) => some e | _ => none
def tArr (P : Program) (t : Nat) : Option (Nat × Nat) := match P.underlying t with | some (.array n e) => some (n, e) | _ => none
def tKind (P : Program) (t : Nat) : Option IntKind := match P.underlying t with | some (.int k) => some k | _ => none
def tIface (P : Program) (t : Nat) : Option Bool := (P.underlying t).map fun | .interface _ => true | _ => false
def toV : Value → V
  | .slice none 0 0 => .nil
  | v => .c v
def tZero (P : Program) (t : Nat) : Option (List V) := match P.info? t with
  | some i => match i.zero with
    | some z => if z.cells.toList.all (·.oneCell') then some (z.cells.toList.map toV) else none
    | none => none
  | none => none
def tFlds (P : Program) (s : Nat) : Option (List (Nat × Nat)) := match P.underlying s with
  | some (.struct fs) => fs.toList.mapM fun f => (P.info? f.type).map fun i => (f.offset, i.size)
  | _ => none

theorem R.toV (w : World) (L : Nat → Prop) (ρ : Nat → Option Value) (v : Value) : R w L ρ (toV v) v := by
  unfold Ab.toV
  split
  · exact .nil _
  · exact .c _ _

/-! ### An operation, for whatever frame gives its operands these values -/
def FW (F : Fence) : Prop := F = Fence.wide ∨ ∃ l, F = Fence.wide.inRound l
theorem FW.fn {F : Fence} (h : FW F) (f : FuncId) : F.fn f := by rcases h with rfl | ⟨l, rfl⟩ <;> trivial
theorem FW.depth {F : Fence} (h : FW F) : F.depth = none := by rcases h with rfl | ⟨l, rfl⟩ <;> rfl
theorem FW.calls {F : Fence} (h : FW F) {P : Program} {n : Nat} {f : FuncId} {args : Array Value} {w : World} {R : Ending → World → Prop} (k : Calls P f args w R) : CallsIn F n P f args w R := by
  have := callsIn_wide (n := n).2 k
  rcases h with rfl | ⟨l, rfl⟩
  · exact this
  · exact this

def OpDoes (P : Program) (o : Oper) (g : Operand → Value) (w : World) (K : Value → World → Prop) : Prop :=
  ∀ (F : Fence), FW F → ∀ (a : Act) (next : Act → World → Prop) (Q : Exit → Act → World → Prop), (∀ x ∈ o.op.operands, a.eval x = g x) → (∀ x w', K x w' → next (a.put o.dst x) w') → o.wpIn F 0 P a w next Q

def plainOp : Op → Bool
  | .select _ _ | .defer _ => false
  | _ => true
theorem OpDoes.value {P : Program} {o : Oper} {g : Operand → Value} {w w' : World} {K : Value → World → Prop} {v : Value} (hp : plainOp o.op = true)
    (h : (execOp g o).run P w = .ok (.value v) w') (hK : K v w') : OpDoes P o g w K := by
  intro F hF a next Q ha hn
  have hs : ∀ cs b, o.op ≠ .select cs b := fun cs b e => by rw [e] at hp; cases hp
  have hd : ∀ c, o.op ≠ .defer c := fun c e => by rw [e] at hp; cases hp
  unfold Oper.wpIn
  rw [Oper.semAt_eq _ _ _ hd, execOp_congr o hs ha, h]
  exact ⟨fun f _ => hF.fn f, hn _ _ hK⟩
theorem OpDoes.skip {P : Program} {o : Oper} {g : Operand → Value} {w w' : World} {K : Value → World → Prop} (hp : plainOp o.op = true)
    (h : (execOp g o).run P w = .ok .skip w') (hK : K undef w') : OpDoes P o g w K := by
  intro F hF a next Q ha hn
  have hs : ∀ cs b, o.op ≠ .select cs b := fun cs b e => by rw [e] at hp; cases hp
  have hd : ∀ c, o.op ≠ .defer c := fun c e => by rw [e] at hp; cases hp
  unfold Oper.wpIn
  rw [Oper.semAt_eq _ _ _ hd, execOp_congr o hs ha, h]
  exact ⟨fun f _ => hF.fn f, hn _ _ hK⟩
theorem OpDoes.enter {P : Program} {o : Oper} {g : Operand → Value} {w w' : World} {K : Value → World → Prop} {f : FuncId} {args : Array Value} (hp : plainOp o.op = true)
    (h : (execOp g o).run P w = .ok (.enter f args) w') (hK : Calls P f args w' fun e w'' => ∃ v, e = .returned v ∧ K v w'') : OpDoes P o g w K := by
  intro F hF a next Q ha hn
  have hs : ∀ cs b, o.op ≠ .select cs b := fun cs b e => by rw [e] at hp; cases hp
  have hd : ∀ c, o.op ≠ .defer c := fun c e => by rw [e] at hp; cases hp
  unfold Oper.wpIn
  rw [Oper.semAt_eq _ _ _ hd, execOp_congr o hs ha, h]
  rw [Oper.uponIn_enter]
  refine ⟨fun f _ => hF.fn f, ⟨(fun e => by rw [hF.depth] at e; cases e), hF.calls (hK.mono ?_)⟩⟩
  rintro e w'' ⟨v, rfl, hv⟩
  exact hn _ _ hv

/-- An operation that turns no object: new memory at most. -/
def APure (P : Program) (o : Oper) (ev : Operand → V) (v : V) : Prop :=
  ∀ w L ρ g, (∀ x ∈ o.op.operands, R w L ρ (ev x) (g x)) → (∀ b, L b → b < w.heap.size) →
    OpDoes P o g w fun x w' => Below w.heap.size w w' ∧ ∃ L' : Nat → Prop, (∀ b, L b → L' b) ∧ (∀ b, L' b → L b ∨ (w.heap.size ≤ b ∧ b < w'.heap.size)) ∧ R w' L' ρ v x

def upds (σ : Nat → Option Ob) : List (Nat × Option Ob) → Nat → Option Ob
  | [] => σ
  | (k, o) :: δ => upds (upd σ k o) δ
/-- An operation at named objects: it looks at those of pre, makes the new ones of nw, and leaves δ. -/
def AStep (P : Program) (W LB : Nat → Prop) (o : Oper) (ev : Operand → V) (v : V) (pre : List (Nat × Ob)) (nw : List Nat) (δ : List (Nat × Option Ob)) : Prop :=
  ∀ σ w L ρ g, G W LB σ w L ρ → (∀ x ∈ o.op.operands, R w L ρ (ev x) (g x)) → (∀ p ∈ pre, σ p.1 = some p.2) → (∀ id ∈ nw, ρ id = none) →
    OpDoes P o g w fun x w' => ∃ L' ρ', G W LB (upds σ δ) w' L' ρ' ∧ R w' L' ρ' v x ∧ Tch W w w' ∧ Ext w L ρ w' L' ρ' ∧ (∀ id, id ∉ nw → ρ' id = ρ id) ∧ DefK w L w' L'

theorem OpDoes.mono {P : Program} {o : Oper} {g : Operand → Value} {w : World} {K K' : Value → World → Prop} (h : OpDoes P o g w K) (hk : ∀ x w', K x w' → K' x w') : OpDoes P o g w K' :=
  fun F hF a next Q ha hn => h F hF a next Q ha fun x w' hx => hn x w' (hk x w' hx)

theorem APure.step {P : Program} {W LB : Nat → Prop} {o : Oper} {ev : Operand → V} {v : V} (h : APure P o ev v) : AStep P W LB o ev v [] [] [] := by
  intro σ w L ρ g hG hr _ _
  refine (h w L ρ g hr fun b hb => (hG.ll b hb).1).mono ?_
  rintro x w' ⟨hb, L', h1, h2, h3⟩
  obtain ⟨hG', e⟩ := hG.quiet hb h1 h2
  exact ⟨L', ρ, hG', h3, Tch.of_below hb fun k _ hk => (hG.new k hk).1, e, fun _ _ => rfl, DefK.below hb fun b hb => (h2 b hb).imp id fun h => h.1⟩

/-- The usual case: the same memory. -/
theorem APure.same {P : Program} {o : Oper} {ev : Operand → V} {v : V} (hp : plainOp o.op = true)
    (h : ∀ w L ρ g, (∀ x ∈ o.op.operands, R w L ρ (ev x) (g x)) → ∃ x, (execOp g o).run P w = .ok (.value x) w ∧ R w L ρ v x) : APure P o ev v := by
  intro w L ρ g hr _
  obtain ⟨x, hx, hv⟩ := h w L ρ g hr
  exact OpDoes.value hp hx ⟨Below.refl _ _, L, fun _ h => h, fun _ h => .inl h, hv⟩

section
variable {P : Program} {d : Option Tmp} {ty : TypeId} {pos : String} {af : Array Edge} {gd : Option (Nat × Bool)} {ev : Operand → V}

theorem ap_move (x : Operand) {v : V} (h : ev x = v) : APure P ⟨d, .move x, ty, pos, af, gd⟩ ev v :=
  APure.same rfl fun w L ρ g hr => ⟨g x, rfl, h ▸ hr x (by simp [Op.operands])⟩
theorem ap_assign (x : Operand) {v : V} (h : ev x = v) : APure P ⟨d, .assign x, ty, pos, af, gd⟩ ev v :=
  APure.same rfl fun w L ρ g hr => ⟨g x, rfl, h ▸ hr x (by simp [Op.operands])⟩
theorem ap_pick (x a b : Operand) {t : Bool} {v : V} (h : ev x = .b t) (hv : (if t then ev a else ev b) = v) : APure P ⟨d, .pick x a b, ty, pos, af, gd⟩ ev v :=
  APure.same rfl fun w L ρ g hr => by
    have h1 := hr x (by simp [Op.operands])
    have h2 := hr a (by simp [Op.operands])
    have h3 := hr b (by simp [Op.operands])
    rw [h] at h1
    have hx := h1.c_inv
    refine ⟨if t then g a else g b, by simp [execOp, hx, asBool], ?_⟩
    subst hv
    cases t
    · exact h3
    · exact h2
theorem ap_extract (x : Operand) (i : Nat) {cs : List V} {v : V} (h : ev x = .tup cs) (hv : cs[i]? = some v) : APure P ⟨d, .extract x i, ty, pos, af, gd⟩ ev v :=
  APure.same rfl fun w L ρ g hr => by
    have h1 := hr x (by simp [Op.operands])
    rw [h] at h1
    obtain ⟨xs, hx, hl⟩ := h1.tup_inv
    obtain ⟨y, hy, hr'⟩ := hl.get hv
    rw [Array.getElem?_toList] at hy
    exact ⟨y, by simp [execOp, hx, Instr.extract, hy], hr'⟩

/-! numbers -/
def bitop (op : BinOp) (k : IntKind) (x y : Int) : Int :=
  let a := BitVec.ofInt k.bits x
  let b := BitVec.ofInt k.bits y
  match op with
  | .and => k.wrap (a &&& b).toNat
  | .or => k.wrap (a ||| b).toNat
  | .xor => k.wrap (a ^^^ b).toNat
  | _ => k.wrap (a &&& ~~~b).toNat
/-- what a binary operation of two integers of one kind gives, under a condition -/
def binI (op : BinOp) (k : IntKind) (a b : Int) : Prop × V :=
  match op with
  | .add => (True, .c (.int k (k.wrap (a + b))))
  | .sub => (True, .c (.int k (k.wrap (a - b))))
  | .mul => (True, .c (.int k (k.wrap (a * b))))
  | .quo => (b ≠ 0, .c (.int k (k.wrap (a.tdiv b))))
  | .rem => (b ≠ 0, .c (.int k (a.tmod b)))
  | .eql => (True, .b (decide (a = b)))
  | .neq => (True, .b (!decide (a = b)))
  | .lss => (True, .b (decide (a < b)))
  | .leq => (True, .b (decide (a ≤ b)))
  | .gtr => (True, .b (decide (b < a)))
  | .geq => (True, .b (decide (b ≤ a)))
  | .shl => (False, .any)
  | .shr => (False, .any)
  | op => (True, .c (.int k (bitop op k a b)))
theorem ap_binI (op : BinOp) (t t' : TypeId) (x y : Operand) {k : IntKind} {a b : Int} (hx : ev x = .c (.int k a)) (hy : ev y = .c (.int k b)) (hc : (binI op k a b).1) :
    APure P ⟨d, .binOp op t x y t', ty, pos, af, gd⟩ ev (binI op k a b).2 :=
  APure.same rfl fun w L ρ g hr => by
    have h1 := hr x (by simp [Op.operands])
    have h2 := hr y (by simp [Op.operands])
    rw [hx] at h1
    rw [hy] at h2
    have e1 := h1.c_inv
    have e2 := h2.c_inv
    cases op <;> simp only [binI, ne_eq] at hc ⊢ <;> first
      | (refine ⟨_, ?_, .c _ _⟩; simp [execOp, e1, e2, eqGuard, binOp, Op.intArith]; done)
      | (refine ⟨_, ?_, .c _ _⟩; simp [execOp, e1, e2, eqGuard, binOp, Op.intCmp]; done)
      | (refine ⟨_, ?_, .c _ _⟩; simp [execOp, e1, e2, eqGuard, binOp, Op.intCmp]; rfl)
      | (refine ⟨_, ?_, .c _ _⟩; simp [execOp, e1, e2, eqGuard, binOp, Op.intCmp]; simp only [bne]; rfl)
      | (refine ⟨_, ?_, .c _ _⟩; simp [execOp, e1, e2, eqGuard, binOp, Op.intDiv, hc]; done)
      | (refine ⟨_, ?_, .c _ _⟩; simp [execOp, e1, e2, eqGuard, binOp, Op.intBits, bitop]; done)
theorem ap_shl (t t' : TypeId) (x y : Operand) {k k' : IntKind} {a b : Int} (hx : ev x = .c (.int k a)) (hy : ev y = .c (.int k' b)) (hc : 0 ≤ b) :
    APure P ⟨d, .binOp .shl t x y t', ty, pos, af, gd⟩ ev (.c (.int k (k.wrap (a * 2 ^ (min b.toNat k.bits))))) :=
  APure.same rfl fun w L ρ g hr => by
    have h1 := hr x (by simp [Op.operands])
    have h2 := hr y (by simp [Op.operands])
    rw [hx] at h1
    rw [hy] at h2
    have e1 := h1.c_inv
    have e2 := h2.c_inv
    refine ⟨_, ?_, .c _ _⟩
    simp [execOp, e1, e2, eqGuard, binOp, Op.shift]
    omega
theorem ap_shr (t t' : TypeId) (x y : Operand) {k k' : IntKind} {a b : Int} (hx : ev x = .c (.int k a)) (hy : ev y = .c (.int k' b)) (hc : 0 ≤ b) :
    APure P ⟨d, .binOp .shr t x y t', ty, pos, af, gd⟩ ev (.c (.int k (a.fdiv (2 ^ (min b.toNat k.bits))))) :=
  APure.same rfl fun w L ρ g hr => by
    have h1 := hr x (by simp [Op.operands])
    have h2 := hr y (by simp [Op.operands])
    rw [hx] at h1
    rw [hy] at h2
    have e1 := h1.c_inv
    have e2 := h2.c_inv
    refine ⟨_, ?_, .c _ _⟩
    simp [execOp, e1, e2, eqGuard, binOp, Op.shift]
    omega
theorem ap_not (t : TypeId) (x : Operand) {b : Bool} (hx : ev x = .b b) : APure P ⟨d, .unOp .not t x, ty, pos, af, gd⟩ ev (.b (!b)) :=
  APure.same rfl fun w L ρ g hr => by
    have h1 := hr x (by simp [Op.operands])
    rw [hx] at h1
    have e1 := h1.c_inv
    exact ⟨_, by simp [execOp, e1, Op.unary], .c _ _⟩
theorem ap_neg (t : TypeId) (x : Operand) {k : IntKind} {a : Int} (hx : ev x = .c (.int k a)) : APure P ⟨d, .unOp .neg t x, ty, pos, af, gd⟩ ev (.c (.int k (k.wrap (0 - a)))) :=
  APure.same rfl fun w L ρ g hr => by
    have h1 := hr x (by simp [Op.operands])
    rw [hx] at h1
    have e1 := h1.c_inv
    exact ⟨_, by simp [execOp, e1, Op.unary, Op.intArith], .c _ _⟩
theorem run_underlying' {t : TypeId} {u : TypeDesc} (h : P.underlying t = some u) (w : World) : (underlying t).run P w = .ok u w := by
  simp [underlying, h]
theorem tKind_some {t : TypeId} {k : IntKind} (h : tKind P t = some k) : P.underlying t = some (.int k) := by
  unfold tKind at h
  split at h
  · injection h with h; subst h; assumption
  · cases h
theorem ap_convI (s t : TypeId) (x : Operand) {k k' : IntKind} {a : Int} (hs : (P.underlying s).isSome = true) (ht : tKind P t = some k) (hx : ev x = .c (.int k' a)) :
    APure P ⟨d, .convert s t x, ty, pos, af, gd⟩ ev (.c (.int k (k.wrap a))) :=
  APure.same rfl fun w L ρ g hr => by
    have h1 := hr x (by simp [Op.operands])
    rw [hx] at h1
    have e1 := h1.c_inv
    obtain ⟨us, hus⟩ := Option.isSome_iff_exists.1 hs
    refine ⟨.int k (k.wrap a), ?_, .c _ _⟩
    simp [execOp, e1, convert, run_underlying' hus, run_underlying' (tKind_some ht), Conv.intToInt]
def maxV (k : IntKind) : List V → Option Int
  | [.c (.int k' a)] => if k' = k then some a else none
  | .c (.int k' a) :: l => if k' = k then (maxV k l).map (max a) else none
  | _ => none
end
end Go.Ab
