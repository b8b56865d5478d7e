/-
  The logic of code for values without addresses: what a piece of code does to a state, and what a function returns. No condition.
-/
import Derived.Test.YtlfaaddoemcokaaAbs9
namespace Go.Ab
open Go.RowKit Go.Dw

structure S where
  tm : Nat → V
  σ : Nat → Option Ob
  nx : Nat

structure Cx (P : Program) (N : Nat) where
  W : Nat → Prop
  LB : Nat → Prop
  wl : ∀ b, W b → LB b
  dfs : Dp
  mx : P.follows .mixedOrders = true
  F : Fence
  hF : FW F

def Gm {P : Program} {N : Nat} (C : Cx P N) (s : S) (a : Act) (w : World) : Prop := ∃ L ρ, Gam C.W C.LB N C.dfs (freshA s.nx) s.tm s.σ a w L ρ
def AW {P : Program} {N : Nat} (C : Cx P N) (c : Code) (Q : Exit → S → Prop) (s : S) : Prop :=
  ∀ a w, Gm C s a w → c.wpIn C.F 0 P (fun e a' w' => ∃ s', Q e s' ∧ Gm C s' a' w' ∧ Tch C.W w w') a w

def XThen (next : S → Prop) (Q : Exit → S → Prop) : Exit → S → Prop
  | .normal, s => next s
  | e, s => Q e s
def XBlock (id : Nat) (Q : Exit → S → Prop) : Exit → S → Prop
  | .exit id', s => if id' = id then Q .normal s else Q (.exit id') s
  | e, s => Q e s

/-- one state can be seen as another one -/
def Le (s s' : S) : Prop := ∀ {P : Program} {N : Nat} (C : Cx P N) a w, Gm C s a w → Gm C s' a w
theorem Le.refl (s : S) : Le s s := fun _ _ _ h => h
theorem Le.trans {s s' s'' : S} (h : Le s s') (k : Le s' s'') : Le s s'' := fun C a w g => k C a w (h C a w g)

section
variable {P : Program} {N : Nat} {C : Cx P N} {Q : Exit → S → Prop} {s : S}
theorem aw_le {c : Code} {s' : S} (h : Le s s') (k : AW C c Q s') : AW C c Q s := fun a w g => k a w (h C a w g)
theorem aw_mono {c : Code} {Q' : Exit → S → Prop} (h : AW C c Q s) (hq : ∀ e s', Q e s' → Q' e s') : AW C c Q' s :=
  fun a w g => wpIn_mono (h a w g) fun e a' w' ⟨s', q, g', t⟩ => ⟨s', hq e s' q, g', t⟩
theorem aw_skip (h : Q .normal s) : AW C .skip Q s := fun _ _ g => wpIn_skip ⟨s, h, g, Tch.refl _ _⟩
theorem aw_label {l : Nat} (h : Q .normal s) : AW C (.label l) Q s := fun _ _ g => wpIn_label ⟨s, h, g, Tch.refl _ _⟩
theorem aw_exit {id : Nat} (h : Q (.exit id) s) : AW C (.exit id) Q s := fun _ _ g => wpIn_exit ⟨s, h, g, Tch.refl _ _⟩
theorem aw_goto {id : Nat} (h : Q (.goto id) s) : AW C (.goto id) Q s := fun _ _ g => wpIn_goto ⟨s, h, g, Tch.refl _ _⟩
theorem aw_ret (h : Q .ret s) : AW C .ret Q s := fun _ _ g => wpIn_ret ⟨s, h, g, Tch.refl _ _⟩
theorem aw_seq {x y : Code} (h : AW C x (XThen (fun s' => AW C y Q s') Q) s) : AW C (.seq x y) Q s := by
  intro a w g
  refine wpIn_seq (wpIn_mono (h a w g) ?_)
  rintro e a' w' ⟨s', q, g', t⟩
  cases e with
  | normal =>
    refine wpIn_mono (q a' w' g') ?_
    rintro e a'' w'' ⟨s'', q', g'', t'⟩
    exact ⟨s'', q', g'', t.trans t'⟩
  | _ => exact ⟨s', q, g', t⟩
theorem aw_seq_k {x y : Code} (h : ∀ K : S → Prop, (∀ s', AW C y Q s' → K s') → AW C x (XThen K Q) s) : AW C (.seq x y) Q s := aw_seq (h _ fun _ h => h)
theorem aw_cond {c : Operand} {x y : Code} {t : Bool} (hc : ev s.tm c = .b t) (h1 : t = true → AW C x Q s) (h2 : t = false → AW C y Q s) : AW C (.cond c x y) Q s := by
  intro a w g
  obtain ⟨L, ρ, g'⟩ := g
  have := g'.tm.eval c
  rw [hc] at this
  refine wpIn_cond this.c_inv ?_
  cases t with
  | true => exact h1 rfl a w ⟨L, ρ, g'⟩
  | false => exact h2 rfl a w ⟨L, ρ, g'⟩
theorem aw_block {id : Nat} {c : Code} (h : AW C c (XBlock id Q) s) : AW C (.block id c) Q s := by
  intro a w g
  refine wpIn_block (wpIn_mono (h a w g) ?_)
  rintro e a' w' ⟨s', q, g', t⟩
  cases e with
  | exit id' =>
    simp only [Exit.inBlock, XBlock] at q ⊢
    split at q
    · rename_i h; rw [if_pos h]; exact ⟨s', q, g', t⟩
    · rename_i h; rw [if_neg h]; exact ⟨s', q, g', t⟩
  | _ => exact ⟨s', q, g', t⟩
theorem least (p : Nat → Prop) (h : ∃ n, p n) : ∃ n, p n ∧ ∀ m, p m → n ≤ m := by
  obtain ⟨n, hn⟩ := h
  induction n using Nat.strongRecOn with
  | _ n ih =>
    by_cases h : ∃ m, m < n ∧ p m
    · obtain ⟨m, hm, hp⟩ := h
      exact ih m hm hp
    · exact ⟨n, hn, fun m hm => Nat.le_of_not_lt fun hlt => h ⟨m, hlt, hm⟩⟩
open Classical in
theorem aw_loop {ι : Type} {c : Code} (I : ι → S) (ok : ι → Prop) (μ : ι → Nat) (x0 : ι) (hx : ok x0) (h0 : Le s (I x0)) (round : ∀ x, ok x → AW C c (XThen (fun s' => ∃ y, ok y ∧ Le s' (I y) ∧ μ y < μ x) Q) (I x)) : AW C (.loop c) Q s := by
  intro a w g
  have pr : ∃ q : Act → World → Nat → Prop, q = fun a' w' n => ∃ x, ok x ∧ μ x = n ∧ Gm C (I x) a' w' ∧ Tch C.W w w' := ⟨_, rfl⟩
  obtain ⟨q, hq⟩ := pr
  have hqi : ∀ a' w' n, q a' w' n ↔ ∃ x, ok x ∧ μ x = n ∧ Gm C (I x) a' w' ∧ Tch C.W w w' := fun a' w' n => by rw [hq]
  refine wpIn_loop (fun a' w' => ∃ n, q a' w' n) (fun a' w' => if h : ∃ n, q a' w' n then (least _ h).choose else 0) ⟨μ x0, (hqi _ _ _).2 ⟨x0, hx, rfl, h0 C a w g, Tch.refl _ _⟩⟩ ?_
  rintro a' w' hex
  have hl := (least _ hex).choose_spec
  obtain ⟨x, hok, hμ, g', t'⟩ := (hqi _ _ _).1 hl.1
  refine wpIn_mono (round x hok a' w' g') ?_
  rintro e a'' w'' ⟨s'', r, g'', t''⟩
  cases e with
  | normal =>
    obtain ⟨y, hy, hle, hlt⟩ := r
    have hqy : q a'' w'' (μ y) := (hqi _ _ _).2 ⟨y, hy, rfl, hle C _ _ g'', t'.trans t''⟩
    refine ⟨⟨μ y, hqy⟩, ?_⟩
    rw [dif_pos ⟨μ y, hqy⟩, dif_pos hex]
    have h1 := (least _ ⟨μ y, hqy⟩).choose_spec.2 (μ y) hqy
    omega
  | _ => exact ⟨s'', r, g'', t'.trans t''⟩
end

/-! ### Regions -/
def AOps {P : Program} {N : Nat} (C : Cx P N) (ops : Array Oper) (nx : Nat) : List Oper → (Nat → V) → (Nat → Option Ob) → List (List Nat × List Nat) → ((Nat → V) → (Nat → Option Ob) → List (List Nat × List Nat) → Prop) → Prop
  | [], tm, σ, ks, K => K tm σ ks
  | o :: os, tm, σ, ks, K => ∃ e : TE, StepOk P C.W C.LB ops nx tm σ o e ∧ AOps C ops nx os (updO tm o.dst e.v) (upds σ e.δ) (ks ++ [(keysD e.δ, keysP e.pre ++ keysD e.δ)]) K
theorem AOps.run {P : Program} {N : Nat} {C : Cx P N} {ops : Array Oper} {nx : Nat} : ∀ {os : List Oper} {tm : Nat → V} {σ : Nat → Option Ob} {ks : List (List Nat × List Nat)} {K}, AOps C ops nx os tm σ ks K → ∃ tr tm' σ', Run P C.W C.LB ops nx os tr tm σ tm' σ' ∧ K tm' σ' (ks ++ trKeys tr)
  | [], tm, σ, ks, K, h => ⟨[], tm, σ, ⟨rfl, rfl⟩, by simpa [trKeys, AOps] using h⟩
  | o :: os, tm, σ, ks, K, h => by
    obtain ⟨e, h1, h2⟩ := h
    obtain ⟨tr, tm', σ', h3, h4⟩ := AOps.run h2
    exact ⟨e :: tr, tm', σ', ⟨h1, h3⟩, by simpa [trKeys] using h4⟩
/-- what the table of a region has to say -/
def okReg (N : Nat) (ops : List Oper) : Bool := ops.all (fun o => match o.dst with | some t => decide (t < N) && decide (t < 1000) | none => true) && decide ((ops.filterMap (·.dst)).Nodup)
theorem okReg_spec {N : Nat} {ops : List Oper} (h : okReg N ops = true) : (∀ o ∈ ops, ∀ t, o.dst = some t → t < N) ∧ (ops.filterMap (·.dst)).Nodup := by
  simp only [okReg, Bool.and_eq_true, List.all_eq_true, decide_eq_true_eq] at h
  refine ⟨fun o ho t ht => ?_, h.2⟩
  have := h.1 o ho
  rw [ht] at this
  simp at this
  exact this.1
theorem freshA_succ {nx id : Nat} (h : freshA (nx + 1) id) : freshA nx id := by
  unfold freshA at *
  rw [Nat.add_mul] at h
  exact Nat.le_trans (Nat.le_add_right _ _) h
theorem aw_region {P : Program} {N : Nat} {C : Cx P N} {Q : Exit → S → Prop} {s : S} {id : Nat} {ops : List Oper} (hok : okReg N ops = true) (h : AOps C ops.toArray s.nx ops s.tm s.σ [] fun tm' σ' _ => Q .normal ⟨tm', σ', s.nx + 1⟩) : AW C (.region id ops.toArray false) Q s := by
  intro a w ⟨L, ρ, g⟩
  obtain ⟨h1, h2⟩ := okReg_spec hok
  obtain ⟨tr, tm', σ', h3, h4⟩ := h.run
  refine wpIn_region ?_
  rw [List.range_eq_range']
  have := run_text (P := P) (W := C.W) (LB := C.LB) (ops := ops.toArray) (nx := s.nx) (N := N) (dfs := C.dfs) C.hF (Q := fun e a' w' => ∃ s', Q e s' ∧ Gm C s' a' w' ∧ Tch C.W w w') (by simpa using h1) ops 0 tr s.tm tm' s.σ σ' a w w L ρ (freshA s.nx) (by simp) h3 g (fun o ho t ht id h5 h6 h7 => h5) (fun id hid => freshA_succ hid) h2 (Tch.refl _ _) (fun a' w' L' ρ' g' t' => ⟨⟨tm', σ', s.nx + 1⟩, h4, ⟨L', ρ', g'⟩, t'⟩)
  simpa using this
theorem aw_regionD {P : Program} {N : Nat} {C : Cx P N} {Q : Exit → S → Prop} {s : S} {id : Nat} {ops : List Oper} (hok : okReg N ops = true) (h : AOps C ops.toArray s.nx ops s.tm s.σ [] fun tm' σ' ks => okDraw ops ks = true ∧ Q .normal ⟨tm', σ', s.nx + 1⟩) : AW C (.region id ops.toArray true) Q s := by
  intro a w ⟨L, ρ, g⟩
  obtain ⟨h1, h2⟩ := okReg_spec hok
  obtain ⟨tr, tm', σ', h3, hk, h4⟩ := h.run
  refine wpIn_region_any C.mx ?_
  rw [List.nil_append] at hk
  have hb : Below w.heap.size w { w with drawn := w.drawn + 1 } := ⟨rfl, rfl, rfl, Nat.le_refl _, fun _ _ => rfl⟩
  have hq := g.g.quiet hb (L' := L) (fun _ h => h) (fun _ h => .inl h)
  have hsz : (ops.toArray).size = ops.length := by simp
  have hall : ∀ j, ¬ (Array.replicate (ops.toArray).size false).getD j false = true := by
    intro j
    simp only [Array.getD_eq_getD_getElem?, Array.getElem?_replicate]
    split <;> simp
  refine run_any (P := P) (W := C.W) (LB := C.LB) (nx := s.nx) (N := N) (dfs := C.dfs) rfl C.hF h1 h3 (okDraw_spec h3.at_.1 hk) (w0 := w) (fun a' w' L' ρ' g' t' => ⟨⟨tm', σ', s.nx + 1⟩, h4, ⟨L', ρ', g'⟩, t'⟩) _ _ a _ L ρ s.tm s.σ (freshA s.nx) (by simp) (by simp) (fun i o ho hE => absurd hE (hall i))
    ⟨fun t _ => rfl, fun j o e t _ _ hE => absurd hE (hall j)⟩ ⟨fun k _ => rfl, fun j e k _ hE => absurd hE (hall j)⟩ ⟨hq.1, g.fr, g.tm.ext hq.2, g.size, g.defers, g.pin⟩ (fun i o ho _ t ht id h5 h6 h7 => h5) (fun id hid => freshA_succ hid) (Tch.of_new hb)

section
variable {P : Program} {N : Nat} {C : Cx P N} {ops : Array Oper} {nx : Nat} {o : Oper} {os : List Oper} {tm : Nat → V} {σ : Nat → Option Ob} {ks : List (List Nat × List Nat)} {K : (Nat → V) → (Nat → Option Ob) → List (List Nat × List Nat) → Prop}
theorem aops_nil (h : K tm σ ks) : AOps C ops nx [] tm σ ks K := h
theorem aops_pure {v : V} (hg : o.guard = none) (h : APure P o (ev tm) v) (hk : AOps C ops nx os (updO tm o.dst v) σ (ks ++ [([], [])]) K) : AOps C ops nx (o :: os) tm σ ks K :=
  ⟨⟨true, v, [], [], []⟩, ⟨by simp [wantedV, hg], fun _ => ⟨h.step, by simp, by simp [nwOk]⟩, by simp⟩, hk⟩
theorem aops_step {v : V} {pre : List (Nat × Ob)} {nw : List Nat} {δ : List (Nat × Option Ob)} (hg : o.guard = none) (h : AStep P C.W C.LB o (ev tm) v pre nw δ) (hp : ∀ p ∈ pre, σ p.1 = some p.2) (hn : nwOk nx o.dst nw)
    (hk : AOps C ops nx os (updO tm o.dst v) (upds σ δ) (ks ++ [(keysD δ, keysP pre ++ keysD δ)]) K) : AOps C ops nx (o :: os) tm σ ks K :=
  ⟨⟨true, v, pre, nw, δ⟩, ⟨by simp [wantedV, hg], fun _ => ⟨h, hp, hn⟩, by simp⟩, hk⟩
theorem aops_skip {j : Nat} {b x : Bool} (hg : o.guard = some (j, b)) (hw : wantedV ops tm o = some (x == b)) (hx : x = !b) (hk : AOps C ops nx os (updO tm o.dst .any) σ (ks ++ [([], [])]) K) : AOps C ops nx (o :: os) tm σ ks K :=
  ⟨⟨false, .any, [], [], []⟩, ⟨by rw [hw, hx]; cases b <;> rfl, by simp, fun _ => ⟨fun _ _ _ => .any _ _, rfl, rfl⟩⟩, hk⟩
theorem aops_pureG {j : Nat} {b x : Bool} {v : V} (hg : o.guard = some (j, b)) (hw : wantedV ops tm o = some (x == b)) (hx : x = b) (h : APure P o (ev tm) v) (hk : AOps C ops nx os (updO tm o.dst v) σ (ks ++ [([], [])]) K) : AOps C ops nx (o :: os) tm σ ks K :=
  ⟨⟨true, v, [], [], []⟩, ⟨by rw [hw, hx]; simp, fun _ => ⟨h.step, by simp, by simp [nwOk]⟩, by simp⟩, hk⟩
theorem aops_stepG {j : Nat} {b x : Bool} {v : V} {pre : List (Nat × Ob)} {nw : List Nat} {δ : List (Nat × Option Ob)} (hg : o.guard = some (j, b)) (hw : wantedV ops tm o = some (x == b)) (hx : x = b) (h : AStep P C.W C.LB o (ev tm) v pre nw δ) (hp : ∀ p ∈ pre, σ p.1 = some p.2) (hn : nwOk nx o.dst nw)
    (hk : AOps C ops nx os (updO tm o.dst v) (upds σ δ) (ks ++ [(keysD δ, keysP pre ++ keysD δ)]) K) : AOps C ops nx (o :: os) tm σ ks K :=
  ⟨⟨true, v, pre, nw, δ⟩, ⟨by rw [hw, hx]; simp, fun _ => ⟨h, hp, hn⟩, by simp⟩, hk⟩
end
end Go.Ab
