/-
  A run of operations by a list of what each one gives, for values without addresses. No condition.
-/
import Derived.Test.YtlfaaddoemcokaaAbs16
namespace Go.Ab
open Go.RowKit Go.Dw

/-- what is told of an operation: its condition (none: nothing to show), its value, what it turns -/
structure PR where
  d : Option Nat
  q : Option Prop
  v : V
  δ : List (Nat × Option Ob)
def SR.pr (r : SR) (d : Option Nat) : Option Nat × Prop × V × List (Nat × Option Ob) := (d, r.c, r.v, r.δ)
def PR.ex (r : PR) : Option Nat × Prop × V × List (Nat × Option Ob) := (r.d, r.q.getD True, r.v, r.δ)
def pv (d : Nat) (v : V) : PR := ⟨some d, none, v, []⟩
def pc (d : Nat) (c : Prop) (v : V) : PR := ⟨some d, some c, v, []⟩
def pw (c : Prop) (k : Nat) (ob : Ob) : PR := ⟨none, some c, .any, [(k, some ob)]⟩
def pn (d : Nat) (v : V) (k : Nat) (ob : Ob) : PR := ⟨some d, none, v, [(k, some ob)]⟩
def pickV2 (t : Bool) (a b : V) : Option V :=
  match a, b with
  | .c (.bool x), .c (.bool y) => some (.b (cond t x y))
  | _, _ => none
theorem pickV2_spec {t : Bool} {a b v : V} (h : pickV2 t a b = some v) : pickV t a b = some v := by
  unfold pickV2 at h
  split at h
  · rename_i x y
    injection h with h
    subst h
    cases x <;> cases y <;> cases t <;> rfl
  · cases h
def noDst (o : Oper) : Bool := match o.dst with | some t => decide (t < 1000) | none => false
def gstep (T : List TI) (M : List Nat) (nx : Nat) (ds : List (Option Tmp)) (tm : Nat → V) (σ : Nat → Option Ob) (o : Oper) : Option SR :=
  match o.guard with
  | none => match o.op with
    | .pick x a b => match ev tm x with
      | .c (.bool t) => match pickV2 t (ug (ev tm a)) (ug (ev tm b)) with
        | some v => if noDst o then some (resSR (pickOk t true (ev tm a) ∧ pickOk t false (ev tm b)) v) else none
        | none => none
      | _ => none
    | _ => if dstOk o && noGd (opsV tm o) then astep T false M nx o (fun x => ug (ev tm x)) σ else none
  | some _ => match guardV ds tm o with
    | some (some g) => match o.op with
      | .pick x a b => match ug (ev tm x) with
        | .c (.bool t) => match pickV2 t (ug (ev tm a)) (ug (ev tm b)) with
          | some v => if noDst o then some (resSR (ugOk g (ev tm x) ∧ (g = true → pickOk t true (ev tm a)) ∧ (g = true → pickOk t false (ev tm b))) (.gd g v)) else none
          | none => none
        | _ => none
      | _ => if dstOk o && noDst o then (match astep T false M nx o (fun x => ug (ev tm x)) σ with
        | some ⟨c, v, pre, [], []⟩ => some ⟨ugL g (opsV tm o) ∧ (g = true → c), .gd g v, pre, [], []⟩
        | _ => none) else none
    | _ => none

section
variable {P : Program} {N : Nat} {C : Cx P N} {T : List TI} {M : List Nat} {ops : Array Oper} {nx : Nat} {o : Oper} {os : List Oper} {tm : Nat → V} {σ : Nat → Option Ob} {ks : List (List Nat × List Nat)} {K : (Nat → V) → (Nat → Option Ob) → List (List Nat × List Nat) → Prop}
theorem aops_gs (hT : TabOk T P) {r : SR} (h : gstep T M nx (ops.toList.map (·.dst)) tm σ o = some r) (hc : r.c)
    (hk : AOps C ops nx os (updO tm o.dst r.v) (upds σ r.δ) (ks ++ [(keysD r.δ, keysP r.pre ++ keysD r.δ)]) K) : AOps C ops nx (o :: os) tm σ ks K := by
  obtain ⟨d, op, ty, pos, af, gd⟩ := o
  unfold gstep at h
  simp only at h
  split at h
  · split at h
    · rename_i x a b
      split at h
      · rename_i t hx
        split at h
        · rename_i v hv
          split at h
          · injection h with h; subst h
            exact aops_pick x a b hx hc.1 hc.2 (pickV2_spec hv) (by simpa [resSR, keysD, keysP, upds] using hk)
          · cases h
        · cases h
      · cases h
    · split at h
      · rename_i hd
        simp only [Bool.and_eq_true] at hd
        obtain ⟨c, v, pre, nw, δ⟩ := r
        exact aops_ev hT false M rfl hd.1 hd.2 h hc hk
      · cases h
  · rename_i gd' hg
    split at h
    · rename_i g hgv
      split at h
      · rename_i x a b
        split at h
        · rename_i t hx
          split at h
          · rename_i v hv
            split at h
            · injection h with h; subst h
              exact aops_pickG x a b hgv hx (pickV2_spec hv) hc.1 hc.2.1 hc.2.2 (by simpa [resSR, keysD, keysP, upds] using hk)
            · cases h
          · cases h
        · cases h
      · split at h
        · rename_i hd
          simp only [Bool.and_eq_true] at hd
          split at h
          · rename_i c v pre ha
            injection h with h; subst h
            obtain ⟨hc1, hc2⟩ := hc
            exact aops_guard hgv (fun x hx => ugL_spec hc1 _ (opsV_mem hx)) (fun hg => ⟨(astep_sound (W := C.W) (LB := C.LB) hT _ ha (hc2 hg) (dstOk_spec hd.1)).1, (astep_sound (W := C.W) (LB := C.LB) hT _ ha (hc2 hg) (dstOk_spec hd.1)).2.1⟩) (by simpa [keysD, upds] using hk)
          · cases h
        · cases h
    · cases h

def glist (T : List TI) (M : List Nat) (nx : Nat) (ds : List (Option Tmp)) : List Oper → List PR → (Nat → V) → (Nat → Option Ob) → List (Option (Option Nat × Prop × V × List (Nat × Option Ob)))
  | o :: os, r :: rs, tm, σ => (gstep T M nx ds tm σ o).map (fun q => q.pr o.dst) :: glist T M nx ds os rs (updO tm r.d r.v) (upds σ r.δ)
  | _, _, _, _ => []
def AllP : List PR → Prop
  | [] => True
  | r :: rs => match r.q with
    | none => AllP rs
    | some c => c ∧ AllP rs
theorem AllP.cons {r : PR} {rs : List PR} (h : AllP (r :: rs)) : r.q.getD True ∧ AllP rs := by
  unfold AllP at h
  split at h
  · rename_i e; rw [e]; exact ⟨trivial, h⟩
  · rename_i c e; rw [e]; exact h
def updR : List PR → (Nat → V) → Nat → V
  | r :: rs, tm => updR rs (updO tm r.d r.v)
  | [], tm => tm
def updsR : List PR → (Nat → Option Ob) → Nat → Option Ob
  | r :: rs, σ => updsR rs (upds σ r.δ)
  | [], σ => σ
def gkeys (T : List TI) (M : List Nat) (nx : Nat) (ds : List (Option Tmp)) : List Oper → List PR → (Nat → V) → (Nat → Option Ob) → List (List Nat × List Nat) → List (List Nat × List Nat)
  | o :: os, r :: rs, tm, σ, ks => gkeys T M nx ds os rs (updO tm r.d r.v) (upds σ r.δ) (ks ++ [match gstep T M nx ds tm σ o with | some q => (keysD q.δ, keysP q.pre ++ keysD q.δ) | none => ([], [])])
  | _, _, _, _, ks => ks
theorem aops_n (hT : TabOk T P) {n : Nat} (rs : List PR) (hn : rs.length = n) (h : glist T M nx (ops.toList.map (·.dst)) os rs tm σ = rs.map fun r => some r.ex) (hc : AllP rs)
    (hk : AOps C ops nx (os.drop n) (updR rs tm) (updsR rs σ) (gkeys T M nx (ops.toList.map (·.dst)) os rs tm σ ks) K) : AOps C ops nx os tm σ ks K := by
  subst hn
  induction rs generalizing os tm σ ks with
  | nil => cases os <;> exact hk
  | cons r rs ih =>
    cases os with
    | nil => simp [glist] at h
    | cons o os =>
      simp only [glist, List.map_cons, List.cons.injEq] at h
      obtain ⟨h1, h2⟩ := h
      simp only [List.length_cons, List.drop_succ_cons, updR, updsR, gkeys] at hk
      cases hg : gstep T M nx (ops.toList.map (·.dst)) tm σ o with
      | none => rw [hg] at h1; cases h1
      | some q =>
        rw [hg] at h1 hk
        simp only [Option.map_some, Option.some.injEq] at h1
        obtain ⟨c, v, pre, nw, δ⟩ := q
        simp only [SR.pr, PR.ex, Prod.mk.injEq] at h1
        obtain ⟨e0, e1, e2, e3⟩ := h1
        subst e2 e3
        obtain ⟨hc1, hc2⟩ := hc.cons
        rw [← e0] at h2 hk
        exact aops_gs hT hg (by rw [e1]; exact hc1) (ih h2 hc2 hk)
end
end Go.Ab
