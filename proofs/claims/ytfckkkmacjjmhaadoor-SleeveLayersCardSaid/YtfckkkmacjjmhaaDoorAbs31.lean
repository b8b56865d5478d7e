/-
  The walk of an iterator's body, which calls the yield of a loop. Conditions: told in each theorem.
-/
import Derived.Test.YtfckkkmacjjmhaaDoorAbs30
namespace Go.Ab
open Go.RowKit Go.Dw Go.Shelf

/-- the loop that an iterator serves -/
structure YE (P : Program) (es : List (List V)) where
  l : Nat
  J : Nat → Bool → World → Prop
  L0 : Nat → Prop
  w0 : World
  R0 : Nat → Prop
  B : Nat
  hY : ∀ k x W1, k < es.length → ItE es L0 w0 l k x W1 → B ≤ W1.heap.size → J k true W1 → YieldAt Fence.wide 0 P l x W1 fun e W2 => ∃ b : Bool, e = .returned (.bool b) ∧ Tch (fun i => R0 i ∨ i = l) W1 W2 ∧ (b = true → J (k + 1) true W2) ∧ (b = false → J k false W2)
  hJ : ∀ k g W1 W2, J k g W1 → Below B W1 W2 → J k g W2
  hB : w0.heap.size ≤ B
  hl : w0.heap.size ≤ l ∧ l < B
  hR : ∀ b, R0 b → b < w0.heap.size ∧ ¬ L0 b
  hL : ∀ b, L0 b → b < w0.heap.size
def XThenJ (next : S → Nat → Bool → Prop) (Q : Exit → S → Nat → Bool → Prop) : Exit → S → Nat → Bool → Prop
  | .normal, s, k, g => next s k g
  | e, s, k, g => Q e s k g
def XBlockJ (id : Nat) (Q : Exit → S → Nat → Bool → Prop) : Exit → S → Nat → Bool → Prop
  | .exit id', s, k, g => if id' = id then Q .normal s k g else Q (.exit id') s k g
  | e, s, k, g => Q e s k g

section
variable {P : Program} {N : Nat} {es : List (List V)} {C : Cx P N} {Y : YE P es} {Q : Exit → S → Nat → Bool → Prop} {s : S} {k : Nat} {g : Bool}
end

section
variable {next : S → Nat → Bool → Prop} {Q : Exit → S → Nat → Bool → Prop} {s : S} {k : Nat} {g : Bool} {id id' : Nat}
theorem xjt_n (h : next s k g) : XThenJ next Q .normal s k g := h
theorem xjt_r (h : Q .ret s k g) : XThenJ next Q .ret s k g := h
theorem xjt_x (h : Q (.exit id) s k g) : XThenJ next Q (.exit id) s k g := h
theorem xjb_n (h : Q .normal s k g) : XBlockJ id Q .normal s k g := h
theorem xjb_r (h : Q .ret s k g) : XBlockJ id Q .ret s k g := h
theorem xjb_same (h : Q .normal s k g) : XBlockJ id Q (.exit id) s k g := by simpa [XBlockJ] using h
end
/-- the first operations of a region, in the text's order -/
theorem run_pre {P : Program} {W LB : Nat → Prop} {ops : Array Oper} {nx N : Nat} {dfs : Dp} {F : Fence} (hF : FW F) {Q : Exit → Act → World → Prop} (hd : ∀ o ∈ ops.toList, ∀ t, o.dst = some t → t < N) (rest : List Oper) :
    ∀ (os : List Oper) (i : Nat) (tr : List TE) (tm tm' : Nat → V) (σ σ' : Nat → Option Ob) (a : Act) (w w0 : World) (L : Nat → Prop) (ρ : Nat → Option Value) (fresh : Nat → Prop),
      (∀ j, (os ++ rest)[j]? = ops[i + j]?) → Run P W LB ops nx os tr tm σ tm' σ' → Gam W LB N dfs fresh tm σ a w L ρ → (∀ o ∈ os ++ rest, ∀ t, o.dst = some t → ∀ id, nx * 100000 ≤ id → id % 1000 = t → id < (nx + 1) * 100000 → fresh id) → (∀ id, freshA (nx + 1) id → fresh id) → ((os ++ rest).filterMap (·.dst)).Nodup → Tch W w0 w →
      (∀ a' w' L' ρ' fresh', Gam W LB N dfs fresh' tm' σ' a' w' L' ρ' → (∀ o ∈ rest, ∀ t, o.dst = some t → ∀ id, nx * 100000 ≤ id → id % 1000 = t → id < (nx + 1) * 100000 → fresh' id) → (∀ id, freshA (nx + 1) id → fresh' id) → Tch W w0 w' → wpOpsIn F 0 P ops Q (List.range' (i + os.length) rest.length) a' w') →
      wpOpsIn F 0 P ops Q (List.range' i (os.length + rest.length)) a w := by
  intro os
  induction os with
  | nil =>
    intro i tr tm tm' σ σ' a w w0 L ρ fresh _ hr h hfr1 hfr _ ht hQ
    cases tr with
    | cons => exact hr.elim
    | nil =>
      obtain ⟨rfl, rfl⟩ := hr
      have := hQ a w L ρ fresh h (fun o ho => hfr1 o (by simpa using ho)) hfr ht
      simpa using this
  | cons o os ih =>
    intro i tr tm tm' σ σ' a w w0 L ρ fresh hj hr h hfr1 hfr hnd ht hQ
    cases tr with
    | nil => exact hr.elim
    | cons e tr =>
      obtain ⟨⟨hw, hs, hn⟩, hr⟩ := hr
      have hi : ops[i]? = some o := by have := hj 0; simpa using this.symm
      rw [List.length_cons, Nat.add_right_comm, List.range'_succ, wpOpsIn_cons]
      refine step_in (fresh' := fun id => fresh id ∧ id ∉ e.nw) hF h hi (hd o (by have := Array.mem_of_getElem? hi; simpa using this)) hw (fun he => ⟨(hs he).1, (hs he).2.1, fun id hid => by
        obtain ⟨t, h1, h2, h3, h4⟩ := (hs he).2.2 id hid
        exact hfr1 o (by simp) t h1 id h2 h4 h3⟩) (fun _ _ => rfl) hn (fun id h => h) ?_
      intro a' w' L' ρ' h' ht' _
      have f1 : ∀ o' ∈ os ++ rest, ∀ t, o'.dst = some t → ∀ id, nx * 100000 ≤ id → id % 1000 = t → id < (nx + 1) * 100000 → id ∉ e.nw := by
        intro o' ho' t ht id h1 h2 h3 hc
        cases hrun : e.run with
        | false => rw [(hn hrun).2.1] at hc; simp at hc
        | true =>
          obtain ⟨t', g1, g2, g3, g4⟩ := (hs hrun).2.2 id hc
          have htt : t = t' := by rw [← h2, ← g4]
          subst htt
          rw [List.cons_append] at hnd
          simp only [List.filterMap_cons, g1, List.nodup_cons] at hnd
          exact hnd.1 (List.mem_filterMap.2 ⟨o', ho', ht⟩)
      have f2 : ∀ id, freshA (nx + 1) id → id ∉ e.nw := by
        intro id hid hc
        cases hrun : e.run with
        | false => rw [(hn hrun).2.1] at hc; simp at hc
        | true =>
          obtain ⟨t', g1, g2, g3, g4⟩ := (hs hrun).2.2 id hc
          unfold freshA at hid
          omega
      refine ih (i + 1) tr _ _ _ _ a' w' w0 L' ρ' _ (fun j => by have := hj (j + 1); simpa [Nat.add_assoc, Nat.add_comm 1 j] using this) hr h' (fun o' ho' t ht id h1 h2 h3 => ⟨hfr1 o' (by rw [List.cons_append]; exact List.mem_cons_of_mem _ ho') t ht id h1 h2 h3, f1 o' ho' t ht id h1 h2 h3⟩) (fun id hid => ⟨hfr id hid, f2 id hid⟩) ?_ (ht.trans ht') (fun a2 w2 L2 ρ2 fr2 g2 q1 q2 q3 => ?_)
      · rw [List.cons_append] at hnd
        cases hdst : o.dst with
        | none => simpa [List.filterMap_cons, hdst] using hnd
        | some t => simp only [List.filterMap_cons, hdst, List.nodup_cons] at hnd; exact hnd.2
      · have := hQ a2 w2 L2 ρ2 fr2 g2 q1 q2 q3
        rwa [show i + 1 + os.length = i + (o :: os).length by simp; omega]

/-- how an iterator ends -/
def EndIt (n : Nat) (e : Exit) (_ : S) (k : Nat) (g : Bool) : Prop := (e = .normal ∨ e = .ret) ∧ (g = true → k = n) ∧ (g = false → k < n)
theorem AIter.it {P : Program} {gf : FuncId} {caps : List V} {es : List (List V)} (h : AIter P gf caps es) : AIt P gf caps es := by
  refine ⟨h.1, fun L w lb hL _ hlb R hR => ?_⟩
  obtain ⟨xs, h1, h2, h3⟩ := h.2 L w lb hL hlb
  intro l J Jx W hT hl hlW hJ hJx hY h0
  have e0 : ∀ b, L b → W.heap[b]? = w.heap[b]? := fun b hb => hT.block b (hL b hb) fun hc => (hR b hc).2 hb
  have := h3 R hR l (fun k W1 => J k W1 ∧ ∀ b, L b → W1.heap[b]? = w.heap[b]?) Jx W hT hl hlW (fun k W1 W2 hj hb => ⟨hJ k _ _ hj.1 hb, fun b hbL => (hb.block b (Nat.lt_of_lt_of_le (hL b hbL) hT.size)).trans (hj.2 b hbL)⟩) hJx (fun k x W1 hx hs hj => ?_) ⟨h0, e0⟩
  · rw [h1] at this
    refine this.mono ?_
    rintro e W' ⟨hv, hj | hj⟩
    · exact ⟨hv, .inl hj.1⟩
    · exact ⟨hv, .inr hj⟩
  · have hk : k < es.length := by have := (List.getElem?_eq_some_iff.1 hx).1; omega
    have hv : es[k]? = some es[k] := List.getElem?_eq_getElem hk
    have hxr := h2 k _ x hv hx
    obtain ⟨fn', tmps, assign, body, q1, q2⟩ := hY k x W1 hk ⟨_, hv, L, fun b hb => .inl hb, hxr.1, fun i u y hu hy => (hxr.2 i u y hu hy).ext ⟨fun b hb => ⟨hb, hj.2 b hb⟩, fun _ _ h => h⟩⟩ hs hj.1
    refine ⟨fn', tmps, assign, body, q1, q2.mono ?_⟩
    rintro e W2 ⟨b, rfl, ht, a1, a2⟩
    refine ⟨b, rfl, ht, fun e => ⟨a1 e, fun c hc => ?_⟩, a2⟩
    refine (ht.block c ?_ ?_).trans (hj.2 c hc)
    · exact Nat.lt_of_lt_of_le (Nat.lt_of_lt_of_le (hL c hc) hT.size) hs
    · rintro (h | h)
      · exact (hR c h).2 hc
      · have := hL c hc; omega
end Go.Ab
