/-
  A value of a state seen as another one. No condition.
-/
import Derived.Test.YtlfaaddoemcokaaAbs20
namespace Go.Ab
open Go.RowKit Go.Dw

theorem R_rows {w : World} {L : Nat → Prop} {ρ : Nat → Option Value} {sz n : Nat} {row row' : Nat → List V} {x : Value} (h : R w L ρ (.sl sz n row) x) (he : ∀ i, i < n → row i = row' i) : R w L ρ (.sl sz n row') x := by
  obtain ⟨A, c, rfl, h'⟩ := h.sl_inv
  refine .sl' h.sl_cap fun hn => ?_
  obtain ⟨b, o, hA, hb, hlen, hc⟩ := h' hn
  exact ⟨b, o, hA, hb, fun i hi => by rw [← he i hi]; exact hlen i hi, fun i j u hi hu => hc i j u hi (by rw [he i hi]; exact hu)⟩
/-- a temp's value seen as another one -/
theorem le_val {tm : Nat → V} {σ : Nat → Option Ob} {nx : Nat} (t : Nat) (v : V) (h : ∀ (w : World) (L : Nat → Prop) (ρ : Nat → Option Value) (x : Value), R w L ρ (tm t) x → R w L ρ v x) : Le ⟨tm, σ, nx⟩ ⟨upd tm t v, σ, nx⟩ := by
  intro P N C a w ⟨L, ρ, g⟩
  refine ⟨L, ρ, ⟨g.g, g.fr, fun t' => ?_, g.size, g.defers, g.pin⟩⟩
  show R _ _ _ (upd tm t v t') _
  by_cases he : t' = t
  · subst he
    rw [upd_same]
    exact h _ _ _ _ (g.tm t')
  · rw [upd_ne _ _ he]
    exact g.tm t'
/-- a slice's rows told otherwise -/
theorem le_rows {tm : Nat → V} {σ : Nat → Option Ob} {nx : Nat} (t : Nat) {sz n n' : Nat} {row row' : Nat → List V} (h : tm t = .sl sz n row) (hn : n = n') (he : ∀ i, i < n → row i = row' i) : Le ⟨tm, σ, nx⟩ ⟨upd tm t (.sl sz n' row'), σ, nx⟩ := by
  subst hn
  refine le_val t _ fun w L ρ x hx => ?_
  rw [h] at hx
  exact R_rows hx he
/-- a row that is not written any more, told as a slice -/
theorem le_shut {tm : Nat → V} {σ : Nat → Option Ob} {nx : Nat} (t id : Nat) {e sz n n' : Nat} {row row' : Nat → List V} (ht : tm t = .own id) (hσ : σ id = some (.row e sz n row)) (hi : ∀ i, i < n → V.idfL (row i) = true) (hn : n = n') (he : ∀ i, i < n → row i = row' i) :
    Le ⟨tm, σ, nx⟩ ⟨upd (fun t => V.fz id (.sl sz n row) (tm t)) t (.sl sz n' row'), upd σ id none, nx⟩ :=
  Le.trans (le_freeze id hσ hi) (le_rows t (n := n) (row := row) (by simp [ht, V.fz]) hn he)
end Go.Ab
