/-
  Ends of functions seen otherwise. No condition.
-/
import Derived.Test.YtlfaaddoemcokaaAbs21
import Derived.Test.YtlfaaddoemcokaaAbs18
namespace Go.Ab
open Go.RowKit Go.Dw

theorem ret_of_le {T : List TI} {fn : Func} {v : V} {obs : List Ob} {e : Exit} {s s' : S} (hle : Le s s') (h : RetPost T fn v obs e s') : RetPost T fn v obs e s := by
  obtain ⟨he, s'', hle', h1⟩ := h
  exact ⟨he, s'', Le.trans hle hle', h1⟩
/-- no slice, seen as an empty one -/
theorem le_nil {tm : Nat → V} {σ : Nat → Option Ob} {nx : Nat} (t : Nat) {sz : Nat} (n : Nat) (row : Nat → List V) (h : tm t = .nil) (hn : n = 0) : Le ⟨tm, σ, nx⟩ ⟨upd tm t (.sl sz n row), σ, nx⟩ := by
  subst hn
  refine le_val t _ fun w L ρ x hx => ?_
  rw [h] at hx
  cases hx
  exact .sl0 _ _ _ _ _
end Go.Ab
