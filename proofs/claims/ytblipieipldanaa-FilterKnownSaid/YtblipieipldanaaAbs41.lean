/-
  Contracts whose answers are seen otherwise. No condition.
-/
import Derived.Test.YtblipieipldanaaMD
namespace Go.Ab
open Go.RowKit Go.Dw

theorem AC.res {P : Program} {f : FuncId} {args : List V} {v v' : V} (h : AC P f args v []) (hi : v.idf = true) (k : RImp v v') : AC P f args v' [] := by
  refine ⟨h.1, fun L w vs hL hgl hv => (h.2 L w vs hL hgl hv).mono ?_⟩
  rintro e w' ⟨x, he, hb, L', ρ', hG, hLL, hr, hn⟩
  exact ⟨x, he, hb, L', ρ', hG, hLL, (k _ _ _ (hr.free hi ρ0)).of0, hn⟩
theorem RImp.tups {us' us : List V} (h : A2 us' us) : RImp (.tup us') (.tup us) := by
  intro w L x hx
  obtain ⟨xs, rfl, hl⟩ := hx.tup_inv
  exact .tup' (h.rv hl)
theorem RImp.nils (sz : Nat) (row : Nat → List V) : RImp .nil (.sl sz 0 row) := by
  intro w L x hx
  cases hx
  exact .sl0 _ _ _ _ _
end Go.Ab
