/-
  Several texts in one: A contract whose row is not written any more. No condition. .. A call that panics, and a deferred closure that recovers, for values without addresses. No condition but those that a contract names.
-/
import Derived.RecoverIn
import Derived.Test.YtepkjobndmmejaaGreatDoorX02
import Derived.Test.YtepkjobndmmejaaGreatDoorMD
import Derived.Test.YtepkjobndmmejaaGreatDoorX01
namespace Go.Ab
open Go.RowKit Go.Dw
theorem AC.shut1 {P : Program} {f : FuncId} {args : List V} {v v' : V} {e : TypeId} {sz n n' : Nat} {row row' : Nat → List V} (h : AC P f args v [.row e sz n row]) (hn : n = n') (hr : ∀ i, i < n → row i = row' i) (hi : ∀ i, V.idfL (row' i) = true) (hv : V.fz 0 (.sl sz n' row') v = v') (hidf : v'.idf = true) : AC P f args v' [] := by
 subst hn
 refine ⟨h.1, fun L w vs hL hgl hvs => (h.2 L w vs hL hgl hvs).mono ?_⟩
 rintro ee w' ⟨x, rfl, hb, L', ρ', hG, hL', hx, hnn⟩
 have hre : Real (fun b => w.heap.size ≤ b) w' L' ρ' 0 (.row e sz n row') := (hG.ob 0 _ rfl).eq ⟨rfl, rfl, rfl, hr⟩
 obtain ⟨v0, hv0, hlt, hs⟩ := hre.slice fun i _ => hi i
 have ex : Ext w' L' ρ' w' (fun b => L' b ∨ blk v0 = some b) ρ' := ⟨fun b hb => ⟨.inl hb, rfl⟩, fun _ _ h => h⟩
 refine ⟨x, rfl, hb, fun b => L' b ∨ blk v0 = some b, ρ0, ⟨fun b hbl => ?_, hG.new, (fun id o ho => by cases ho), fun i j y z k _ hi => absurd rfl hi, hG.glE ex⟩, fun b hbl => .inl (hL' b hbl), ?_, fun _ _ => rfl⟩
 ·
  rcases hbl with h1 | h1
  ·
   exact hG.ll b h1
  ·
   exact ⟨(hlt b h1).1, .inr (hlt b h1).2.1⟩
 ·
  subst hv
  refine (R_fz (fun y hy => ?_) v x (hx.ext ex)).free hidf ρ0
  rw [hv0] at hy; injection hy with hy; subst hy; exact hs
end Go.Ab

namespace Go.Ab
open Go.RowKit Go.Dw
section
variable {next : S → Prop} {Q : Exit → S → Prop} {s : S} {ch : List PanicEntry} {id : Nat}
end
section
variable {T : List TI} {P : Program}
end
end Go.Ab
