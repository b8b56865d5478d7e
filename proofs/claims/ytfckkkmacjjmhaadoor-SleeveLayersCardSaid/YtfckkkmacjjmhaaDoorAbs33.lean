/-
  Maps of a call's own: made, written, looked up. No condition.
-/
import Derived.Test.YtfckkkmacjjmhaaDoorAbs32
import Derived.Test.YtfckkkmacjjmhaaDoorAbs28
import Derived.Maps.OwnSet
namespace Go.Ab
open Go.RowKit Go.Dw

def MKeys (str : Bool) (es : List MapEntry) : Prop := ∀ e ∈ es, ∃ q : MK, q.str = str ∧ e.key = q.val
def mset (f : MK → Option V) (key : MK) (u : V) : MK → Option V := fun k => if k = key then some u else f k
theorem MRel.nil (r : V → Value → Prop) (str : Bool) : MRel r str (fun _ => none) [] :=
  ⟨by simp, fun k x _ h => by simp [mfind] at h, fun _ _ _ => rfl⟩
theorem MRel.set {r : V → Value → Prop} {f : MK → Option V} {es es' : List MapEntry} {key : MK} {u : V} {x : Value} (h : MRel r key.str f es) (hu : r u x) (hk : MKeys key.str es')
    (he : ∀ k : MK, k.str = key.str → mfind k es' = if k = key then some x else mfind k es) : MRel r key.str (mset f key u) es' := by
  refine ⟨hk, fun k y hs hy => ?_, fun k hs hy => ?_⟩
  · rw [he k hs] at hy
    by_cases hkk : k = key
    · rw [if_pos hkk] at hy; injection hy with hy; subst hy
      exact ⟨u, by rw [mset, if_pos hkk], hu⟩
    · rw [if_neg hkk] at hy
      obtain ⟨v, h1, h2⟩ := h.2.1 k y hs hy
      exact ⟨v, by rw [mset, if_neg hkk]; exact h1, h2⟩
  · rw [he k hs] at hy
    by_cases hkk : k = key
    · rw [if_pos hkk] at hy; cases hy
    · rw [if_neg hkk] at hy
      rw [mset, if_neg hkk]; exact h.2.2 k hs hy
section
variable {P : Program} {W LB : Nat → Prop} {d : Option Tmp} {ty : TypeId} {pos : String} {af : Array Edge} {gd : Option (Nat × Bool)} {ev : Operand → V}
end
end Go.Ab
