/-
  Iterators whose body is walked: what they hand out is known as values without addresses. Conditions: told in each theorem.
-/
import Derived.Test.YtfckkkmacjjmhaaDoorAbs26
namespace Go.Dw
open Go.RowKit Go.Shelf
/-- THE ITERATOR's CONTRACT, looser: it hands out n values, each one of those that E allows. -/
def Iter2 (P : Program) (f : FuncId) (lb : Array Value) (n : Nat) (E : Nat → Nat → Array Value → World → Prop) (R : Nat → Prop) (w : World) : Prop :=
  ∀ (l : Nat) (J Jx : Nat → World → Prop) (W : World), Tch R w W → w.heap.size ≤ l → l < W.heap.size →
    (∀ k W1 W2, J k W1 → Below W.heap.size W1 W2 → J k W2) → (∀ k W1 W2, Jx k W1 → Below W.heap.size W1 W2 → Jx k W2) →
    (∀ k x W1, k < n → E l k x W1 → W.heap.size ≤ W1.heap.size → J k W1 → YieldAt Fence.wide 0 P l x W1 fun e W2 => ∃ b : Bool, e = .returned (.bool b) ∧ Tch (fun i => R i ∨ i = l) W1 W2 ∧ (b = true → J (k + 1) W2) ∧ (b = false → Jx k W2)) →
    J 0 W →
    CallsIn Fence.wide 0 P f (#[.func (.yield l) #[] #[]] ++ lb) W fun e W' => (∃ v, e = .returned v) ∧ (J n W' ∨ ∃ k, k < n ∧ Jx k W')
end Go.Dw
namespace Go.Ab
open Go.RowKit Go.Dw Go.Shelf

/-- what may be handed out: the k-th value, its memory old or new, and not written any more -/
def ItE (es : List (List V)) (L : Nat → Prop) (w : World) (l k : Nat) (x : Array Value) (W : World) : Prop :=
  ∃ v, es[k]? = some v ∧ ∃ L1 : Nat → Prop, (∀ b, L1 b → L b ∨ (w.heap.size ≤ b ∧ b < W.heap.size ∧ b ≠ l)) ∧ RV W L1 ρ0 v x.toList
def AIt (P : Program) (gf : FuncId) (caps : List V) (es : List (List V)) : Prop :=
  (∀ (args : Array Value) (w : World), (callFunc gf args).run P w = .ok (.enter gf args) w) ∧
  ∀ (L : Nat → Prop) (w : World) (lb : Array Value), (∀ b, L b → b < w.heap.size) → (∀ g, R w L ρ0 (gvals g) (gval g)) → RV w L ρ0 caps lb.toList → ∀ R : Nat → Prop, (∀ b, R b → b < w.heap.size ∧ ¬ L b) → Iter2 P gf lb es.length (ItE es L w) R w
end Go.Ab
