/-
  Several texts in one: The samples that are near, for values without addresses. No condition. .. The document's 'Sweep' is the program's. No condition but the sizes of slices.
-/
import Derived.Test.YtepkjobndmmejaaGreatDoorMC
import Derived.Test.YtepkjobndmmejaaGreatDoorMD
import Derived.Test.YtepkjobndmmejaaGreatDoorX01
import Derived.Test.YtepkjobndmmejaaGreatDoorAbs42
import Derived.Test.YtepkjobndmmejaaGreatDoorX02
namespace Go.Proofs.YtepkjobndmmejaaGreatDoor
open Go.Ab Go.RowKit Go.Dw Go.Shelf
end Go.Proofs.YtepkjobndmmejaaGreatDoor

namespace Go.Proofs.YtepkjobndmmejaaGreatDoor
open Go.Ab Go.RowKit Go.Dw Go.Shelf
theorem find_first {p : Nat → Bool} {n k : Nat} (hk : k < n) (hp : p k = true) (h : ∀ j, j < k → p j = false) : (List.range n).find? p = some k := by
 rw [List.find?_range_eq_some]
 exact ⟨hp, by simpa using hk, fun j hj => by simp [h j hj]⟩
theorem find_none {p : Nat → Bool} {n : Nat} (h : ∀ j, j < n → p j = false) : (List.range n).find? p = none := by
 rw [List.find?_eq_none]
 intro x hx
 simp [h x (by simpa using hx)]
theorem gp_bd {l : List Pt} (h : ∀ p ∈ l, -4194304 ≤ p.1 ∧ p.1 ≤ 4194304 ∧ -4194304 ≤ p.2 ∧ p.2 ≤ 4194304) (k : Nat) : -4194304 ≤ (gp l k).1 ∧ (gp l k).1 ≤ 4194304 ∧ -4194304 ≤ (gp l k).2 ∧ (gp l k).2 ≤ 4194304 := by
 by_cases hk : k < l.length
 ·
  exact h _ (gp_mem hk)
 ·
  simp [gp, List.getD_eq_getElem?_getD, List.getElem?_eq_none (Nat.le_of_not_lt hk)]
end Go.Proofs.YtepkjobndmmejaaGreatDoor

namespace Go.Proofs.YtepkjobndmmejaaGreatDoor
open Go.RowKit Go.Dw
def inK (a b : List Pt) (k : Nat) : Prop := (gp a k).2 ≤ (gp b k).2 ∧ (gp b k).1 ≤ (gp a k).1
def Inside (a b : List Pt) : Prop := a.length = b.length ∧ ∀ k, k < a.length → inK a b k
instance (a b : List Pt) : Decidable (Inside a b) := by unfold Inside inK; infer_instance
end Go.Proofs.YtepkjobndmmejaaGreatDoor

namespace Go.Proofs.YtepkjobndmmejaaGreatDoor
open Go.RowKit Go.Dw
def LeL (a b : List Int) : Prop := a.length = b.length ∧ ∀ k, k < a.length → gi a k ≤ gi b k
theorem LeL.refl (a : List Int) : LeL a a := ⟨rfl, fun _ _ => Int.le_refl _⟩
theorem LeL.trans {a b c : List Int} (h : LeL a b) (k : LeL b c) : LeL a c := ⟨h.1.trans k.1, fun i hi => Int.le_trans (h.2 i hi) (k.2 i (by rw [← h.1]; exact hi))⟩
def Bd (l : List Pt) : Prop := ∀ p ∈ l, -4194304 ≤ p.1 ∧ p.1 ≤ 4194304 ∧ -4194304 ≤ p.2 ∧ p.2 ≤ 4194304
end Go.Proofs.YtepkjobndmmejaaGreatDoor

namespace Go.Proofs.YtepkjobndmmejaaGreatDoor
open Go.RowKit Go.Dw
end Go.Proofs.YtepkjobndmmejaaGreatDoor

namespace Go.Proofs.YtepkjobndmmejaaGreatDoor
open Go.RowKit Go.Dw
end Go.Proofs.YtepkjobndmmejaaGreatDoor

namespace Go.Proofs.YtepkjobndmmejaaGreatDoor
open Go.RowKit Go.Dw
end Go.Proofs.YtepkjobndmmejaaGreatDoor

namespace Go.Proofs.YtepkjobndmmejaaGreatDoor
open Go.RowKit Go.Dw
end Go.Proofs.YtepkjobndmmejaaGreatDoor
