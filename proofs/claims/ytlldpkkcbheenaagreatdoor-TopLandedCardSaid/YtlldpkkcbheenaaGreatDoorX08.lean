/-
  Several texts in one: How much of a groove fits, and narrower grooves, in plain Lean. Conditions: told in each theorem. .. The document's reading and sweeping are the program's: plain laws, and the contracts of 'Read' and 'Sweep' of the document. No condition but the sizes of slices.
-/
import Derived.Test.YtlldpkkcbheenaaGreatDoorX06
import Derived.Test.YtlldpkkcbheenaaGreatDoorX07
import Derived.Test.YtlldpkkcbheenaaGreatDoorMC
import Derived.Test.YtlldpkkcbheenaaGreatDoorMD
import Derived.Test.YtlldpkkcbheenaaGreatDoorX02
import Derived.Test.YtlldpkkcbheenaaGreatDoorAbs42
import Derived.Test.YtlldpkkcbheenaaGreatDoorX03
namespace Go.Proofs.YtlldpkkcbheenaaGreatDoor
open Go.Ab Go.RowKit Go.Dw Go.Shelf
theorem gp_takeB {l : List Pt} {k v : Nat} (h : v < k) : gp (l.take k) v = gp l v := by simp [gp, List.getD_eq_getElem?_getD, List.getElem?_take, h]
theorem LCut.take {b : Bl} {l : List Pt} {g : Nat → Int} {k k' : Nat} (hk : k ≤ k') (h : LCut b (l.take k') g) : LCut b (l.take k) g := by
 refine ⟨fun v hv => ?_, fun v hv => ?_⟩
 ·
  rw [List.length_take] at hv
  have := h.1 v (by rw [List.length_take]; omega)
  rw [gp_takeB (show v < k' by omega)] at this
  rw [gp_takeB (show v < k by omega)]
  refine ⟨this.1, this.2.1, fun hp => ?_⟩
  have := this.2.2 hp
  rw [gp_takeB (show v - b.per.toNat < k' by omega)] at this
  rw [gp_takeB (show v - b.per.toNat < k by omega)]
  exact this
 ·
  rw [List.length_take] at hv
  have := h.2 v (by rw [List.length_take]; omega)
  rw [gp_takeB (show v < k' by omega)] at this
  rw [gp_takeB (show v < k by omega)]
  exact this
def Narrower (l m : List Pt) : Prop := m.length = l.length ∧ ∀ v, v < l.length → (gp l v).1 ≤ (gp m v).1 ∧ (gp m v).2 ≤ (gp l v).2
theorem Narrower.cut {b : Bl} {l m : List Pt} {g : Nat → Int} (hn : Narrower l m) (h : LCut b l g) : LCut b m g :=
 ⟨h.1.anti hn.1 (fun v hv => (hn.2 v hv).1) fun v hv => (hn.2 v hv).2, fun v hv => by
  have := h.2 v (by rw [← hn.1]; exact hv)
  have := (hn.2 v (by rw [← hn.1]; exact hv)).1
  omega⟩
theorem Narrower.take {l m : List Pt} (hn : Narrower l m) (k : Nat) : Narrower (l.take k) (m.take k) := by
 refine ⟨by rw [List.length_take, List.length_take, hn.1], fun v hv => ?_⟩
 rw [List.length_take] at hv
 rw [gp_takeB oM, gp_takeB oM]
 exact hn.2 v oM
theorem wall_gChk {c : Cut} {q : List Pt} (hc : cutE c = 0) (hs : sChk q = 0) : gChk (q.map (wallP c)) = 0 := by
 obtain ⟨h1, h2⟩ := sChk_ok.1 hs
 refine gChk_ok.2 ⟨by simpa using h1, fun k hk => ?_⟩
 rw [List.length_map] at hk
 rw [gp_map hk]
 exact wallP_gE hc (h2 k hk)
end Go.Proofs.YtlldpkkcbheenaaGreatDoor

namespace Go.Proofs.YtlldpkkcbheenaaGreatDoor
open Go.Ab Go.RowKit Go.Dw Go.Shelf
end Go.Proofs.YtlldpkkcbheenaaGreatDoor

namespace Go.Proofs.YtlldpkkcbheenaaGreatDoor
open Go.Ab Go.RowKit Go.Dw Go.Shelf
theorem find_first {p : Nat → Bool} {n k : Nat} (hk : k < n) (hp : p k = true) (h : ∀ j, j < k → p j = false) : (List.range n).find? p = some k := by
 rw [List.find?_range_eq_some]
 exact ⟨hp, by simpa using hk, fun j hj => by simp [h j hj]⟩
theorem find_none {p : Nat → Bool} {n : Nat} (h : ∀ j, j < n → p j = false) : (List.range n).find? p = none := by
 rw [List.find?_eq_none]
 intro x hx
 simp [h x (by simpa using hx)]
theorem gp_bd {l : List Pt} (h : ∀ p ∈ l, -4194304 ≤ p.1 ∧ p.1 ≤ 4194304 ∧ -4194304 ≤ p.2 ∧ p.2 ≤ 4194304) (k : Nat) : -4194304 ≤ (gp l k).1 ∧ (gp l k).1 ≤ 4194304 ∧ -4194304 ≤ (gp l k).2 ∧ (gp l k).2 ≤ 4194304 := by
 by_cases hk : k < l.length
 ·
  exact h _ (gp_mem hk)
 ·
  simp [gp, List.getD_eq_getElem?_getD, List.getElem?_eq_none (Nat.le_of_not_lt hk)]
end Go.Proofs.YtlldpkkcbheenaaGreatDoor

namespace Go.Proofs.YtlldpkkcbheenaaGreatDoor
open Go.RowKit Go.Dw
def inK (a b : List Pt) (k : Nat) : Prop := (gp a k).2 ≤ (gp b k).2 ∧ (gp b k).1 ≤ (gp a k).1
def Inside (a b : List Pt) : Prop := a.length = b.length ∧ ∀ k, k < a.length → inK a b k
instance (a b : List Pt) : Decidable (Inside a b) := by unfold Inside inK; infer_instance
end Go.Proofs.YtlldpkkcbheenaaGreatDoor

namespace Go.Proofs.YtlldpkkcbheenaaGreatDoor
open Go.RowKit Go.Dw
def LeL (a b : List Int) : Prop := a.length = b.length ∧ ∀ k, k < a.length → gi a k ≤ gi b k
theorem LeL.refl (a : List Int) : LeL a a := ⟨rfl, fun _ _ => Int.le_refl _⟩
theorem LeL.trans {a b c : List Int} (h : LeL a b) (k : LeL b c) : LeL a c := ⟨h.1.trans k.1, fun i hi => Int.le_trans (h.2 i hi) (k.2 i (by rw [← h.1]; exact hi))⟩
end Go.Proofs.YtlldpkkcbheenaaGreatDoor

namespace Go.Proofs.YtlldpkkcbheenaaGreatDoor
open Go.RowKit Go.Dw
end Go.Proofs.YtlldpkkcbheenaaGreatDoor

namespace Go.Proofs.YtlldpkkcbheenaaGreatDoor
open Go.RowKit Go.Dw
end Go.Proofs.YtlldpkkcbheenaaGreatDoor

namespace Go.Proofs.YtlldpkkcbheenaaGreatDoor
open Go.RowKit Go.Dw
end Go.Proofs.YtlldpkkcbheenaaGreatDoor
