/-
  Several texts in one: Points with their neighbours, and the fault of a groove: the walks of the program. Conditions: told in each theorem. .. The chapter's examples, and small functions of the laws on grooves. No condition but the sizes of slices.
-/
import Derived.Test.YtpmchnojeloohaaGreatDoorAbs42
import Derived.Test.YtpmchnojeloohaaGreatDoorX09
import Derived.Test.YtpmchnojeloohaaGreatDoorX01
namespace Go.Proofs.YtpmchnojeloohaaGreatDoor
open Go.Ab Go.RowKit Go.Dw Go.Shelf
end Go.Proofs.YtpmchnojeloohaaGreatDoor

namespace Go.Proofs.YtpmchnojeloohaaGreatDoor
open Go.Ab Go.RowKit Go.Dw Go.Shelf
end Go.Proofs.YtpmchnojeloohaaGreatDoor

namespace Go.Proofs.YtpmchnojeloohaaGreatDoor
open Go.Ab Go.RowKit Go.Dw Go.Shelf
theorem RImp.int {a b : Int} (h : a = b) : RImp (V.i a) (V.i b) := by subst h; exact RImp.refl _
end Go.Proofs.YtpmchnojeloohaaGreatDoor

namespace Go.Proofs.YtpmchnojeloohaaGreatDoor
open Go.Ab Go.RowKit Go.Dw Go.Shelf
structure IsFst (p : Int → Bool) (M F : Int) : Prop where
 b : 0 ≤ F ∧ F ≤ M
 lo : ∀ n, 0 ≤ n → n < F → p n = false
 hi : ∀ n, F ≤ n → n < M → p n = true
theorem fst_exists {p : Int → Bool} {M : Int} (hM : 0 ≤ M) (hm : ∀ m n, 0 ≤ m → m ≤ n → n < M → p m = true → p n = true) : ∃ F, IsFst p M F := by
 have key : ∀ k : Nat, (k : Int) ≤ M → ∃ F, (0 ≤ F ∧ F ≤ (k : Int)) ∧ (∀ n, 0 ≤ n → n < F → p n = false) ∧ ∀ n, F ≤ n → n < (k : Int) → p n = true := by
  intro k
  induction k with
  | zero => exact fun _ => ⟨0, by omega, fun n h1 h2 => by omega, fun n h1 h2 => by omega⟩
  | succ k ih =>
   intro hk
   obtain ⟨F, h1, h2, h3⟩ := ih oM
   cases hp : p k with
   | true =>
    refine ⟨F, by omega, h2, fun n a b => ?_⟩
    by_cases he : n = k
    ·
     subst he; exact hp
    ·
     exact h3 n a oM
   | false =>
    refine ⟨(k : Int) + 1, by omega, fun n a b => ?_, fun n a b => by omega⟩
    cases hn : p n with
    | false => rfl
    | true =>
     have := hm n k a oM oM hn
     rw [hp] at this; cases this
 obtain ⟨F, h1, h2, h3⟩ := key M.toNat oM
 exact ⟨F, by omega, h2, fun n a b => h3 n a oM⟩
theorem IsFst.eq {p : Int → Bool} {M F G : Int} (h : IsFst p M F) (k : IsFst p M G) : F = G := by
 rcases Int.lt_trichotomy F G with hl | hl | hl
 ·
  have a := h.hi F (Int.le_refl _) (by have := k.b; omega)
  have b := k.lo F h.b.1 hl
  rw [a] at b; cases b
 ·
  exact hl
 ·
  have a := k.hi G (Int.le_refl _) (by have := h.b; omega)
  have b := h.lo G k.b.1 hl
  rw [a] at b; cases b
theorem IsFst.iff {p : Int → Bool} {M F n : Int} (h : IsFst p M F) (h0 : 0 ≤ n) (hM : n < M) : p n = true ↔ F ≤ n := by
 constructor
 ·
  intro hp
  refine Int.not_lt.1 fun hl => ?_
  rw [h.lo n h0 hl] at hp; cases hp
 ·
  exact fun hl => h.hi n hl hM
end Go.Proofs.YtpmchnojeloohaaGreatDoor

namespace Go.Proofs.YtpmchnojeloohaaGreatDoor
open Go.Ab Go.RowKit Go.Dw Go.Shelf
end Go.Proofs.YtpmchnojeloohaaGreatDoor

namespace Go.Proofs.YtpmchnojeloohaaGreatDoor
open Go.Ab Go.RowKit Go.Dw Go.Shelf
end Go.Proofs.YtpmchnojeloohaaGreatDoor

namespace Go.Proofs.YtpmchnojeloohaaGreatDoor
open Go.Ab Go.RowKit Go.Dw Go.Shelf
end Go.Proofs.YtpmchnojeloohaaGreatDoor

namespace Go.Proofs.YtpmchnojeloohaaGreatDoor
open Go.Ab Go.RowKit Go.Dw Go.Shelf
end Go.Proofs.YtpmchnojeloohaaGreatDoor
