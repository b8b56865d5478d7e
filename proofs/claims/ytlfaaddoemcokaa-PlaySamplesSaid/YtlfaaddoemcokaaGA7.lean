/-
  Places, arcs, faults: the walks of the reference's outer functions. Conditions: told in each theorem.
-/
import Derived.Test.YtlfaaddoemcokaaGA6
namespace Go.Proofs.Ytlfaaddoemcokaa
open Go.Ab Go.RowKit Go.Dw Go.Shelf

def turnE (per : Int) : Int := if betB per 1 65536 then 0 else 3
theorem turnE_ok {per : Int} : turnE per = 0 ↔ 1 ≤ per ∧ per ≤ 65536 := by
  unfold turnE
  cases h : betB per 1 65536 <;> simp [betB] at h ⊢ <;> omega
theorem turnE_or (per : Int) : turnE per = 0 ∨ turnE per = 3 := by unfold turnE; split <;> simp
theorem plcE_turn {r per : Int} : plcE r per = if betB r 0 4194304 then turnE per else 3 := by
  unfold plcE turnE
  cases betB r 0 4194304 <;> simp
theorem plcE_or (r per : Int) : plcE r per = 0 ∨ plcE r per = 3 := by unfold plcE; split <;> simp
/-! ### the least number from which on something holds -/
structure IsFst (p : Int → Bool) (M F : Int) : Prop where
  b : 0 ≤ F ∧ F ≤ M
  lo : ∀ n, 0 ≤ n → n < F → p n = false
  hi : ∀ n, F ≤ n → n < M → p n = true
theorem fst_exists {p : Int → Bool} {M : Int} (hM : 0 ≤ M) (hm : ∀ m n, 0 ≤ m → m ≤ n → n < M → p m = true → p n = true) : ∃ F, IsFst p M F := by
  have key : ∀ k : Nat, (k : Int) ≤ M → ∃ F, (0 ≤ F ∧ F ≤ (k : Int)) ∧ (∀ n, 0 ≤ n → n < F → p n = false) ∧ ∀ n, F ≤ n → n < (k : Int) → p n = true := by
    intro k
    induction k with
    | zero => exact fun _ => ⟨0, by omega, fun n h1 h2 => by omega, fun n h1 h2 => by omega⟩
    | succ k ih =>
      intro hk
      obtain ⟨F, h1, h2, h3⟩ := ih (by omega)
      cases hp : p k with
      | true =>
        refine ⟨F, by omega, h2, fun n a b => ?_⟩
        by_cases he : n = k
        · subst he; exact hp
        · exact h3 n a (by omega)
      | false =>
        refine ⟨(k : Int) + 1, by omega, fun n a b => ?_, fun n a b => by omega⟩
        cases hn : p n with
        | false => rfl
        | true =>
          have := hm n k a (by omega) (by omega) hn
          rw [hp] at this; cases this
  obtain ⟨F, h1, h2, h3⟩ := key M.toNat (by omega)
  exact ⟨F, by omega, h2, fun n a b => h3 n a (by omega)⟩
theorem IsFst.eq {p : Int → Bool} {M F G : Int} (h : IsFst p M F) (k : IsFst p M G) : F = G := by
  rcases Int.lt_trichotomy F G with hl | hl | hl
  · have a := h.hi F (Int.le_refl _) (by have := k.b; omega)
    have b := k.lo F h.b.1 hl
    rw [a] at b; cases b
  · exact hl
  · have a := k.hi G (Int.le_refl _) (by have := h.b; omega)
    have b := h.lo G k.b.1 hl
    rw [a] at b; cases b
theorem IsFst.iff {p : Int → Bool} {M F n : Int} (h : IsFst p M F) (h0 : 0 ≤ n) (hM : n < M) : p n = true ↔ F ≤ n := by
  constructor
  · intro hp
    refine Int.not_lt.1 fun hl => ?_
    rw [h.lo n h0 hl] at hp; cases hp
  · exact fun hl => h.hi n hl hM
end Go.Proofs.Ytlfaaddoemcokaa
