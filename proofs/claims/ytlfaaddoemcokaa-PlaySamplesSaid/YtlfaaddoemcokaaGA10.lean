/-
  What an index of a groove needs: the walks of both copies. Conditions: told in each theorem.
-/
import Derived.Test.YtlfaaddoemcokaaGA9
namespace Go.Proofs.Ytlfaaddoemcokaa
open Go.Ab Go.RowKit Go.Dw Go.Shelf

def needsR (c : Cut) (l : List Pt) (per i F : Int) : Int × Int :=
  if gErr c l = 0 then (if turnE per = 0 then (if 0 ≤ i ∧ i < l.length then (if F ≤ 4194304 then F else 0, if F ≤ 4194304 then 0 else 14) else (0, 3)) else (0, 3)) else (0, gErr c l)
theorem needsR_1 {c : Cut} {l : List Pt} {per i F : Int} (h : ¬ gErr c l = 0) : needsR c l per i F = (0, gErr c l) := by rw [needsR, if_neg h]
theorem needsR_2 {c : Cut} {l : List Pt} {per i F : Int} (h : gErr c l = 0) (h2 : ¬ turnE per = 0) : needsR c l per i F = (0, 3) := by rw [needsR, if_pos h, if_neg h2]
theorem needsR_3 {c : Cut} {l : List Pt} {per i F : Int} (h : gErr c l = 0) (h3 : ¬ (0 ≤ i ∧ i < l.length)) : needsR c l per i F = (0, 3) := by
  rw [needsR, if_pos h, if_neg h3]; split <;> rfl
theorem needsR_4 {c : Cut} {l : List Pt} {per i F : Int} (h : gErr c l = 0) (h2 : turnE per = 0) (h3 : 0 ≤ i ∧ i < l.length) : needsR c l per i F = (if F ≤ 4194304 then F else 0, if F ≤ 4194304 then 0 else 14) := by rw [needsR, if_pos h, if_pos h2, if_pos h3]
def NstOk (c : Cut) (l : List Pt) (per i F : Int) : Prop := gErr c l = 0 → turnE per = 0 → 0 ≤ i ∧ i < l.length → IsFst (needB c l per i.toNat) 4194305 F
theorem nstOk_ex (c : Cut) (l : List Pt) (per i : Int) : ∃ F, NstOk c l per i F := by
  by_cases h : gErr c l = 0 ∧ turnE per = 0
  · obtain ⟨F, hF⟩ := need_fst l i.toNat (gErr_ok h.1).1 (turnE_ok.1 h.2).1
    exact ⟨F, fun _ _ _ => hF⟩
  · exact ⟨0, fun a b _ => absurd ⟨a, b⟩ h⟩
end Go.Proofs.Ytlfaaddoemcokaa
