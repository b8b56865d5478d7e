/-
  Folds: the document's check. No condition.
-/
import Derived.Test.YtfckkkmacjjmhaaDoorSN9
namespace Go.Proofs.YtfckkkmacjjmhaaDoor
open Go.Ab Go.RowKit Go.Dw Go.Shelf

/-- both arms of a condition go on in one state -/
theorem join_k {P : Program} {N : Nat} {C : Cx P N} {c rest : Code} {Q : Exit → S → Prop} {s : S} {K : S → Prop} (hK : ∀ s', AW C rest Q s' → K s') (J : S) (hJ : AW C rest Q J)
    (hc : AW C c (XThen (fun s' => ∃ y : Unit, y = () ∧ Le s' J) fun _ _ => False) s) : AW C c (XThen K Q) s :=
  aw_mono hc fun e s' h => by
    cases e <;> first | (obtain ⟨_, _, h⟩ := h; exact hK s' (aw_le h hJ)) | exact h.elim
end Go.Proofs.YtfckkkmacjjmhaaDoor
