/-
  Loops whose number of rounds is a numeral, walked round by round. No condition.
-/
import Derived.Test.YtblipieipldanaaMB
import Derived.LoopNIn
namespace Go.Ab
open Go.RowKit Go.Dw

def AWR {P : Program} {N : Nat} (C : Cx P N) (c : Code) (Q : Exit → S → Prop) : Nat → S → Prop
  | 0, _ => False
  | m + 1, s => AW C c (XThen (AWR C c Q m) Q) s
section
variable {P : Program} {N : Nat} {C : Cx P N} {Q : Exit → S → Prop} {s : S} {c : Code}
theorem awr_succ {m : Nat} (h : ∀ K : S → Prop, (∀ s', AWR C c Q m s' → K s') → AW C c (XThen K Q) s) : AWR C c Q (m + 1) s := h _ fun _ h => h
theorem aw_rounds (m : Nat) (h : AWR C c Q m s) : AW C (.loop c) Q s := by
  intro a w g
  refine wpIn_loop_rounds m ?_
  have key : ∀ m s a w0 w, Tch C.W w0 w → AWR C c Q m s → Gm C s a w → Code.roundsIn C.F 0 P c (fun e a' w' => ∃ s', Q e s' ∧ Gm C s' a' w' ∧ Tch C.W w0 w') m a w := by
    intro m
    induction m with
    | zero => intro s a w0 w _ h; exact h.elim
    | succ m ih =>
      intro s a w0 w t0 h g
      refine wpIn_mono (h a w g) ?_
      rintro e a' w' ⟨s', q, g', t⟩
      cases e with
      | normal => exact ih s' a' w0 w' (t0.trans t) q g'
      | _ => exact ⟨s', q, g', t0.trans t⟩
  exact key m s a w w (Tch.refl _ _) h g
end
end Go.Ab
