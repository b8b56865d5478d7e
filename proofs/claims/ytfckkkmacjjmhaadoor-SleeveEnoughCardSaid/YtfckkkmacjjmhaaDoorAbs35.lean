/-
  A nil in a cell, seen as an empty row of its own. No condition.
-/
import Derived.Test.YtfckkkmacjjmhaaDoorAbs34
namespace Go.Ab
open Go.RowKit Go.Dw

/-- an empty row where a cell holds none yet -/
theorem le_openIn {tm : Nat → V} {σ : Nat → Option Ob} {nx : Nat} (id j : Nat) {t : TypeId} {cs : List V} (e sz : Nat) (row : Nat → List V) (h : σ id = some (.box t cs)) (hj : cs[j]? = some .nil) (hid : decide (id < nx * 100000) = true) (hjl : decide (j < 100000) = true) :
    Le ⟨tm, σ, nx⟩ ⟨tm, upd (upd σ (nx * 100000 + j) (some (.row e sz 0 row))) id (some (.box t (cs.set j (.own (nx * 100000 + j))))), nx + 1⟩ := by
  intro P N C a w ⟨L, ρ, g⟩
  have hjl := of_decide_eq_true hjl
  have hid := of_decide_eq_true hid
  have hn : ρ (nx * 100000 + j) = none := g.fr _ (Nat.le_add_right _ _)
  obtain ⟨hG, ex⟩ := g.g.put (w' := w) (σ1 := σ) (ρ' := upd ρ (nx * 100000 + j) (some (.slice none 0 0))) (World.grownBy.refl w none) (by simp) (nx * 100000 + j) _ (.row e sz 0 row) (fun i o hi ho => ⟨ho, by simp⟩) (fun i hi => upd_ne _ _ hi) (upd_same _ _ _) (.inl hn) (fun k hk => by simp [blk] at hk)
    (fun ex => ⟨_, [], upd_same _ _ _, World.ownsRow_nil _ _ _ _, fun i hi => by omega, by simp [slRows]; exact .nil, fun k hk => by simp [blk] at hk⟩)
  obtain ⟨ρ1, hρ1⟩ : ∃ ρ1, ρ1 = upd ρ (nx * 100000 + j) (some (.slice none 0 0)) := ⟨_, rfl⟩
  rw [← hρ1] at hG ex
  have hne : id ≠ nx * 100000 + j := by omega
  have h1 : upd σ (nx * 100000 + j) (some (.row e sz 0 row)) id = some (.box t cs) := by rw [upd_ne _ _ hne]; exact h
  obtain ⟨b, xs, q1, q2, q3, q4, q5⟩ := hG.ob id _ h1
  have hch : ∀ k, some b = some k → C.W k ∧ ¬ L k := by rintro k hk; injection hk with hk; subst hk; exact ⟨q2, q3⟩
  have hjx : j < xs.toList.length := by rw [← q5.1]; exact (List.getElem?_eq_some_iff.1 hj).1
  have hxj : xs.toList[j]? = some (.slice none 0 0) := by
    have e1 : xs.toList[j]? = some xs.toList[j] := List.getElem?_eq_getElem hjx
    have := (q5.2 j _ _ hj e1).1
    rw [e1]
    generalize xs.toList[j] = q at this
    cases this; rfl
  have hset : xs.toList.set j (.slice none 0 0) = xs.toList := by
    apply List.ext_getElem?
    intro i
    rw [List.getElem?_set]
    by_cases hij : j = i
    · subst hij; rw [if_pos rfl, if_pos hjx, hxj]
    · rw [if_neg hij]
  obtain ⟨hG2, ex2⟩ := hG.put (w' := w) (σ1 := upd σ (nx * 100000 + j) (some (.row e sz 0 row))) (ρ' := ρ1) (World.grownBy.refl w (some b)) hch id _ (.box t (cs.set j (.own (nx * 100000 + j))))
    (fun i o hi ho => ⟨ho, fun z hz k hk hkz => by
      injection hk with hk; subst hk
      exact hG.sep i id z _ b hi (by rw [ho]; simp) (by rw [h1]; simp) hz q1 hkz rfl⟩) (fun _ _ => rfl) q1 (.inr q1) (fun k hk => .inl (by simpa [blk] using hk)) (fun ex3 =>
      ⟨b, xs, q1, q2, q3, q4, by
        have := (q5.ext ex3).set j (u := .own (nx * 100000 + j)) (x := .slice none 0 0) (.own _ _ _ (by rw [hρ1, upd_same]) rfl) rfl
        rwa [hset] at this⟩)
  refine ⟨L, ρ1, ⟨hG2, fun i hi => ?_, fun t' => (g.tm t').ext ex, g.size, g.defers, fun i x hp => ex.r i x (g.pin i x hp)⟩⟩
  have hi' : (nx + 1) * 100000 ≤ i := hi
  rw [hρ1, upd_ne _ _ (by omega)]
  exact g.fr i (Nat.le_trans (Nat.mul_le_mul_right _ (Nat.le_succ nx)) hi')
end Go.Ab
