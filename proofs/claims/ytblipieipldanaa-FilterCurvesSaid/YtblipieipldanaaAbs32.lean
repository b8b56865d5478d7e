/-
  A contract that reads what a pointer points at, for a box of the caller's. No condition.
-/
import Derived.Test.YtblipieipldanaaAbs27
namespace Go.Ab
open Go.RowKit Go.Dw

/-- a box seen as memory that is not written -/
theorem Real.ptr {W : Nat → Prop} {w : World} {L : Nat → Prop} {ρ : Nat → Option Value} {id t : Nat} {cs : List V} (h : Real W w L ρ id (.box t cs)) (hi : V.idfL cs = true) :
    ∃ v, ρ id = some v ∧ (∀ k, blk v = some k → k < w.heap.size ∧ W k ∧ ¬ L k) ∧ R w (fun b => L b ∨ blk v = some b) ρ (.ptr cs) v := by
  obtain ⟨v', hv', hlt⟩ := h.lt
  obtain ⟨b, xs, h1, h2, h3, h4, h5⟩ := h
  rw [h1] at hv'; injection hv' with hv'; subst hv'
  refine ⟨_, h1, hlt, ?_⟩
  refine .ptr _ _ _ _ (fun j => xs.toList.getD j undef) (.inr rfl) (fun j u hu => ?_) fun j u hu => ?_
  · obtain ⟨y, hy, hr, hone⟩ := h5.get hu
    have hg : xs.toList.getD j undef = y := by simp [List.getD_eq_getElem?_getD, hy]
    rw [hg]
    refine ⟨?_, hone⟩
    rw [Nat.zero_add]
    rw [cell_of_row w b j xs t (0, 0) h4]
    simpa using hy
  · obtain ⟨y, hy, hr, hone⟩ := h5.get hu
    have hg : xs.toList.getD j undef = y := by simp [List.getD_eq_getElem?_getD, hy]
    rw [hg]
    exact (hr.free (V.idfL_get hi hu) ρ0).ext ⟨fun b hb => ⟨.inl hb, rfl⟩, fun _ _ h => h⟩
/-- numbers alone, or a tuple of such -/
def V.flatT : V → Bool
  | .tup cs => V.flatL cs
  | v => v.flat
theorem R.flatT {w w' : World} {L L' : Nat → Prop} {ρ ρ' : Nat → Option Value} {u : V} {x : Value} (h : R w L ρ u x) (hf : u.flatT = true) : R w' L' ρ' u x := by
  cases u with
  | tup cs =>
    obtain ⟨xs, rfl, hx⟩ := h.tup_inv
    exact .tup' ⟨hx.1, fun i v y hv hy => (hx.2 i v y hv hy).flat (V.flatL_get hf hv)⟩
  | _ => exact h.flat hf
theorem AC.box {P : Program} {f : FuncId} {args args' : List V} {v : V} (h : AC P f args' v []) (t : TypeId) {cs : List V} (ha : V.fzL 500 (.ptr cs) args = args') (hi : V.idfL args' = true) (hi2 : V.idfL cs = true) (hv : v.flatT = true) :
    AM P f args [.box t cs] v [some (.box t cs)] [] := by
  refine ⟨h.1, fun W LB L w ρ vs hwl hWL hG hρ hvs => ?_⟩
  have hσ : insF [.box t cs] 500 = some (.box t cs) := rfl
  obtain ⟨v0, hv0, hlt, hs⟩ := (hG.ob 500 _ hσ).ptr hi2
  have ex : Ext w L ρ w (fun b => L b ∨ blk v0 = some b) ρ := ⟨fun b hb => ⟨.inl hb, rfl⟩, fun _ _ h => h⟩
  have hrv : RV w (fun b => L b ∨ blk v0 = some b) ρ0 args' vs.toList := by
    refine RV.free (ρ := ρ) ?_ hi
    rw [← ha]
    refine ⟨by rw [V.fzL_len]; exact hvs.1, fun i u x hu hx => ?_⟩
    rw [V.fzL_get] at hu
    cases hc : args[i]? with
    | none => rw [hc] at hu; cases hu
    | some a =>
      rw [hc] at hu
      simp only [Option.map_some, Option.some.injEq] at hu
      subst hu
      refine R_fz (fun y hy => ?_) _ _ ((hvs.2 i a x hc hx).ext ex)
      rw [hv0] at hy; injection hy with hy; subst hy; exact hs
  refine (h.2 (fun b => L b ∨ blk v0 = some b) w vs (fun b hb => ?_) (hG.glE ex) hrv).mono ?_
  · rcases hb with hb | hb
    · exact (hG.ll b hb).1
    · exact (hlt b hb).1
  rintro ee w' ⟨x, rfl, hbel, L', ρ', hG', hL', hx, hnn⟩
  obtain ⟨hG2, ex2⟩ := hG.quiet hbel (L' := L) (fun _ h => h) (fun _ h => .inl h)
  have e : outF [some (.box t cs)] [] = insF [.box t cs] := by
    funext id
    unfold outF insF
    by_cases h5 : 500 ≤ id
    · rw [if_pos h5, if_pos h5]
      cases hk : id - 500 with
      | zero => rfl
      | succ n => simp
    · rw [if_neg h5, if_neg h5]; simp
  refine ⟨x, rfl, Tch.of_below hbel fun k _ hk => (hG.new k hk).1, L, ρ, ?_, ex2, hx.flatT hv, fun j _ hj => hρ j hj⟩
  rw [e]; exact hG2
end Go.Ab
