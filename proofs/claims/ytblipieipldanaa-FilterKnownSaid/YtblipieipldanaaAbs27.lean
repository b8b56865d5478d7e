/-
  A contract that reads a slice, for a row of the caller's that is not written any more. No condition.
-/
import Derived.Test.YtblipieipldanaaAbs26
namespace Go.Ab
open Go.RowKit Go.Dw

theorem Real.weak {W W' : Nat → Prop} {w : World} {L : Nat → Prop} {ρ ρ' : Nat → Option Value} {id : Nat} {o : Ob} (h : Real W w L ρ id o) (hW : ∀ b, W b → W' b) (hρ : ∀ j y, ρ j = some y → ρ' j = some y) : Real W' w L ρ' id o := by
  have e : Ext w L ρ w L ρ' := ⟨fun _ hb => ⟨hb, rfl⟩, hρ⟩
  cases o with
  | box t cs =>
    obtain ⟨b, xs, h1, h2, h3, h4, h5⟩ := h
    exact ⟨b, xs, hρ _ _ h1, hW _ h2, h3, h4, h5.ext e⟩
  | row t sz n row =>
    obtain ⟨v, xs, h1, h2, h3, h4, h5⟩ := h
    exact ⟨v, xs, hρ _ _ h1, h2, h3, h4.ext e, fun k hk => ⟨hW _ (h5 k hk).1, (h5 k hk).2⟩⟩
  | mp str f =>
    obtain ⟨b, es, cl, h1, h2, h3, h4, h5⟩ := h
    exact ⟨b, es, cl, hρ _ _ h1, hW _ h2, h3, h4, h5.imp fun _ _ _ _ h => h.ext e⟩
/-- a contract that reads a slice, of a row that is not written any more -/
theorem AC.row {P : Program} {f : FuncId} {args args' : List V} {v : V} {obs : List Ob} (h : AC P f args' v obs) (e : TypeId) {sz n n' : Nat} {row row' : Nat → List V} (ha : V.fzL 500 (.sl sz n row) args = args') (hi : V.idfL args' = true) (ho : obs.length ≤ 90) (hn : n' = n) (hr : ∀ i, i < n' → row' i = row i) (hi2 : ∀ i, V.idfL (row i) = true) :
    AM P f args [.row e sz n' row'] v [none] obs := by
  subst hn
  refine ⟨h.1, fun W LB L w ρ vs hwl hWL hG hρ hvs => ?_⟩
  have hσ : insF [.row e sz n' row'] 500 = some (.row e sz n' row') := rfl
  have hre : Real W w L ρ 500 (.row e sz n' row) := (hG.ob 500 _ hσ).eq ⟨rfl, rfl, rfl, hr⟩
  obtain ⟨v0, hv0, hlt, hs⟩ := hre.slice fun i _ => hi2 i
  have ex : Ext w L ρ w (fun b => L b ∨ blk v0 = some b) ρ := ⟨fun b hb => ⟨.inl hb, rfl⟩, fun _ _ h => h⟩
  have hrv : RV w (fun b => L b ∨ blk v0 = some b) ρ0 args' vs.toList := by
    refine RV.free (ρ := ρ) ?_ hi
    rw [← ha]
    refine ⟨by rw [V.fzL_len]; exact hvs.1, fun i u x hu hx => ?_⟩
    rw [V.fzL_get] at hu
    cases hc : args[i]? with
    | none => rw [hc] at hu; cases hu
    | some a =>
      rw [hc] at hu
      simp only [Option.map_some, Option.some.injEq] at hu
      subst hu
      refine R_fz (fun y hy => ?_) _ _ ((hvs.2 i a x hc hx).ext ex)
      rw [hv0] at hy; injection hy with hy; subst hy; exact hs
  refine (h.2 (fun b => L b ∨ blk v0 = some b) w vs (fun b hb => ?_) (hG.glE ex) hrv).mono ?_
  · rcases hb with hb | hb
    · exact (hG.ll b hb).1
    · exact (hlt b hb).1
  rintro ee w' ⟨x, rfl, hbel, L', ρ', hG', hL', hv, hnn⟩
  obtain ⟨ρ2, hρ2⟩ : ∃ ρ2 : Nat → Option Value, ∀ id, ρ2 id = if id < obs.length then ρ' id else ρ id := ⟨_, fun _ => rfl⟩
  have hon : ∀ j y, ρ' j = some y → ρ2 j = some y := fun j y hy => by
    rw [hρ2]
    by_cases hj : j < obs.length
    · rw [if_pos hj]; exact hy
    · rw [hnn j (by omega)] at hy; cases hy
  have ex2 : Ext w' L' ρ' w' L' ρ2 := ⟨fun _ hb => ⟨hb, rfl⟩, hon⟩
  refine ⟨x, rfl, Tch.of_below hbel fun k _ hk => (hG.new k hk).1, L', ρ2, ⟨fun b hb => ?_, fun b hb => hG.new b (Nat.le_trans hbel.size hb), fun id o hio => ?_, fun i j y z k hij hi hj hy hz => ?_, hG.glL fun b hb => ⟨hL' b (.inl hb), hbel.block b (hG.ll b hb).1⟩⟩, ⟨fun b hb => ⟨hL' b (.inl hb), hbel.block b (hG.ll b hb).1⟩, fun id y hy => ?_⟩, hv.ext ex2, fun j hj hj5 => ?_⟩
  · have := hG'.ll b hb
    refine ⟨this.1, ?_⟩
    rcases this.2 with (h1 | h1) | h1
    · exact (hG.ll b h1).2
    · exact hwl b (hlt b h1).2.1
    · exact (hG.new b h1).2
  · have hob : obsF obs id = some o := by
      unfold outF at hio
      split at hio
      · cases hq : ([none] : List (Option Ob))[id - 500]? with
        | none => rw [hq] at hio; cases hio
        | some q =>
          rw [hq] at hio
          have : q = none := by
            have := List.mem_of_getElem? hq
            simpa using this
          rw [this] at hio; cases hio
      · exact hio
    exact (hG'.ob id o hob).weak (fun b hb => (hG.new b hb).1) hon
  · have key : ∀ i, outF [none] obs i ≠ none → obsF obs i ≠ none ∧ i < obs.length := fun i hi => by
      unfold outF at hi
      split at hi
      · exfalso
        apply hi
        cases hq : ([none] : List (Option Ob))[i - 500]? with
        | none => rfl
        | some q =>
          have : q = none := by
            have := List.mem_of_getElem? hq
            simpa using this
          rw [this]; rfl
      · refine ⟨hi, ?_⟩
        cases hq : obs[i]? with
        | none => exact absurd hq hi
        | some q => exact (List.getElem?_eq_some_iff.1 hq).1
    rw [hρ2, if_pos (key i hi).2] at hy
    rw [hρ2, if_pos (key j hj).2] at hz
    exact hG'.sep i j y z k hij (key i hi).1 (key j hj).1 hy hz
  · rw [hρ2]
    by_cases hid : id < obs.length
    · rw [hρ id (.inl (by omega))] at hy; cases hy
    · rw [if_neg hid]; exact hy
  · rw [hρ2, if_neg (by omega)]
    exact hρ j hj5
end Go.Ab
