/-
  The rules of walks with objects of the caller's: calls, and what is handed back. No condition.
-/
import Derived.Test.YtfckkkmacjjmhaaDoorAbs25
namespace Go.Ab
open Go.RowKit Go.Dw

/-- the objects that are handed are those of the contract -/
inductive InsOk (g : Nat → Nat) (n : Nat) : List Ob → List Ob → Prop
  | nil : InsOk g n [] []
  | box {t : TypeId} {cs cs' : List V} {l l' : List Ob} (h : cs' = V.renL g cs) (hi : V.inNL n cs = true) (k : InsOk g n l l') : InsOk g n (.box t cs :: l) (.box t cs' :: l')
  | row {e sz m m' : Nat} {f f' : Nat → List V} {l l' : List Ob} (hm : m' = m) (h : ∀ i, i < m' → f' i = V.renL g (f i)) (hi : ∀ i, i < m → V.inNL n (f i) = true) (k : InsOk g n l l') : InsOk g n (.row e sz m f :: l) (.row e sz m' f' :: l')
  | mp {s : Bool} {f f' : MK → Option V} {l l' : List Ob} (h : ∀ k, f' k = (f k).map (V.ren g)) (hi : ∀ k u, f k = some u → V.inN n u = true) (k : InsOk g n l l') : InsOk g n (.mp s f :: l) (.mp s f' :: l')
theorem InsOk.get {g : Nat → Nat} {n : Nat} {l l' : List Ob} (h : InsOk g n l l') : l'.length = l.length ∧ ∀ (i : Nat) (o o' : Ob), l[i]? = some o → l'[i]? = some o' → ObEq o' (o.ren g) ∧ o.inN n := by
  induction h with
  | nil => exact ⟨rfl, fun i o o' h => by simp at h⟩
  | box h hi k ih =>
    refine ⟨by simp [ih.1], fun i o o' h1 h2 => ?_⟩
    cases i with
    | zero => simp at h1 h2; subst h1 h2; exact ⟨⟨rfl, h⟩, hi⟩
    | succ i => exact ih.2 i o o' (by simpa using h1) (by simpa using h2)
  | row hm h hi k ih =>
    refine ⟨by simp [ih.1], fun i o o' h1 h2 => ?_⟩
    cases i with
    | zero => simp at h1 h2; subst h1 h2; exact ⟨⟨rfl, rfl, hm, h⟩, hi⟩
    | succ i => exact ih.2 i o o' (by simpa using h1) (by simpa using h2)
  | mp h hi k ih =>
    refine ⟨by simp [ih.1], fun i o o' h1 h2 => ?_⟩
    cases i with
    | zero => simp at h1 h2; subst h1 h2; exact ⟨⟨rfl, h⟩, hi⟩
    | succ i => exact ih.2 i o o' (by simpa using h1) (by simpa using h2)
def lookS (σ : Nat → Option Ob) : List Nat → List (Option Ob)
  | [] => []
  | n :: ns => σ n :: lookS σ ns
theorem lookS_pre {σ : Nat → Option Ob} : ∀ {ns : List Nat} {l : List Ob}, lookS σ ns = l.map some → ∀ p ∈ preD ns l, σ p.1 = some p.2
  | [], l, _, p, hp => by simp [preD] at hp
  | n :: ns, [], h, p, hp => by simp [lookS] at h
  | n :: ns, o :: l, h, p, hp => by
    simp only [lookS, List.map_cons, List.cons.injEq] at h
    rcases List.mem_cons.1 hp with rfl | hp
    · exact h.1
    · exact lookS_pre h.2 p hp
section
variable {P : Program} {N : Nat} {C : Cx P N} {T : List TI} {ops : Array Oper} {nx : Nat} {o : Oper} {os : List Oper} {tm : Nat → V} {σ : Nat → Option Ob} {ks : List (List Nat × List Nat)} {K : (Nat → V) → (Nat → Option Ob) → List (List Nat × List Nat) → Prop} {ty : TypeId} {pos : String} {af : Array Edge}
theorem aops_callM {d : Nat} {fo : Operand} {ar : Array Operand} {ats : Array TypeId} {f : FuncId} {first caps args : List V} {ins ins' : List Ob} {v v' : V} {outs : List (Option Ob)} {obs : List Ob} {δ : List (Nat × Option Ob)} {kp : List Nat} (ns : List Nat) (hc : AM P f args ins v outs obs) (hf : ev tm fo = .fn (.func f) first caps)
    (hargs : first ++ ar.toList.map (ev tm) ++ caps = V.renL (nameG nx (some d) ns) args) (hin : V.inNL ins.length args = true) (hd : decide (d < 1000) = true) (hobs : decide (obs.length ≤ 90) = true) (hns : decide ns.Nodup = true) (hnl : ns.length = ins.length) (hol : outs.length = ins.length)
    (hσ : lookS σ ns = ins'.map some) (hins : InsOk (nameG nx (some d) ns) ins.length ins ins') (hv : v.ren (nameG nx (some d) ns) = v') (hδ : outD (nameG nx (some d) ns) ns outs ++ callD (nameG nx (some d) ns) 0 obs = δ) (hkp : keysP (preD ns ins') = kp)
    (hk : AOps C ops nx os (upd tm d v') (upds σ δ) (ks ++ [(keysD δ, kp ++ keysD δ)]) K) : AOps C ops nx (⟨some d, .call { callee := .value fo, args := ar, argTypes := ats }, ty, pos, af, none⟩ :: os) tm σ ks K := by
  subst hv hδ hkp
  have hd' : d < 1000 := of_decide_eq_true hd
  refine aops_step rfl (as_callM (d := some d) hc C.wl ns hf nx hargs hin (by simpa using hd') (of_decide_eq_true hobs) (of_decide_eq_true hns) hnl hol hins.get.1 hins.get.2) (lookS_pre hσ) ?_ hk
  intro id hid
  have hob : obs.length ≤ 90 := of_decide_eq_true hobs
  obtain ⟨j, hj, rfl⟩ := List.mem_map.1 hid
  have hj' : j < obs.length := by simpa using hj
  refine ⟨d, rfl, ?_, ?_, ?_⟩ <;> simp only [callG, Option.getD_some] <;> omega
end

/-! ### Guards that are told -/
section
variable {P : Program} {N : Nat} {C : Cx P N} {T : List TI} {M : List Nat} {ops : Array Oper} {nx : Nat} {o : Oper} {os : List Oper} {tm : Nat → V} {σ : Nat → Option Ob} {ks : List (List Nat × List Nat)} {K : (Nat → V) → (Nat → Option Ob) → List (List Nat × List Nat) → Prop}
end

/-! ### What is handed back -/
theorem AM.conv {P : Program} {f : FuncId} {args : List V} {ins : List Ob} {v v' : V} {outs outs' : List (Option Ob)} {obs : List Ob} (h : AM P f args ins v outs obs) (hv : v = v') (ho : outs = outs') : AM P f args ins v' outs' obs := by
  subst hv ho; exact h
end Go.Ab
