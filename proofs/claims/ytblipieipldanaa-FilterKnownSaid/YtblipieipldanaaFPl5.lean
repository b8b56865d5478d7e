/-
  Middles and sides: what is split and joined, in plain Lean. Conditions: told in each theorem.
-/
import Derived.Test.YtblipieipldanaaFA14
namespace Go.Proofs.Ytblipieipldanaa
open Go.Ab Go.RowKit Go.Dw Go.Shelf

/-- the sides, and the middles -/
def spD (p : List Pt) : List Int := (List.range p.length).map fun k => (gp p k).1 - (gp p k).2
def spM (p : List Pt) : List Int := (List.range p.length).map fun k => (gp p k).2 + ((gp p k).1 - (gp p k).2) / 2
theorem spD_len (p : List Pt) : (spD p).length = p.length := by simp [spD]
theorem spM_len (p : List Pt) : (spM p).length = p.length := by simp [spM]
theorem spD_gi {p : List Pt} {k : Nat} (h : k < p.length) : gi (spD p) k = (gp p k).1 - (gp p k).2 := by simp [spD, gi, h]
theorem spM_gi {p : List Pt} {k : Nat} (h : k < p.length) : gi (spM p) k = (gp p k).2 + ((gp p k).1 - (gp p k).2) / 2 := by simp [spM, gi, h]
theorem spD_le {p : List Pt} (h : progE p = 0) : AllLe 65534 (spD p) := by
  obtain ⟨_, g2⟩ := progE_ok.1 h
  refine AllLe.of_gi fun k hk => ?_
  rw [spD_len] at hk
  have := g2 k hk
  rw [spD_gi hk]
  omega
theorem spM_le {p : List Pt} (h : progE p = 0) : AllLe 32767 (spM p) := by
  obtain ⟨_, g2⟩ := progE_ok.1 h
  refine AllLe.of_gi fun k hk => ?_
  rw [spM_len] at hk
  have := g2 k hk
  rw [spM_gi hk]
  omega
/-- a programme that is joined -/
def jnA (m d : List Int) (k : Nat) : Pt := (gi m k - gi d k / 2 + gi d k, gi m k - gi d k / 2)
def jnP (m d : List Int) : List Pt := (List.range m.length).map (jnA m d)
theorem jnP_len (m d : List Int) : (jnP m d).length = m.length := by simp [jnP]
theorem jnP_gp {m d : List Int} {k : Nat} (h : k < m.length) : gp (jnP m d) k = jnA m d k := by simp [jnP, gp, h]
def jnE (m d : List Int) : Int := if (jnP m d).any fun p => loudB p 32767 then 4 else 0
def jnR (m d : List Int) : List Pt := if (jnP m d).any fun p => loudB p 32767 then [] else jnP m d
theorem jn_no {m d : List Int} {k : Nat} (hk : k < m.length) (h : loudB (jnA m d k) 32767 = true) : jnE m d = 4 ∧ jnR m d = [] := by
  have : ((jnP m d).any fun p => loudB p 32767) = true := any_gp.2 ⟨k, by rw [jnP_len]; exact hk, by rw [jnP_gp hk]; exact h⟩
  unfold jnE jnR
  rw [if_pos this, if_pos this]
  exact ⟨rfl, rfl⟩
theorem jn_ok {m d : List Int} (h : ∀ k, k < m.length → loudB (jnA m d k) 32767 = false) : jnE m d = 0 ∧ jnR m d = jnP m d := by
  have : ((jnP m d).any fun p => loudB p 32767) = false := any_gp_no.2 fun k hk => by
    rw [jnP_len] at hk
    rw [jnP_gp hk]
    exact h k hk
  unfold jnE jnR
  rw [this]
  exact ⟨rfl, rfl⟩
theorem jn_or (m d : List Int) : (∃ k, k < m.length ∧ loudB (jnA m d k) 32767 = true ∧ ∀ j, j < k → loudB (jnA m d j) 32767 = false) ∨ ∀ k, k < m.length → loudB (jnA m d k) 32767 = false := by
  by_cases hc : ∃ k, k < m.length ∧ loudB (jnA m d k) 32767 = true
  · obtain ⟨k, ⟨h1, h2⟩, h3⟩ := least _ hc
    refine .inl ⟨k, h1, h2, fun j hj => ?_⟩
    cases e : loudB (jnA m d j) 32767 with
    | false => rfl
    | true => have := h3 j ⟨by omega, e⟩; omega
  · refine .inr fun k hk => ?_
    cases e : loudB (jnA m d k) 32767 with
    | false => rfl
    | true => exact absurd ⟨k, hk, e⟩ hc
theorem jnA_bd {m d : List Int} (hm : AllLe 32767 m) (hd : AllLe 65534 d) (k : Nat) : (-32767 ≤ gi m k ∧ gi m k ≤ 32767) ∧ (-65534 ≤ gi d k ∧ gi d k ≤ 65534) := ⟨hm.gi (by decide) k, hd.gi (by decide) k⟩
/-- a programme whose sides went through a curve -/
def sdR (c : Cv) (u : Bool) (p : List Pt) : Int × List Pt := if cvE c ≠ 0 then (cvE c, []) else if progE p ≠ 0 then (progE p, []) else match runI c u 65534 (spD p) with
  | none => (4, [])
  | some d => (jnE (spM p) d, jnR (spM p) d)
theorem sd_1 {c : Cv} {u : Bool} {p : List Pt} (h : ¬ cvE c = 0) : sdR c u p = (cvE c, []) := by rw [sdR, if_pos h]
theorem sd_2 {c : Cv} {u : Bool} {p : List Pt} (h : cvE c = 0) (h2 : ¬ progE p = 0) : sdR c u p = (progE p, []) := by rw [sdR, if_neg (by simp [h]), if_pos h2]
theorem sd_3 {c : Cv} {u : Bool} {p : List Pt} (h : cvE c = 0) (h2 : progE p = 0) (h3 : runI c u 65534 (spD p) = none) : sdR c u p = (4, []) := by rw [sdR, if_neg (by simp [h]), if_neg (by simp [h2]), h3]
theorem sd_4 {c : Cv} {u : Bool} {p : List Pt} {d : List Int} (h : cvE c = 0) (h2 : progE p = 0) (h3 : runI c u 65534 (spD p) = some d) : sdR c u p = (jnE (spM p) d, jnR (spM p) d) := by rw [sdR, if_neg (by simp [h]), if_neg (by simp [h2]), h3]
end Go.Proofs.Ytblipieipldanaa
