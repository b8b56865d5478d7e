/-
  Middles and sides: what is split and joined, in plain Lean. Conditions: told in each theorem.
-/
import Derived.Test.YtblipieipldanaaFA14
namespace Go.Proofs.Ytblipieipldanaa
open Go.Ab Go.RowKit Go.Dw Go.Shelf

/-- the sides, and the middles -/
def spD (p : List Pt) : List Int := (List.range p.length).map fun k => (gp p k).1 - (gp p k).2
def spM (p : List Pt) : List Int := (List.range p.length).map fun k => (gp p k).2 + ((gp p k).1 - (gp p k).2) / 2
theorem spD_len (p : List Pt) : (spD p).length = p.length := by simp [spD]
theorem spM_len (p : List Pt) : (spM p).length = p.length := by simp [spM]
theorem spD_gi {p : List Pt} {k : Nat} (h : k < p.length) : gi (spD p) k = (gp p k).1 - (gp p k).2 := by simp [spD, gi, h]
theorem spM_gi {p : List Pt} {k : Nat} (h : k < p.length) : gi (spM p) k = (gp p k).2 + ((gp p k).1 - (gp p k).2) / 2 := by simp [spM, gi, h]
theorem spD_le {p : List Pt} (h : progE p = 0) : AllLe 65534 (spD p) := by
  obtain ⟨_, g2⟩ := progE_ok.1 h
  refine AllLe.of_gi fun k hk => ?_
  rw [spD_len] at hk
  have := g2 k hk
  rw [spD_gi hk]
  omega
theorem spM_le {p : List Pt} (h : progE p = 0) : AllLe 32767 (spM p) := by
  obtain ⟨_, g2⟩ := progE_ok.1 h
  refine AllLe.of_gi fun k hk => ?_
  rw [spM_len] at hk
  have := g2 k hk
  rw [spM_gi hk]
  omega
/-- a programme that is joined -/
def jnA (m d : List Int) (k : Nat) : Pt := (gi m k - gi d k / 2 + gi d k, gi m k - gi d k / 2)
def jnP (m d : List Int) : List Pt := (List.range m.length).map (jnA m d)
theorem jnP_len (m d : List Int) : (jnP m d).length = m.length := by simp [jnP]
theorem jnP_gp {m d : List Int} {k : Nat} (h : k < m.length) : gp (jnP m d) k = jnA m d k := by simp [jnP, gp, h]
def jnE (m d : List Int) : Int := if (jnP m d).any fun p => loudB p 32767 then 4 else 0
def jnR (m d : List Int) : List Pt := if (jnP m d).any fun p => loudB p 32767 then [] else jnP m d
theorem jn_no {m d : List Int} {k : Nat} (hk : k < m.length) (h : loudB (jnA m d k) 32767 = true) : jnE m d = 4 ∧ jnR m d = [] := by
  have : ((jnP m d).any fun p => loudB p 32767) = true := any_gp.2 ⟨k, by rw [jnP_len]; exact hk, by rw [jnP_gp hk]; exact h⟩
  unfold jnE jnR
  rw [if_pos this, if_pos this]
  exact ⟨rfl, rfl⟩
theorem jn_ok {m d : List Int} (h : ∀ k, k < m.length → loudB (jnA m d k) 32767 = false) : jnE m d = 0 ∧ jnR m d = jnP m d := by
  have : ((jnP m d).any fun p => loudB p 32767) = false := any_gp_no.2 fun k hk => by
    rw [jnP_len] at hk
    rw [jnP_gp hk]
    exact h k hk
  unfold jnE jnR
  rw [this]
  exact ⟨rfl, rfl⟩
theorem jn_or (m d : List Int) : (∃ k, k < m.length ∧ loudB (jnA m d k) 32767 = true ∧ ∀ j, j < k → loudB (jnA m d j) 32767 = false) ∨ ∀ k, k < m.length → loudB (jnA m d k) 32767 = false := by
  by_cases hc : ∃ k, k < m.length ∧ loudB (jnA m d k) 32767 = true
  · obtain ⟨k, ⟨h1, h2⟩, h3⟩ := least _ hc
    refine .inl ⟨k, h1, h2, fun j hj => ?_⟩
    cases e : loudB (jnA m d j) 32767 with
    | false => rfl
    | true => have := h3 j ⟨by omega, e⟩; omega
  · refine .inr fun k hk => ?_
    cases e : loudB (jnA m d k) 32767 with
    | false => rfl
    | true => exact absurd ⟨k, hk, e⟩ hc
theorem jnR_len {m d : List Int} : (jnR m d).length ≤ m.length := by
  unfold jnR
  split
  · exact Nat.zero_le _
  · rw [jnP_len]; exact Nat.le_refl _
theorem jnA_bd {m d : List Int} (hm : AllLe 32767 m) (hd : AllLe 65534 d) (k : Nat) : (-32767 ≤ gi m k ∧ gi m k ≤ 32767) ∧ (-65534 ≤ gi d k ∧ gi d k ≤ 65534) := ⟨hm.gi (by decide) k, hd.gi (by decide) k⟩
theorem jnE_prog {m d : List Int} (hl : m.length ≤ 4096) : progE (jnP m d) = 0 ↔ jnE m d = 0 := by
  unfold progE jnE
  rw [if_neg (by rw [jnP_len]; omega)]
  split <;> simp
/-- what is joined is split again -/
theorem sp_jn {m d : List Int} (h : m.length = d.length) : spD (jnP m d) = d ∧ spM (jnP m d) = m := by
  constructor
  · refine ext_gi (by rw [spD_len, jnP_len, h]) fun k hk => ?_
    rw [spD_len] at hk
    rw [spD_gi hk, jnP_gp (by rw [jnP_len] at hk; exact hk)]
    unfold jnA
    simp only
    omega
  · refine ext_gi (by rw [spM_len, jnP_len]) fun k hk => ?_
    rw [spM_len] at hk
    rw [spM_gi hk, jnP_gp (by rw [jnP_len] at hk; exact hk)]
    unfold jnA
    simp only
    omega
/-- what is split is joined again -/
theorem jn_sp (p : List Pt) : jnP (spM p) (spD p) = p := by
  refine ext_gp (by rw [jnP_len, spM_len]) fun k hk => ?_
  rw [jnP_len] at hk
  rw [jnP_gp hk]
  rw [spM_len] at hk
  unfold jnA
  rw [spM_gi hk, spD_gi hk]
  refine Prod.ext ?_ ?_ <;> simp only <;> omega
/-- a programme whose sides went through a curve -/
def sdR (c : Cv) (u : Bool) (p : List Pt) : Int × List Pt := if cvE c ≠ 0 then (cvE c, []) else if progE p ≠ 0 then (progE p, []) else match runI c u 65534 (spD p) with
  | none => (4, [])
  | some d => (jnE (spM p) d, jnR (spM p) d)
theorem sd_1 {c : Cv} {u : Bool} {p : List Pt} (h : ¬ cvE c = 0) : sdR c u p = (cvE c, []) := by rw [sdR, if_pos h]
theorem sd_2 {c : Cv} {u : Bool} {p : List Pt} (h : cvE c = 0) (h2 : ¬ progE p = 0) : sdR c u p = (progE p, []) := by rw [sdR, if_neg (by simp [h]), if_pos h2]
theorem sd_3 {c : Cv} {u : Bool} {p : List Pt} (h : cvE c = 0) (h2 : progE p = 0) (h3 : runI c u 65534 (spD p) = none) : sdR c u p = (4, []) := by rw [sdR, if_neg (by simp [h]), if_neg (by simp [h2]), h3]
theorem sd_4 {c : Cv} {u : Bool} {p : List Pt} {d : List Int} (h : cvE c = 0) (h2 : progE p = 0) (h3 : runI c u 65534 (spD p) = some d) : sdR c u p = (jnE (spM p) d, jnR (spM p) d) := by rw [sdR, if_neg (by simp [h]), if_neg (by simp [h2]), h3]
theorem sdR_len {c : Cv} {u : Bool} {p : List Pt} (h : p.length ≤ bigL) : (sdR c u p).2.length ≤ bigL := by
  unfold sdR
  split
  · exact Nat.zero_le _
  · split
    · exact Nat.zero_le _
    · split
      · exact Nat.zero_le _
      · refine Nat.le_trans jnR_len ?_
        rw [spM_len]
        exact h
/-- the same programme keeps its middles, and is widened again -/
theorem sd_back {c : Cv} {u : Bool} {p : List Pt} (h : cvE c = 0) (h2 : progE p = 0) (h3 : (sdR c u p).1 = 0) : progE (sdR c u p).2 = 0 ∧ spM (sdR c u p).2 = spM p ∧ sdR c (!u) (sdR c u p).2 = (0, p) := by
  cases hr : runI c u 65534 (spD p) with
  | none => rw [sd_3 h h2 hr] at h3; cases h3
  | some d =>
    rw [sd_4 h h2 hr] at h3 ⊢
    simp only at h3 ⊢
    have hl : p.length ≤ 4096 := (progE_ok.1 h2).1
    have e1 : jnR (spM p) d = jnP (spM p) d := by
      unfold jnR; unfold jnE at h3
      split
      · rename_i hh; rw [if_pos hh] at h3; cases h3
      · rfl
    have hld : (spM p).length = d.length := by rw [runI_len hr, spM_len, spD_len]
    have e2 : progE (jnP (spM p) d) = 0 := (jnE_prog (by rw [spM_len]; exact hl)).2 h3
    obtain ⟨s1, s2⟩ := sp_jn hld
    rw [e1]
    refine ⟨e2, s2, ?_⟩
    have e3 := runI_undo (spD_le h2) hr
    rw [sd_4 h e2 (by rw [s1]; exact e3), s2]
    have e4 : jnE (spM p) (spD p) = 0 := (jnE_prog (by rw [spM_len]; exact hl)).1 (by rw [jn_sp]; exact h2)
    rw [e4]
    refine Prod.ext rfl ?_
    show jnR (spM p) (spD p) = p
    unfold jnR
    unfold jnE at e4
    split
    · rename_i hh; rw [if_pos hh] at e4; cases e4
    · exact jn_sp p
/-- equal channels -/
def monoL (p : List Pt) : List Pt := (List.range p.length).map fun k => ((gp p k).1, (gp p k).1)
theorem monoL_len (p : List Pt) : (monoL p).length = p.length := by simp [monoL]
theorem monoL_gp {p : List Pt} {k : Nat} (h : k < p.length) : gp (monoL p) k = ((gp p k).1, (gp p k).1) := by simp [monoL, gp, h]
theorem mono_prog {p : List Pt} (h : progE p = 0) : progE (monoL p) = 0 := by
  obtain ⟨g1, g2⟩ := progE_ok.1 h
  refine progE_ok.2 ⟨by rw [monoL_len]; exact g1, fun k hk => ?_⟩
  rw [monoL_len] at hk
  rw [monoL_gp hk]
  have := g2 k hk
  simp only
  omega
theorem out_zero {c : Cv} {u : Bool} {l : List Int} {k : Nat} (hz : ∀ i, gi l i = 0) (h1 : ∀ i, gi (hist c u l k).1 i = 0) (h2 : ∀ i, gi (hist c u l k).2 i = 0) : outK c u l k = 0 := by
  rw [outK, corr_zero h1 h2, hz k]
  cases u <;> rfl
theorem hist_zero {c : Cv} {u : Bool} {l : List Int} (hz : ∀ i, gi l i = 0) : ∀ k, (∀ i, gi (hist c u l k).1 i = 0) ∧ ∀ i, gi (hist c u l k).2 i = 0
  | 0 => ⟨fun i => rfl, fun i => rfl⟩
  | k + 1 => by
    obtain ⟨h1, h2⟩ := hist_zero (c := c) (u := u) hz k
    have h0 := out_zero hz h1 h2
    rw [hist_x, hist_y, h0, hz k]
    refine ⟨fun i => ?_, fun i => ?_⟩
    · cases i with
      | zero => cases u <;> rfl
      | succ i => rw [gi_consS]; exact h1 i
    · cases i with
      | zero => cases u <;> rfl
      | succ i => rw [gi_consS]; exact h2 i
theorem spD_mono (p : List Pt) (i : Nat) : gi (spD (monoL p)) i = 0 := by
  by_cases h : i < (monoL p).length
  · rw [spD_gi h]
    rw [monoL_len] at h
    rw [monoL_gp h]
    simp only
    omega
  · exact gi_out (by rw [spD_len]; omega)
theorem sd_mono {c : Cv} {u : Bool} {p : List Pt} (h : cvE c = 0) (h2 : progE p = 0) : sdR c u (monoL p) = (0, monoL p) := by
  have h3 := mono_prog h2
  have hz := spD_mono p
  have ho : ∀ k, outK c u (spD (monoL p)) k = 0 := fun k => out_zero hz (hist_zero hz k).1 (hist_zero hz k).2
  have hr : runI c u 65534 (spD (monoL p)) = some (spD (monoL p)) := by
    rw [runI_some (fun j _ => by rw [ho j]; decide)]
    refine congrArg some (ext_gi (resL_len _ _ _) fun k hk => ?_)
    rw [resL_len] at hk
    rw [resL_gi hk, ho k, hz k]
  have e4 : jnE (spM (monoL p)) (spD (monoL p)) = 0 := (jnE_prog (by rw [spM_len]; exact (progE_ok.1 h3).1)).1 (by rw [jn_sp]; exact h3)
  rw [sd_4 h h3 hr, e4]
  refine Prod.ext rfl ?_
  show jnR (spM (monoL p)) (spD (monoL p)) = monoL p
  unfold jnR
  unfold jnE at e4
  split
  · rename_i hh; rw [if_pos hh] at e4; cases e4
  · exact jn_sp _
end Go.Proofs.Ytblipieipldanaa
