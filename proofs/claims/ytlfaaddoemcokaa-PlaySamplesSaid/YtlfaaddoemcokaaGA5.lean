/-
  The fault of a groove: the walks of the program. Conditions: told in each theorem.
-/
import Derived.Test.YtlfaaddoemcokaaGA4
namespace Go.Proofs.Ytlfaaddoemcokaa
open Go.Ab Go.RowKit Go.Dw Go.Shelf

theorem nearT_idf (u : V) (b : Option Pt) (h : Pt) (a : Option Pt) (hu : u.idf = true) : V.idfL [u, gNearV b h a] = true := by
  cases b <;> cases a <;> simp [V.idfL, V.idf, gNearV, optP, hu]
def gRule (c : Cut) (l : List Pt) (r per : Int) (i : Nat) : Int := ruleP c r per (nb l i) (gp l i) (na l i)
theorem ruleP_bd (c : Cut) (r per : Int) (b : Option Pt) (h : Pt) (a : Option Pt) : 0 ≤ ruleP c r per b h a ∧ ruleP c r per b h a ≤ 5 := by
  unfold ruleP
  split
  · omega
  split
  · omega
  split
  · omega
  split
  · omega
  split <;> omega
theorem gRule_bd (c : Cut) (l : List Pt) (r per : Int) (i : Nat) : 0 ≤ gRule c l r per i ∧ gRule c l r per i ≤ 5 := ruleP_bd _ _ _ _ _ _
def faultN (c : Cut) (l : List Pt) (r per : Int) : Option Nat := (List.range l.length).find? fun i => decide (0 < gRule c l r per i)
def faultR (c : Cut) (l : List Pt) (r per : Int) : Int × Int := match faultN c l r per with
  | some i => ((i : Int), gRule c l r per i)
  | none => (0, 0)
theorem faultN_none {c : Cut} {l : List Pt} {r per : Int} : faultN c l r per = none ↔ ∀ i, i < l.length → gRule c l r per i = 0 := by
  unfold faultN
  rw [List.find?_eq_none]
  constructor
  · intro h i hi
    have := h i (by simpa using hi)
    have := (gRule_bd c l r per i).1
    simp at *
    omega
  · intro h i hi
    rw [h i (by simpa using hi)]
    decide
theorem faultN_some {c : Cut} {l : List Pt} {r per : Int} {i : Nat} : faultN c l r per = some i ↔ i < l.length ∧ 0 < gRule c l r per i ∧ ∀ j, j < i → gRule c l r per j = 0 := by
  unfold faultN
  rw [List.find?_range_eq_some]
  constructor
  · rintro ⟨h1, h2, h3⟩
    refine ⟨by simpa using h2, by simpa using h1, fun j hj => ?_⟩
    have := h3 j hj
    have := (gRule_bd c l r per j).1
    simp at *
    omega
  · rintro ⟨h1, h2, h3⟩
    exact ⟨by simpa using h2, by simpa using h1, fun j hj => by rw [h3 j hj]; decide⟩
theorem faultR_none {c : Cut} {l : List Pt} {r per : Int} (h : ∀ i, i < l.length → gRule c l r per i = 0) : faultR c l r per = (0, 0) := by rw [faultR, faultN_none.2 h]
theorem faultR_some {c : Cut} {l : List Pt} {r per : Int} {i : Nat} (h1 : i < l.length) (h2 : 0 < gRule c l r per i) (h3 : ∀ j, j < i → gRule c l r per j = 0) : faultR c l r per = ((i : Int), gRule c l r per i) := by rw [faultR, faultN_some.2 ⟨h1, h2, h3⟩]
theorem nb_Ed {l : List Pt} (hl : ∀ k, k < l.length → gE (gp l k) = true) (i : Nat) : EdO (nb l i) := by
  unfold nb
  split
  · by_cases h : i - 1 < l.length
    · exact gE_iff.1 (hl _ h)
    · rw [gp_out (by omega)]; show Ed (0, 0); unfold Ed; simp
  · trivial
theorem na_Ed {l : List Pt} (hl : ∀ k, k < l.length → gE (gp l k) = true) (i : Nat) : EdO (na l i) := by
  unfold na
  split
  · exact gE_iff.1 (hl _ (by assumption))
  · trivial
/-! ### which grooves, which places -/
def plcE (r per : Int) : Int := if betB r 0 4194304 && betB per 1 65536 then 0 else 3
theorem plcE_ok {r per : Int} : plcE r per = 0 ↔ Plc r per := by
  unfold plcE
  by_cases h : (betB r 0 4194304 && betB per 1 65536) = true
  · rw [if_pos h]
    simp [betB] at h
    exact ⟨fun _ => ⟨by omega, by omega⟩, fun _ => rfl⟩
  · rw [if_neg h]
    refine ⟨fun e => (by cases e), fun hp => ?_⟩
    obtain ⟨h1, h2⟩ := hp
    exact absurd (by simp [betB]; omega) h
theorem plcE_no {r per : Int} (h : ¬ Plc r per) : plcE r per = 3 := by
  unfold plcE
  rw [if_neg]
  intro h2
  apply h
  simp [betB] at h2
  exact ⟨by omega, by omega⟩
def gErr (c : Cut) (l : List Pt) : Int := if cutE c = 0 then gChk l else cutE c
theorem gErr_1 {c : Cut} {l : List Pt} (h : ¬ cutE c = 0) : gErr c l = cutE c := by rw [gErr, if_neg h]
theorem gErr_2 {c : Cut} {l : List Pt} (h : cutE c = 0) : gErr c l = gChk l := by rw [gErr, if_pos h]
theorem gErr_ok {c : Cut} {l : List Pt} (h : gErr c l = 0) : cutE c = 0 ∧ gChk l = 0 := by
  by_cases hc : cutE c = 0
  · rw [gErr_2 hc] at h; exact ⟨hc, h⟩
  · rw [gErr_1 hc] at h; exact absurd h hc
def arcR (r per : Int) : Int := if plcE r per = 0 then gArc r per else 0
/-- the fault of a groove, or the error -/
def FaultV (c : Cut) (l : List Pt) (r per : Int) : Int × Int × Int :=
  if gErr c l = 0 then (if plcE r per = 0 then (if (faultR c l r per).2 = 0 then (0, 0, 5) else ((faultR c l r per).1, (faultR c l r per).2, 0)) else (0, 0, plcE r per)) else (0, 0, gErr c l)
theorem FaultV_1 {c : Cut} {l : List Pt} {r per : Int} (h : ¬ gErr c l = 0) : FaultV c l r per = (0, 0, gErr c l) := by rw [FaultV, if_neg h]
theorem FaultV_2 {c : Cut} {l : List Pt} {r per : Int} (h : gErr c l = 0) (h2 : ¬ plcE r per = 0) : FaultV c l r per = (0, 0, plcE r per) := by rw [FaultV, if_pos h, if_neg h2]
theorem FaultV_3 {c : Cut} {l : List Pt} {r per : Int} (h : gErr c l = 0) (h2 : plcE r per = 0) (h3 : (faultR c l r per).2 = 0) : FaultV c l r per = (0, 0, 5) := by rw [FaultV, if_pos h, if_pos h2, if_pos h3]
theorem FaultV_4 {c : Cut} {l : List Pt} {r per : Int} (h : gErr c l = 0) (h2 : plcE r per = 0) (h3 : ¬ (faultR c l r per).2 = 0) : FaultV c l r per = ((faultR c l r per).1, (faultR c l r per).2, 0) := by rw [FaultV, if_pos h, if_pos h2, if_neg h3]
def FaultT (c : Cut) (l : List Pt) (r per : Int) : V := .tup [.i (FaultV c l r per).1, .i (FaultV c l r per).2.1, .i (FaultV c l r per).2.2]
end Go.Proofs.Ytlfaaddoemcokaa
