/-
  Where a tip leaves its groove, the best arm, where it lands: the walks of the reference. Conditions: told in each theorem.
-/
import Derived.Test.YtlfaaddoemcokaaPAb7
import Derived.Test.YtlfaaddoemcokaaPAb13
import Derived.Test.YtlfaaddoemcokaaMD
namespace Go.Proofs.Ytlfaaddoemcokaa
open Go.Ab Go.RowKit Go.Dw Go.Shelf

theorem appRow_lt {n i : Nat} {r r' : Nat → List V} (h : i < n) : appRow n r r' i = r i := by simp [appRow, h]
theorem appRow_at {n : Nat} {r r' : Nat → List V} : appRow n r r' n = r' 0 := by simp [appRow]
/-! ### arms -/
def armB (h s : Int) : Bool := decide (0 ≤ h) && decide (h ≤ 67108864) && decide (-67108864 ≤ s) && decide (s ≤ 67108864)
theorem armB_iff {h s : Int} : armB h s = true ↔ 0 ≤ h ∧ h ≤ 67108864 ∧ -67108864 ≤ s ∧ s ≤ 67108864 := by simp [armB]; omega
theorem bend_bd {l : List Pt} (hl : Bd l) {i : Nat} (h0 : 0 < i) (h1 : i + 1 < l.length) : -33554432 ≤ bendAt l i ∧ bendAt l i ≤ 33554432 := by
  have a := (forall_gp.1 hl) (i - 1) (by omega)
  have b := (forall_gp.1 hl) i (by omega)
  have c := (forall_gp.1 hl) (i + 1) h1
  unfold bendAt; omega
def outB (h s b : Int) : Bool := decide (h < b - s) || decide (h < -(b - s))
def jumpK (h s : Int) (l : List Pt) : Option Nat := (List.range (l.length - 2)).find? fun k => outB h s (bendAt l (k + 1))
def jumpI (h s : Int) (l : List Pt) : Int × Int × Int :=
  if armB h s then (if checkPts l = 0 then (match jumpK h s l with
    | some k => ((k : Int) + 1, if h < bendAt l (k + 1) - s then 1 else -1, 0)
    | none => (0, 0, 5)) else (0, 0, checkPts l)) else (0, 0, 2)
theorem jumpI_arm {h s : Int} {l : List Pt} (ha : armB h s = false) : jumpI h s l = (0, 0, 2) := by rw [jumpI, ha]; rfl
theorem jumpI_pts {h s : Int} {l : List Pt} (ha : armB h s = true) (hc : ¬ checkPts l = 0) : jumpI h s l = (0, 0, checkPts l) := by rw [jumpI, if_pos ha, if_neg hc]
theorem jumpI_some {h s : Int} {l : List Pt} {k : Nat} (ha : armB h s = true) (hc : checkPts l = 0) (hk : k < l.length - 2) (ho : outB h s (bendAt l (k + 1)) = true) (hb : ∀ j, j < k → outB h s (bendAt l (j + 1)) = false) :
    jumpI h s l = ((k : Int) + 1, if h < bendAt l (k + 1) - s then 1 else -1, 0) := by
  have : jumpK h s l = some k := find_first hk ho hb
  rw [jumpI, if_pos ha, if_pos hc, this]
theorem jumpI_none {h s : Int} {l : List Pt} (ha : armB h s = true) (hc : checkPts l = 0) (hb : ∀ j, j < l.length - 2 → outB h s (bendAt l (j + 1)) = false) : jumpI h s l = (0, 0, 5) := by
  have : jumpK h s l = none := find_none hb
  rw [jumpI, if_pos ha, if_pos hc, this]
/-! ### the best arm -/
/-! ### where it lands -/
def dropE (l : List Pt) (radii : List Int) (per angle : Int) : Int :=
  if checkPts l = 0 then (if radii.length = l.length then (if (List.range radii.length).any (fun k => radB (gi radii k)) then 2 else if per < 1 ∨ 65536 < per ∨ angle < 0 ∨ per ≤ angle then 3 else 0) else 17) else checkPts l
def dropF (l : List Pt) (radii : List Int) (per angle x : Int) : Int × Int := if dropE l radii per angle = 0 then dropI l radii per.toNat angle.toNat x else (0, dropE l radii per angle)
theorem dropF_1 {l : List Pt} {radii : List Int} {per angle x : Int} (h : ¬ checkPts l = 0) : dropF l radii per angle x = (0, checkPts l) := by
  have e : dropE l radii per angle = checkPts l := by rw [dropE, if_neg h]
  rw [dropF, e, if_neg h]
theorem dropF_2 {l : List Pt} {radii : List Int} {per angle x : Int} (h : checkPts l = 0) (h2 : ¬ radii.length = l.length) : dropF l radii per angle x = (0, 17) := by
  have e : dropE l radii per angle = 17 := by rw [dropE, if_pos h, if_neg h2]
  rw [dropF, e, if_neg (by decide)]
theorem dropF_3 {l : List Pt} {radii : List Int} {per angle x : Int} (h : checkPts l = 0) (h2 : radii.length = l.length) {k : Nat} (hk : k < radii.length) (h3 : radB (gi radii k) = true) : dropF l radii per angle x = (0, 2) := by
  have e : dropE l radii per angle = 2 := by rw [dropE, if_pos h, if_pos h2, if_pos (List.any_eq_true.2 ⟨k, by simpa using hk, h3⟩)]
  rw [dropF, e, if_neg (by decide)]
theorem dropF_4 {l : List Pt} {radii : List Int} {per angle x : Int} (h : checkPts l = 0) (h2 : radii.length = l.length) (h3 : ∀ k, k < radii.length → radB (gi radii k) = false) (h4 : per < 1 ∨ 65536 < per ∨ angle < 0 ∨ per ≤ angle) : dropF l radii per angle x = (0, 3) := by
  have e : dropE l radii per angle = 3 := by
    rw [dropE, if_pos h, if_pos h2, if_neg, if_pos h4]
    simp only [Bool.not_eq_true, List.any_eq_false, List.mem_range]
    intro k hk
    simp [h3 k hk]
  rw [dropF, e, if_neg (by decide)]
theorem dropF_5 {l : List Pt} {radii : List Int} {per angle x : Int} (h : checkPts l = 0) (h2 : radii.length = l.length) (h3 : ∀ k, k < radii.length → radB (gi radii k) = false) (h4 : ¬ (per < 1 ∨ 65536 < per ∨ angle < 0 ∨ per ≤ angle)) : dropF l radii per angle x = dropI l radii per.toNat angle.toNat x := by
  have e : dropE l radii per angle = 0 := by
    rw [dropE, if_pos h, if_pos h2, if_neg, if_neg h4]
    simp only [Bool.not_eq_true, List.any_eq_false, List.mem_range]
    intro k hk
    simp [h3 k hk]
  rw [dropF, e, if_pos rfl]
end Go.Proofs.Ytlfaaddoemcokaa
