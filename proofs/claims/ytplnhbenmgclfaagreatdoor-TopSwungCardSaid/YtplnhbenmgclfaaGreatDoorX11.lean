/-
  Several texts in one: Needs and gains in plain terms. Conditions: told in each theorem. .. Arms: 'CheckArm', 'Jump', the document's 'Bend'. No condition but the sizes of slices.
-/
import Derived.OwnWalk
import Derived.Test.YtplnhbenmgclfaaGreatDoorX10
import Derived.Test.YtplnhbenmgclfaaGreatDoorX02
import Derived.Test.YtplnhbenmgclfaaGreatDoorX05
namespace Go.Proofs.YtplnhbenmgclfaaGreatDoor
open Go.Ab Go.RowKit Go.Dw Go.Shelf
def amtS (p : Pt) : Int := max (max (max p.1 (-p.1)) p.2) (-p.2)
def needI (p : Pt) (c : Int) : Int := if amtS p = 0 then 256 else min 256 ((256 * (c + 1) - 1) / amtS p)
def withI (n g : Int) : Int := (n * g).tdiv 256
def absI (n : Int) : Int := max n (-n)
theorem tdiv_abs (n : Int) : absI (n.tdiv 256) = absI n / 256 := by
 unfold absI
 by_cases h : 0 ≤ n
 ·
  rw [Int.tdiv_eq_ediv_of_nonneg h]; omega
 ·
  have e : n.tdiv 256 = -((-n) / 256) := by rw [← Int.tdiv_eq_ediv_of_nonneg oM, Int.neg_tdiv]; omega
  rw [e]; omega
theorem absI_mul {n g : Int} (hg : 0 ≤ g) : absI (n * g) = absI n * g := by
 unfold absI
 by_cases h : 0 ≤ n
 ·
  have h1 := Int.mul_nonneg h hg
  rw [Int.max_eq_left oM, Int.max_eq_left oM]
 ·
  have h1 := Int.mul_nonneg (show 0 ≤ -n by omega) hg
  rw [Int.neg_mul] at h1
  rw [Int.max_eq_right oM, Int.max_eq_right oM, Int.neg_mul]
theorem withI_abs {n g : Int} (hg : 0 ≤ g) : absI (withI n g) = absI n * g / 256 := by rw [withI, tdiv_abs, absI_mul hg]
def okG (p : Pt) (c g : Int) : Bool := !(decide (c < absI (withI p.1 g)) || decide (c < absI (withI p.2 g)))
theorem amtS_max (p : Pt) : amtS p = max (absI p.1) (absI p.2) := by unfold amtS absI; omega
theorem okG_iff {p : Pt} {c g : Int} (hg : 0 ≤ g) : okG p c g = true ↔ amtS p * g ≤ 256 * (c + 1) - 1 := by
 have e : amtS p * g = max (absI p.1 * g) (absI p.2 * g) := by
  rw [amtS_max]
  by_cases h : absI p.1 ≤ absI p.2
  ·
   rw [Int.max_eq_right h, Int.max_eq_right (Int.mul_le_mul_of_nonneg_right h hg)]
  ·
   rw [Int.max_eq_left oM, Int.max_eq_left (Int.mul_le_mul_of_nonneg_right oM hg)]
 unfold okG
 rw [withI_abs hg, withI_abs hg, e]
 simp
 omega
theorem needI_iff {p : Pt} {c g : Int} (hc : 1 ≤ c) (h : 0 ≤ amtS p) (hg : 0 ≤ g ∧ g ≤ 256) : okG p c g = true ↔ g ≤ needI p c := by
 rw [okG_iff hg.1]
 unfold needI
 split
 ·
  rename_i h0; rw [h0]; simp; omega
 ·
  rename_i h0
  have h1 : 0 < amtS p := by omega
  constructor
  ·
   intro h2
   have : g ≤ (256 * (c + 1) - 1) / amtS p := Int.le_ediv_of_mul_le h1 (by rw [Int.mul_comm]; exact h2)
   omega
  ·
   intro h2
   have : g ≤ (256 * (c + 1) - 1) / amtS p := by omega
   have := Int.mul_le_of_le_ediv h1 this
   rw [Int.mul_comm]; exact this
end Go.Proofs.YtplnhbenmgclfaaGreatDoor

namespace Go.Proofs.YtplnhbenmgclfaaGreatDoor
open Go.Ab Go.RowKit Go.Dw Go.Shelf
end Go.Proofs.YtplnhbenmgclfaaGreatDoor

namespace Go.Proofs.YtplnhbenmgclfaaGreatDoor
open Go.Ab Go.RowKit Go.Dw Go.Shelf
end Go.Proofs.YtplnhbenmgclfaaGreatDoor

namespace Go.Proofs.YtplnhbenmgclfaaGreatDoor
open Go.Ab Go.RowKit Go.Dw Go.Shelf
theorem RImp.agg {us' us : List V} (h : A2 us' us) : RImp (.agg us') (.agg us) := by
 intro w L x hx
 obtain ⟨xs, rfl, hl⟩ := hx.agg_inv
 have hv := h.rv hl.rv
 exact .agg' ⟨hv.1, fun i u x hu hx => ⟨hv.2 i u x hu hx, hl.one x (List.mem_of_getElem? hx)⟩⟩
end Go.Proofs.YtplnhbenmgclfaaGreatDoor

namespace Go.Proofs.YtplnhbenmgclfaaGreatDoor
open Go.Ab Go.RowKit Go.Dw Go.Shelf
end Go.Proofs.YtplnhbenmgclfaaGreatDoor

namespace Go.Proofs.YtplnhbenmgclfaaGreatDoor
open Go.Ab Go.RowKit Go.Dw Go.Shelf
end Go.Proofs.YtplnhbenmgclfaaGreatDoor

namespace Go.Proofs.YtplnhbenmgclfaaGreatDoor
open Go.Ab Go.RowKit Go.Dw Go.Shelf
theorem limited {p : Pt} {c g : Int} (hc : 1 ≤ c) (h0 : 0 ≤ amtS p) (hg : 0 ≤ g ∧ g ≤ 256) (h : g ≤ needI p c) : absI (withI p.1 g) ≤ c ∧ absI (withI p.2 g) ≤ c := by
 have := (needI_iff hc h0 hg).2 h
 unfold okG at this
 simp at this
 omega
end Go.Proofs.YtplnhbenmgclfaaGreatDoor

namespace Go.Proofs.YtplnhbenmgclfaaGreatDoor
open Go.RowKit Go.Dw
end Go.Proofs.YtplnhbenmgclfaaGreatDoor
