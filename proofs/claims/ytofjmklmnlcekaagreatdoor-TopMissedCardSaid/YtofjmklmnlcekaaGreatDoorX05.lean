/-
  Several texts in one: Sampling: the walks of the triangle, the ways and the least sampling. Conditions: told in each theorem. .. The samples that are near, for values without addresses. No condition.
-/
import Derived.Test.YtofjmklmnlcekaaGreatDoorAbs42
import Derived.Test.YtofjmklmnlcekaaGreatDoorX00
import Derived.Test.YtofjmklmnlcekaaGreatDoorMC
import Derived.Test.YtofjmklmnlcekaaGreatDoorX02
import Derived.Test.YtofjmklmnlcekaaGreatDoorMD
import Derived.Test.YtofjmklmnlcekaaGreatDoorX03
namespace Go.Proofs.YtofjmklmnlcekaaGreatDoor
open Go.Ab Go.RowKit Go.Dw Go.Shelf
set_option maxRecDepth 100000 in
theorem betI_ac (x lo hi : Int) : AC Tryz.prog 16 [.i x, .i lo, .i hi] (.b (decide (lo ≤ x) && decide (x ≤ hi))) [] := by
 refine acI hTT hMX Tryz.func16 Tryz.ntmps16 fun C hC hF => ?_
 refine sK fun K hK => wR 2 ?_; refine aX hTT 1 [] tI ?_; refine nK hK ?_; clear hK K; refine sK fun K hK => wR 3 ?_; refine aX hTT 9 [(4, .c (gA (decide (lo ≤ x) == true) True)), (5, .c (gA (decide (lo ≤ x) == true) True)), (6, .c (gC (decide (lo ≤ x) == true) True)), (7, .c ((decide (lo ≤ x) = true → (decide (lo ≤ x) == true) = true) ∧ True))] ⟨⟨⟨tI, tI⟩, (fun _ => tI)⟩, ⟨⟨tI, tI⟩, (fun _ => tI)⟩, ⟨⟨(by (exact fun h => h)), ⟨(by (exact fun h => h)), tI⟩⟩, (fun _ => tI)⟩, ⟨(by (intro h; rw [h]; rfl)), tI⟩, tI⟩ ?_; refine nK hK ?_; clear hK K
 refine aw_ret ?_
 refine rP (V.b (decide (lo ≤ x) && decide (x ≤ hi)))
set_option maxRecDepth 100000 in
theorem betJ_ac (x lo hi : Int) : AC Tryz.prog 29 [.i x, .i lo, .i hi] (.b (decide (lo ≤ x) && decide (x ≤ hi))) [] := by
 refine acI hTT hMX Tryz.func29 Tryz.ntmps29 fun C hC hF => ?_
 refine sK fun K hK => wR 2 ?_; refine aX hTT 1 [] tI ?_; refine nK hK ?_; clear hK K; refine sK fun K hK => wR 3 ?_; refine aX hTT 9 [(4, .c (gA (decide (lo ≤ x) == true) True)), (5, .c (gA (decide (lo ≤ x) == true) True)), (6, .c (gC (decide (lo ≤ x) == true) True)), (7, .c ((decide (lo ≤ x) = true → (decide (lo ≤ x) == true) = true) ∧ True))] ⟨⟨⟨tI, tI⟩, (fun _ => tI)⟩, ⟨⟨tI, tI⟩, (fun _ => tI)⟩, ⟨⟨(by (exact fun h => h)), ⟨(by (exact fun h => h)), tI⟩⟩, (fun _ => tI)⟩, ⟨(by (intro h; rw [h]; rfl)), tI⟩, tI⟩ ?_; refine nK hK ?_; clear hK K
 refine aw_ret ?_
 refine rP (V.b (decide (lo ≤ x) && decide (x ≤ hi)))
abbrev yyMW10 : Ob := Ob.box 78 [V.i 0, V.i 0, V.i 0, V.i 0, V.i 0, V.i 0, V.i 0, V.i 0, V.i 0, V.i 0, V.i 0, V.i 0, V.i 0, V.i 0, V.i 0, V.i 0, V.i 0, V.i 0, V.i 0, V.i 0, V.i 0, V.i 0, V.i 0, V.i 0, V.i 0, V.i 0, V.i 0, V.i 0, V.i 0, V.i 0, V.i 0, V.i 0, V.i 0, V.i 0, V.i 0, V.i 0, V.i 0, V.i 0, V.i 0, V.i 0, V.i 0, V.i 0, V.i 0, V.i 0, V.i 0, V.i 0, V.i 0, V.i 0, V.i 0, V.i 0, V.i 0, V.i 0, V.i 0, V.i 0, V.i 0, V.i 0, V.i 0, V.i 0, V.i 0, V.i 0, V.i 0, V.i 0, V.i 0, V.i 0, V.i 0, V.i 0, V.i 0, V.i 0, V.i 0, V.i 0, V.i 0, V.i 0, V.i 0, V.i 0, V.i 0, V.i 0, V.i 0, V.i 0, V.i 0, V.i 0, V.i 0, V.i 0, V.i 0, V.i 0, V.i 0, V.i 0, V.i 0, V.i 0, V.i 0, V.i 0, V.i 0, V.i 0, V.i 0, V.i 0, V.i 0, V.i 0, V.i 0, V.i 0, V.i 0, V.i 0, V.i 0, V.i 0, V.i 0, V.i 0, V.i 0, V.i 0, V.i 0, V.i 0, V.i 0, V.i 0, V.i 0, V.i 0, V.i 0, V.i 0, V.i 0, V.i 0, V.i 0, V.i 0, V.i 0, V.i 0, V.i 0, V.i 0, V.i 0, V.i 0, V.i 0, V.i 0, V.i 0, V.i 0, V.i 0, V.i 0, V.i 0, V.i 0, V.i 0, V.i 0, V.i 0, V.i 0, V.i 0, V.i 0, V.i 0, V.i 0, V.i 0, V.i 0, V.i 0, V.i 0, V.i 0, V.i 0, V.i 0, V.i 0, V.i 0, V.i 0, V.i 0, V.i 0, V.i 0, V.i 0, V.i 0, V.i 0, V.i 0, V.i 0, V.i 0, V.i 0, V.i 0, V.i 0, V.i 0, V.i 0, V.i 0, V.i 0, V.i 0, V.i 0, V.i 0, V.i 0, V.i 0, V.i 0, V.i 0, V.i 0, V.i 0, V.i 0, V.i 0, V.i 0, V.i 0, V.i 0, V.i 0, V.i 0, V.i 0, V.i 0, V.i 0, V.i 0, V.i 0, V.i 0, V.i 0, V.i 0, V.i 0, V.i 0, V.i 0, V.i 0, V.i 0, V.i 0, V.i 0, V.i 0, V.i 0, V.i 0, V.i 0, V.i 0, V.i 0, V.i 0, V.i 0, V.i 0, V.i 0, V.i 0, V.i 0, V.i 0, V.i 0, V.i 0, V.i 0, V.i 0, V.i 0, V.i 0, V.i 0, V.i 0, V.i 0, V.i 0, V.i 0, V.i 0, V.i 0, V.i 0, V.i 0, V.i 0, V.i 0, V.i 0, V.i 0, V.i 0, V.i 0, V.i 0, V.i 0, V.i 0, V.i 0, V.i 0, V.i 0, V.i 0, V.i 0, V.i 0, V.i 0, V.i 0, V.i 0, V.i 0, V.i 0, V.i 0, V.i 0, V.i 0, V.i 0, V.i 0, V.i 0, V.i 0, V.i 0, V.i 0, V.i 0, V.i 0, V.i 0, V.i 0, V.i 0, V.i 0, V.i 0, V.i 0, V.i 0, V.i 0, V.i 0, V.i 0, V.i 0, V.i 0, V.i 0, V.i 0, V.i 0, V.i 0, V.i 0, V.i 0, V.i 0, V.i 0, V.i 0, V.i 0, V.i 0, V.i 0, V.i 0, V.i 0, V.i 0, V.i 0, V.i 0, V.i 0, V.i 0, V.i 0, V.i 0, V.i 0, V.i 0, V.i 0, V.i 0, V.i 0, V.i 0, V.i 0, V.i 0, V.i 0, V.i 0, V.i 0, V.i 0, V.i 0, V.i 0, V.i 0, V.i 0, V.i 0, V.i 0, V.i 0, V.i 0, V.i 0, V.i 0, V.i 0, V.i 0, V.i 0, V.i 0, V.i 0, V.i 0, V.i 0, V.i 0, V.i 0, V.i 0, V.i 0, V.i 0, V.i 0, V.i 0, V.i 0, V.i 0, V.i 0, V.i 0, V.i 0, V.i 0, V.i 0, V.i 0, V.i 0, V.i 0, V.i 0, V.i 0, V.i 0, V.i 0, V.i 0, V.i 0, V.i 0, V.i 0, V.i 0, V.i 0, V.i 0, V.i 0, V.i 0, V.i 0, V.i 0, V.i 0, V.i 0, V.i 0, V.i 0, V.i 0, V.i 0, V.i 0, V.i 0, V.i 0, V.i 0, V.i 0, V.i 0, V.i 0, V.i 0, V.i 0, V.i 0, V.i 0, V.i 0, V.i 0, V.i 0, V.i 0, V.i 0, V.i 0, V.i 0, V.i 0, V.i 0, V.i 0, V.i 0, V.i 0, V.i 0, V.i 0, V.i 0, V.i 0, V.i 0, V.i 0, V.i 0, V.i 0, V.i 0, V.i 0, V.i 0, V.i 0, V.i 0, V.i 0, V.i 0, V.i 0, V.i 0, V.i 0, V.i 0, V.i 0, V.i 0, V.i 0, V.i 0, V.i 0, V.i 0, V.i 0, V.i 0, V.i 0, V.i 0, V.i 0, V.i 0, V.i 0, V.i 0, V.i 0, V.i 0, V.i 0, V.i 0, V.i 0, V.i 0, V.i 0, V.i 0, V.i 0, V.i 0, V.i 0, V.i 0, V.i 0, V.i 0, V.i 0, V.i 0, V.i 0, V.i 0, V.i 0, V.i 0, V.i 0, V.i 0, V.i 0, V.i 0, V.i 0, V.i 0, V.i 0, V.i 0, V.i 0, V.i 0, V.i 0, V.i 0, V.i 0, V.i 0, V.i 0, V.i 0, V.i 0, V.i 0, V.i 0, V.i 0, V.i 0, V.i 0, V.i 0, V.i 0, V.i 0, V.i 0, V.i 0, V.i 0, V.i 0, V.i 0, V.i 0, V.i 0, V.i 0, V.i 0, V.i 0, V.i 0, V.i 0, V.i 0, V.i 0, V.i 0, V.i 0, V.i 0, V.i 0, V.i 0, V.i 0, V.i 0, V.i 0, V.i 0, V.i 0, V.i 0, V.i 0, V.i 0, V.i 0, V.i 0, V.i 0, V.i 0, V.i 0, V.i 0, V.i 0, V.i 0, V.i 0, V.i 0, V.i 0, V.i 0, V.i 0, V.i 0, V.i 0, V.i 0, V.i 0, V.i 0, V.i 0, V.i 0, V.i 0, V.i 0, V.i 0, V.i 0, V.i 0, V.i 0, V.i 0, V.i 0, V.i 0, V.i 0, V.i 0, V.i 0, V.i 0, V.i 0, V.i 0, V.i 0, V.i 0, V.i 0, V.i 0, V.i 0, V.i 0, V.i 0, V.i 0, V.i 0, V.i 0, V.i 0, V.i 0, V.i 0, V.i 0, V.i 0, V.i 0, V.i 0, V.i 0, V.i 0, V.i 0, V.i 0, V.i 0, V.i 0, V.i 0, V.i 0, V.i 0, V.i 0, V.i 0, V.i 0, V.i 0, V.i 0, V.i 0, V.i 0, V.i 0, V.i 0, V.i 0, V.i 0, V.i 0, V.i 0, V.i 0, V.i 0, V.i 0, V.i 0, V.i 0, V.i 0, V.i 0, V.i 0, V.i 0, V.i 0, V.i 0, V.i 0, V.i 0, V.i 0, V.i 0, V.i 0, V.i 0, V.i 0, V.i 0, V.i 0, V.i 0, V.i 0, V.i 0, V.i 0, V.i 0, V.i 0, V.i 0, V.i 0, V.i 0, V.i 0, V.i 0, V.i 0, V.i 0, V.i 0, V.i 0, V.i 0, V.i 0, V.i 0, V.i 0, V.i 0, V.i 0, V.i 0, V.i 0, V.i 0, V.i 0, V.i 0, V.i 0, V.i 0, V.i 0, V.i 0, V.i 0, V.i 0, V.i 0, V.i 0, V.i 0, V.i 0, V.i 0, V.i 0, V.i 0, V.i 0, V.i 0, V.i 0, V.i 0, V.i 0, V.i 0, V.i 0, V.i 0, V.i 0, V.i 0, V.i 0, V.i 0, V.i 0, V.i 0, V.i 0, V.i 0, V.i 0, V.i 0, V.i 0, V.i 0, V.i 0, V.i 0, V.i 0, V.i 0, V.i 0, V.i 0, V.i 0, V.i 0, V.i 0, V.i 0, V.i 0, V.i 0, V.i 0, V.i 0, V.i 0, V.i 0, V.i 0, V.i 0, V.i 0, V.i 0, V.i 0, V.i 0, V.i 0, V.i 0, V.i 0, V.i 0, V.i 0, V.i 0, V.i 0, V.i 0, V.i 0, V.i 0, V.i 0, V.i 0, V.i 0, V.i 0, V.i 0, V.i 0, V.i 0, V.i 0, V.i 0, V.i 0, V.i 0, V.i 0, V.i 0, V.i 0, V.i 0, V.i 0, V.i 0, V.i 0, V.i 0, V.i 0, V.i 0, V.i 0, V.i 0, V.i 0, V.i 0, V.i 0, V.i 0, V.i 0, V.i 0, V.i 0, V.i 0, V.i 0, V.i 0, V.i 0, V.i 0, V.i 0, V.i 0, V.i 0, V.i 0, V.i 0, V.i 0, V.i 0, V.i 0, V.i 0, V.i 0, V.i 0, V.i 0, V.i 0, V.i 0, V.i 0, V.i 0, V.i 0, V.i 0, V.i 0, V.i 0, V.i 0, V.i 0, V.i 0, V.i 0, V.i 0, V.i 0, V.i 0, V.i 0, V.i 0, V.i 0, V.i 0, V.i 0, V.i 0, V.i 0, V.i 0, V.i 0, V.i 0, V.i 0, V.i 0, V.i 0, V.i 0, V.i 0, V.i 0, V.i 0, V.i 0, V.i 0, V.i 0, V.i 0, V.i 0, V.i 0, V.i 0, V.i 0, V.i 0, V.i 0, V.i 0, V.i 0, V.i 0, V.i 0, V.i 0, V.i 0, V.i 0, V.i 0, V.i 0, V.i 0, V.i 0, V.i 0, V.i 0, V.i 0, V.i 0, V.i 0, V.i 0, V.i 0, V.i 0, V.i 0, V.i 0, V.i 0, V.i 0, V.i 0, V.i 0, V.i 0, V.i 0, V.i 0, V.i 0, V.i 0, V.i 0, V.i 0, V.i 0, V.i 0, V.i 0, V.i 0, V.i 0, V.i 0, V.i 0, V.i 0, V.i 0, V.i 0, V.i 0, V.i 0, V.i 0, V.i 0, V.i 0, V.i 0, V.i 0, V.i 0, V.i 0, V.i 0, V.i 0, V.i 0, V.i 0, V.i 0, V.i 0, V.i 0, V.i 0, V.i 0, V.i 0, V.i 0, V.i 0, V.i 0, V.i 0, V.i 0, V.i 0, V.i 0, V.i 0, V.i 0, V.i 0, V.i 0, V.i 0, V.i 0, V.i 0, V.i 0, V.i 0, V.i 0, V.i 0, V.i 0, V.i 0, V.i 0, V.i 0, V.i 0, V.i 0, V.i 0, V.i 0, V.i 0, V.i 0, V.i 0, V.i 0, V.i 0, V.i 0, V.i 0, V.i 0, V.i 0, V.i 0, V.i 0, V.i 0, V.i 0, V.i 0, V.i 0, V.i 0, V.i 0, V.i 0, V.i 0, V.i 0, V.i 0, V.i 0, V.i 0, V.i 0, V.i 0, V.i 0, V.i 0, V.i 0, V.i 0, V.i 0, V.i 0, V.i 0, V.i 0, V.i 0, V.i 0, V.i 0, V.i 0, V.i 0, V.i 0, V.i 0, V.i 0, V.i 0, V.i 0, V.i 0, V.i 0, V.i 0, V.i 0, V.i 0, V.i 0, V.i 0, V.i 0, V.i 0, V.i 0, V.i 0, V.i 0, V.i 0, V.i 0, V.i 0, V.i 0, V.i 0, V.i 0, V.i 0, V.i 0, V.i 0, V.i 0, V.i 0, V.i 0, V.i 0, V.i 0, V.i 0, V.i 0, V.i 0, V.i 0, V.i 0, V.i 0, V.i 0, V.i 0, V.i 0, V.i 0, V.i 0, V.i 0, V.i 0, V.i 0, V.i 0, V.i 0, V.i 0, V.i 0, V.i 0, V.i 0, V.i 0, V.i 0, V.i 0, V.i 0, V.i 0, V.i 0, V.i 0, V.i 0, V.i 0, V.i 0, V.i 0, V.i 0, V.i 0, V.i 0, V.i 0, V.i 0, V.i 0, V.i 0, V.i 0, V.i 0, V.i 0, V.i 0, V.i 0, V.i 0, V.i 0, V.i 0, V.i 0, V.i 0, V.i 0, V.i 0, V.i 0, V.i 0, V.i 0, V.i 0, V.i 0, V.i 0, V.i 0, V.i 0, V.i 0, V.i 0, V.i 0, V.i 0, V.i 0, V.i 0, V.i 0, V.i 0, V.i 0, V.i 0, V.i 0, V.i 0, V.i 0, V.i 0, V.i 0, V.i 0, V.i 0, V.i 0, V.i 0, V.i 0, V.i 0, V.i 0, V.i 0, V.i 0, V.i 0, V.i 0, V.i 0, V.i 0, V.i 0, V.i 0, V.i 0, V.i 0, V.i 0, V.i 0, V.i 0, V.i 0, V.i 0, V.i 0, V.i 0, V.i 0, V.i 0, V.i 0, V.i 0, V.i 0, V.i 0, V.i 0, V.i 0, V.i 0, V.i 0, V.i 0, V.i 0, V.i 0, V.i 0, V.i 0, V.i 0, V.i 0, V.i 0, V.i 0, V.i 0, V.i 0, V.i 0, V.i 0, V.i 0, V.i 0, V.i 0, V.i 0, V.i 0, V.i 0, V.i 0, V.i 0, V.i 0, V.i 0, V.i 0, V.i 0, V.i 0, V.i 0, V.i 0, V.i 0, V.i 0, V.i 0, V.i 0, V.i 0, V.i 0, V.i 0, V.i 0, V.i 0, V.i 0, V.i 0, V.i 0, V.i 0, V.i 0, V.i 0, V.i 0, V.i 0, V.i 0, V.i 0, V.i 0, V.i 0, V.i 0, V.i 0, V.i 0, V.i 0, V.i 0, V.i 0, V.i 0, V.i 0, V.i 0, V.i 0, V.i 0, V.i 0, V.i 0, V.i 0, V.i 0, V.i 0, V.i 0, V.i 0, V.i 0, V.i 0, V.i 0, V.i 0, V.i 0, V.i 0, V.i 0, V.i 0, V.i 0, V.i 0, V.i 0, V.i 0, V.i 0, V.i 0, V.i 0, V.i 0, V.i 0, V.i 0, V.i 0, V.i 0, V.i 0, V.i 0, V.i 0, V.i 0, V.i 0, V.i 0, V.i 0, V.i 0, V.i 0, V.i 0, V.i 0, V.i 0, V.i 0, V.i 0, V.i 0, V.i 0, V.i 0, V.i 0, V.i 0, V.i 0, V.i 0, V.i 0, V.i 0, V.i 0, V.i 0, V.i 0, V.i 0, V.i 0, V.i 0, V.i 0, V.i 0, V.i 0, V.i 0, V.i 0, V.i 0, V.i 0, V.i 0, V.i 0, V.i 0, V.i 0, V.i 0, V.i 0, V.i 0, V.i 0, V.i 0, V.i 0, V.i 0, V.i 0, V.i 0, V.i 0, V.i 0, V.i 0, V.i 0, V.i 0, V.i 0, V.i 0, V.i 0, V.i 0, V.i 0, V.i 0, V.i 0, V.i 0, V.i 0, V.i 0, V.i 0, V.i 0, V.i 0, V.i 0, V.i 0, V.i 0, V.i 0, V.i 0, V.i 0, V.i 0, V.i 0, V.i 0, V.i 0, V.i 0, V.i 0, V.i 0, V.i 0, V.i 0, V.i 0, V.i 0, V.i 0, V.i 0, V.i 0, V.i 0, V.i 0, V.i 0, V.i 0, V.i 0, V.i 0, V.i 0, V.i 0, V.i 0, V.i 0, V.i 0, V.i 0, V.i 0, V.i 0, V.i 0, V.i 0, V.i 0, V.i 0, V.i 0, V.i 0, V.i 0, V.i 0, V.i 0, V.i 0, V.i 0, V.i 0, V.i 0, V.i 0, V.i 0, V.i 0, V.i 0, V.i 0, V.i 0, V.i 0, V.i 0, V.i 0, V.i 0, V.i 0, V.i 0, V.i 0, V.i 0, V.i 0, V.i 0, V.i 0, V.i 0, V.i 0, V.i 0, V.i 0, V.i 0, V.i 0, V.i 0, V.i 0, V.i 0, V.i 0, V.i 0, V.i 0, V.i 0, V.i 0, V.i 0, V.i 0, V.i 0, V.i 0, V.i 0, V.i 0, V.i 0, V.i 0, V.i 0, V.i 0, V.i 0, V.i 0, V.i 0, V.i 0, V.i 0, V.i 0, V.i 0, V.i 0, V.i 0, V.i 0, V.i 0, V.i 0, V.i 0, V.i 0, V.i 0, V.i 0, V.i 0, V.i 0, V.i 0, V.i 0, V.i 0, V.i 0, V.i 0, V.i 0, V.i 0, V.i 0, V.i 0, V.i 0, V.i 0, V.i 0, V.i 0, V.i 0, V.i 0, V.i 0, V.i 0, V.i 0, V.i 0, V.i 0, V.i 0, V.i 0, V.i 0, V.i 0, V.i 0, V.i 0, V.i 0, V.i 0, V.i 0, V.i 0, V.i 0, V.i 0, V.i 0, V.i 0, V.i 0, V.i 0, V.i 0, V.i 0, V.i 0, V.i 0, V.i 0, V.i 0, V.i 0, V.i 0, V.i 0, V.i 0, V.i 0, V.i 0, V.i 0, V.i 0, V.i 0, V.i 0, V.i 0, V.i 0, V.i 0, V.i 0, V.i 0, V.i 0, V.i 0, V.i 0, V.i 0, V.i 0, V.i 0, V.i 0, V.i 0, V.i 0, V.i 0, V.i 0, V.i 0, V.i 0, V.i 0, V.i 0, V.i 0, V.i 0, V.i 0, V.i 0, V.i 0, V.i 0, V.i 0, V.i 0, V.i 0, V.i 0, V.i 0, V.i 0, V.i 0, V.i 0, V.i 0, V.i 0, V.i 0, V.i 0, V.i 0, V.i 0, V.i 0, V.i 0, V.i 0, V.i 0, V.i 0, V.i 0, V.i 0, V.i 0, V.i 0, V.i 0, V.i 0, V.i 0, V.i 0, V.i 0, V.i 0, V.i 0, V.i 0, V.i 0, V.i 0, V.i 0, V.i 0, V.i 0, V.i 0, V.i 0, V.i 0, V.i 0, V.i 0, V.i 0, V.i 0, V.i 0, V.i 0, V.i 0, V.i 0, V.i 0, V.i 0, V.i 0, V.i 0, V.i 0, V.i 0, V.i 0, V.i 0, V.i 0, V.i 0, V.i 0, V.i 0, V.i 0, V.i 0, V.i 0, V.i 0, V.i 0, V.i 0, V.i 0, V.i 0, V.i 0, V.i 0, V.i 0, V.i 0, V.i 0, V.i 0, V.i 0, V.i 0, V.i 0, V.i 0, V.i 0, V.i 0, V.i 0, V.i 0, V.i 0, V.i 0, V.i 0, V.i 0, V.i 0, V.i 0, V.i 0, V.i 0, V.i 0, V.i 0, V.i 0, V.i 0, V.i 0, V.i 0, V.i 0, V.i 0, V.i 0, V.i 0, V.i 0, V.i 0, V.i 0, V.i 0, V.i 0, V.i 0, V.i 0, V.i 0, V.i 0, V.i 0, V.i 0, V.i 0, V.i 0, V.i 0, V.i 0, V.i 0, V.i 0, V.i 0, V.i 0, V.i 0, V.i 0, V.i 0, V.i 0, V.i 0, V.i 0, V.i 0, V.i 0, V.i 0, V.i 0, V.i 0, V.i 0, V.i 0, V.i 0, V.i 0, V.i 0, V.i 0, V.i 0, V.i 0, V.i 0, V.i 0, V.i 0, V.i 0, V.i 0, V.i 0, V.i 0, V.i 0, V.i 0, V.i 0, V.i 0, V.i 0, V.i 0, V.i 0, V.i 0, V.i 0, V.i 0, V.i 0, V.i 0, V.i 0, V.i 0, V.i 0, V.i 0, V.i 0, V.i 0, V.i 0, V.i 0, V.i 0, V.i 0, V.i 0, V.i 0, V.i 0, V.i 0, V.i 0, V.i 0, V.i 0, V.i 0, V.i 0, V.i 0, V.i 0, V.i 0, V.i 0, V.i 0, V.i 0, V.i 0, V.i 0, V.i 0, V.i 0, V.i 0, V.i 0, V.i 0, V.i 0, V.i 0, V.i 0, V.i 0, V.i 0, V.i 0, V.i 0, V.i 0, V.i 0, V.i 0, V.i 0, V.i 0, V.i 0, V.i 0, V.i 0, V.i 0, V.i 0, V.i 0, V.i 0, V.i 0, V.i 0, V.i 0, V.i 0, V.i 0, V.i 0, V.i 0, V.i 0, V.i 0, V.i 0, V.i 0, V.i 0, V.i 0, V.i 0, V.i 0, V.i 0, V.i 0, V.i 0, V.i 0, V.i 0, V.i 0, V.i 0, V.i 0, V.i 0, V.i 0, V.i 0, V.i 0, V.i 0, V.i 0, V.i 0, V.i 0, V.i 0, V.i 0, V.i 0, V.i 0, V.i 0, V.i 0, V.i 0, V.i 0, V.i 0, V.i 0, V.i 0, V.i 0, V.i 0, V.i 0, V.i 0, V.i 0, V.i 0, V.i 0, V.i 0, V.i 0, V.i 0, V.i 0, V.i 0, V.i 0, V.i 0, V.i 0, V.i 0, V.i 0, V.i 0, V.i 0, V.i 0, V.i 0, V.i 0, V.i 0, V.i 0, V.i 0, V.i 0, V.i 0, V.i 0, V.i 0, V.i 0, V.i 0, V.i 0, V.i 0, V.i 0, V.i 0, V.i 0, V.i 0, V.i 0, V.i 0, V.i 0, V.i 0, V.i 0, V.i 0, V.i 0, V.i 0, V.i 0, V.i 0, V.i 0, V.i 0, V.i 0, V.i 0, V.i 0, V.i 0, V.i 0, V.i 0, V.i 0, V.i 0, V.i 0, V.i 0, V.i 0, V.i 0, V.i 0, V.i 0, V.i 0, V.i 0, V.i 0, V.i 0, V.i 0, V.i 0, V.i 0, V.i 0, V.i 0, V.i 0, V.i 0, V.i 0, V.i 0, V.i 0, V.i 0, V.i 0, V.i 0, V.i 0, V.i 0, V.i 0, V.i 0, V.i 0, V.i 0, V.i 0, V.i 0, V.i 0, V.i 0, V.i 0, V.i 0, V.i 0, V.i 0, V.i 0, V.i 0, V.i 0, V.i 0, V.i 0, V.i 0, V.i 0, V.i 0, V.i 0, V.i 0, V.i 0, V.i 0, V.i 0, V.i 0, V.i 0, V.i 0, V.i 0, V.i 0, V.i 0, V.i 0, V.i 0, V.i 0, V.i 0, V.i 0, V.i 0, V.i 0, V.i 0, V.i 0, V.i 0, V.i 0, V.i 0, V.i 0, V.i 0, V.i 0, V.i 0, V.i 0, V.i 0, V.i 0, V.i 0, V.i 0, V.i 0, V.i 0, V.i 0, V.i 0, V.i 0, V.i 0, V.i 0, V.i 0, V.i 0, V.i 0, V.i 0, V.i 0, V.i 0, V.i 0, V.i 0, V.i 0, V.i 0, V.i 0, V.i 0, V.i 0, V.i 0, V.i 0, V.i 0, V.i 0, V.i 0, V.i 0, V.i 0, V.i 0, V.i 0, V.i 0, V.i 0, V.i 0, V.i 0, V.i 0, V.i 0, V.i 0, V.i 0, V.i 0, V.i 0, V.i 0, V.i 0, V.i 0, V.i 0, V.i 0, V.i 0, V.i 0, V.i 0, V.i 0, V.i 0, V.i 0, V.i 0, V.i 0, V.i 0, V.i 0, V.i 0, V.i 0, V.i 0, V.i 0, V.i 0, V.i 0, V.i 0, V.i 0, V.i 0, V.i 0, V.i 0, V.i 0, V.i 0, V.i 0, V.i 0, V.i 0, V.i 0, V.i 0, V.i 0, V.i 0, V.i 0, V.i 0, V.i 0, V.i 0, V.i 0, V.i 0, V.i 0, V.i 0, V.i 0, V.i 0, V.i 0, V.i 0, V.i 0, V.i 0, V.i 0, V.i 0, V.i 0, V.i 0, V.i 0, V.i 0, V.i 0, V.i 0, V.i 0, V.i 0, V.i 0, V.i 0, V.i 0, V.i 0, V.i 0, V.i 0, V.i 0, V.i 0, V.i 0, V.i 0, V.i 0, V.i 0, V.i 0, V.i 0, V.i 0, V.i 0, V.i 0, V.i 0, V.i 0, V.i 0, V.i 0, V.i 0, V.i 0, V.i 0, V.i 0, V.i 0, V.i 0, V.i 0, V.i 0, V.i 0, V.i 0, V.i 0, V.i 0, V.i 0, V.i 0, V.i 0, V.i 0, V.i 0, V.i 0, V.i 0, V.i 0, V.i 0, V.i 0, V.i 0, V.i 0, V.i 0, V.i 0, V.i 0, V.i 0, V.i 0, V.i 0, V.i 0, V.i 0, V.i 0, V.i 0, V.i 0, V.i 0, V.i 0, V.i 0, V.i 0, V.i 0, V.i 0, V.i 0, V.i 0, V.i 0, V.i 0, V.i 0, V.i 0, V.i 0, V.i 0, V.i 0, V.i 0, V.i 0, V.i 0, V.i 0, V.i 0, V.i 0, V.i 0, V.i 0, V.i 0, V.i 0, V.i 0, V.i 0, V.i 0, V.i 0, V.i 0, V.i 0, V.i 0, V.i 0, V.i 0, V.i 0, V.i 0, V.i 0, V.i 0, V.i 0, V.i 0, V.i 0, V.i 0, V.i 0, V.i 0, V.i 0, V.i 0, V.i 0, V.i 0, V.i 0, V.i 0, V.i 0, V.i 0, V.i 0, V.i 0, V.i 0, V.i 0, V.i 0, V.i 0, V.i 0, V.i 0, V.i 0, V.i 0, V.i 0, V.i 0, V.i 0, V.i 0, V.i 0, V.i 0, V.i 0, V.i 0, V.i 0, V.i 0, V.i 0, V.i 0, V.i 0, V.i 0, V.i 0, V.i 0, V.i 0, V.i 0, V.i 0, V.i 0, V.i 0, V.i 0, V.i 0, V.i 0, V.i 0, V.i 0, V.i 0, V.i 0, V.i 0, V.i 0, V.i 0, V.i 0, V.i 0, V.i 0, V.i 0, V.i 0, V.i 0, V.i 0, V.i 0, V.i 0, V.i 0, V.i 0, V.i 0, V.i 0, V.i 0, V.i 0, V.i 0, V.i 0, V.i 0, V.i 0, V.i 0, V.i 0, V.i 0, V.i 0, V.i 0, V.i 0, V.i 0, V.i 0, V.i 0, V.i 0, V.i 0, V.i 0, V.i 0, V.i 0, V.i 0, V.i 0, V.i 0, V.i 0, V.i 0, V.i 0, V.i 0, V.i 0, V.i 0, V.i 0, V.i 0, V.i 0, V.i 0, V.i 0, V.i 0, V.i 0, V.i 0, V.i 0, V.i 0, V.i 0, V.i 0, V.i 0, V.i 0, V.i 0, V.i 0, V.i 0, V.i 0, V.i 0, V.i 0, V.i 0, V.i 0, V.i 0, V.i 0, V.i 0, V.i 0, V.i 0, V.i 0, V.i 0, V.i 0, V.i 0, V.i 0, V.i 0, V.i 0, V.i 0, V.i 0, V.i 0, V.i 0, V.i 0, V.i 0, V.i 0, V.i 0, V.i 0, V.i 0, V.i 0, V.i 0, V.i 0, V.i 0, V.i 0, V.i 0, V.i 0, V.i 0, V.i 0, V.i 0, V.i 0, V.i 0, V.i 0, V.i 0, V.i 0, V.i 0, V.i 0, V.i 0, V.i 0, V.i 0, V.i 0, V.i 0, V.i 0, V.i 0, V.i 0, V.i 0, V.i 0, V.i 0, V.i 0, V.i 0, V.i 0, V.i 0, V.i 0, V.i 0, V.i 0, V.i 0, V.i 0, V.i 0, V.i 0, V.i 0, V.i 0, V.i 0, V.i 0, V.i 0, V.i 0, V.i 0, V.i 0, V.i 0, V.i 0, V.i 0, V.i 0, V.i 0, V.i 0, V.i 0, V.i 0, V.i 0, V.i 0, V.i 0, V.i 0, V.i 0, V.i 0, V.i 0, V.i 0, V.i 0, V.i 0, V.i 0, V.i 0, V.i 0, V.i 0, V.i 0, V.i 0, V.i 0, V.i 0, V.i 0, V.i 0, V.i 0, V.i 0, V.i 0, V.i 0, V.i 0, V.i 0, V.i 0, V.i 0, V.i 0, V.i 0, V.i 0, V.i 0, V.i 0, V.i 0, V.i 0, V.i 0, V.i 0, V.i 0, V.i 0, V.i 0, V.i 0, V.i 0, V.i 0, V.i 0, V.i 0, V.i 0, V.i 0, V.i 0, V.i 0, V.i 0, V.i 0, V.i 0, V.i 0, V.i 0, V.i 0, V.i 0, V.i 0, V.i 0, V.i 0, V.i 0, V.i 0, V.i 0, V.i 0, V.i 0, V.i 0, V.i 0, V.i 0, V.i 0, V.i 0, V.i 0, V.i 0, V.i 0, V.i 0, V.i 0, V.i 0, V.i 0, V.i 0, V.i 0, V.i 0, V.i 0, V.i 0, V.i 0, V.i 0, V.i 0, V.i 0, V.i 0, V.i 0, V.i 0, V.i 0, V.i 0, V.i 0, V.i 0, V.i 0, V.i 0, V.i 0, V.i 0, V.i 0, V.i 0, V.i 0, V.i 0, V.i 0, V.i 0, V.i 0, V.i 0, V.i 0, V.i 0, V.i 0, V.i 0, V.i 0, V.i 0, V.i 0, V.i 0, V.i 0, V.i 0, V.i 0, V.i 0, V.i 0, V.i 0, V.i 0, V.i 0, V.i 0, V.i 0, V.i 0, V.i 0, V.i 0, V.i 0, V.i 0, V.i 0, V.i 0, V.i 0, V.i 0, V.i 0, V.i 0, V.i 0, V.i 0, V.i 0, V.i 0, V.i 0, V.i 0, V.i 0, V.i 0, V.i 0, V.i 0, V.i 0, V.i 0, V.i 0, V.i 0, V.i 0, V.i 0, V.i 0, V.i 0, V.i 0, V.i 0, V.i 0, V.i 0, V.i 0, V.i 0, V.i 0, V.i 0, V.i 0, V.i 0, V.i 0, V.i 0, V.i 0, V.i 0, V.i 0, V.i 0, V.i 0, V.i 0, V.i 0, V.i 0, V.i 0, V.i 0, V.i 0, V.i 0, V.i 0, V.i 0, V.i 0, V.i 0, V.i 0, V.i 0, V.i 0, V.i 0, V.i 0, V.i 0, V.i 0, V.i 0, V.i 0, V.i 0, V.i 0, V.i 0, V.i 0, V.i 0, V.i 0, V.i 0, V.i 0, V.i 0, V.i 0, V.i 0, V.i 0, V.i 0, V.i 0, V.i 0, V.i 0, V.i 0, V.i 0, V.i 0, V.i 0, V.i 0, V.i 0, V.i 0, V.i 0, V.i 0, V.i 0, V.i 0, V.i 0, V.i 0, V.i 0, V.i 0, V.i 0, V.i 0, V.i 0, V.i 0, V.i 0, V.i 0, V.i 0, V.i 0, V.i 0, V.i 0, V.i 0, V.i 0, V.i 0, V.i 0, V.i 0, V.i 0, V.i 0, V.i 0, V.i 0, V.i 0, V.i 0, V.i 0, V.i 0, V.i 0, V.i 0, V.i 0, V.i 0, V.i 0, V.i 0, V.i 0, V.i 0, V.i 0, V.i 0, V.i 0, V.i 0, V.i 0, V.i 0, V.i 0, V.i 0, V.i 0, V.i 0, V.i 0, V.i 0, V.i 0, V.i 0, V.i 0, V.i 0, V.i 0, V.i 0, V.i 0, V.i 0, V.i 0, V.i 0, V.i 0, V.i 0, V.i 0, V.i 0, V.i 0, V.i 0, V.i 0, V.i 0, V.i 0, V.i 0, V.i 0, V.i 0, V.i 0, V.i 0, V.i 0, V.i 0, V.i 0, V.i 0, V.i 0, V.i 0, V.i 0, V.i 0, V.i 0, V.i 0, V.i 0, V.i 0, V.i 0, V.i 0, V.i 0, V.i 0, V.i 0, V.i 0, V.i 0, V.i 0, V.i 0, V.i 0, V.i 0, V.i 0, V.i 0, V.i 0, V.i 0, V.i 0, V.i 0, V.i 0, V.i 0, V.i 0, V.i 0, V.i 0, V.i 0, V.i 0, V.i 0, V.i 0, V.i 0, V.i 0, V.i 0, V.i 0, V.i 0, V.i 0, V.i 0, V.i 0, V.i 0, V.i 0, V.i 0, V.i 0, V.i 0, V.i 0, V.i 0, V.i 0, V.i 0, V.i 0, V.i 0, V.i 0, V.i 0, V.i 0, V.i 0, V.i 0, V.i 0, V.i 0, V.i 0, V.i 0, V.i 0, V.i 0, V.i 0, V.i 0, V.i 0, V.i 0, V.i 0, V.i 0, V.i 0, V.i 0, V.i 0, V.i 0, V.i 0, V.i 0, V.i 0, V.i 0, V.i 0, V.i 0, V.i 0, V.i 0, V.i 0, V.i 0, V.i 0, V.i 0, V.i 0, V.i 0, V.i 0, V.i 0, V.i 0, V.i 0, V.i 0, V.i 0, V.i 0, V.i 0, V.i 0, V.i 0, V.i 0, V.i 0, V.i 0, V.i 0, V.i 0, V.i 0, V.i 0, V.i 0, V.i 0, V.i 0, V.i 0, V.i 0, V.i 0, V.i 0, V.i 0, V.i 0, V.i 0, V.i 0, V.i 0, V.i 0, V.i 0, V.i 0, V.i 0, V.i 0, V.i 0, V.i 0, V.i 0, V.i 0, V.i 0, V.i 0, V.i 0, V.i 0, V.i 0, V.i 0, V.i 0, V.i 0, V.i 0, V.i 0, V.i 0, V.i 0, V.i 0, V.i 0, V.i 0, V.i 0, V.i 0, V.i 0, V.i 0, V.i 0, V.i 0, V.i 0, V.i 0, V.i 0, V.i 0, V.i 0, V.i 0, V.i 0, V.i 0, V.i 0, V.i 0, V.i 0, V.i 0, V.i 0, V.i 0, V.i 0, V.i 0, V.i 0, V.i 0, V.i 0, V.i 0, V.i 0, V.i 0, V.i 0, V.i 0, V.i 0, V.i 0, V.i 0, V.i 0, V.i 0, V.i 0, V.i 0, V.i 0, V.i 0, V.i 0]
set_option maxRecDepth 100000 in
theorem pascal_ac : AC Tryz.prog 17 [] triV [] := by
 refine acI hTT hMX Tryz.func17 Tryz.ntmps17 fun C hC hF => ?_
 refine sK fun K hK => wR 2 ?_; refine aX hTT 1 [] tI ?_; refine nK hK ?_; clear hK K; refine sK fun K hK => wR 3 ?_; refine aX hTT 2 [(0, .r (pn 4 (V.ref 200004 0) (200004 : Nat) (yyMW10)))] tI ?_; refine nK hK ?_; clear hK K; refine sK fun K hK => ?_; refine sK fun K hK => wR 4 ?_; refine aX hTT 1 [] tI ?_; refine nK hK ?_; clear hK K
 refine aw_block ?_
 obtain ⟨c0, hc0⟩ : ∃ c0, c0 = sqV (triF 0 0) := ⟨_, rfl⟩
 refine w_loop (ι := Nat × List V) (fun x => [(1, .ref 1 0), (5, .i x.1)]) (fun x => [(1, .box 78 x.2)]) (fun x => x.1 ≤ 51 ∧ x.2 = sqV (triF x.1 0)) (fun x => 51 - x.1) (0, c0) ⟨Nat.zero_le _, hc0⟩ ?_ ?_
 ·
  show Le _ ⟨mkT [(1, .ref 1 0), (5, .i 0)], mkS [(1, .box 78 c0)], 1⟩
  refine le_ren (tl := [(1, V.ref 1 0), (5, V.i 0)]) (sl := [(1, Ob.box 78 c0)]) [(1, 200004)] (.cons kR (.cons kR .nil)) (.cons ⟨yyMW10, kR, .box ?_⟩ .nil) kR kR
  rw [hc0]
  kernel_rfl
 rintro ⟨n, cs⟩ ⟨hn, hcs⟩
 simp only at hn hcs ⊢
 have hlen : cs.length = 2601 := by rw [hcs, sqV_len]
 refine sK fun K hK => wR 2 ?_; refine aX hTT 1 [] tI ?_; refine nK hK ?_; clear hK K; refine sK fun K hK => ?_
 refine w_cond (t := decide ((↑n : Int) < 51)) kR (fun c1 => ?_) (fun c1 => ?_)
 ·
  have c2 : n < 51 := by simp at c1; omega
  refine aw_skip ?_
  refine xt_n (hK _ ?_); clear hK K; refine sK fun K hK => ?_
  refine aw_block ?_
  refine sK fun K hK => wR 3 ?_; refine aX hTT 2 [] tI ?_; refine nK hK ?_; clear hK K; refine sK fun K hK => wR 4 ?_; refine aX hTT 6 [(3, .c ((0 : Int) ≤ (↑n : Int) ∧ (↑n : Int) < (↑(51 : Nat) : Int))), (4, .c ((0 : Int) ≤ (0 : Int) ∧ (0 : Int) < (↑(51 : Nat) : Int))), (5, .r (pw ((0 : Nat) + n * 51 + (0 : Nat) * (1 : Nat) + (1 : Nat) ≤ List.length cs) (1 : Nat) (Ob.box 78 (setCells cs ((0 : Nat) + n * 51 + (0 : Nat) * (1 : Nat)) [V.c (Value.int IntKind.i64 1)]))))] ⟨oM, oM, oM, tI⟩ ?_; refine nK hK ?_; clear hK K; refine sK fun K hK => wR 5 ?_; refine aX hTT 1 [] tI ?_; refine nK hK ?_; clear hK K
  refine aw_block ?_
  obtain ⟨c1, hc1⟩ : ∃ c1, c1 = cs.set (0 + n * 51 + 0 * 1) (V.i 1) := ⟨_, rfl⟩
  have he1 : c1 = sqV (triF n 1) := by
   rw [hc1, hcs, show 0 + n * 51 + 0 * 1 = n * 51 + 0 by omega]
   refine sqV_set c2 (by decide) ?_ fun a b hb h => ?_
   ·
    simp [triF, chN_zero]
   ·
    unfold triF
    by_cases h1 : a < n <;> by_cases h2 : a = n <;> simp [h1, h2] <;> omega
  refine w_loop (ι := Nat × List V) (fun x => [(1, .ref 1 0), (2, .i n), (3, .i x.1), (5, .i n)]) (fun x => [(1, .box 78 x.2)]) (fun x => 1 ≤ x.1 ∧ x.1 ≤ n + 1 ∧ x.2 = sqV (triF n x.1)) (fun x => n + 1 - x.1) (1, c1) ⟨Nat.le_refl _, Nat.le_add_left _ _, he1⟩ ?_ ?_
  ·
   show Le _ ⟨mkT [(1, .ref 1 0), (2, .i n), (3, .i 1), (5, .i n)], mkS [(1, .box 78 c1)], 1⟩
   refine le_ren (tl := [(1, V.ref 1 0), (2, V.i (↑n : Int)), (3, V.i 1), (5, V.i (↑n : Int))]) (sl := [(1, Ob.box 78 c1)]) [(1, 1)] (.cons kR (.cons kR (.cons kR (.cons kR .nil)))) (.cons ⟨Ob.box 78 (setCells cs ((0 : Nat) + n * 51 + (0 : Nat) * (1 : Nat)) [V.c (Value.int IntKind.i64 1)]), kR, .box ?_⟩ .nil) kR kR
   rw [he1, sqV_ren, ← he1, hc1]
   rfl
  rintro ⟨k, cs2⟩ ⟨hk1, hk, hcs2⟩
  simp only at hk1 hk hcs2 ⊢
  have hlen2 : cs2.length = 2601 := by rw [hcs2, sqV_len]
  refine sK fun K hK => ?_; refine sK fun K hK => wR 2 ?_; refine aX hTT 3 [] tI ?_; refine nK hK ?_; clear hK K
  refine w_cond (t := decide ((↑k : Int) ≤ (↑n : Int))) kR (fun c3 => ?_) (fun c3 => ?_)
  ·
   have c4 : k ≤ n := by simp at c3; omega
   obtain ⟨m, rfl⟩ : ∃ m, n = m + 1 := ⟨n - 1, by omega⟩
   obtain ⟨j, rfl⟩ : ∃ j, k = j + 1 := ⟨k - 1, by omega⟩
   refine aw_skip ?_
   refine xt_n (hK _ ?_); clear hK K; refine sK fun K hK => ?_
   refine aw_block ?_
   refine wD 3 ?_; refine aX hTT 11 [(5, .i ((↑(m + 1) : Int) - 1)), (7, .i ((↑(j + 1) : Int) - 1)), (9, .c ((0 : Int) ≤ (↑(m + 1) : Int) - 1 ∧ (↑(m + 1) : Int) - 1 < (↑(51 : Nat) : Int))), (10, .c ((0 : Int) ≤ (↑(j + 1) : Int) - 1 ∧ (↑(j + 1) : Int) - 1 < (↑(51 : Nat) : Int)))] ⟨oM, oM, oM, oM, tI⟩ ?_
   refine aops_step rfl (as_loadR1 2 (.tmp 28) (t' := 78) (cs := cs2) (v := .i (chN m j)) (hTT.agg rfl) rfl ?hv) ?hp ?hn ?_
   case hv => rw [hcs2]; exact sqV_get (n := m) (k := j) oM oM oM (by simp [triF])
   case hp => intro p hp; rw [List.mem_singleton] at hp; subst hp; rfl
   case hn => simp [nwOk]
   refine aX hTT 7 [(2, .i ((↑(m + 1) : Int) - 1)), (5, .c ((0 : Int) ≤ (↑(m + 1) : Int) - 1 ∧ (↑(m + 1) : Int) - 1 < (↑(51 : Nat) : Int))), (6, .c ((0 : Int) ≤ (↑(j + 1) : Int) ∧ (↑(j + 1) : Int) < (↑(51 : Nat) : Int)))] ⟨oM, oM, oM, tI⟩ ?_
   refine aops_step rfl (as_loadR1 2 (.tmp 36) (t' := 78) (cs := cs2) (v := .i (chN m (j + 1))) (hTT.agg rfl) rfl ?hv) ?hp ?hn ?_
   case hv => rw [hcs2]; exact sqV_get (n := m) (k := j + 1) oM oM oM (by simp [triF])
   case hp => intro p hp; rw [List.mem_singleton] at hp; subst hp; rfl
   case hn => simp [nwOk]
   have b1 := chN_50 (n := m) oM j
   have b2 := chN_50 (n := m) oM (j + 1)
   refine aX hTT 5 [(0, .i ((↑(chN m j) : Int) + (↑(chN m (j + 1)) : Int))), (2, .c ((0 : Int) ≤ (↑(m + 1) : Int) ∧ (↑(m + 1) : Int) < (↑(51 : Nat) : Int))), (3, .c ((0 : Int) ≤ (↑(j + 1) : Int) ∧ (↑(j + 1) : Int) < (↑(51 : Nat) : Int))), (4, .r (pw ((0 : Nat) + (m + 1) * 51 + (j + 1) * 1 + (1 : Nat) ≤ List.length cs2) (1 : Nat) (Ob.box 78 (setCells cs2 ((0 : Nat) + (m + 1) * 51 + (j + 1) * 1) [V.c (Value.int IntKind.i64 ((↑(chN m j) : Int) + (↑(chN m (j + 1)) : Int)))]))))] ⟨oM, oM, oM, oM, tI⟩ ?_; refine aops_nil ⟨kR, ?_⟩; refine xb_n ?_; refine xt_n (hK _ ?_); clear hK K; refine wR 4 ?_; refine aX hTT 3 [(1, .i ((↑(j + 1) : Int) + 1))] ⟨oM, tI⟩ ?_; refine aops_nil ?_; refine xt_n ?_
   obtain ⟨c3, hc3⟩ : ∃ c3, c3 = cs2.set (0 + (m + 1) * 51 + (j + 1) * 1) (V.i ((chN m j : Int) + chN m (j + 1))) := ⟨_, rfl⟩
   have he3 : c3 = sqV (triF (m + 1) (j + 2)) := by
    rw [hc3, hcs2, show 0 + (m + 1) * 51 + (j + 1) * 1 = (m + 1) * 51 + (j + 1) by omega]
    refine sqV_set oM oM ?_ fun a b hb h => ?_
    ·
     simp [triF, chN_succ]
    ·
     unfold triF
     by_cases h1 : a < m + 1 <;> by_cases h2 : a = m + 1 <;> simp [h1, h2] <;> (have : (b < j + 2) = (b < j + 1) := by simp; omega) <;> simp [this]
   refine ⟨(j + 2, c3), ⟨by simp, by simp; omega, he3⟩, ?_, by simp; omega⟩
   show Le _ ⟨mkT [(1, .ref 1 0), (2, .i ((m + 1 : Nat) : Int)), (3, .i ((j + 2 : Nat) : Int)), (5, .i ((m + 1 : Nat) : Int))], mkS [(1, .box 78 c3)], 1⟩
   refine le_ren (tl := [(1, V.ref 1 0), (2, V.i (↑(m + 1) : Int)), (3, V.i (↑(j + 2) : Int)), (5, V.i (↑(m + 1) : Int))]) (sl := [(1, Ob.box 78 c3)]) [(1, 1)] (.cons kR (.cons kR (.cons kR (.cons kR .nil)))) (.cons ⟨Ob.box 78 (setCells cs2 ((0 : Nat) + (m + 1) * 51 + (j + 1) * 1) [V.c (Value.int IntKind.i64 ((↑(chN m j) : Int) + (↑(chN m (j + 1)) : Int)))]), kR, .box ?_⟩ .nil) kR kR
   rw [he3, sqV_ren, ← he3, hc3]
   rfl
  ·
   have c4 : k = n + 1 := by simp at c3; omega
   have he4 : cs2 = sqV (triF (n + 1) 0) := by
    rw [hcs2, c4]
    congr 1
    funext a b
    unfold triF
    by_cases h1 : a < n
    ·
     simp [h1, show a < n + 1 by omega]
    ·
     by_cases h2 : a = n
     ·
      subst h2
      by_cases h3 : b < a + 1
      ·
       simp [h3]
      ·
       simp [h3, chN_gt a b oM]
     ·
      simp [h1, h2, show ¬ a < n + 1 by omega]
   refine aw_exit ?_
   refine xt_x ?_; refine xt_x ?_
   refine xb_same ?_
   refine xb_n ?_; refine xt_n ?_; clear hK K; refine hK _ ?_; clear hK K; refine wR 3 ?_; refine aX hTT 2 [(0, .i ((↑n : Int) + 1))] ⟨oM, tI⟩ ?_; refine aops_nil ?_; refine xt_n ?_
   refine ⟨(n + 1, cs2), ⟨by simp; omega, he4⟩, ?_, by simp; omega⟩
   refine le_ren (tl := [(1, V.ref 1 0), (5, V.i (↑(n + 1) : Int))]) (sl := [(1, Ob.box 78 cs2)]) [(1, 1)] (.cons kR (.cons kR .nil)) (.cons ⟨Ob.box 78 cs2, kR, .box ?_⟩ .nil) kR kR
   rw [he4, sqV_ren]
 ·
  have c2 : n = 51 := by simp at c1; omega
  have he5 : cs = sqV chN := by
   rw [hcs, c2]
   unfold sqV
   refine List.map_congr_left fun x hx => ?_
   rw [List.mem_range] at hx
   rw [triF, if_pos (.inl oM)]
  refine w_le (le_freezeBox (t := 78) (cs := cs) 1 kR (by rw [he5]; exact sqV_idf chN)) ?_
  refine aw_exit ?_
  refine xt_x ?_; refine xt_x ?_
  refine xb_same ?_
  refine xt_n ?_; clear hK K; refine hK _ ?_; clear hK K; refine sK fun K hK => wR 3 ?_; refine aX hTT 2 [] tI ?_; refine nK hK ?_; clear hK K
  refine aw_ret ?_
  rw [show triV = V.ptr cs by rw [triV, he5]]
  refine rP (V.ptr (List.drop (0 : Nat) cs))
set_option maxRecDepth 100000 in
theorem choose_ac (n : Nat) (k : Int) (hn : n ≤ 50) : AC Tryz.prog 19 [triV, .i n, .i k] (.i (chV n k)) [] := by
 refine acI hTT hMX Tryz.func19 Tryz.ntmps19 fun C hC hF => ?_
 refine sK fun K hK => wR 2 ?_; refine aX hTT 1 [] tI ?_; refine nK hK ?_; clear hK K; refine sK fun K hK => ?_; refine sK fun K hK => wR 3 ?_; refine aX hTT 7 [(3, .c (gA (decide (k < 0) == false) True)), (4, .c (gA (decide (k < 0) == false) True)), (5, .c (gC (decide (k < 0) == false) True)), (6, .c (True ∧ (decide (k < 0) = false → (decide (k < 0) == false) = true)))] ⟨⟨⟨tI, tI⟩, (fun _ => tI)⟩, ⟨⟨tI, tI⟩, (fun _ => tI)⟩, ⟨⟨(by (exact fun h => h)), ⟨(by (exact fun h => h)), tI⟩⟩, (fun _ => tI)⟩, ⟨tI, (by (intro h; rw [h]; rfl))⟩, tI⟩ ?_; refine nK hK ?_; clear hK K
 refine w_cond (t := decide (k < 0) || decide ((↑n : Int) < k)) kR (fun c1 => ?_) (fun c1 => ?_)
 ·
  refine sK fun K hK => ?_
  refine wR 4 ?_; refine aX hTT 1 [] tI ?_; refine nK hK ?_; clear hK K
  refine aw_ret ?_
  refine xt_r ?_
  rw [show chV n k = 0 by
   rw [chV]
   simp at c1
   by_cases h : k < 0
   ·
    rw [if_pos h]
   ·
    rw [if_neg h, chN_gt n k.toNat oM]; rfl]
  refine rP (V.i 0)
 ·
  simp at c1
  obtain ⟨j, rfl⟩ : ∃ j : Nat, k = j := ⟨k.toNat, by omega⟩
  refine aw_skip ?_
  refine xt_n (hK _ ?_); clear hK K; refine sK fun K hK => wR 4 ?_; refine aX hTT 6 [(4, .c ((0 : Int) ≤ (↑n : Int) ∧ (↑n : Int) < (↑(51 : Nat) : Int))), (5, .c ((0 : Int) ≤ (↑j : Int) ∧ (↑j : Int) < (↑(51 : Nat) : Int)))] ⟨oM, oM, tI⟩ ?_
  refine aops_pure rfl (ap_load1 2 (.tmp 19) (cs := List.drop (j * 1) (List.drop (n * 51) (sqV chN))) (v := .i (chN n j)) (hTT.agg rfl) rfl ?hv) ?_
  case hv => rw [List.drop_drop, List.getElem?_drop]; exact sqV_get (n := n) (k := j) oM oM oM rfl
  refine aX hTT 1 [] tI ?_; refine nK hK ?_; clear hK K
  refine aw_ret ?_
  rw [chV_nat]
  refine rP (V.i (↑(chN n j) : Int))
end Go.Proofs.YtofjmklmnlcekaaGreatDoor

namespace Go.Proofs.YtofjmklmnlcekaaGreatDoor
open Go.Ab Go.RowKit Go.Dw Go.Shelf
theorem int_seen {a b : Int} (h : a = b) : RImp (V.i a) (V.i b) := by subst h; exact RImp.refl _
set_option maxRecDepth 100000 in
theorem ways_ac (N b s M : Nat) (hN : N ≤ 50) (hb : b ≤ N) (hs : s ≤ 50) (hM : M ≤ 51) : AC Tryz.prog 18 [.agg [triV, .i N, .i s], .i b, .i ((M : Int) - 1)] (.i (wysN b (N - b) s M)) [] := by
 refine acI hTT hMX Tryz.func18 Tryz.ntmps18 fun C hC hF => ?_
 refine sK fun K hK => wR 2 ?_; refine aX hTT 2 [] tI ?_; refine nK hK ?_; clear hK K; refine sK fun K hK => ?_; refine sK fun K hK => wR 3 ?_; refine aX hTT 3 [(1, .i ((↑M : Int) - 1 + (1 : Int)))] ⟨oM, tI⟩ ?_; refine nK hK ?_; clear hK K
 refine aw_block ?_
 refine w_loop (ι := Nat) (fun k => [(1, .i b), (3, .ptr [triV, .i N, .i s]), (6, .i (wysN b (N - b) s k)), (9, .i ((M : Int) - 1 + 1)), (10, .i k)]) (fun _ => []) (fun k => k ≤ M) (fun k => M - k) 0 (Nat.zero_le _) ?_ ?_
 ·
  refine le_ren [] (.cons kR (.cons kR (.cons kR (.cons kR (.cons kR .nil))))) .nil kR kR
 intro k hk
 have hle := wys_le b (N - b) s (k + 1)
 have h50 := chN_50 (n := b + (N - b)) oM s
 have he : wysN b (N - b) s (k + 1) = wysN b (N - b) s k + chN b k * chO (N - b) s k := rfl
 have hp : chV b (k : Int) * chV (N - b) ((s : Int) - k) = ((chN b k * chO (N - b) s k : Nat) : Int) := by rw [chV_nat, chV_sub]; simp
 refine sK fun K hK => wR 2 ?_; refine aX hTT 1 [] tI ?_; refine nK hK ?_; clear hK K; refine sK fun K hK => ?_
 refine w_cond (t := decide ((↑k : Int) < (↑M : Int) - 1 + (1 : Int))) kR (fun c1 => ?_) (fun c1 => ?_)
 ·
  have hk1 : k < M := by simp at c1; omega
  refine aw_skip ?_
  refine xt_n (hK _ ?_); clear hK K; refine sK fun K hK => ?_
  refine aw_block ?_
  refine sK fun K hK => wR 3 ?_; refine aX hTT 2 [] tI ?_; refine nK hK ?_; clear hK K; refine wD 4 ?_; refine aX hTT 5 [] tI ?_
  refine eC (choose_ac b k oM) ?_
  refine aX hTT 10 [(5, .i ((↑N : Int) - (↑b : Int))), (9, .i ((↑s : Int) - (↑k : Int)))] ⟨oM, oM, tI⟩ ?_
  refine eC (AC.conv (choose_ac (N - b) ((s : Int) - k) oM) (args' := [V.ptr (sqV chN), V.i ((↑N : Int) - (↑b : Int)), V.i ((↑s : Int) - (↑k : Int))]) ⟨RImp.refl _, ?_, RImp.refl _, trivial⟩) ?_
  ·
   exact int_seen oM
  refine aX hTT 3 [(0, .i (chV b (↑k : Int) * chV (N - b) ((↑s : Int) - (↑k : Int)))), (1, .i ((↑(wysN b (N - b) s k) : Int) + chV b (↑k : Int) * chV (N - b) ((↑s : Int) - (↑k : Int))))] ⟨oM, oM, tI⟩ ?_; refine aops_nil ⟨kR, ?_⟩; refine xb_n ?_; refine xt_n (hK _ ?_); clear hK K; refine wR 5 ?_; refine aX hTT 2 [(0, .i ((↑k : Int) + 1))] ⟨oM, tI⟩ ?_; refine aops_nil ?_; refine xt_n ?_
  refine ⟨k + 1, by omega, ?_, by omega⟩
  refine le_ren (tl := [(1, V.i (↑b : Int)), (3, V.ptr [V.ptr (sqV chN), V.i (↑N : Int), V.i (↑s : Int)]), (6, V.i (↑(wysN b (N - b) s (k + 1)) : Int)), (9, V.i ((↑M : Int) - 1 + (1 : Int))), (10, V.i (↑(k + 1) : Int))]) [] (.cons kR (.cons kR (.cons ?_ (.cons kR (.cons kR .nil))))) .nil kR kR
  exact congrArg V.i (by rw [he, hp]; omega)
 ·
  obtain rfl : k = M := by simp at c1; omega
  refine aw_exit ?_
  refine xt_x ?_; refine xt_x ?_
  refine xb_same ?_
  refine xt_n ?_; clear hK K; refine hK _ ?_; clear hK K; refine sK fun K hK => wR 3 ?_; refine aX hTT 2 [] tI ?_; refine nK hK ?_; clear hK K
  refine aw_ret ?_
  refine rP (V.i (↑(wysN b (N - b) s k) : Int))
set_option maxRecDepth 100000 in
theorem Choose_ac (n k : Nat) (hn : n ≤ 50) (hk : k ≤ n) : AC Tryz.prog 8 [.i n, .i k] (.tup [.i (chN n k), .i 0]) [] := by
 refine acI hTT hMX Tryz.func8 Tryz.ntmps8 fun C hC hF => ?_
 refine sK fun K hK => wR 2 ?_; refine aX hTT 2 [] tI ?_; refine nK hK ?_; clear hK K; refine sK fun K hK => ?_; refine sK fun K hK => wR 3 ?_; refine aX hTT 1 [] tI ?_
 refine eC (betI_ac n 0 50) ?_
 refine aX hTT 4 [(2, .c (gA ((!(decide ((0 : Int) ≤ (↑n : Int)) && decide ((↑n : Int) ≤ 50))) == false) True)), (3, .c (gA ((!(decide ((0 : Int) ≤ (↑n : Int)) && decide ((↑n : Int) ≤ 50))) == false) True))] ⟨⟨⟨tI, tI⟩, (fun _ => tI)⟩, ⟨⟨tI, tI⟩, (fun _ => tI)⟩, tI⟩ ?_
 refine eG 2 (g := (!(decide ((0 : Int) ≤ (↑n : Int)) && decide ((↑n : Int) ≤ 50))) == false) (fun h => betI_ac k 0 n) ?_
 refine aX hTT 2 [(0, .c (gB ((!(decide ((0 : Int) ≤ (↑n : Int)) && decide ((↑n : Int) ≤ 50))) == false) True)), (1, .c (True ∧ ((!(decide ((0 : Int) ≤ (↑n : Int)) && decide ((↑n : Int) ≤ 50))) = false → ((!(decide ((0 : Int) ≤ (↑n : Int)) && decide ((↑n : Int) ≤ 50))) == false) = true)))] ⟨⟨⟨(by (exact fun h => h)), tI⟩, (fun _ => tI)⟩, ⟨tI, (by (intro h; rw [h]; rfl))⟩, tI⟩ ?_; refine nK hK ?_; clear hK K
 refine w_cond (t := !(decide ((0 : Int) ≤ (↑n : Int)) && decide ((↑n : Int) ≤ 50)) || !(decide ((0 : Int) ≤ (↑k : Int)) && decide ((↑k : Int) ≤ (↑n : Int)))) kR (fun c1 => ?_) (fun c1 => ?_)
 ·
  simp at c1
  omega
 refine aw_skip ?_
 refine xt_n (hK _ ?_); clear hK K; refine sK fun K hK => wR 4 ?_
 refine eC (pascal_ac) ?_
 refine aX hTT 2 [] tI ?_
 refine eC (choose_ac n k hn) ?_
 rw [chV_nat]
 refine aX hTT 2 [] tI ?_; refine nK hK ?_; clear hK K
 refine aw_ret ?_
 refine rP (V.tup [V.i (↑(chN n k) : Int), V.i 0])
set_option maxRecDepth 100000 in
theorem Ways_ac (N b s M : Nat) (hN : N ≤ 50) (hb : b ≤ N) (hs : s ≤ N) (hM : M ≤ N + 1) : AC Tryz.prog 7 [.i N, .i b, .i s, .i ((M : Int) - 1)] (.tup [.i (wysN b (N - b) s M), .i 0]) [] := by
 refine acI hTT hMX Tryz.func7 Tryz.ntmps7 fun C hC hF => ?_
 refine sK fun K hK => wR 2 ?_; refine aX hTT 2 [] tI ?_; refine nK hK ?_; clear hK K; refine sK fun K hK => ?_; refine sK fun K hK => wR 3 ?_; refine aX hTT 1 [] tI ?_
 refine eC (betI_ac N 0 50) ?_
 refine aX hTT 4 [(2, .c (gA ((!(decide ((0 : Int) ≤ (↑N : Int)) && decide ((↑N : Int) ≤ 50))) == false) True)), (3, .c (gA ((!(decide ((0 : Int) ≤ (↑N : Int)) && decide ((↑N : Int) ≤ 50))) == false) True))] ⟨⟨⟨tI, tI⟩, (fun _ => tI)⟩, ⟨⟨tI, tI⟩, (fun _ => tI)⟩, tI⟩ ?_
 refine eG 2 (g := (!(decide ((0 : Int) ≤ (↑N : Int)) && decide ((↑N : Int) ≤ 50))) == false) (fun h => betI_ac b 0 N) ?_
 refine aX hTT 5 [(0, .c (gB ((!(decide ((0 : Int) ≤ (↑N : Int)) && decide ((↑N : Int) ≤ 50))) == false) True)), (1, .c (True ∧ ((!(decide ((0 : Int) ≤ (↑N : Int)) && decide ((↑N : Int) ≤ 50))) = false → ((!(decide ((0 : Int) ≤ (↑N : Int)) && decide ((↑N : Int) ≤ 50))) == false) = true))), (3, .c (gA ((!(decide ((0 : Int) ≤ (↑N : Int)) && decide ((↑N : Int) ≤ 50)) || !(decide ((0 : Int) ≤ (↑b : Int)) && decide ((↑b : Int) ≤ (↑N : Int)))) == false) True)), (4, .c (gA ((!(decide ((0 : Int) ≤ (↑N : Int)) && decide ((↑N : Int) ≤ 50)) || !(decide ((0 : Int) ≤ (↑b : Int)) && decide ((↑b : Int) ≤ (↑N : Int)))) == false) True))] ⟨⟨⟨(by (exact fun h => h)), tI⟩, (fun _ => tI)⟩, ⟨tI, (by (intro h; rw [h]; rfl))⟩, ⟨⟨tI, tI⟩, (fun _ => tI)⟩, ⟨⟨tI, tI⟩, (fun _ => tI)⟩, tI⟩ ?_
 refine eG 2 (g := (!(decide ((0 : Int) ≤ (↑N : Int)) && decide ((↑N : Int) ≤ 50)) || !(decide ((0 : Int) ≤ (↑b : Int)) && decide ((↑b : Int) ≤ (↑N : Int)))) == false) (fun h => betI_ac s 0 N) ?_
 refine aX hTT 5 [(0, .c (gB ((!(decide ((0 : Int) ≤ (↑N : Int)) && decide ((↑N : Int) ≤ 50)) || !(decide ((0 : Int) ≤ (↑b : Int)) && decide ((↑b : Int) ≤ (↑N : Int)))) == false) True)), (1, .c (True ∧ ((!(decide ((0 : Int) ≤ (↑N : Int)) && decide ((↑N : Int) ≤ 50)) || !(decide ((0 : Int) ≤ (↑b : Int)) && decide ((↑b : Int) ≤ (↑N : Int)))) = false → ((!(decide ((0 : Int) ≤ (↑N : Int)) && decide ((↑N : Int) ≤ 50)) || !(decide ((0 : Int) ≤ (↑b : Int)) && decide ((↑b : Int) ≤ (↑N : Int)))) == false) = true))), (3, .c (gA ((!(decide ((0 : Int) ≤ (↑N : Int)) && decide ((↑N : Int) ≤ 50)) || !(decide ((0 : Int) ≤ (↑b : Int)) && decide ((↑b : Int) ≤ (↑N : Int))) || !(decide ((0 : Int) ≤ (↑s : Int)) && decide ((↑s : Int) ≤ (↑N : Int)))) == false) True)), (4, .c (gA ((!(decide ((0 : Int) ≤ (↑N : Int)) && decide ((↑N : Int) ≤ 50)) || !(decide ((0 : Int) ≤ (↑b : Int)) && decide ((↑b : Int) ≤ (↑N : Int))) || !(decide ((0 : Int) ≤ (↑s : Int)) && decide ((↑s : Int) ≤ (↑N : Int)))) == false) True))] ⟨⟨⟨(by (exact fun h => h)), tI⟩, (fun _ => tI)⟩, ⟨tI, (by (intro h; rw [h]; rfl))⟩, ⟨⟨tI, tI⟩, (fun _ => tI)⟩, ⟨⟨tI, tI⟩, (fun _ => tI)⟩, tI⟩ ?_
 refine eG 2 (g := (!(decide ((0 : Int) ≤ (↑N : Int)) && decide ((↑N : Int) ≤ 50)) || !(decide ((0 : Int) ≤ (↑b : Int)) && decide ((↑b : Int) ≤ (↑N : Int))) || !(decide ((0 : Int) ≤ (↑s : Int)) && decide ((↑s : Int) ≤ (↑N : Int)))) == false) (fun h => betI_ac ((M : Int) - 1) (-1) N) ?_
 refine aX hTT 2 [(0, .c (gB ((!(decide ((0 : Int) ≤ (↑N : Int)) && decide ((↑N : Int) ≤ 50)) || !(decide ((0 : Int) ≤ (↑b : Int)) && decide ((↑b : Int) ≤ (↑N : Int))) || !(decide ((0 : Int) ≤ (↑s : Int)) && decide ((↑s : Int) ≤ (↑N : Int)))) == false) True)), (1, .c (True ∧ ((!(decide ((0 : Int) ≤ (↑N : Int)) && decide ((↑N : Int) ≤ 50)) || !(decide ((0 : Int) ≤ (↑b : Int)) && decide ((↑b : Int) ≤ (↑N : Int))) || !(decide ((0 : Int) ≤ (↑s : Int)) && decide ((↑s : Int) ≤ (↑N : Int)))) = false → ((!(decide ((0 : Int) ≤ (↑N : Int)) && decide ((↑N : Int) ≤ 50)) || !(decide ((0 : Int) ≤ (↑b : Int)) && decide ((↑b : Int) ≤ (↑N : Int))) || !(decide ((0 : Int) ≤ (↑s : Int)) && decide ((↑s : Int) ≤ (↑N : Int)))) == false) = true)))] ⟨⟨⟨(by (exact fun h => h)), tI⟩, (fun _ => tI)⟩, ⟨tI, (by (intro h; rw [h]; rfl))⟩, tI⟩ ?_; refine nK hK ?_; clear hK K
 refine w_cond (t := !(decide ((0 : Int) ≤ (↑N : Int)) && decide ((↑N : Int) ≤ 50)) || !(decide ((0 : Int) ≤ (↑b : Int)) && decide ((↑b : Int) ≤ (↑N : Int))) || !(decide ((0 : Int) ≤ (↑s : Int)) && decide ((↑s : Int) ≤ (↑N : Int))) || !(decide ((-1 : Int) ≤ (↑M : Int) - 1) && decide ((↑M : Int) - 1 ≤ (↑N : Int)))) kR (fun c1 => ?_) (fun c1 => ?_)
 ·
  simp at c1
  omega
 refine aw_skip ?_
 refine xt_n (hK _ ?_); clear hK K; refine sK fun K hK => wR 4 ?_
 refine eC (pascal_ac) ?_
 refine aX hTT 5 [] tI ?_
 refine eC (ways_ac N b s M hN hb oM oM) ?_
 refine aX hTT 2 [] tI ?_; refine nK hK ?_; clear hK K
 refine aw_ret ?_
 refine rP (V.tup [V.i (↑(wysN b (N - b) s M) : Int), V.i 0])
set_option maxRecDepth 100000 in
theorem demand_ac (n b : Nat) (re ac : Int) (hn : n ≤ 50) (hb : 1 ≤ b ∧ b ≤ n) (hr : 0 ≤ re ∧ re ≤ 1000) (ha : 0 ≤ ac ∧ ac ≤ 1000) : AC Tryz.prog 20 [.agg [.i n, .i 0, .i b, .i re, .i ac]] (.i 0) [] := by
 refine acI hTT hMX Tryz.func20 Tryz.ntmps20 fun C hC hF => ?_
 refine sK fun K hK => wR 2 ?_; refine aX hTT 2 [] tI ?_; refine nK hK ?_; clear hK K; refine sK fun K hK => ?_; refine sK fun K hK => wR 3 ?_; refine aX hTT 2 [] tI ?_
 refine eC (betI_ac n 0 50) ?_
 refine aX hTT 23 [(2, .c (gA ((!(decide ((0 : Int) ≤ (↑n : Int)) && decide ((↑n : Int) ≤ 50))) == false) True)), (3, .c (gB ((!(decide ((0 : Int) ≤ (↑n : Int)) && decide ((↑n : Int) ≤ 50))) == false) True)), (4, .c (gD ((!(decide ((0 : Int) ≤ (↑n : Int)) && decide ((↑n : Int) ≤ 50))) == false) True)), (5, .c (True ∧ ((!(decide ((0 : Int) ≤ (↑n : Int)) && decide ((↑n : Int) ≤ 50))) = false → ((!(decide ((0 : Int) ≤ (↑n : Int)) && decide ((↑n : Int) ≤ 50))) == false) = true))), (7, .c (gA ((!(decide ((0 : Int) ≤ (↑n : Int)) && decide ((↑n : Int) ≤ 50)) && true) == false) True)), (8, .c (gB ((!(decide ((0 : Int) ≤ (↑n : Int)) && decide ((↑n : Int) ≤ 50)) && true) == false) True)), (9, .c (gA ((!(decide ((0 : Int) ≤ (↑n : Int)) && decide ((↑n : Int) ≤ 50)) && true) == false) True)), (10, .c (gB ((!(decide ((0 : Int) ≤ (↑n : Int)) && decide ((↑n : Int) ≤ 50)) && true) == false) True)), (11, .c (gC ((!(decide ((0 : Int) ≤ (↑n : Int)) && decide ((↑n : Int) ≤ 50)) && true) == false) True)), (12, .c (True ∧ ((!(decide ((0 : Int) ≤ (↑n : Int)) && decide ((↑n : Int) ≤ 50)) && true) = false → ((!(decide ((0 : Int) ≤ (↑n : Int)) && decide ((↑n : Int) ≤ 50)) && true) == false) = true))), (14, .c (gA ((!(decide ((0 : Int) ≤ (↑n : Int)) && decide ((↑n : Int) ≤ 50)) && true || decide ((↑b : Int) ≤ 0)) == false) True)), (15, .c (gB ((!(decide ((0 : Int) ≤ (↑n : Int)) && decide ((↑n : Int) ≤ 50)) && true || decide ((↑b : Int) ≤ 0)) == false) True)), (16, .c (gA ((!(decide ((0 : Int) ≤ (↑n : Int)) && decide ((↑n : Int) ≤ 50)) && true || decide ((↑b : Int) ≤ 0)) == false) True)), (17, .c (gB ((!(decide ((0 : Int) ≤ (↑n : Int)) && decide ((↑n : Int) ≤ 50)) && true || decide ((↑b : Int) ≤ 0)) == false) True)), (18, .c (gC ((!(decide ((0 : Int) ≤ (↑n : Int)) && decide ((↑n : Int) ≤ 50)) && true || decide ((↑b : Int) ≤ 0)) == false) True)), (19, .c (True ∧ ((!(decide ((0 : Int) ≤ (↑n : Int)) && decide ((↑n : Int) ≤ 50)) && true || decide ((↑b : Int) ≤ 0)) = false → ((!(decide ((0 : Int) ≤ (↑n : Int)) && decide ((↑n : Int) ≤ 50)) && true || decide ((↑b : Int) ≤ 0)) == false) = true))), (21, .c (gA ((!(decide ((0 : Int) ≤ (↑n : Int)) && decide ((↑n : Int) ≤ 50)) && true || decide ((↑b : Int) ≤ 0) || decide ((↑n : Int) < (↑b : Int))) == false) True)), (22, .c (gB ((!(decide ((0 : Int) ≤ (↑n : Int)) && decide ((↑n : Int) ≤ 50)) && true || decide ((↑b : Int) ≤ 0) || decide ((↑n : Int) < (↑b : Int))) == false) True))] ⟨⟨⟨tI, tI⟩, (fun _ => tI)⟩, ⟨⟨(by (exact fun h => h)), tI⟩, (fun _ => tI)⟩, ⟨⟨(by (exact fun h => h)), ⟨tI, tI⟩⟩, (fun _ => tI)⟩, ⟨tI, (by (intro h; rw [h]; rfl))⟩, ⟨⟨tI, tI⟩, (fun _ => tI)⟩, ⟨⟨(by (exact fun h => h)), tI⟩, (fun _ => tI)⟩, ⟨⟨tI, tI⟩, (fun _ => tI)⟩, ⟨⟨(by (exact fun h => h)), tI⟩, (fun _ => tI)⟩, ⟨⟨(by (exact fun h => h)), ⟨(by (exact fun h => h)), tI⟩⟩, (fun _ => tI)⟩, ⟨tI, (by (intro h; rw [h]; rfl))⟩, ⟨⟨tI, tI⟩, (fun _ => tI)⟩, ⟨⟨(by (exact fun h => h)), tI⟩, (fun _ => tI)⟩, ⟨⟨tI, tI⟩, (fun _ => tI)⟩, ⟨⟨(by (exact fun h => h)), tI⟩, (fun _ => tI)⟩, ⟨⟨(by (exact fun h => h)), ⟨(by (exact fun h => h)), tI⟩⟩, (fun _ => tI)⟩, ⟨tI, (by (intro h; rw [h]; rfl))⟩, ⟨⟨tI, tI⟩, (fun _ => tI)⟩, ⟨⟨(by (exact fun h => h)), tI⟩, (fun _ => tI)⟩, tI⟩ ?_
 refine eG 1 (g := (!(decide ((0 : Int) ≤ (↑n : Int)) && decide ((↑n : Int) ≤ 50)) && true || decide ((↑b : Int) ≤ 0) || decide ((↑n : Int) < (↑b : Int))) == false) (fun h => betJ_ac re 0 1000) ?_
 refine aX hTT 5 [(0, .c (gB ((!(decide ((0 : Int) ≤ (↑n : Int)) && decide ((↑n : Int) ≤ 50)) && true || decide ((↑b : Int) ≤ 0) || decide ((↑n : Int) < (↑b : Int))) == false) True)), (1, .c (True ∧ ((!(decide ((0 : Int) ≤ (↑n : Int)) && decide ((↑n : Int) ≤ 50)) && true || decide ((↑b : Int) ≤ 0) || decide ((↑n : Int) < (↑b : Int))) = false → ((!(decide ((0 : Int) ≤ (↑n : Int)) && decide ((↑n : Int) ≤ 50)) && true || decide ((↑b : Int) ≤ 0) || decide ((↑n : Int) < (↑b : Int))) == false) = true))), (3, .c (gA ((!(decide ((0 : Int) ≤ (↑n : Int)) && decide ((↑n : Int) ≤ 50)) && true || decide ((↑b : Int) ≤ 0) || decide ((↑n : Int) < (↑b : Int)) || !(decide ((0 : Int) ≤ re) && decide (re ≤ 1000))) == false) True)), (4, .c (gB ((!(decide ((0 : Int) ≤ (↑n : Int)) && decide ((↑n : Int) ≤ 50)) && true || decide ((↑b : Int) ≤ 0) || decide ((↑n : Int) < (↑b : Int)) || !(decide ((0 : Int) ≤ re) && decide (re ≤ 1000))) == false) True))] ⟨⟨⟨(by (exact fun h => h)), tI⟩, (fun _ => tI)⟩, ⟨tI, (by (intro h; rw [h]; rfl))⟩, ⟨⟨tI, tI⟩, (fun _ => tI)⟩, ⟨⟨(by (exact fun h => h)), tI⟩, (fun _ => tI)⟩, tI⟩ ?_
 refine eG 1 (g := (!(decide ((0 : Int) ≤ (↑n : Int)) && decide ((↑n : Int) ≤ 50)) && true || decide ((↑b : Int) ≤ 0) || decide ((↑n : Int) < (↑b : Int)) || !(decide ((0 : Int) ≤ re) && decide (re ≤ 1000))) == false) (fun h => betJ_ac ac 0 1000) ?_
 refine aX hTT 2 [(0, .c (gB ((!(decide ((0 : Int) ≤ (↑n : Int)) && decide ((↑n : Int) ≤ 50)) && true || decide ((↑b : Int) ≤ 0) || decide ((↑n : Int) < (↑b : Int)) || !(decide ((0 : Int) ≤ re) && decide (re ≤ 1000))) == false) True)), (1, .c (True ∧ ((!(decide ((0 : Int) ≤ (↑n : Int)) && decide ((↑n : Int) ≤ 50)) && true || decide ((↑b : Int) ≤ 0) || decide ((↑n : Int) < (↑b : Int)) || !(decide ((0 : Int) ≤ re) && decide (re ≤ 1000))) = false → ((!(decide ((0 : Int) ≤ (↑n : Int)) && decide ((↑n : Int) ≤ 50)) && true || decide ((↑b : Int) ≤ 0) || decide ((↑n : Int) < (↑b : Int)) || !(decide ((0 : Int) ≤ re) && decide (re ≤ 1000))) == false) = true)))] ⟨⟨⟨(by (exact fun h => h)), tI⟩, (fun _ => tI)⟩, ⟨tI, (by (intro h; rw [h]; rfl))⟩, tI⟩ ?_; refine nK hK ?_; clear hK K
 refine w_cond (t := !(decide ((0 : Int) ≤ (↑n : Int)) && decide ((↑n : Int) ≤ 50)) && true || decide ((↑b : Int) ≤ 0) || decide ((↑n : Int) < (↑b : Int)) || !(decide ((0 : Int) ≤ re) && decide (re ≤ 1000)) || !(decide ((0 : Int) ≤ ac) && decide (ac ≤ 1000))) kR (fun c1 => ?_) (fun c1 => ?_)
 ·
  simp at c1
  omega
 refine aw_skip ?_
 refine xt_n (hK _ ?_); clear hK K; refine sK fun K hK => wR 4 ?_; refine aX hTT 1 [] tI ?_; refine nK hK ?_; clear hK K
 refine aw_ret ?_
 refine rP (V.i 0)
set_option maxRecDepth 100000 in
theorem holds_ac (n b : Nat) (re ac : Int) (s m : Nat) (hn : n ≤ 50) (hb : 1 ≤ b ∧ b ≤ n) (hr : 0 ≤ re ∧ re ≤ 1000) (ha : 0 ≤ ac ∧ ac ≤ 1000) (hs : s ≤ n) (hm : m ≤ n) : AC Tryz.prog 21 [.agg [.i n, .i 0, .i b, .i re, .i ac], triV, .i s, .i m] (.b (holdN n b re ac s m)) [] := by
 have h1 := chN_50 hn s
 have h2 := wys_le 0 n s (m + 1)
 have h3 := wys_le b (n - b) s (m + 1)
 rw [Nat.zero_add] at h2
 rw [show b + (n - b) = n by omega] at h3
 have h4 : 0 ≤ re * (chN n s : Int) ∧ re * (chN n s : Int) ≤ 1000 * 1125899906842624 := ⟨Int.mul_nonneg hr.1 oM, Int.mul_le_mul hr.2 oM oM (by decide)⟩
 have h5 : 0 ≤ ac * (chN n s : Int) ∧ ac * (chN n s : Int) ≤ 1000 * 1125899906842624 := ⟨Int.mul_nonneg ha.1 oM, Int.mul_le_mul ha.2 oM oM (by decide)⟩
 refine acI hTT hMX Tryz.func21 Tryz.ntmps21 fun C hC hF => ?_
 refine sK fun K hK => wR 2 ?_; refine aX hTT 2 [] tI ?_; refine nK hK ?_; clear hK K; refine sK fun K hK => wD 3 ?_
 refine aops_n hTT (M := []) (n := 9) [pv (11 : Nat) (V.ptr (sqV chN)), pv (12 : Nat) (V.ptr [V.i (↑n : Int), V.i (0 : Int), V.i (↑b : Int), V.i re, V.i ac]), pv (13 : Nat) (V.i (↑n : Int)), pv (14 : Nat) (V.i (↑s : Int)), pv (15 : Nat) (V.agg [V.ptr (sqV chN), V.i (↑n : Int), V.i (↑s : Int)]), pv (16 : Nat) (V.ptr (sqV chN)), pv (17 : Nat) (V.ptr [V.i (↑n : Int), V.i (0 : Int), V.i (↑b : Int), V.i re, V.i ac]), pv (18 : Nat) (V.i (↑n : Int)), pv (19 : Nat) (V.i (↑s : Int))] kR kR tI ?_
 refine eC (choose_ac n s hn) ?_
 rw [chV_nat]
 refine aops_n hTT (M := []) (n := 3) [pn (9 : Nat) (V.ref (200009 : Nat) (0 : Nat)) (200009 : Nat) (Ob.box (49 : Nat) [V.c (Value.pointer none), V.i (0 : Int), V.i (0 : Int)]), pw ((0 : Nat) + (3 : Nat) ≤ (3 : Nat)) (200009 : Nat) (Ob.box (49 : Nat) [V.ptr (sqV chN), V.i (↑n : Int), V.i (↑s : Int)]), pv (10 : Nat) (V.i (↑(chN n s) : Int))] kR kR ⟨oM, tI⟩ ?_
 refine aops_nil ⟨kR, ?_⟩; refine xt_n (hK _ ?_); clear hK K; refine sK fun K hK => wD 4 ?_
 refine aops_n hTT (M := []) (n := 5) [pv (21 : Nat) (V.i (↑(chN n s) : Int)), pc (22 : Nat) ((0 : Nat) ≤ (3 : Nat)) (V.agg [V.ptr (sqV chN), V.i (↑n : Int), V.i (↑s : Int)]), pv (23 : Nat) (V.ptr [V.i (0 : Int), V.i (↑b : Int), V.i re, V.i ac]), pv (24 : Nat) (V.i (0 : Int)), pv (25 : Nat) (V.i (↑m : Int))] kR kR ⟨oM, tI⟩ ?_
 refine eC (AC.conv (ways_ac n 0 s (m + 1) hn oM oM oM) (args' := [V.agg [V.ptr (sqV chN), V.i (↑n : Int), V.i (↑s : Int)], V.i (0 : Int), V.i (↑m : Int)]) ⟨RImp.refl _, RImp.refl _, ?_, trivial⟩) ?_
 ·
  exact int_seen oM
 refine aops_n hTT (M := []) (n := 12) [pc (27 : Nat) ((-9223372036854775808 : Int) ≤ (↑(chN n s) : Int) - (↑(wysN (0 : Nat) (n - 0) s (m + 1)) : Int) ∧ (↑(chN n s) : Int) - (↑(wysN (0 : Nat) (n - 0) s (m + 1)) : Int) ≤ 9223372036854775807) (V.i ((↑(chN n s) : Int) - (↑(wysN (0 : Nat) (n - 0) s (m + 1)) : Int))), pc (28 : Nat) ((-9223372036854775808 : Int) ≤ (1000 : Int) * ((↑(chN n s) : Int) - (↑(wysN (0 : Nat) (n - 0) s (m + 1)) : Int)) ∧ (1000 : Int) * ((↑(chN n s) : Int) - (↑(wysN (0 : Nat) (n - 0) s (m + 1)) : Int)) ≤ 9223372036854775807) (V.i ((1000 : Int) * ((↑(chN n s) : Int) - (↑(wysN (0 : Nat) (n - 0) s (m + 1)) : Int)))), pv (29 : Nat) (V.ptr [V.i re, V.i ac]), pv (30 : Nat) (V.i re), pv (31 : Nat) (V.i (↑(chN n s) : Int)), pc (32 : Nat) ((-9223372036854775808 : Int) ≤ re * (↑(chN n s) : Int) ∧ re * (↑(chN n s) : Int) ≤ 9223372036854775807) (V.i (re * (↑(chN n s) : Int))), pv (33 : Nat) (V.b (decide ((1000 : Int) * ((↑(chN n s) : Int) - (↑(wysN (0 : Nat) (n - 0) s (m + 1)) : Int)) ≤ re * (↑(chN n s) : Int)))), pv (34 : Nat) (V.b (decide ((1000 : Int) * ((↑(chN n s) : Int) - (↑(wysN (0 : Nat) (n - 0) s (m + 1)) : Int)) ≤ re * (↑(chN n s) : Int)))), pc (35 : Nat) ((True ∧ True) ∧ ((decide ((1000 : Int) * ((↑(chN n s) : Int) - (↑(wysN (0 : Nat) (n - 0) s (m + 1)) : Int)) ≤ re * (↑(chN n s) : Int)) == true) = true → (0 : Nat) ≤ (3 : Nat))) (V.gd (decide ((1000 : Int) * ((↑(chN n s) : Int) - (↑(wysN (0 : Nat) (n - 0) s (m + 1)) : Int)) ≤ re * (↑(chN n s) : Int)) == true) (V.agg [V.ptr (sqV chN), V.i (↑n : Int), V.i (↑s : Int)])), pc (36 : Nat) ((True ∧ True) ∧ ((decide ((1000 : Int) * ((↑(chN n s) : Int) - (↑(wysN (0 : Nat) (n - 0) s (m + 1)) : Int)) ≤ re * (↑(chN n s) : Int)) == true) = true → True)) (V.gd (decide ((1000 : Int) * ((↑(chN n s) : Int) - (↑(wysN (0 : Nat) (n - 0) s (m + 1)) : Int)) ≤ re * (↑(chN n s) : Int)) == true) (V.ptr [V.i (↑b : Int), V.i re, V.i ac])), pc (37 : Nat) ((((decide ((1000 : Int) * ((↑(chN n s) : Int) - (↑(wysN (0 : Nat) (n - 0) s (m + 1)) : Int)) ≤ re * (↑(chN n s) : Int)) == true) = true → (decide ((1000 : Int) * ((↑(chN n s) : Int) - (↑(wysN (0 : Nat) (n - 0) s (m + 1)) : Int)) ≤ re * (↑(chN n s) : Int)) == true) = true) ∧ True) ∧ ((decide ((1000 : Int) * ((↑(chN n s) : Int) - (↑(wysN (0 : Nat) (n - 0) s (m + 1)) : Int)) ≤ re * (↑(chN n s) : Int)) == true) = true → True)) (V.gd (decide ((1000 : Int) * ((↑(chN n s) : Int) - (↑(wysN (0 : Nat) (n - 0) s (m + 1)) : Int)) ≤ re * (↑(chN n s) : Int)) == true) (V.i (↑b : Int))), pc (38 : Nat) ((True ∧ True) ∧ ((decide ((1000 : Int) * ((↑(chN n s) : Int) - (↑(wysN (0 : Nat) (n - 0) s (m + 1)) : Int)) ≤ re * (↑(chN n s) : Int)) == true) = true → True)) (V.gd (decide ((1000 : Int) * ((↑(chN n s) : Int) - (↑(wysN (0 : Nat) (n - 0) s (m + 1)) : Int)) ≤ re * (↑(chN n s) : Int)) == true) (V.i (↑m : Int)))] kR kR ⟨⟨(by (simp; omega)), oM⟩, ⟨(by (simp; omega)), oM⟩, oM, ⟨⟨tI, tI⟩, (by (intro _; simp; done))⟩, ⟨⟨tI, tI⟩, (fun _ => tI)⟩, ⟨⟨(by (exact fun h => h)), tI⟩, (fun _ => tI)⟩, ⟨⟨tI, tI⟩, (fun _ => tI)⟩, tI⟩ ?_
 refine eG 3 (g := decide ((1000 : Int) * ((↑(chN n s) : Int) - (↑(wysN (0 : Nat) (n - 0) s (m + 1)) : Int)) ≤ re * (↑(chN n s) : Int)) == true) (fun h => AC.conv (ways_ac n b s (m + 1) hn oM oM oM) (args' := [V.agg [V.ptr (sqV chN), V.i (↑n : Int), V.i (↑s : Int)], V.i (↑b : Int), V.i (↑m : Int)]) ⟨RImp.refl _, RImp.refl _, ?_, trivial⟩) ?_
 ·
  exact int_seen oM
 refine aX hTT 8 [(0, .c ((True ∧ ((decide ((1000 : Int) * ((↑(chN n s) : Int) - (↑(wysN (0 : Nat) (n - 0) s (m + 1)) : Int)) ≤ re * (↑(chN n s) : Int)) == true) = true → (decide ((1000 : Int) * ((↑(chN n s) : Int) - (↑(wysN (0 : Nat) (n - 0) s (m + 1)) : Int)) ≤ re * (↑(chN n s) : Int)) == true) = true) ∧ True) ∧ ((decide ((1000 : Int) * ((↑(chN n s) : Int) - (↑(wysN (0 : Nat) (n - 0) s (m + 1)) : Int)) ≤ re * (↑(chN n s) : Int)) == true) = true → (-9223372036854775808 : Int) ≤ (1000 : Int) * (↑(wysN b (n - b) s (m + 1)) : Int) ∧ (1000 : Int) * (↑(wysN b (n - b) s (m + 1)) : Int) ≤ 9223372036854775807))), (1, .c (gA (decide ((1000 : Int) * ((↑(chN n s) : Int) - (↑(wysN (0 : Nat) (n - 0) s (m + 1)) : Int)) ≤ re * (↑(chN n s) : Int)) == true) True)), (2, .c (gB (decide ((1000 : Int) * ((↑(chN n s) : Int) - (↑(wysN (0 : Nat) (n - 0) s (m + 1)) : Int)) ≤ re * (↑(chN n s) : Int)) == true) True)), (3, .c (gA (decide ((1000 : Int) * ((↑(chN n s) : Int) - (↑(wysN (0 : Nat) (n - 0) s (m + 1)) : Int)) ≤ re * (↑(chN n s) : Int)) == true) True)), (4, .c (gC (decide ((1000 : Int) * ((↑(chN n s) : Int) - (↑(wysN (0 : Nat) (n - 0) s (m + 1)) : Int)) ≤ re * (↑(chN n s) : Int)) == true) ((-9223372036854775808 : Int) ≤ ac * (↑(chN n s) : Int) ∧ ac * (↑(chN n s) : Int) ≤ 9223372036854775807))), (5, .c (gC (decide ((1000 : Int) * ((↑(chN n s) : Int) - (↑(wysN (0 : Nat) (n - 0) s (m + 1)) : Int)) ≤ re * (↑(chN n s) : Int)) == true) True)), (6, .c ((decide ((1000 : Int) * ((↑(chN n s) : Int) - (↑(wysN (0 : Nat) (n - 0) s (m + 1)) : Int)) ≤ re * (↑(chN n s) : Int)) = true → (decide ((1000 : Int) * ((↑(chN n s) : Int) - (↑(wysN (0 : Nat) (n - 0) s (m + 1)) : Int)) ≤ re * (↑(chN n s) : Int)) == true) = true) ∧ True))] ⟨⟨⟨tI, ⟨(by (exact fun h => h)), tI⟩⟩, (by (intro hg; simp at hg; omega))⟩, ⟨⟨tI, tI⟩, (fun _ => tI)⟩, ⟨⟨(by (exact fun h => h)), tI⟩, (fun _ => tI)⟩, ⟨⟨tI, tI⟩, (fun _ => tI)⟩, ⟨⟨(by (exact fun h => h)), ⟨(by (exact fun h => h)), tI⟩⟩, (by (intro hg; simp at hg; omega))⟩, ⟨⟨(by (exact fun h => h)), ⟨(by (exact fun h => h)), tI⟩⟩, (fun _ => tI)⟩, ⟨(by (intro h; rw [h]; rfl)), tI⟩, tI⟩ ?_; refine aops_nil ⟨kR, ?_⟩; refine xt_n (hK _ ?_); clear hK K
 refine aw_ret ?_
 refine rP (V.b (decide ((1000 : Int) * ((↑(chN n s) : Int) - (↑(wysN (0 : Nat) (n - 0) s (m + 1)) : Int)) ≤ re * (↑(chN n s) : Int)) && decide ((1000 : Int) * (↑(wysN b (n - b) s (m + 1)) : Int) ≤ ac * (↑(chN n s) : Int))))
abbrev yyMW21 (n : Nat) (b : Nat) (re : Int) (ac : Int) : Ob := Ob.box 52 [V.i (↑n : Int), V.i 0, V.i (↑b : Int), V.i re, V.i ac]
abbrev yyMW20 (n : Nat) (b : Nat) (re : Int) (ac : Int) := (1, (yyMW21 n b re ac))
set_option maxRecDepth 100000 in
theorem Sampling_ac (n b : Nat) (re ac : Int) (hn : n ≤ 50) (hb : 1 ≤ b ∧ b ≤ n) (hr : 0 ≤ re ∧ re ≤ 1000) (ha : 0 ≤ ac ∧ ac ≤ 1000) : AC Tryz.prog 9 [.i n, .i 0, .i b, .i re, .i ac] (.tup [.i (smpS n b re ac), .i (smpM n b re ac (smpS n b re ac).toNat), .i 0]) [] := by
 obtain ⟨s, m, e1, e2, hs, hm, h1, h2, h3⟩ := smp_at (n := n) (b := b) (re := re) (ac := ac) hb.1 hb.2 hr.1 ha.1
 rw [e1, show ((s : Int)).toNat = s from Int.toNat_natCast s, e2]
 refine acI hTT hMX Tryz.func9 Tryz.ntmps9 fun C hC hF => ?_
 refine sK fun K hK => wR 2 ?_; refine aX hTT 3 [] tI ?_; refine nK hK ?_; clear hK K
 refine aw_scope ?_
 refine sK fun K hK => wR 3 ?_; refine aX hTT 8 [(6, .r (pn 13 (V.ref 200013 0) (200013 : Nat) (Ob.box 52 [V.i 0, V.i 0, V.i 0, V.i 0, V.i 0]))), (7, .r (pw ((0 : Nat) + (5 : Nat) ≤ (5 : Nat)) (200013 : Nat) ((yyMW21 n b re ac))))] ⟨oM, tI⟩ ?_; refine nK hK ?_; clear hK K; refine sK fun K hK => ?_; refine sK fun K hK => wR 4 ?_; refine aX hTT 1 [(0, .c ((0 : Nat) ≤ (5 : Nat)))] ⟨oM, tI⟩ ?_
 refine eC (demand_ac n b re ac hn hb hr ha) ?_
 refine aX hTT 1 [] tI ?_; refine nK hK ?_; clear hK K; refine sK fun K hK => wR 5 ?_; refine aX hTT 2 [] tI ?_; refine nK hK ?_; clear hK K; refine w_false (t := false) kR rfl ?_
 refine aw_skip ?_
 refine xt_n (hK _ ?_); clear hK K; refine sK fun K hK => wR 6 ?_
 refine eC (pascal_ac) ?_
 refine aX hTT 1 [] tI ?_; refine nK hK ?_; clear hK K; refine sK fun K hK => wR 7 ?_; refine aX hTT 2 [] tI ?_; refine nK hK ?_; clear hK K; refine sK fun K hK => ?_
 refine aw_label ?_
 refine xt_n (hK _ ?_); clear hK K; refine sK fun K hK => ?_; refine sK fun K hK => wR 8 ?_; refine aX hTT 3 [(1, .i ((↑n : Int) + 1))] ⟨oM, tI⟩ ?_; refine nK hK ?_; clear hK K
 refine aw_block ?_
 refine w_loop (ι := Nat) (fun i => [(0, .i n), (13, .ref 1 0), (15, triV), (31, .i ((n : Int) + 1)), (32, .i i)]) (fun _ => [(1, .box 52 [.i n, .i 0, .i b, .i re, .i ac])]) (fun i => i ≤ s) (fun i => s - i) 0 (Nat.zero_le _) ?_ ?_
 ·
  refine le_ren (sl := [(yyMW20 n b re ac)]) [(1, 200013)] (.cons kR (.cons kR (.cons kR (.cons kR (.cons kR .nil))))) (.cons ⟨(yyMW21 n b re ac), kR, .box kR⟩ .nil) kR kR
 intro i hi
 refine sK fun K hK => wR 2 ?_; refine aX hTT 1 [] tI ?_; refine nK hK ?_; clear hK K; refine sK fun K hK => ?_
 refine w_cond (t := decide ((↑i : Int) < (↑n : Int) + 1)) kR (fun c1 => ?_) (fun c1 => ?_)
 ·
  refine aw_skip ?_
  refine xt_n (hK _ ?_); clear hK K; refine sK fun K hK => ?_
  refine aw_block ?_
  refine sK fun K hK => wR 3 ?_; refine aX hTT 2 [] tI ?_; refine nK hK ?_; clear hK K; refine sK fun K hK => wR 4 ?_; refine aX hTT 3 [(1, .i ((↑n : Int) + 1))] ⟨oM, tI⟩ ?_; refine nK hK ?_; clear hK K
  refine aw_block ?_
  refine w_loop (ι := Nat) (fun j => [(0, .i n), (13, .ref 1 0), (15, triV), (16, .i i), (31, .i ((n : Int) + 1)), (32, .i i), (36, .i ((n : Int) + 1)), (37, .i j)]) (fun _ => [(1, .box 52 [.i n, .i 0, .i b, .i re, .i ac])]) (fun j => j ≤ n + 1 ∧ (i = s → j ≤ m)) (fun j => n + 1 - j) 0 ⟨Nat.zero_le _, fun _ => Nat.zero_le _⟩ ?_ ?_
  ·
   refine le_ren (sl := [(yyMW20 n b re ac)]) [(1, 1)] (.cons kR (.cons kR (.cons kR (.cons kR (.cons kR (.cons kR (.cons kR (.cons kR .nil)))))))) (.cons ⟨(yyMW21 n b re ac), kR, .box kR⟩ .nil) kR kR
  rintro j ⟨hj, hjm⟩
  refine sK fun K hK => wR 2 ?_; refine aX hTT 1 [] tI ?_; refine nK hK ?_; clear hK K; refine sK fun K hK => ?_
  refine w_cond (t := decide ((↑j : Int) < (↑n : Int) + 1)) kR (fun c2 => ?_) (fun c2 => ?_)
  ·
   have hj1 : j ≤ n := by simp at c2; omega
   refine aw_skip ?_
   refine xt_n (hK _ ?_); clear hK K; refine sK fun K hK => ?_
   refine aw_block ?_
   refine sK fun K hK => wR 3 ?_; refine aX hTT 2 [] tI ?_; refine nK hK ?_; clear hK K; refine sK fun K hK => wR 4 ?_; refine aX hTT 4 [(0, .c ((0 : Nat) ≤ (5 : Nat)))] ⟨oM, tI⟩ ?_
   refine eC (holds_ac n b re ac i j hn hb hr ha oM hj1) ?_
   refine nK hK ?_; clear hK K
   refine w_cond (t := holdN n b re ac i j) kR (fun c3 => ?_) (fun c3 => ?_)
   ·
    have c3 : holdN n b re ac i j = true := c3
    have hi1 : i = s := by
     rcases Nat.lt_or_ge i s with h4 | h4
     ·
      have := smpM_none (h2 i h4) j oM
      rw [c3] at this
      cases this
     ·
      omega
    subst hi1
    have hj2 : j = m := by
     rcases Nat.lt_or_ge j m with h4 | h4
     ·
      have := h3 j h4
      rw [c3] at this
      cases this
     ·
      have := hjm rfl
      omega
    subst hj2
    refine aw_exit ?_
    refine xb_ne rfl ?_
    refine xt_x ?_; refine xt_x ?_
    refine xb_ne rfl ?_
    refine xb_ne rfl ?_
    refine xt_x ?_; refine xt_x ?_
    refine xb_same ?_
    refine xt_n ?_; clear hK K; clear hK K; refine hK _ ?_; clear hK K; refine sK fun K hK => wR 5 ?_; refine aX hTT 5 [] tI ?_; refine nK hK ?_; clear hK K
    refine aw_ret ?_
    refine xs_r ?_
    refine rP (V.tup [V.i (↑i : Int), V.i (↑j : Int), V.i 0])
   ·
    have c3 : holdN n b re ac i j = false := c3
    refine aw_skip ?_
    refine xb_n ?_; refine xt_n (hK _ ?_); clear hK K; refine wR 5 ?_; refine aX hTT 2 [(0, .i ((↑j : Int) + 1))] ⟨oM, tI⟩ ?_; refine aops_nil ?_; refine xt_n ?_
    refine ⟨j + 1, ⟨by omega, fun h4 => ?_⟩, by refine le_ren (sl := [(yyMW20 n b re ac)]) [(1, 1)] (.cons kR (.cons kR (.cons kR (.cons kR (.cons kR (.cons kR (.cons kR (.cons kR .nil)))))))) (.cons ⟨(yyMW21 n b re ac), kR, .box kR⟩ .nil) kR kR, by omega⟩
    have := hjm h4
    rcases Nat.lt_or_ge j m with h5 | h5
    ·
     omega
    ·
     have h6 : j = m := by omega
     subst h6 h4
     rw [h1] at c3
     cases c3
  ·
   have hj1 : j = n + 1 := by simp at c2; omega
   have hi1 : i ≠ s := fun h4 => by have := hjm h4; omega
   refine aw_exit ?_
   refine xt_x ?_; refine xt_x ?_
   refine xb_same ?_
   refine xb_n ?_; refine xt_n ?_; clear hK K; refine hK _ ?_; clear hK K; refine wR 3 ?_; refine aX hTT 2 [(0, .i ((↑i : Int) + 1))] ⟨oM, tI⟩ ?_; refine aops_nil ?_; refine xt_n ?_
   refine ⟨i + 1, by omega, by refine le_ren (sl := [(yyMW20 n b re ac)]) [(1, 1)] (.cons kR (.cons kR (.cons kR (.cons kR (.cons kR .nil))))) (.cons ⟨(yyMW21 n b re ac), kR, .box kR⟩ .nil) kR kR, by omega⟩
 ·
  simp at c1
  omega
end Go.Proofs.YtofjmklmnlcekaaGreatDoor

namespace Go.Ab
open Go.RowKit Go.Dw
theorem ap_min3 {P : Program} {d : Option Tmp} {ty : TypeId} {pos : String} {af : Array Edge} {gd : Option (Nat × Bool)} {ev : Operand → V} (ats : Array TypeId) (x y z : Operand) {k : IntKind} {a b c : Int} (hx : ev x = .c (.int k a)) (hy : ev y = .c (.int k b)) (hz : ev z = .c (.int k c)) : APure P ⟨d, .call { callee := .builtin .min, args := #[x, y, z], argTypes := ats }, ty, pos, af, gd⟩ ev (.c (.int k (min (min a b) c))) :=
 APure.same rfl fun w L ρ g hr => by
  have e1 := (hx ▸ hr x (by simp [Op.operands, Call.operands])).c_inv
  have e2 := (hy ▸ hr y (by simp [Op.operands, Call.operands])).c_inv
  have e3 := (hz ▸ hr z (by simp [Op.operands, Call.operands])).c_inv
  exact ⟨_, by simp [execOp, resolve, invoke, builtin, e1, e2, e3, min_int3], .c _ _⟩
end Go.Ab
namespace Go.Proofs.YtofjmklmnlcekaaGreatDoor
open Go.Ab Go.RowKit Go.Dw Go.Shelf
theorem join_m {P : Program} {N : Nat} {C : Cx P N} {c rest : Code} {Q : Exit → S → Prop} {s : S} {K : S → Prop} (hK : ∀ s', AW C rest Q s' → K s') (J : S) (hJ : AW C rest Q J)
  (hc : AW C c (XThen (fun s' => ∃ y : Unit, y = () ∧ Le s' J) fun _ _ => False) s) : AW C c (XThen K Q) s :=
 aw_mono hc fun e s' h => by
  cases e <;> first | (obtain ⟨_, _, h⟩ := h; exact hK s' (aw_le h hJ)) | exact h.elim
set_option maxRecDepth 100000 in
theorem outside_ac (x lo hi : Int) : AC Tryz.prog 11 [.i x, .i lo, .i hi] (.b (decide (x < lo) || decide (hi < x))) [] := by
 refine acI hTT hMX Tryz.func11 Tryz.ntmps11 fun C hC hF => ?_
 refine sK fun K hK => wR 2 ?_; refine aX hTT 1 [] tI ?_; refine nK hK ?_; clear hK K; refine sK fun K hK => wR 3 ?_; refine aX hTT 9 [(4, .c (gA (decide (x < lo) == false) True)), (5, .c (gA (decide (x < lo) == false) True)), (6, .c (gC (decide (x < lo) == false) True)), (7, .c (True ∧ (decide (x < lo) = false → (decide (x < lo) == false) = true)))] ⟨⟨⟨tI, tI⟩, (fun _ => tI)⟩, ⟨⟨tI, tI⟩, (fun _ => tI)⟩, ⟨⟨(by (exact fun h => h)), ⟨(by (exact fun h => h)), tI⟩⟩, (fun _ => tI)⟩, ⟨tI, (by (intro h; rw [h]; rfl))⟩, tI⟩ ?_; refine nK hK ?_; clear hK K
 refine aw_ret ?_
 refine rP (V.b (decide (x < lo) || decide (hi < x)))
set_option maxRecDepth 100000 in
theorem within8_ac (x lo hi : Int) : AC Tryz.prog 13 [.i x, .i lo, .i hi] (.b (decide (lo ≤ x) && decide (x ≤ hi))) [] := by
 refine acI hTT hMX Tryz.func13 Tryz.ntmps13 fun C hC hF => ?_
 refine sK fun K hK => wR 2 ?_; refine aX hTT 1 [] tI ?_; refine nK hK ?_; clear hK K; refine sK fun K hK => wR 3 ?_; refine aX hTT 9 [(4, .c (gA (decide (lo ≤ x) == true) True)), (5, .c (gA (decide (lo ≤ x) == true) True)), (6, .c (gC (decide (lo ≤ x) == true) True)), (7, .c ((decide (lo ≤ x) = true → (decide (lo ≤ x) == true) = true) ∧ True))] ⟨⟨⟨tI, tI⟩, (fun _ => tI)⟩, ⟨⟨tI, tI⟩, (fun _ => tI)⟩, ⟨⟨(by (exact fun h => h)), ⟨(by (exact fun h => h)), tI⟩⟩, (fun _ => tI)⟩, ⟨(by (intro h; rw [h]; rfl)), tI⟩, tI⟩ ?_; refine nK hK ?_; clear hK K
 refine aw_ret ?_
 refine rP (V.b (decide (lo ≤ x) && decide (x ≤ hi)))
structure St8 (x : List Int) : Prop where
 len : x.length ≤ 8
 bd : ∀ v ∈ x, 0 ≤ v ∧ v ≤ 20
theorem St8.at {x : List Int} (h : St8 x) {i : Nat} (hi : i < x.length) : 0 ≤ gi x i ∧ gi x i ≤ 20 := h.bd _ (gi_memM hi)
theorem St8.nn {x : List Int} (h : St8 x) : NN x := fun v hv => (h.bd v hv).1
theorem St8.sum {x : List Int} (h : St8 x) (k : Nat) (hk : k ≤ x.length) : 0 ≤ (x.take k).sum ∧ (x.take k).sum ≤ 20 * k := by
 induction k with
 | zero => simp
 | succ k ih =>
  have h1 := ih oM
  have h2 := h.at (i := k) oM
  rw [List.take_succ_eq_append_getElem oM, List.sum_append, show [x[k]].sum = gi x k by simp [gi, List.getElem?_eq_getElem (show k < x.length by omega)]]
  omega
theorem sum_take {x : List Int} {k : Nat} (hk : k < x.length) : (x.take (k + 1)).sum = (x.take k).sum + gi x k := by
 rw [List.take_succ_eq_append_getElem oM, List.sum_append, show [x[k]].sum = gi x k by simp [gi, List.getElem?_eq_getElem (show k < x.length by omega)]]
set_option maxRecDepth 100000 in
theorem psum_ac (x : List Int) (h : St8 x) : AC Tryz.prog 10 [V.ints x] (.tup [.i x.sum, .b true]) [] := by
 have hl := h.len
 refine acI hTT hMX Tryz.func10 Tryz.ntmps10 fun C hC hF => ?_
 refine sK fun K hK => wR 2 ?_; refine aX hTT 2 [] tI ?_; refine nK hK ?_; clear hK K; refine sK fun K hK => wR 3 ?_; refine aX hTT 1 [] tI ?_; refine nK hK ?_; clear hK K; refine sK fun K hK => ?_; refine sK fun K hK => wR 4 ?_; refine aX hTT 3 [] tI ?_; refine nK hK ?_; clear hK K
 refine aw_block ?_
 refine w_loop (ι := Nat) (fun k => [(4, .i (x.take k).sum), (7, V.ints x), (8, .i x.length), (9, .i k)]) (fun _ => []) (fun k => k ≤ x.length) (fun k => x.length - k) 0 (Nat.zero_le _) ?_ ?_
 ·
  refine le_ren [] (.cons kR (.cons kR (.cons kR (.cons kR .nil)))) .nil kR kR
 intro k hk
 have h1 := h.sum k hk
 refine sK fun K hK => wR 2 ?_; refine aX hTT 1 [] tI ?_; refine nK hK ?_; clear hK K; refine sK fun K hK => ?_
 refine w_cond (t := decide ((↑k : Int) < (↑(List.length x) : Int))) kR (fun c1 => ?_) (fun c1 => ?_)
 ·
  have hk1 : k < x.length := by simp at c1; omega
  have h2 := h.at hk1
  refine aw_skip ?_
  refine xt_n (hK _ ?_); clear hK K; refine sK fun K hK => ?_
  refine aw_block ?_
  refine sK fun K hK => wR 3 ?_; refine aX hTT 3 [(0, .c ((0 : Int) ≤ (↑k : Int) ∧ (↑k : Int) < (↑(List.length x) : Int)))] ⟨oM, tI⟩ ?_; refine nK hK ?_; clear hK K; refine sK fun K hK => ?_; refine sK fun K hK => wR 4 ?_; refine aX hTT 1 [] tI ?_
  refine eC (outside_ac (gi x k) 0 65536) ?_
  refine nK hK ?_; clear hK K
  refine w_cond (t := decide (gi x k < 0) || decide ((65536 : Int) < gi x k)) kR (fun c2 => ?_) (fun c2 => ?_)
  ·
   simp at c2
   omega
  refine aw_skip ?_
  refine xt_n (hK _ ?_); clear hK K; refine wR 5 ?_; refine aX hTT 4 [(2, .i (List.sum (List.take k x) + gi x k))] ⟨oM, tI⟩ ?_; refine aops_nil ?_; refine xb_n ?_; refine xt_n (hK _ ?_); clear hK K; refine wR 6 ?_; refine aX hTT 2 [(0, .i ((↑k : Int) + 1))] ⟨oM, tI⟩ ?_; refine aops_nil ?_; refine xt_n ?_
  refine ⟨k + 1, by omega, ?_, by omega⟩
  rw [sum_take hk1]
  refine le_ren [] (.cons kR (.cons kR (.cons kR (.cons kR .nil)))) .nil kR kR
 ·
  obtain rfl : k = x.length := by simp at c1; omega
  rw [List.take_length]
  refine aw_exit ?_
  refine xt_x ?_; refine xt_x ?_
  refine xb_same ?_
  refine xt_n ?_; clear hK K; refine hK _ ?_; clear hK K; refine sK fun K hK => wR 3 ?_; refine aX hTT 3 [] tI ?_; refine nK hK ?_; clear hK K
  refine aw_ret ?_
  refine rP (V.tup [V.i (List.sum x), V.b true])
abbrev yyMW30 (l : List Int) : Ob := Ob.row 2 1 ((0 : Nat) + List.length l) (appRow (0 : Nat) (fun (i : Nat) => List.take (1 : Nat) (List.drop (i * 1) (repV (0 : Nat) [V.c (Value.int IntKind.i64 0)]))) fun (k : Nat) => [V.i (gi l k)])
set_option maxRecDepth 100000 in
theorem Clone_row (l : List Int) (hl : l.length ≤ 64) (h0 : 0 < l.length) : AC Tryz.prog 12 [V.ints l] (.own 0) [.row 2 1 l.length fun k => [.i (gi l k)]] := by
 refine acI hTT hMX Tryz.func12 Tryz.ntmps12 fun C hC hF => ?_
 refine sK fun K hK => wR 2 ?_
 refine aops_x (M := [5]) hTT 1 [] tI ?_
 refine nK hK ?_; clear hK K; refine sK fun K hK => ?_; refine sK fun K hK => wR 3 ?_
 refine aops_x (M := [5]) hTT 2 [(1, .c ((0 : Nat) < List.length l))] ⟨oM, tI⟩ ?_
 refine nK hK ?_; clear hK K; refine w_false (t := false) kR rfl ?_
 refine aw_skip ?_
 refine xt_n (hK _ ?_); clear hK K; refine sK fun K hK => wR 4 ?_
 refine aops_x (M := [5]) hTT 4 [(0, .r (pn 5 (V.own 300005) (300005 : Nat) (Ob.row 2 1 0 fun (i : Nat) => List.take (1 : Nat) (List.drop (i * 1) (repV (0 : Nat) [V.c (Value.int IntKind.i64 0)]))))), (2, .r (PR.mk (some (7 : Nat)) (some ((0 : Nat) + List.length l ≤ 1099511627776)) (V.own 300007) [((300005 : Nat), none), ((300007 : Nat), some ((yyMW30 l)))] false))] ⟨oM, tI⟩ ?_
 refine nK hK ?_; clear hK K
 refine aw_ret ?_
 refine ret_own [(0, 300007)] [(2, V.own 0)] (.inr rfl) (.cons kR .nil) (.cons ⟨(yyMW30 l), kR, .row ?_ (fun _ _ => rfl)⟩ .nil) kR kR kR kR
 omega
theorem AC.empM {P : Program} {f : FuncId} {v : V} {obs : List Ob} {sz : Nat} {row : Nat → List V} (h : ∀ A c, AC P f [.c (.slice A 0 c)] v obs) : AC P f [.sl sz 0 row] v obs := by
 refine ⟨(h none 0).1, fun L w vs hL hgl hv => ?_⟩
 obtain ⟨vs⟩ := vs
 obtain ⟨x, e, hr⟩ := hv.get (i := 0) rfl
 obtain ⟨A, c, rfl, _⟩ := hr.sl_inv
 refine (h A c).2 L w _ hL hgl ?_
 have hn := hv.1
 match vs, hn, e with
 | [y], _, e =>
  simp at e; subst e
  exact .cons (.c _ _) .nil
theorem emp_intsM {w : World} {L : Nat → Prop} {ρ : Nat → Option Value} {A : Option Addr} {c : Nat} {x : Value} (h : R w L ρ (.c (.slice A 0 c)) x) : R w L ρ (V.ints []) x := by
 rw [h.c_inv]
 exact .sl0 _ _ _ _ _
theorem CloneN_nil (c : Nat) : AC Tryz.prog 12 [.c (.slice none 0 c)] (V.ints []) [] := by
 refine acI hTT hMX Tryz.func12 Tryz.ntmps12 fun C hC hF => ?_
 refine sK fun K hK => wR 2 ?_; refine aX hTT 1 [] tI ?_; refine nK hK ?_; clear hK K; refine sK fun K hK => ?_; refine sK fun K hK => wR 3 ?_; refine aX hTT 2 [] tI ?_; refine nK hK ?_; clear hK K; refine w_true (t := true) kR rfl ?_; refine sK fun K hK => wR 4 ?_; refine aX hTT 1 [] tI ?_; refine nK hK ?_; clear hK K
 refine aw_ret ?_
 refine xt_r ?_
 refine ret_of_le (le_nil 2 (sz := 1) 0 (fun k => [.i (gi [] k)]) kR ?_) ?_
 ·
  rfl
 refine rP (V.sl 1 0 fun (k : Nat) => [V.i (gi [] k)])
set_option maxRecDepth 100000 in
theorem CloneN_emp (a : Addr) (c : Nat) : AC Tryz.prog 12 [.c (.slice (some a) 0 c)] (V.ints []) [] := by
 refine acI hTT hMX Tryz.func12 Tryz.ntmps12 fun C hC hF => ?_
 refine sK fun K hK => wR 2 ?_; refine aX hTT 1 [] tI ?_; refine nK hK ?_; clear hK K; refine sK fun K hK => ?_; refine sK fun K hK => wR 3 ?_; refine aX hTT 2 [] tI ?_; refine nK hK ?_; clear hK K; refine w_false (t := false) kR rfl ?_
 refine aw_skip ?_
 refine xt_n (hK _ ?_); clear hK K; refine sK fun K hK => ?_
 refine w_le (le_val 0 (V.ints []) fun w L ρ x hx => emp_intsM hx) ?_
 refine wR 4 ?_
 refine aops_x (M := [5]) hTT 4 [(0, .r (pn 5 (V.own 300005) (300005 : Nat) (Ob.row 2 1 0 fun (i : Nat) => List.take (1 : Nat) (List.drop (i * 1) (repV (0 : Nat) [V.c (Value.int IntKind.i64 0)]))))), (2, .r (PR.mk (some (7 : Nat)) (some ((0 : Nat) + (0 : Nat) ≤ (1099511627776 : Nat))) (V.own 300007) [((300005 : Nat), none), ((300007 : Nat), some (Ob.row 2 1 0 (appRow (0 : Nat) (fun (i : Nat) => List.take (1 : Nat) (List.drop (i * 1) (repV (0 : Nat) [V.c (Value.int IntKind.i64 0)]))) fun (k : Nat) => [V.i (gi [] k)])))] false))] ⟨oM, tI⟩ ?_
 refine nK hK ?_; clear hK K
 refine aw_ret ?_
 refine ret_of_le (le_shut 2 300007 (e := (2 : Nat)) (sz := (1 : Nat)) (n := (0 : Nat)) (n' := 0) (row := appRow (0 : Nat) (fun (i : Nat) => List.take (1 : Nat) (List.drop (i * 1) (repV (0 : Nat) [V.c (Value.int IntKind.i64 0)]))) fun (k : Nat) => [V.i (gi [] k)]) (row' := (fun k => [.i (gi [] k)])) kR kR (fun _ _ => rfl) ?_ ?_) ?_
 ·
  rfl
 ·
  intro i hi
  omega
 refine rP (V.sl 1 0 fun (k : Nat) => [V.i (gi [] k)])
set_option maxRecDepth 100000 in
theorem CloneN_pos (l : List Int) (hl : l.length ≤ 64) (h0 : 0 < l.length) : AC Tryz.prog 12 [V.ints l] (V.ints l) [] := by
 refine acI hTT hMX Tryz.func12 Tryz.ntmps12 fun C hC hF => ?_
 refine sK fun K hK => wR 2 ?_
 refine aops_x (M := [5]) hTT 1 [] tI ?_
 refine nK hK ?_; clear hK K; refine sK fun K hK => ?_; refine sK fun K hK => wR 3 ?_
 refine aops_x (M := [5]) hTT 2 [(1, .c ((0 : Nat) < List.length l))] ⟨oM, tI⟩ ?_
 refine nK hK ?_; clear hK K; refine w_false (t := false) kR rfl ?_
 refine aw_skip ?_
 refine xt_n (hK _ ?_); clear hK K; refine sK fun K hK => wR 4 ?_
 refine aops_x (M := [5]) hTT 4 [(0, .r (pn 5 (V.own 300005) (300005 : Nat) (Ob.row 2 1 0 fun (i : Nat) => List.take (1 : Nat) (List.drop (i * 1) (repV (0 : Nat) [V.c (Value.int IntKind.i64 0)]))))), (2, .r (PR.mk (some (7 : Nat)) (some ((0 : Nat) + List.length l ≤ 1099511627776)) (V.own 300007) [((300005 : Nat), none), ((300007 : Nat), some (Ob.row 2 1 ((0 : Nat) + List.length l) (appRow (0 : Nat) (fun (i : Nat) => List.take (1 : Nat) (List.drop (i * 1) (repV (0 : Nat) [V.c (Value.int IntKind.i64 0)]))) fun (k : Nat) => [V.i (gi l k)])))] false))] ⟨oM, tI⟩ ?_
 refine nK hK ?_; clear hK K
 refine aw_ret ?_
 refine ret_of_le (le_shut 2 300007 (e := (2 : Nat)) (sz := (1 : Nat)) (n := (0 : Nat) + List.length l) (n' := l.length) (row := appRow (0 : Nat) (fun (i : Nat) => List.take (1 : Nat) (List.drop (i * 1) (repV (0 : Nat) [V.c (Value.int IntKind.i64 0)]))) fun (k : Nat) => [V.i (gi l k)]) (row' := (fun k => [.i (gi l k)])) kR kR (fun _ _ => rfl) ?_ ?_) ?_
 ·
  omega
 ·
  intro i hi
  rw [appRow, if_neg oM, Nat.sub_zero]
 refine rP (V.sl 1 (List.length l) fun (k : Nat) => [V.i (gi l k)])
theorem CloneN_ac (l : List Int) (hl : l.length ≤ 64) : AC Tryz.prog 12 [V.ints l] (V.ints l) [] := by
 by_cases h0 : 0 < l.length
 ·
  exact CloneN_pos l hl h0
 ·
  obtain rfl : l = [] := List.length_eq_zero_iff.1 oM
  refine AC.empM fun A c => ?_
  cases A with
  | some a => exact CloneN_emp a c
  | none => exact CloneN_nil c
def rwI (x : List Int) (j : Nat) : List V := [.i (gi x j)]
def rwM (L : List Mt) (j : Nat) : List V := (gmt L j).c
abbrev yyMW31 (x0 : List Int) (y0 : List Int) (d0 : Int) := (MSt.mk (List.length x0 + List.length y0) x0 y0 (0 : Nat) (0 : Nat) d0 (0 : Nat))
set_option maxRecDepth 100000 in
theorem pMounts_loop (x0 y0 : List Int) (d0 : Int) (hx : St8 x0) (hy : St8 y0) (hd : 0 < d0 ∧ d0 ≤ 50) (hsx : d0 ≤ x0.sum) (hsy : d0 ≤ y0.sum) : AC Tryz.prog 4 [V.ints x0, V.ints y0, .i d0] (.tup [V.mts (mntL (x0.length + y0.length) x0 y0 0 0 d0), .i 0]) [] := by
 have lx := hx.len
 have ly := hy.len
 have gx := hx.sum x0.length (Nat.le_refl _)
 have gy := hy.sum y0.length (Nat.le_refl _)
 rw [List.take_length] at gx gy
 have px : 0 < x0.length := List.length_pos_iff.2 fun h => by rw [h] at hsx; simp at hsx; omega
 have py : 0 < y0.length := List.length_pos_iff.2 fun h => by rw [h] at hsy; simp at hsy; omega
 refine acI hTT hMX Tryz.func4 Tryz.ntmps4 fun C hC hF => ?_
 refine sK fun K hK => wR 2 ?_; refine aX hTT 2 [] tI ?_; refine nK hK ?_; clear hK K; refine sK fun K hK => ?_; refine sK fun K hK => wR 3 ?_; refine aX hTT 6 [] tI ?_; refine nK hK ?_; clear hK K
 refine w_cond (t := decide ((64 : Int) < max (↑(List.length x0) : Int) (↑(List.length y0) : Int))) kR (fun c1 => ?_) (fun c1 => ?_)
 ·
  simp at c1
  omega
 refine aw_skip ?_
 refine xt_n (hK _ ?_); clear hK K; refine sK fun K hK => wR 4 ?_; refine aX hTT 1 [] tI ?_
 refine eC (psum_ac x0 hx) ?_
 refine aX hTT 5 [] tI ?_; refine nK hK ?_; clear hK K; refine sK fun K hK => wR 5 ?_; refine aX hTT 1 [] tI ?_
 refine eC (psum_ac y0 hy) ?_
 refine aX hTT 5 [] tI ?_; refine nK hK ?_; clear hK K; refine sK fun K hK => ?_
 refine aw_block ?_
 refine sK fun K hK => wR 6 ?_; refine aX hTT 7 [(3, .c (gA (false == false) True)), (4, .c (gB (false == false) True)), (5, .c (True ∧ (false = false → (false == false) = true)))] ⟨⟨⟨tI, tI⟩, (fun _ => tI)⟩, ⟨⟨(by (exact fun h => h)), tI⟩, (fun _ => tI)⟩, ⟨tI, (by (intro h; rw [h]; rfl))⟩, tI⟩ ?_; refine nK hK ?_; clear hK K; refine w_false (t := false) kR rfl ?_; refine sK fun K hK => wR 7 ?_; refine aX hTT 1 [] tI ?_
 refine eC (outside_ac d0 0 1073741824) ?_
 refine aX hTT 1 [] tI ?_; refine nK hK ?_; clear hK K
 refine w_cond (t := decide (d0 < 0) || decide ((1073741824 : Int) < d0)) kR (fun c2 => ?_) (fun c2 => ?_)
 ·
  simp at c2
  omega
 refine sK fun K hK => wR 8 ?_; refine aX hTT 6 [] tI ?_; refine nK hK ?_; clear hK K
 refine w_cond (t := decide (min (List.sum x0) (List.sum y0) < d0)) kR (fun c3 => ?_) (fun c3 => ?_)
 ·
  simp at c3
  omega
 refine aw_skip ?_
 refine xb_n ?_; refine xt_n (hK _ ?_); clear hK K; refine sK fun K hK => wR 9 ?_; refine aX hTT 1 [] tI ?_
 refine e_callO (first := []) (caps := []) (k := 800049) (v' := V.own 800049) (ob' := Ob.row 2 1 (List.length x0) fun (i : Nat) => V.renL (callG (8 : Nat) (some 49)) [V.i (gi x0 i)]) (Clone_row x0 oM px) kR kR kR kR kR kR kR ?_
 refine aX hTT 1 [] tI ?_
 refine e_callO (first := []) (caps := []) (k := 800051) (v' := V.own 800051) (ob' := Ob.row 2 1 (List.length y0) fun (i : Nat) => V.renL (callG (8 : Nat) (some 51)) [V.i (gi y0 i)]) (Clone_row y0 oM py) kR kR kR kR kR kR kR ?_
 refine aX hTT 2 [] tI ?_; refine nK hK ?_; clear hK K; refine sK fun K hK => wR 10 ?_; refine aX hTT 1 [] tI ?_; refine nK hK ?_; clear hK K; refine sK fun K hK => ?_; refine sK fun K hK => wR 11 ?_; refine aX hTT 2 [] tI ?_; refine nK hK ?_; clear hK K
 refine aw_block ?_
 have hL : ∃ L, L = mntL (x0.length + y0.length) x0 y0 0 0 d0 := ⟨_, rfl⟩
 obtain ⟨L, hL⟩ := hL
 have hL16 : L.length ≤ 16 := by
  have := mntL_len (x0.length + y0.length) x0 y0 0 0 d0
  rw [← hL] at this
  omega
 refine w_le (le_open 12 31 3 (rwM L) kR rfl) ?_
 refine w_loop (ι := MSt) (fun z => [(0, .own 1), (1, .own 2), (2, .i z.d), (12, .own 3), (13, .i z.i), (14, .i z.k)])
  (fun z => [(1, .row 2 1 z.x.length (rwI z.x)), (2, .row 2 1 z.y.length (rwI z.y)), (3, .row 31 3 z.q (rwM L))])
  (fun z => MOk z.u z.x z.y z.i z.k z.d ∧ z.q ≤ L.length ∧ L.drop z.q = mntL z.u z.x z.y z.i z.k z.d ∧ z.x.length ≤ 8 ∧ z.y.length ≤ 8 ∧ z.d ≤ 50 ∧ (∀ v ∈ z.x, v ≤ 20) ∧ (∀ v ∈ z.y, v ≤ 20)) (fun z => z.u) ⟨x0.length + y0.length, x0, y0, 0, 0, d0, 0⟩
  ⟨⟨hx.nn, hy.nn, by simp; omega, by simpa [sumF] using hsx, by simpa [sumF] using hsy, by simp⟩, Nat.zero_le _, by simp [hL], lx, ly, hd.2, fun v hv => (hx.bd v hv).2, fun v hv => (hy.bd v hv).2⟩ ?_ ?_
 ·
  refine le_ren (sl := [(1, Ob.row 2 1 (List.length (MSt.x (yyMW31 x0 y0 d0))) (rwI (MSt.x (yyMW31 x0 y0 d0)))), (2, Ob.row 2 1 (List.length (MSt.y (yyMW31 x0 y0 d0))) (rwI (MSt.y (yyMW31 x0 y0 d0)))), (3, Ob.row 31 3 0 (rwM L))]) [(1, 800049), (2, 800051), (3, 1100012)] (.cons kR (.cons kR (.cons kR (.cons kR (.cons kR (.cons kR .nil)))))) (.cons ⟨Ob.row 2 1 (List.length x0) fun (i : Nat) => V.renL (callG (8 : Nat) (some (49 : Tmp))) [V.i (gi x0 i)], kR, .row kR (fun _ _ => rfl)⟩ (.cons ⟨Ob.row 2 1 (List.length y0) fun (i : Nat) => V.renL (callG (8 : Nat) (some (51 : Tmp))) [V.i (gi y0 i)], kR, .row kR (fun _ _ => rfl)⟩ (.cons ⟨Ob.row 31 3 0 (rwM L), kR, .row kR (fun _ _ => rfl)⟩ .nil))) kR kR
 rintro ⟨u, x, y, i, k, d, q⟩ ⟨hok, hq, hLq, hx8, hy8, hd50, hx20, hy20⟩
 simp only at hok hq hLq hx8 hy8 hd50 hx20 hy20 ⊢
 refine sK fun K hK => ?_; refine sK fun K hK => wR 2 ?_; refine aX hTT 2 [] tI ?_; refine nK hK ?_; clear hK K
 refine w_cond (t := decide ((0 : Int) < d)) kR (fun c4 => ?_) (fun c4 => ?_)
 ·
  have hd1 : 0 < d := by simpa using c4
  have hi := hok.ix hd1
  have hk := hok.iy hd1
  obtain ⟨w, rfl⟩ : ∃ w, u = w + 1 := ⟨u - 1, by have := hok.fu hd1; omega⟩
  obtain ⟨n0, n1, n2, n3⟩ := hok.n0 hd1
  have gxi := hx20 _ (gi_memM hi)
  have gyk := hy20 _ (gi_memM hk)
  have gxi0 := hok.nx _ (gi_memM hi)
  have gyk0 := hok.ny _ (gi_memM hk)
  obtain ⟨R, hR⟩ := mntL_app hok hd1
  rw [hR] at hLq
  have hq1 := drop_le hq hLq
  have hqR := drop_app hLq
  refine aw_skip ?_
  refine xt_n (hK _ ?_); clear hK K
  refine aw_block ?_
  refine sK fun K hK => wD 3 ?_; refine aX hTT 9 [(2, .c ((0 : Int) ≤ (↑i : Int) ∧ (↑i : Int) < (↑(List.length x) : Int))), (3, .c (i < List.length x ∧ (0 : Nat) ≤ (1 : Nat))), (6, .c ((0 : Int) ≤ (↑k : Int) ∧ (↑k : Int) < (↑(List.length y) : Int))), (7, .c (k < List.length y ∧ (0 : Nat) ≤ (1 : Nat)))] ⟨oM, oM, oM, oM, tI⟩ ?_
  refine aops_pure rfl (ap_min3 _ (.tmp 57) (.tmp 61) (.tmp 62) (k := .i64) (a := gi x i) (b := gi y k) (c := d) rfl rfl rfl) ?_
  refine aX hTT 1 [] tI ?_; refine aops_nil ⟨kR, ?_⟩; refine xt_n (hK _ ?_); clear hK K; refine sK fun K hK => ?_; refine sK fun K hK => wR 4 ?_; refine aX hTT 2 [] tI ?_; refine nK hK ?_; clear hK K
  refine join_m (by assumption) ⟨mkT [(0, .own 1), (1, .own 2), (2, .i d), (12, .own 3), (13, .i i), (14, .i k), (15, .i (mtN x y i k d))], mkS [(1, .row 2 1 x.length (rwI x)), (2, .row 2 1 y.length (rwI y)), (3, .row 31 3 (q + (mtA x y i k d).length) (rwM L))], 1⟩ ?_ ?_
  rotate_left
  ·
   refine w_cond (t := decide ((0 : Int) < min (min (gi x i) (gi y k)) d)) kR (fun c5 => ?_) (fun c5 => ?_)
   ·
    have c6 : mtA x y i k d = [⟨i, k, mtN x y i k d⟩] := if_pos (show 0 < mtN x y i k d from of_decide_eq_true c5)
    rw [c6] at hLq
    obtain ⟨g1, g2, _⟩ := gmt_at hLq
    rw [c6]
    refine wR 5 ?_; refine aX hTT 8 [(6, .r (PR.mk (some (72 : Nat)) (some (q + 1 ≤ (1099511627776 : Nat))) (V.own 400072) [((3 : Nat), none), ((400072 : Nat), some (Ob.row 31 3 (q + 1) (appRow q (rwM L) fun (i_1 : Nat) => List.take (3 : Nat) (List.drop (i_1 * 3) [V.i (↑i : Int), V.i (↑k : Int), V.i (min (min (gi x i) (gi y k)) d)]))))] false))] ⟨oM, tI⟩ ?_; refine aops_nil ?_; refine xt_n ?_
    refine ⟨(), rfl, ?_⟩
    refine le_ren (tl := [(0, V.own 1), (1, V.own 2), (2, V.i d), (12, V.own 3), (13, V.i (↑i : Int)), (14, V.i (↑k : Int)), (15, V.i (mtN x y i k d))]) (sl := [(1, Ob.row 2 1 (List.length x) (rwI x)), (2, Ob.row 2 1 (List.length y) (rwI y)), (3, Ob.row 31 3 (q + 1) (rwM L))]) [(1, 1), (2, 2), (3, 400072)] (.cons kR (.cons kR (.cons kR (.cons kR (.cons kR (.cons kR (.cons kR .nil))))))) (.cons ⟨Ob.row 2 1 (List.length x) (rwI x), kR, .row kR (fun _ _ => rfl)⟩ (.cons ⟨Ob.row 2 1 (List.length y) (rwI y), kR, .row kR (fun _ _ => rfl)⟩ (.cons ⟨Ob.row 31 3 (q + 1) (appRow q (rwM L) fun (i_1 : Nat) => List.take (3 : Nat) (List.drop (i_1 * 3) [V.i (↑i : Int), V.i (↑k : Int), V.i (min (min (gi x i) (gi y k)) d)])), kR, .row kR ?_⟩ .nil))) kR kR
    ·
     exact appRow_ok (fun _ _ => rfl) (by rw [rwM, g2]; rfl)
   ·
    have c6 : mtA x y i k d = [] := if_neg (by intro h; rw [mtN] at h; simp at c5; omega)
    rw [c6]
    refine aw_skip ?_
    refine xt_n ?_
    refine ⟨(), rfl, ?_⟩
    refine le_ren (sl := [(1, Ob.row 2 1 (List.length x) (rwI x)), (2, Ob.row 2 1 (List.length y) (rwI y)), (3, Ob.row 31 3 (q + 0) (rwM L))]) [(1, 1), (2, 2), (3, 3)] (.cons kR (.cons kR (.cons kR (.cons kR (.cons kR (.cons kR (.cons kR .nil))))))) (.cons ⟨Ob.row 2 1 (List.length x) (rwI x), kR, .row kR (fun _ _ => rfl)⟩ (.cons ⟨Ob.row 2 1 (List.length y) (rwI y), kR, .row kR (fun _ _ => rfl)⟩ (.cons ⟨Ob.row 31 3 q (rwM L), kR, .row kR (fun _ _ => rfl)⟩ .nil))) kR kR
  obtain ⟨x', hx'⟩ : ∃ x', x' = x.set i (gi x i - mtN x y i k d) := ⟨_, rfl⟩
  obtain ⟨y', hy'⟩ : ∃ y', y' = y.set k (gi y k - mtN x y i k d) := ⟨_, rfl⟩
  have lx' : x'.length = x.length := by rw [hx', List.length_set]
  have ly' : y'.length = y.length := by rw [hy', List.length_set]
  have ex : gi x' i = gi x i - mtN x y i k d := by rw [hx', gi_set _ hi]
  have ey : gi y' k = gi y k - mtN x y i k d := by rw [hy', gi_set _ hk]
  have bx' : ∀ v ∈ x', v ≤ 20 := fun v hv => by
   rw [hx'] at hv
   rcases List.mem_or_eq_of_mem_set hv with h | h
   ·
    exact hx20 v h
   ·
    omega
  have by' : ∀ v ∈ y', v ≤ 20 := fun v hv => by
   rw [hy'] at hv
   rcases List.mem_or_eq_of_mem_set hv with h | h
   ·
    exact hy20 v h
   ·
    omega
  refine sK fun K hK => wR 2 ?_; refine aX hTT 4 [(2, .i (d - mtN x y i k d))] ⟨oM, tI⟩ ?_; refine nK hK ?_; clear hK K; refine sK fun K hK => wR 3 ?_; refine aX hTT 8 [(2, .c ((0 : Int) ≤ (↑i : Int) ∧ (↑i : Int) < (↑(List.length x) : Int))), (3, .c (i < List.length x ∧ (0 : Nat) ≤ (1 : Nat))), (5, .i (gi x i - mtN x y i k d)), (6, .c ((0 : Int) ≤ (↑i : Int) ∧ (↑i : Int) < (↑(List.length x) : Int))), (7, .r (pw (i < List.length x ∧ (0 : Nat) + (1 : Nat) ≤ (1 : Nat)) (1 : Nat) (Ob.row 2 1 (List.length x) fun (j : Nat) => if j = i then [V.i (gi x i - mtN x y i k d)] else rwI x j)))] ⟨oM, oM, oM, oM, oM, tI⟩ ?_; refine nK hK ?_; clear hK K; refine sK fun K hK => wR 4 ?_; refine aX hTT 8 [(2, .c ((0 : Int) ≤ (↑k : Int) ∧ (↑k : Int) < (↑(List.length y) : Int))), (3, .c (k < List.length y ∧ (0 : Nat) ≤ (1 : Nat))), (5, .i (gi y k - mtN x y i k d)), (6, .c ((0 : Int) ≤ (↑k : Int) ∧ (↑k : Int) < (↑(List.length y) : Int))), (7, .r (pw (k < List.length y ∧ (0 : Nat) + (1 : Nat) ≤ (1 : Nat)) (2 : Nat) (Ob.row 2 1 (List.length y) fun (j : Nat) => if j = k then [V.i (gi y k - mtN x y i k d)] else rwI y j)))] ⟨oM, oM, oM, oM, oM, tI⟩ ?_; refine nK hK ?_; clear hK K; refine sK fun K hK => ?_
  refine w_le (s' := ⟨mkT [(0, .own 1), (1, .own 2), (2, .i (d - mtN x y i k d)), (12, .own 3), (13, .i i), (14, .i k)], mkS [(1, .row 2 1 x'.length (rwI x')), (2, .row 2 1 y'.length (rwI y')), (3, .row 31 3 (q + (mtA x y i k d).length) (rwM L))], 1⟩) ?_ ?_
  ·
   refine le_ren (tl := [(0, V.own 1), (1, V.own 2), (2, V.i (d - mtN x y i k d)), (12, V.own 3), (13, V.i (↑i : Int)), (14, V.i (↑k : Int))]) (sl := [(1, Ob.row 2 1 (List.length x') (rwI x')), (2, Ob.row 2 1 (List.length y') (rwI y')), (3, Ob.row 31 3 (q + List.length (mtA x y i k d)) (rwM L))]) [(1, 1), (2, 2), (3, 3)] (.cons kR (.cons kR (.cons kR (.cons kR (.cons kR (.cons kR .nil)))))) (.cons ⟨Ob.row 2 1 (List.length x) fun (j : Nat) => if j = i then [V.i (gi x i - mtN x y i k d)] else rwI x j, kR, .row oM ?_⟩ (.cons ⟨Ob.row 2 1 (List.length y) fun (j : Nat) => if j = k then [V.i (gi y k - mtN x y i k d)] else rwI y j, kR, .row oM ?_⟩ (.cons ⟨Ob.row 31 3 (q + List.length (mtA x y i k d)) (rwM L), kR, .row kR (fun _ _ => rfl)⟩ .nil))) kR kR
   ·
    intro j hj
    rw [rwI, rwI, hx', gi_upd _ _ _ _ hi]
    split <;> rfl
   ·
    intro j hj
    rw [rwI, rwI, hy', gi_upd _ _ _ _ hk]
    split <;> rfl
  refine wR 2 ?_; refine aX hTT 5 [(2, .c ((0 : Int) ≤ (↑i : Int) ∧ (↑i : Int) < (↑(List.length x') : Int))), (3, .c (i < List.length x' ∧ (0 : Nat) ≤ (1 : Nat)))] ⟨oM, oM, tI⟩ ?_; refine nK hK ?_; clear hK K
  refine w_cond (t := decide (gi x' i = 0)) kR (fun c8 => ?_) (fun c8 => ?_)
  ·
   have c9 : gi x i - mtN x y i k d = 0 := by rw [← ex]; simpa using c8
   refine wR 3 ?_; refine aX hTT 3 [(1, .i ((↑i : Int) + 1))] ⟨oM, tI⟩ ?_; refine aops_nil ?_; refine xb_n ?_; refine xt_n ?_
   refine ⟨⟨w, x', y', i + 1, k, d - mtN x y i k d, q + (mtA x y i k d).length⟩, ⟨by rw [hx', hy']; exact hok.stepx hd1 c9, hq1, by rw [hqR, hx', hy']; exact List.append_cancel_left (hR.symm.trans (mntL_x hok hd1 c9)), by simp only; omega, by simp only; omega, by simp only; omega, bx', by'⟩, ?_, by simp⟩
   refine le_ren (sl := [(1, Ob.row 2 1 (List.length (MSt.x (MSt.mk w x' y' (i + 1) k (d - mtN x y i k d) (q + List.length (mtA x y i k d))))) (rwI (MSt.x (MSt.mk w x' y' (i + 1) k (d - mtN x y i k d) (q + List.length (mtA x y i k d)))))), (2, Ob.row 2 1 (List.length (MSt.y (MSt.mk w x' y' (i + 1) k (d - mtN x y i k d) (q + List.length (mtA x y i k d))))) (rwI (MSt.y (MSt.mk w x' y' (i + 1) k (d - mtN x y i k d) (q + List.length (mtA x y i k d)))))), (3, Ob.row 31 3 (MSt.q (MSt.mk w x' y' (i + 1) k (d - mtN x y i k d) (q + List.length (mtA x y i k d)))) (rwM L))]) [(1, 1), (2, 2), (3, 3)] (.cons kR (.cons kR (.cons kR (.cons kR (.cons kR (.cons kR .nil)))))) (.cons ⟨Ob.row 2 1 (List.length x') (rwI x'), kR, .row kR (fun _ _ => rfl)⟩ (.cons ⟨Ob.row 2 1 (List.length y') (rwI y'), kR, .row kR (fun _ _ => rfl)⟩ (.cons ⟨Ob.row 31 3 (q + List.length (mtA x y i k d)) (rwM L), kR, .row kR (fun _ _ => rfl)⟩ .nil))) kR kR
  ·
   have c9 : ¬ gi x i - mtN x y i k d = 0 := by rw [← ex]; simpa using c8
   refine sK fun K hK => wR 3 ?_; refine aX hTT 5 [(2, .c ((0 : Int) ≤ (↑k : Int) ∧ (↑k : Int) < (↑(List.length y') : Int))), (3, .c (k < List.length y' ∧ (0 : Nat) ≤ (1 : Nat)))] ⟨oM, oM, tI⟩ ?_; refine nK hK ?_; clear hK K
   refine w_cond (t := decide (gi y' k = 0)) kR (fun c10 => ?_) (fun c10 => ?_)
   ·
    have c11 : gi y k - mtN x y i k d = 0 := by rw [← ey]; simpa using c10
    refine wR 4 ?_; refine aX hTT 3 [(1, .i ((↑k : Int) + 1))] ⟨oM, tI⟩ ?_; refine aops_nil ?_; refine xb_n ?_; refine xt_n ?_
    refine ⟨⟨w, x', y', i, k + 1, d - mtN x y i k d, q + (mtA x y i k d).length⟩, ⟨by rw [hx', hy']; exact hok.stepy hd1 c11, hq1, by rw [hqR, hx', hy']; exact List.append_cancel_left (hR.symm.trans (mntL_y hok hd1 c9 c11)), by simp only; omega, by simp only; omega, by simp only; omega, bx', by'⟩, ?_, by simp⟩
    refine le_ren (sl := [(1, Ob.row 2 1 (List.length (MSt.x (MSt.mk w x' y' i (k + 1) (d - mtN x y i k d) (q + List.length (mtA x y i k d))))) (rwI (MSt.x (MSt.mk w x' y' i (k + 1) (d - mtN x y i k d) (q + List.length (mtA x y i k d)))))), (2, Ob.row 2 1 (List.length (MSt.y (MSt.mk w x' y' i (k + 1) (d - mtN x y i k d) (q + List.length (mtA x y i k d))))) (rwI (MSt.y (MSt.mk w x' y' i (k + 1) (d - mtN x y i k d) (q + List.length (mtA x y i k d)))))), (3, Ob.row 31 3 (MSt.q (MSt.mk w x' y' i (k + 1) (d - mtN x y i k d) (q + List.length (mtA x y i k d)))) (rwM L))]) [(1, 1), (2, 2), (3, 3)] (.cons kR (.cons kR (.cons kR (.cons kR (.cons kR (.cons kR .nil)))))) (.cons ⟨Ob.row 2 1 (List.length x') (rwI x'), kR, .row kR (fun _ _ => rfl)⟩ (.cons ⟨Ob.row 2 1 (List.length y') (rwI y'), kR, .row kR (fun _ _ => rfl)⟩ (.cons ⟨Ob.row 31 3 (q + List.length (mtA x y i k d)) (rwM L), kR, .row kR (fun _ _ => rfl)⟩ .nil))) kR kR
   ·
    have c11 : ¬ gi y k - mtN x y i k d = 0 := by rw [← ey]; simpa using c10
    refine aw_skip ?_
    refine xb_n ?_; refine xt_n ?_
    refine ⟨⟨w, x', y', i, k, d - mtN x y i k d, q + (mtA x y i k d).length⟩, ⟨by rw [hx', hy']; exact (hok.stepz hd1 c9 c11).2, hq1, by rw [hqR, hx', hy']; exact List.append_cancel_left (hR.symm.trans (mntL_z hok hd1 c9 c11)), by simp only; omega, by simp only; omega, by simp only; omega, bx', by'⟩, ?_, by simp⟩
    refine le_ren (sl := [(1, Ob.row 2 1 (List.length (MSt.x (MSt.mk w x' y' i k (d - mtN x y i k d) (q + List.length (mtA x y i k d))))) (rwI (MSt.x (MSt.mk w x' y' i k (d - mtN x y i k d) (q + List.length (mtA x y i k d)))))), (2, Ob.row 2 1 (List.length (MSt.y (MSt.mk w x' y' i k (d - mtN x y i k d) (q + List.length (mtA x y i k d))))) (rwI (MSt.y (MSt.mk w x' y' i k (d - mtN x y i k d) (q + List.length (mtA x y i k d)))))), (3, Ob.row 31 3 (MSt.q (MSt.mk w x' y' i k (d - mtN x y i k d) (q + List.length (mtA x y i k d)))) (rwM L))]) [(1, 1), (2, 2), (3, 3)] (.cons kR (.cons kR (.cons kR (.cons kR (.cons kR (.cons kR .nil)))))) (.cons ⟨Ob.row 2 1 (List.length x') (rwI x'), kR, .row kR (fun _ _ => rfl)⟩ (.cons ⟨Ob.row 2 1 (List.length y') (rwI y'), kR, .row kR (fun _ _ => rfl)⟩ (.cons ⟨Ob.row 31 3 (q + List.length (mtA x y i k d)) (rwM L), kR, .row kR (fun _ _ => rfl)⟩ .nil))) kR kR
 ·
  have hd2 : ¬ 0 < d := by simpa using c4
  rw [mntL_end _ _ _ _ _ hd2] at hLq
  obtain rfl : q = L.length := by
   have := congrArg List.length hLq
   simp at this
   omega
  refine w_le (le_shut 12 3 (e := (31 : Nat)) (sz := (3 : Nat)) (n := List.length L) (n' := L.length) (row := rwM L) (row' := (fun j => (gmt L j).c)) kR kR (fun _ _ => rfl) ?_ ?_) ?_
  ·
   rfl
  ·
   exact fun _ _ => rfl
  refine aw_exit ?_
  refine xt_x ?_; refine xt_x ?_
  refine xb_same ?_
  refine xt_n ?_; clear hK K; refine hK _ ?_; clear hK K; refine sK fun K hK => wR 3 ?_; refine aX hTT 3 [] tI ?_; refine nK hK ?_; clear hK K
  refine aw_ret ?_
  rw [← hL]
  refine rP (V.tup [V.sl 3 (List.length L) fun (j : Nat) => Mt.c (gmt L j), V.i 0])
set_option maxRecDepth 100000 in
theorem pMounts_ac (x y : List Int) (d : Int) (hx : St8 x) (hy : St8 y) (hd : 0 ≤ d ∧ d ≤ 50) : AC Tryz.prog 4 [V.ints x, V.ints y, .i d] (mtV x y d) [] := by
 have lx := hx.len
 have ly := hy.len
 have gx := hx.sum x.length (Nat.le_refl _)
 have gy := hy.sum y.length (Nat.le_refl _)
 rw [List.take_length] at gx gy
 by_cases h0 : mtE x y d = 0
 ·
  obtain ⟨h1, h2⟩ := mtE_ok.1 h0
  rw [mtV, if_pos h0]
  by_cases h3 : 0 < d
  ·
   exact pMounts_loop x y d hx hy ⟨h3, hd.2⟩ h1 h2
  obtain rfl : d = 0 := by omega
  rw [mntL_end _ _ _ _ _ h3]
  refine acI hTT hMX Tryz.func4 Tryz.ntmps4 fun C hC hF => ?_
  refine sK fun K hK => wR 2 ?_; refine aX hTT 2 [] tI ?_; refine nK hK ?_; clear hK K; refine sK fun K hK => ?_; refine sK fun K hK => wR 3 ?_; refine aX hTT 6 [] tI ?_; refine nK hK ?_; clear hK K
  refine w_cond (t := decide ((64 : Int) < max (↑(List.length x) : Int) (↑(List.length y) : Int))) kR (fun c1 => ?_) (fun c1 => ?_)
  ·
   simp at c1
   omega
  refine aw_skip ?_
  refine xt_n (hK _ ?_); clear hK K; refine sK fun K hK => wR 4 ?_; refine aX hTT 1 [] tI ?_
  refine eC (psum_ac x hx) ?_
  refine aX hTT 5 [] tI ?_; refine nK hK ?_; clear hK K; refine sK fun K hK => wR 5 ?_; refine aX hTT 1 [] tI ?_
  refine eC (psum_ac y hy) ?_
  refine aX hTT 5 [] tI ?_; refine nK hK ?_; clear hK K; refine sK fun K hK => ?_
  refine aw_block ?_
  refine sK fun K hK => wR 6 ?_; refine aX hTT 7 [(3, .c (gA (false == false) True)), (4, .c (gB (false == false) True)), (5, .c (True ∧ (false = false → (false == false) = true)))] ⟨⟨⟨tI, tI⟩, (fun _ => tI)⟩, ⟨⟨(by (exact fun h => h)), tI⟩, (fun _ => tI)⟩, ⟨tI, (by (intro h; rw [h]; rfl))⟩, tI⟩ ?_; refine nK hK ?_; clear hK K; refine w_false (t := false) kR rfl ?_; refine sK fun K hK => wR 7 ?_; refine aX hTT 1 [] tI ?_
  refine eC (outside_ac 0 0 1073741824) ?_
  refine aX hTT 1 [] tI ?_; refine nK hK ?_; clear hK K; refine w_false (t := false) kR rfl ?_; refine sK fun K hK => wR 8 ?_; refine aX hTT 6 [] tI ?_; refine nK hK ?_; clear hK K
  refine w_cond (t := decide (min (List.sum x) (List.sum y) < 0)) kR (fun c3 => ?_) (fun c3 => ?_)
  ·
   simp at c3
   omega
  refine aw_skip ?_
  refine xb_n ?_; refine xt_n (hK _ ?_); clear hK K; refine sK fun K hK => wR 9 ?_; refine aX hTT 1 [] tI ?_
  refine eC (CloneN_ac x oM) ?_
  refine aX hTT 1 [] tI ?_
  refine eC (CloneN_ac y oM) ?_
  refine aX hTT 2 [] tI ?_; refine nK hK ?_; clear hK K; refine sK fun K hK => wR 10 ?_; refine aX hTT 1 [] tI ?_; refine nK hK ?_; clear hK K; refine sK fun K hK => ?_; refine sK fun K hK => wR 11 ?_; refine aX hTT 2 [] tI ?_; refine nK hK ?_; clear hK K
  refine aw_block ?_
  refine w_le (le_nil 12 (sz := 3) 0 (fun k => (gmt [] k).c) kR ?_) ?_
  ·
   rfl
  refine w_loop (ι := Unit) (fun _ => [(2, .i 0), (12, V.mts [])]) (fun _ => []) (fun _ => True) (fun _ => 0) () trivial ?_ ?_
  ·
   refine le_ren [] (.cons kR (.cons kR .nil)) .nil kR kR
  intro _ _
  refine sK fun K hK => ?_; refine sK fun K hK => wR 2 ?_; refine aX hTT 2 [] tI ?_; refine nK hK ?_; clear hK K; refine w_false (t := false) kR rfl ?_
  refine aw_exit ?_
  refine xt_x ?_; refine xt_x ?_
  refine xb_same ?_
  refine xt_n ?_; clear hK K; refine hK _ ?_; clear hK K; refine sK fun K hK => wR 3 ?_; refine aX hTT 3 [] tI ?_; refine nK hK ?_; clear hK K
  refine aw_ret ?_
  refine rP (V.tup [V.sl 3 0 fun (k : Nat) => Mt.c (gmt [] k), V.i 0])
 ·
  have h1 : x.sum < d ∨ y.sum < d := by
   by_cases h2 : x.sum < d
   ·
    exact .inl h2
   ·
    by_cases h3 : y.sum < d
    ·
     exact .inr h3
    ·
     exact absurd (mtE_ok.2 ⟨by omega, by omega⟩) h0
  rw [mtV, if_neg h0]
  refine acI hTT hMX Tryz.func4 Tryz.ntmps4 fun C hC hF => ?_
  refine sK fun K hK => wR 2 ?_; refine aX hTT 2 [] tI ?_; refine nK hK ?_; clear hK K; refine sK fun K hK => ?_; refine sK fun K hK => wR 3 ?_; refine aX hTT 6 [] tI ?_; refine nK hK ?_; clear hK K
  refine w_cond (t := decide ((64 : Int) < max (↑(List.length x) : Int) (↑(List.length y) : Int))) kR (fun c1 => ?_) (fun c1 => ?_)
  ·
   simp at c1
   omega
  refine aw_skip ?_
  refine xt_n (hK _ ?_); clear hK K; refine sK fun K hK => wR 4 ?_; refine aX hTT 1 [] tI ?_
  refine eC (psum_ac x hx) ?_
  refine aX hTT 5 [] tI ?_; refine nK hK ?_; clear hK K; refine sK fun K hK => wR 5 ?_; refine aX hTT 1 [] tI ?_
  refine eC (psum_ac y hy) ?_
  refine aX hTT 5 [] tI ?_; refine nK hK ?_; clear hK K; refine sK fun K hK => ?_
  refine aw_block ?_
  refine sK fun K hK => wR 6 ?_; refine aX hTT 7 [(3, .c (gA (false == false) True)), (4, .c (gB (false == false) True)), (5, .c (True ∧ (false = false → (false == false) = true)))] ⟨⟨⟨tI, tI⟩, (fun _ => tI)⟩, ⟨⟨(by (exact fun h => h)), tI⟩, (fun _ => tI)⟩, ⟨tI, (by (intro h; rw [h]; rfl))⟩, tI⟩ ?_; refine nK hK ?_; clear hK K; refine w_false (t := false) kR rfl ?_; refine sK fun K hK => wR 7 ?_; refine aX hTT 1 [] tI ?_
  refine eC (outside_ac d 0 1073741824) ?_
  refine aX hTT 1 [] tI ?_; refine nK hK ?_; clear hK K
  refine w_cond (t := decide (d < 0) || decide ((1073741824 : Int) < d)) kR (fun c2 => ?_) (fun c2 => ?_)
  ·
   simp at c2
   omega
  refine sK fun K hK => wR 8 ?_; refine aX hTT 6 [] tI ?_; refine nK hK ?_; clear hK K
  refine w_cond (t := decide (min (List.sum x) (List.sum y) < d)) kR (fun c3 => ?_) (fun c3 => ?_)
  ·
   refine sK fun K hK => ?_
   refine wR 9 ?_; refine aX hTT 2 [] tI ?_; refine nK hK ?_; clear hK K
   refine aw_ret ?_
   refine xb_r ?_
   refine xt_r ?_
   refine rP (V.tup [V.nil, V.i 15])
  ·
   simp at c3
   omega
end Go.Proofs.YtofjmklmnlcekaaGreatDoor

namespace Go.Proofs.YtofjmklmnlcekaaGreatDoor
open Go.Ab Go.RowKit Go.Dw Go.Shelf
abbrev yyMW40 (x0 : List Int) : Ob := Ob.row 2 1 ((0 : Nat) + List.length x0) (appRow (0 : Nat) (fun (i : Nat) => List.take (1 : Nat) (List.drop (i * 1) (repV (0 : Nat) [V.c (Value.int IntKind.i64 0)]))) fun (k : Nat) => [V.i (gi x0 k)])
abbrev yyMW41 (y0 : List Int) : Ob := Ob.row 2 1 ((0 : Nat) + List.length y0) (appRow (0 : Nat) (fun (i : Nat) => List.take (1 : Nat) (List.drop (i * 1) (repV (0 : Nat) [V.c (Value.int IntKind.i64 0)]))) fun (k : Nat) => [V.i (gi y0 k)])
abbrev yyMW42 : Ob := Ob.row 2 1 0 fun (i : Nat) => List.take (1 : Nat) (List.drop (i * 1) (repV (0 : Nat) [V.c (Value.int IntKind.i64 0)]))
set_option maxRecDepth 100000 in
theorem rMounts_loop (x0 y0 : List Int) (d0 : Int) (hx : St8 x0) (hy : St8 y0) (hd : 0 ≤ d0 ∧ d0 ≤ 50) : AC Tryz.prog 5 [V.ints x0, V.ints y0, .i d0] (rmtV x0 y0 d0) [] := by
 have lx := hx.len
 have ly := hy.len
 have gx := hx.sum x0.length (Nat.le_refl _)
 have gy := hy.sum y0.length (Nat.le_refl _)
 rw [List.take_length] at gx gy
 refine acI hTT hMX Tryz.func5 Tryz.ntmps5 fun C hC hF => ?_
 refine sK fun K hK => wR 2 ?_; refine aX hTT 2 [] tI ?_; refine nK hK ?_; clear hK K; refine sK fun K hK => ?_; refine sK fun K hK => wR 3 ?_; refine aX hTT 8 [(4, .c (gA (decide ((64 : Int) < (↑(List.length x0) : Int)) == false) True)), (5, .c (gB (decide ((64 : Int) < (↑(List.length x0) : Int)) == false) True)), (6, .c (gD (decide ((64 : Int) < (↑(List.length x0) : Int)) == false) True)), (7, .c (True ∧ (decide ((64 : Int) < (↑(List.length x0) : Int)) = false → (decide ((64 : Int) < (↑(List.length x0) : Int)) == false) = true)))] ⟨⟨⟨tI, tI⟩, (fun _ => tI)⟩, ⟨⟨(by (exact fun h => h)), tI⟩, (fun _ => tI)⟩, ⟨⟨(by (exact fun h => h)), ⟨tI, tI⟩⟩, (fun _ => tI)⟩, ⟨tI, (by (intro h; rw [h]; rfl))⟩, tI⟩ ?_; refine nK hK ?_; clear hK K
 refine w_cond (t := decide ((64 : Int) < (↑(List.length x0) : Int)) || decide ((64 : Int) < (↑(List.length y0) : Int))) kR (fun c1 => ?_) (fun c1 => ?_)
 ·
  simp at c1
  omega
 refine aw_skip ?_
 refine xt_n (hK _ ?_); clear hK K; refine sK fun K hK => wR 4 ?_; refine aX hTT 2 [] tI ?_; refine nK hK ?_; clear hK K; refine sK fun K hK => ?_; refine sK fun K hK => wR 5 ?_; refine aX hTT 1 [] tI ?_; refine nK hK ?_; clear hK K
 refine aw_block ?_
 refine w_loop (ι := Nat) (fun k => [(0, V.ints x0), (1, V.ints y0), (2, .i d0), (8, .i (x0.take k).sum), (9, .i 0), (10, .i k)]) (fun _ => []) (fun k => k ≤ x0.length) (fun k => x0.length - k) 0 (Nat.zero_le _) ?_ ?_
 ·
  refine le_ren [] (.cons kR (.cons kR (.cons kR (.cons kR (.cons kR (.cons kR .nil)))))) .nil kR kR
 intro k hk
 have h1 := hx.sum k hk
 refine sK fun K hK => ?_; refine sK fun K hK => wR 2 ?_; refine aX hTT 4 [] tI ?_; refine nK hK ?_; clear hK K
 refine w_cond (t := decide ((↑k : Int) < (↑(List.length x0) : Int))) kR (fun c2 => ?_) (fun c2 => ?_)
 ·
  have hk1 : k < x0.length := by simp at c2; omega
  have h2 := hx.at hk1
  refine aw_skip ?_
  refine xt_n (hK _ ?_); clear hK K; refine sK fun K hK => ?_
  refine aw_block ?_
  refine sK fun K hK => ?_; refine sK fun K hK => wR 3 ?_; refine aX hTT 4 [(2, .c ((0 : Int) ≤ (↑k : Int) ∧ (↑k : Int) < (↑(List.length x0) : Int)))] ⟨oM, tI⟩ ?_
  refine eC (within8_ac (gi x0 k) 0 65536) ?_
  refine aX hTT 1 [] tI ?_; refine nK hK ?_; clear hK K
  refine w_cond (t := !(decide ((0 : Int) ≤ gi x0 k) && decide (gi x0 k ≤ 65536))) kR (fun c3 => ?_) (fun c3 => ?_)
  ·
   simp at c3
   omega
  refine aw_skip ?_
  refine xt_n (hK _ ?_); clear hK K; refine wR 4 ?_; refine aX hTT 7 [(3, .c ((0 : Int) ≤ (↑k : Int) ∧ (↑k : Int) < (↑(List.length x0) : Int))), (5, .i (List.sum (List.take k x0) + gi x0 k))] ⟨oM, oM, tI⟩ ?_; refine aops_nil ?_; refine xb_n ?_; refine xt_n (hK _ ?_); clear hK K; refine wR 5 ?_; refine aX hTT 3 [(1, .i ((↑k : Int) + 1))] ⟨oM, tI⟩ ?_; refine aops_nil ?_; refine xt_n ?_
  refine ⟨k + 1, by omega, ?_, by omega⟩
  rw [sum_take hk1]
  refine le_ren [] (.cons kR (.cons kR (.cons kR (.cons kR (.cons kR (.cons kR .nil)))))) .nil kR kR
 obtain rfl : k = x0.length := by simp at c2; omega
 rw [List.take_length]
 refine aw_exit ?_
 refine xt_x ?_; refine xt_x ?_
 refine xb_same ?_
 refine xt_n ?_; clear hK K; refine hK _ ?_; clear hK K; refine sK fun K hK => ?_; refine sK fun K hK => wR 3 ?_; refine aX hTT 1 [] tI ?_; refine nK hK ?_; clear hK K
 refine aw_block ?_
 refine w_loop (ι := Nat) (fun k => [(0, V.ints x0), (1, V.ints y0), (2, .i d0), (8, .i x0.sum), (9, .i (y0.take k).sum), (11, .i k)]) (fun _ => []) (fun k => k ≤ y0.length) (fun k => y0.length - k) 0 (Nat.zero_le _) ?_ ?_
 ·
  refine le_ren [] (.cons kR (.cons kR (.cons kR (.cons kR (.cons kR (.cons kR .nil)))))) .nil kR kR
 intro k hk
 have h1 := hy.sum k hk
 refine sK fun K hK => ?_; refine sK fun K hK => wR 2 ?_; refine aX hTT 4 [] tI ?_; refine nK hK ?_; clear hK K
 refine w_cond (t := decide ((↑k : Int) < (↑(List.length y0) : Int))) kR (fun c3 => ?_) (fun c3 => ?_)
 ·
  have hk1 : k < y0.length := by simp at c3; omega
  have h2 := hy.at hk1
  refine aw_skip ?_
  refine xt_n (hK _ ?_); clear hK K; refine sK fun K hK => ?_
  refine aw_block ?_
  refine sK fun K hK => ?_; refine sK fun K hK => wR 3 ?_; refine aX hTT 4 [(2, .c ((0 : Int) ≤ (↑k : Int) ∧ (↑k : Int) < (↑(List.length y0) : Int)))] ⟨oM, tI⟩ ?_
  refine eC (within8_ac (gi y0 k) 0 65536) ?_
  refine aX hTT 1 [] tI ?_; refine nK hK ?_; clear hK K
  refine w_cond (t := !(decide ((0 : Int) ≤ gi y0 k) && decide (gi y0 k ≤ 65536))) kR (fun c4 => ?_) (fun c4 => ?_)
  ·
   simp at c4
   omega
  refine aw_skip ?_
  refine xt_n (hK _ ?_); clear hK K; refine wR 4 ?_; refine aX hTT 7 [(3, .c ((0 : Int) ≤ (↑k : Int) ∧ (↑k : Int) < (↑(List.length y0) : Int))), (5, .i (List.sum (List.take k y0) + gi y0 k))] ⟨oM, oM, tI⟩ ?_; refine aops_nil ?_; refine xb_n ?_; refine xt_n (hK _ ?_); clear hK K; refine wR 5 ?_; refine aX hTT 3 [(1, .i ((↑k : Int) + 1))] ⟨oM, tI⟩ ?_; refine aops_nil ?_; refine xt_n ?_
  refine ⟨k + 1, by omega, ?_, by omega⟩
  rw [sum_take hk1]
  refine le_ren [] (.cons kR (.cons kR (.cons kR (.cons kR (.cons kR (.cons kR .nil)))))) .nil kR kR
 obtain rfl : k = y0.length := by simp at c3; omega
 rw [List.take_length]
 refine aw_exit ?_
 refine xt_x ?_; refine xt_x ?_
 refine xb_same ?_
 refine xt_n ?_; clear hK K; refine hK _ ?_; clear hK K; refine sK fun K hK => ?_; refine sK fun K hK => wR 3 ?_; refine aX hTT 1 [] tI ?_
 refine eC (within8_ac d0 0 1073741824) ?_
 refine aX hTT 1 [] tI ?_; refine nK hK ?_; clear hK K
 refine w_cond (t := !(decide ((0 : Int) ≤ d0) && decide (d0 ≤ 1073741824))) kR (fun c4 => ?_) (fun c4 => ?_)
 ·
  simp at c4
  omega
 refine aw_skip ?_
 refine xt_n (hK _ ?_); clear hK K; refine sK fun K hK => ?_; refine sK fun K hK => wR 4 ?_; refine aX hTT 8 [(4, .c (gA (decide (List.sum x0 < d0) == false) True)), (5, .c (gA (decide (List.sum x0 < d0) == false) True)), (6, .c (gC (decide (List.sum x0 < d0) == false) True)), (7, .c (True ∧ (decide (List.sum x0 < d0) = false → (decide (List.sum x0 < d0) == false) = true)))] ⟨⟨⟨tI, tI⟩, (fun _ => tI)⟩, ⟨⟨tI, tI⟩, (fun _ => tI)⟩, ⟨⟨(by (exact fun h => h)), ⟨(by (exact fun h => h)), tI⟩⟩, (fun _ => tI)⟩, ⟨tI, (by (intro h; rw [h]; rfl))⟩, tI⟩ ?_; refine nK hK ?_; clear hK K
 refine w_cond (t := decide (List.sum x0 < d0) || decide (List.sum y0 < d0)) kR (fun c5 => ?_) (fun c5 => ?_)
 ·
  have h0 : ¬ mtE x0 y0 d0 = 0 := fun h => by
   have := mtE_ok.1 h
   simp at c5
   omega
  rw [rmtV, if_neg h0]
  refine sK fun K hK => wR 5 ?_; refine aX hTT 2 [] tI ?_; refine nK hK ?_; clear hK K
  refine aw_ret ?_
  refine xt_r ?_
  refine rP (V.tup [V.nil, V.i 15])
 have h0 : mtE x0 y0 d0 = 0 := mtE_ok.2 (by simp at c5; omega)
 obtain ⟨e1, e2⟩ := mtE_ok.1 h0
 refine aw_skip ?_
 refine xt_n (hK _ ?_); clear hK K; refine sK fun K hK => wR 5 ?_
 refine aops_x (M := [73, 76]) hTT 8 [(0, .r (pn 73 (V.own 400073) (400073 : Nat) (yyMW42))), (2, .r (PR.mk (some (75 : Nat)) (some ((0 : Nat) + List.length x0 ≤ 1099511627776)) (V.own 400075) [((400073 : Nat), none), ((400075 : Nat), some ((yyMW40 x0)))] false)), (3, .r (pn 76 (V.own 400076) (400076 : Nat) (yyMW42))), (5, .r (PR.mk (some (78 : Nat)) (some ((0 : Nat) + List.length y0 ≤ 1099511627776)) (V.own 400078) [((400076 : Nat), none), ((400078 : Nat), some ((yyMW41 y0)))] false))] ⟨oM, oM, tI⟩ ?_
 refine nK hK ?_; clear hK K; refine sK fun K hK => wR 6 ?_
 refine aops_x (M := [73, 76]) hTT 1 [] tI ?_
 refine nK hK ?_; clear hK K; refine sK fun K hK => wR 7 ?_
 refine aops_x (M := [73, 76]) hTT 2 [] tI ?_
 refine nK hK ?_; clear hK K; refine sK fun K hK => ?_
 refine aw_block ?_
 obtain ⟨L, hL⟩ : ∃ L, L = rmtL (x0.length + y0.length + d0.toNat) x0 y0 0 0 d0 := ⟨_, rfl⟩
 have hL99 : L.length ≤ 99 := by
  have := rmtL_len (x0.length + y0.length + d0.toNat) x0 y0 0 0 d0
  rw [← hL] at this
  omega
 refine w_le (le_open 14 31 3 (rwM L) kR rfl) ?_
 refine w_loop (ι := MSt) (fun z => [(12, .own 1), (13, .own 2), (2, .i z.d), (14, .own 3), (15, .i z.i), (16, .i z.k)])
  (fun z => [(1, .row 2 1 z.x.length (rwI z.x)), (2, .row 2 1 z.y.length (rwI z.y)), (3, .row 31 3 z.q (rwM L))])
  (fun z => RMok z.u z.x z.y z.i z.k z.d ∧ z.q ≤ L.length ∧ L.drop z.q = rmtL z.u z.x z.y z.i z.k z.d ∧ z.x.length ≤ 8 ∧ z.y.length ≤ 8 ∧ z.d ≤ 50 ∧ (∀ v ∈ z.x, v ≤ 20) ∧ (∀ v ∈ z.y, v ≤ 20)) (fun z => z.u) ⟨x0.length + y0.length + d0.toNat, x0, y0, 0, 0, d0, 0⟩
  ⟨⟨hx.nn, hy.nn, hd.1, by simpa [sumF] using e1, by simpa [sumF] using e2, by simp⟩, Nat.zero_le _, by simp [hL], lx, ly, hd.2, fun v hv => (hx.bd v hv).2, fun v hv => (hy.bd v hv).2⟩ ?_ ?_
 ·
  show Le _ ⟨mkT [(12, .own 1), (13, .own 2), (2, .i d0), (14, .own 3), (15, .i 0), (16, .i 0)], mkS [(1, .row 2 1 x0.length (rwI x0)), (2, .row 2 1 y0.length (rwI y0)), (3, .row 31 3 0 (rwM L))], 1⟩
  refine le_ren (sl := [(1, Ob.row 2 1 (List.length x0) (rwI x0)), (2, Ob.row 2 1 (List.length y0) (rwI y0)), (3, Ob.row 31 3 0 (rwM L))]) [(1, 400075), (2, 400078), (3, 700014)] (.cons kR (.cons kR (.cons kR (.cons kR (.cons kR (.cons kR .nil)))))) (.cons ⟨(yyMW40 x0), kR, .row oM (fun _ _ => rfl)⟩ (.cons ⟨(yyMW41 y0), kR, .row oM (fun _ _ => rfl)⟩ (.cons ⟨Ob.row 31 3 0 (rwM L), kR, .row kR (fun _ _ => rfl)⟩ .nil))) kR kR
 rintro ⟨u, x, y, i, k, d, q⟩ ⟨hok, hq, hLq, hx8, hy8, hd50, hx20, hy20⟩
 simp only at hok hq hLq hx8 hy8 hd50 hx20 hy20 ⊢
 refine sK fun K hK => ?_; refine sK fun K hK => wR 2 ?_; refine aX hTT 2 [] tI ?_; refine nK hK ?_; clear hK K
 refine w_cond (t := decide ((0 : Int) < d)) kR (fun c6 => ?_) (fun c6 => ?_)
 ·
  have hd1 : 0 < d := by simpa using c6
  have hi := hok.ix hd1
  have hk := hok.iy hd1
  obtain ⟨w, rfl⟩ := hok.pos hd1
  have gxi := hx20 _ (gi_memM hi)
  have gyk := hy20 _ (gi_memM hk)
  have gxi0 := hok.nx _ (gi_memM hi)
  have gyk0 := hok.ny _ (gi_memM hk)
  refine aw_skip ?_
  refine xt_n (hK _ ?_); clear hK K
  refine aw_block ?_
  refine sK fun K hK => ?_; refine sK fun K hK => wR 3 ?_; refine aX hTT 5 [(2, .c ((0 : Int) ≤ (↑i : Int) ∧ (↑i : Int) < (↑(List.length x) : Int))), (3, .c (i < List.length x ∧ (0 : Nat) ≤ (1 : Nat)))] ⟨oM, oM, tI⟩ ?_; refine nK hK ?_; clear hK K
  refine w_cond (t := decide (gi x i = 0)) kR (fun c7 => ?_) (fun c7 => ?_)
  ·
   have h7 : gi x i = 0 := by simpa using c7
   rw [rmtL_x hd1 h7] at hLq
   refine sK fun K hK => wR 4 ?_; refine aX hTT 3 [(1, .i ((↑i : Int) + 1))] ⟨oM, tI⟩ ?_; refine nK hK ?_; clear hK K
   refine aw_exit ?_
   refine xt_x ?_
   refine xb_same ?_
   refine xt_n ?_
   refine ⟨⟨w, x, y, i + 1, k, d, q⟩, ⟨hok.stepx hd1 h7, hq, hLq, hx8, hy8, hd50, hx20, hy20⟩, ?_, by simp⟩
   refine le_ren (sl := [(1, Ob.row 2 1 (List.length (MSt.x (MSt.mk w x y (i + 1) k d q))) (rwI (MSt.x (MSt.mk w x y (i + 1) k d q)))), (2, Ob.row 2 1 (List.length (MSt.y (MSt.mk w x y (i + 1) k d q))) (rwI (MSt.y (MSt.mk w x y (i + 1) k d q)))), (3, Ob.row 31 3 (MSt.q (MSt.mk w x y (i + 1) k d q)) (rwM L))]) [(1, 1), (2, 2), (3, 3)] (.cons kR (.cons kR (.cons kR (.cons kR (.cons kR (.cons kR .nil)))))) (.cons ⟨Ob.row 2 1 (List.length x) (rwI x), kR, .row kR (fun _ _ => rfl)⟩ (.cons ⟨Ob.row 2 1 (List.length y) (rwI y), kR, .row kR (fun _ _ => rfl)⟩ (.cons ⟨Ob.row 31 3 q (rwM L), kR, .row kR (fun _ _ => rfl)⟩ .nil))) kR kR
  have h7 : ¬ gi x i = 0 := by simpa using c7
  refine aw_skip ?_
  refine xt_n (hK _ ?_); clear hK K; refine sK fun K hK => ?_; refine sK fun K hK => wR 4 ?_; refine aX hTT 5 [(2, .c ((0 : Int) ≤ (↑k : Int) ∧ (↑k : Int) < (↑(List.length y) : Int))), (3, .c (k < List.length y ∧ (0 : Nat) ≤ (1 : Nat)))] ⟨oM, oM, tI⟩ ?_; refine nK hK ?_; clear hK K
  refine w_cond (t := decide (gi y k = 0)) kR (fun c8 => ?_) (fun c8 => ?_)
  ·
   have h8 : gi y k = 0 := by simpa using c8
   rw [rmtL_y hd1 h7 h8] at hLq
   refine sK fun K hK => wR 5 ?_; refine aX hTT 3 [(1, .i ((↑k : Int) + 1))] ⟨oM, tI⟩ ?_; refine nK hK ?_; clear hK K
   refine aw_exit ?_
   refine xt_x ?_
   refine xb_same ?_
   refine xt_n ?_
   refine ⟨⟨w, x, y, i, k + 1, d, q⟩, ⟨hok.stepy hd1 h8, hq, hLq, hx8, hy8, hd50, hx20, hy20⟩, ?_, by simp⟩
   refine le_ren (sl := [(1, Ob.row 2 1 (List.length (MSt.x (MSt.mk w x y i (k + 1) d q))) (rwI (MSt.x (MSt.mk w x y i (k + 1) d q)))), (2, Ob.row 2 1 (List.length (MSt.y (MSt.mk w x y i (k + 1) d q))) (rwI (MSt.y (MSt.mk w x y i (k + 1) d q)))), (3, Ob.row 31 3 (MSt.q (MSt.mk w x y i (k + 1) d q)) (rwM L))]) [(1, 1), (2, 2), (3, 3)] (.cons kR (.cons kR (.cons kR (.cons kR (.cons kR (.cons kR .nil)))))) (.cons ⟨Ob.row 2 1 (List.length x) (rwI x), kR, .row kR (fun _ _ => rfl)⟩ (.cons ⟨Ob.row 2 1 (List.length y) (rwI y), kR, .row kR (fun _ _ => rfl)⟩ (.cons ⟨Ob.row 31 3 q (rwM L), kR, .row kR (fun _ _ => rfl)⟩ .nil))) kR kR
  have h8 : ¬ gi y k = 0 := by simpa using c8
  obtain ⟨n0, n1, n2, n3⟩ := hok.nn hd1 h7 h8
  rw [rmtL_z hd1 h7 h8] at hLq
  obtain ⟨g1, g2, g3⟩ := gmt_at hLq
  obtain ⟨x', hx'⟩ : ∃ x', x' = x.set i (gi x i - mtN x y i k d) := ⟨_, rfl⟩
  obtain ⟨y', hy'⟩ : ∃ y', y' = y.set k (gi y k - mtN x y i k d) := ⟨_, rfl⟩
  have lx' : x'.length = x.length := by rw [hx', List.length_set]
  have ly' : y'.length = y.length := by rw [hy', List.length_set]
  have bx' : ∀ v ∈ x', v ≤ 20 := fun v hv => by
   rw [hx'] at hv
   rcases List.mem_or_eq_of_mem_set hv with h | h
   ·
    exact hx20 v h
   ·
    omega
  have by' : ∀ v ∈ y', v ≤ 20 := fun v hv => by
   rw [hy'] at hv
   rcases List.mem_or_eq_of_mem_set hv with h | h
   ·
    exact hy20 v h
   ·
    omega
  refine aw_skip ?_
  refine xt_n (hK _ ?_); clear hK K; refine sK fun K hK => wD 5 ?_; refine aX hTT 9 [(2, .c ((0 : Int) ≤ (↑i : Int) ∧ (↑i : Int) < (↑(List.length x) : Int))), (3, .c (i < List.length x ∧ (0 : Nat) ≤ (1 : Nat))), (6, .c ((0 : Int) ≤ (↑k : Int) ∧ (↑k : Int) < (↑(List.length y) : Int))), (7, .c (k < List.length y ∧ (0 : Nat) ≤ (1 : Nat)))] ⟨oM, oM, oM, oM, tI⟩ ?_
  refine aops_pure rfl (ap_min3 _ (.tmp 98) (.tmp 102) (.tmp 103) (k := .i64) (a := gi x i) (b := gi y k) (c := d) rfl rfl rfl) ?_
  have n4 : min (min (gi x i) (gi y k)) d = mtN x y i k d := rfl
  rw [n4]
  refine aX hTT 1 [] tI ?_; refine aops_nil ⟨kR, ?_⟩; refine xt_n (hK _ ?_); clear hK K; refine sK fun K hK => wR 6 ?_; refine aX hTT 8 [(6, .r (PR.mk (some (111 : Nat)) (some (q + 1 ≤ (1099511627776 : Nat))) (V.own 500111) [((3 : Nat), none), ((500111 : Nat), some (Ob.row 31 3 (q + 1) (appRow q (rwM L) fun (i_1 : Nat) => List.take (3 : Nat) (List.drop (i_1 * 3) [V.i (↑i : Int), V.i (↑k : Int), V.i (mtN x y i k d)]))))] false))] ⟨oM, tI⟩ ?_; refine nK hK ?_; clear hK K; refine sK fun K hK => wR 7 ?_; refine aX hTT 10 [(4, .c ((0 : Int) ≤ (↑i : Int) ∧ (↑i : Int) < (↑(List.length x) : Int))), (5, .c (i < List.length x ∧ (0 : Nat) ≤ (1 : Nat))), (7, .i (gi x i - mtN x y i k d)), (8, .c ((0 : Int) ≤ (↑i : Int) ∧ (↑i : Int) < (↑(List.length x) : Int))), (9, .r (pw (i < List.length x ∧ (0 : Nat) + (1 : Nat) ≤ (1 : Nat)) (1 : Nat) (Ob.row 2 1 (List.length x) fun (j : Nat) => if j = i then [V.i (gi x i - mtN x y i k d)] else rwI x j)))] ⟨oM, oM, oM, oM, oM, tI⟩ ?_; refine nK hK ?_; clear hK K; refine sK fun K hK => wR 8 ?_; refine aX hTT 10 [(4, .c ((0 : Int) ≤ (↑k : Int) ∧ (↑k : Int) < (↑(List.length y) : Int))), (5, .c (k < List.length y ∧ (0 : Nat) ≤ (1 : Nat))), (7, .i (gi y k - mtN x y i k d)), (8, .c ((0 : Int) ≤ (↑k : Int) ∧ (↑k : Int) < (↑(List.length y) : Int))), (9, .r (pw (k < List.length y ∧ (0 : Nat) + (1 : Nat) ≤ (1 : Nat)) (2 : Nat) (Ob.row 2 1 (List.length y) fun (j : Nat) => if j = k then [V.i (gi y k - mtN x y i k d)] else rwI y j)))] ⟨oM, oM, oM, oM, oM, tI⟩ ?_; refine nK hK ?_; clear hK K; refine wR 9 ?_; refine aX hTT 4 [(2, .i (d - mtN x y i k d))] ⟨oM, tI⟩ ?_; refine aops_nil ?_; refine xb_n ?_; refine xt_n ?_
  refine ⟨⟨w, x', y', i, k, d - mtN x y i k d, q + 1⟩, ⟨by rw [hx', hy']; exact hok.stepz hd1 h7 h8, g1, by rw [hx', hy']; exact g3, by simp only; omega, by simp only; omega, by simp only; omega, bx', by'⟩, ?_, by simp⟩
  refine le_ren (tl := [(12, V.own 1), (13, V.own 2), (2, V.i (MSt.d (MSt.mk w x' y' i k (d - mtN x y i k d) (q + 1)))), (14, V.own 3), (15, V.i (↑(MSt.i (MSt.mk w x' y' i k (d - mtN x y i k d) (q + 1))) : Int)), (16, V.i (↑(MSt.k (MSt.mk w x' y' i k (d - mtN x y i k d) (q + 1))) : Int))]) (sl := [(1, Ob.row 2 1 (List.length (MSt.x (MSt.mk w x' y' i k (d - mtN x y i k d) (q + 1)))) (rwI (MSt.x (MSt.mk w x' y' i k (d - mtN x y i k d) (q + 1))))), (2, Ob.row 2 1 (List.length (MSt.y (MSt.mk w x' y' i k (d - mtN x y i k d) (q + 1)))) (rwI (MSt.y (MSt.mk w x' y' i k (d - mtN x y i k d) (q + 1))))), (3, Ob.row 31 3 (MSt.q (MSt.mk w x' y' i k (d - mtN x y i k d) (q + 1))) (rwM L))]) [(1, 1), (2, 2), (3, 500111)] (.cons kR (.cons kR (.cons kR (.cons kR (.cons kR (.cons kR .nil)))))) (.cons ⟨Ob.row 2 1 (List.length x) fun (j : Nat) => if j = i then [V.i (gi x i - mtN x y i k d)] else rwI x j, kR, .row ?_ ?_⟩ (.cons ⟨Ob.row 2 1 (List.length y) fun (j : Nat) => if j = k then [V.i (gi y k - mtN x y i k d)] else rwI y j, kR, .row ?_ ?_⟩ (.cons ⟨Ob.row 31 3 (q + 1) (appRow q (rwM L) fun (i_1 : Nat) => List.take (3 : Nat) (List.drop (i_1 * 3) [V.i (↑i : Int), V.i (↑k : Int), V.i (mtN x y i k d)])), kR, .row kR ?_⟩ .nil))) kR kR
  ·
   exact lx'.symm
  ·
   intro j hj
   simp only
   rw [rwI, rwI, hx', gi_upd _ _ _ _ hi]
   split <;> rfl
  ·
   exact ly'.symm
  ·
   intro j hj
   simp only
   rw [rwI, rwI, hy', gi_upd _ _ _ _ hk]
   split <;> rfl
  ·
   exact appRow_ok (fun _ _ => rfl) (by rw [rwM, g2]; rfl)
 ·
  have hd2 : ¬ 0 < d := by simpa using c6
  rw [rmtL_end _ _ _ _ _ hd2] at hLq
  obtain rfl : q = L.length := by
   have := congrArg List.length hLq
   simp at this
   omega
  refine w_le (le_shut 14 3 (e := (31 : Nat)) (sz := (3 : Nat)) (n := List.length L) (n' := L.length) (row := rwM L) (row' := (fun j => (gmt L j).c)) kR kR (fun _ _ => rfl) ?_ ?_) ?_
  ·
   rfl
  ·
   exact fun _ _ => rfl
  refine aw_exit ?_
  refine xt_x ?_; refine xt_x ?_
  refine xb_same ?_
  refine xt_n ?_; clear hK K; refine hK _ ?_; clear hK K; refine sK fun K hK => wR 3 ?_; refine aX hTT 3 [] tI ?_; refine nK hK ?_; clear hK K
  refine aw_ret ?_
  rw [rmtV, if_pos h0, ← hL]
  refine rP (V.tup [V.sl 3 (List.length L) fun (j : Nat) => Mt.c (gmt L j), V.i 0])
end Go.Proofs.YtofjmklmnlcekaaGreatDoor

namespace Go.Proofs.YtofjmklmnlcekaaGreatDoor
open Go.Ab Go.RowKit Go.Dw Go.Shelf
def evMu : List Nat := [116, 102, 87, 117, 103, 88, 112, 108, 127, 129, 999999, 999999, 999999, 999999, 999999, 999999, 999999, 999999, 999999, 999999, 999999, 999999, 999999, 999999]
def evM : ML := [(85, [21]), (109, [8]), (91, [24])]
def evLit (sz n : Nat) (cs : List V) : V := .sl sz n fun i => (cs.drop (i * sz)).take sz
def evR1 (l : List Int) : V := evLit 1 l.length (l.map V.i)
def evFl : List (Int × Int) → List V
  | [] => []
  | x :: l => .i x.1 :: .i x.2 :: evFl l
def evR2 (l : List (Int × Int)) : V := evLit 2 l.length (evFl l)
def evQ1 (l : List Int) : V := .sl 1 l.length (rowOf (l.map fun x => [.i x]))
def evQ2 (l : List (Int × Int)) : V := .sl 2 l.length (rowOf (l.map fun x => [.i x.1, .i x.2]))
theorem evIdf (l : List (List V)) (h : l.all V.idfL = true) (i : Nat) : V.idfL (rowOf l i) = true := rowOf_idf h i
def evCut : V := .agg [.i 400, .i 2000, .i 200, .i 2000, .i 1000, .i 1000, .i 100]
def evPt : List (Int × Int) := [(-400, 400), (-200, 600), (-400, 400)]
set_option maxRecDepth 100000 in
theorem ev_Cut0 : AM Tryz.prog 64 [evCut, evR2 [(0, 0), (100, 100), (0, 0)]] [] (.tup [.own 0, .i 0]) [] [.row 63 2 3 (rowOf [[.i (-400), .i 400], [.i (-200), .i 600], [.i (-400), .i 400]])] := cAM' hTT hMX evM evMu kR kR
theorem ev_Cut : AC Tryz.prog 64 [evCut, evR2 [(0, 0), (100, 100), (0, 0)]] (.tup [evQ2 evPt, .i 0]) [] := AC.shut1 (ev_Cut0.ac (by decide)) rfl (fun _ _ => rfl) (evIdf _ rfl) rfl rfl
set_option maxRecDepth 100000 in
theorem ev_L : AC Tryz.prog 65 [evCut, evQ2 evPt, .i 1000] (.tup [.i 31831, .i 0]) [] := AM.ac (cAM' hTT hMX evM evMu kR kR) (by decide)
set_option maxRecDepth 100000 in
theorem ev_Ap0 : AM Tryz.prog 66 [.agg [evR1 [64], evR1 [128], .i 256], evR1 [100, 0, 0, -3]] [] (.tup [.own 0, .i 0]) [] [.row 2 1 4 (rowOf [[.i 100], [.i 75], [.i 37], [.i 15]])] := cAM' hTT hMX evM evMu kR kR
theorem ev_Ap : AC Tryz.prog 66 [.agg [evR1 [64], evR1 [128], .i 256], evR1 [100, 0, 0, -3]] (.tup [evQ1 [100, 75, 37, 15], .i 0]) [] := AC.shut1 (ev_Ap0.ac (by decide)) rfl (fun _ _ => rfl) (evIdf _ rfl) rfl rfl
def evNa : ByteArray := ⟨#[97]⟩
def evTks : V := evLit 2 1 [.c (.string evNa), evR2 [(10, -10), (5, 0)]]
def evPrt : V := evLit 7 1 [.i 0, .i 0, .i 2, .i 0, .i 0, .i 0, .i 500]
set_option maxRecDepth 100000 in
theorem ev_Ren : AC Tryz.prog 67 [evTks, evPrt] (.tup [evQ2 [(5, -5), (2, 0)], .i 0]) [] := AM.ac (cAM' hTT hMX evM evMu kR kR) (by decide)
def evNf : ByteArray := ⟨#[102]⟩
def evFmt (l : List Int) : V := .agg (.c (.string evNf) :: l.map V.i)
set_option maxRecDepth 100000 in
theorem ev_Wid5 : AC Tryz.prog 46 [evFmt [1000, 400, 10, 0, 0, 0, 0], .agg [.i 95, .i 20, .i 0]] (.tup [.i 200, .i 0]) [] := AM.ac (cAM' hTT hMX evM evMu kR kR) (by decide)
end Go.Proofs.YtofjmklmnlcekaaGreatDoor

namespace Go.Proofs.YtofjmklmnlcekaaGreatDoor
open Go.Ab Go.RowKit Go.Dw Go.Shelf
def w3K : List (FuncId × List V × V) := [(64, [evCut, evR2 [(0, 0), (100, 100), (0, 0)]], .tup [evQ2 evPt, .i 0]), (65, [evCut, evQ2 evPt, .i 1000], .tup [.i 31831, .i 0]), (66, [.agg [evR1 [64], evR1 [128], .i 256], evR1 [100, 0, 0, -3]], .tup [evQ1 [100, 75, 37, 15], .i 0]), (67, [evTks, evPrt], .tup [evQ2 [(5, -5), (2, 0)], .i 0])]
theorem w3_ok : OrcOk2 Tryz.prog w3K := orc2_cons ev_Cut rfl rfl (orc2_cons ev_L rfl rfl (orc2_cons ev_Ap rfl rfl (orc2_cons ev_Ren rfl rfl orc2_nil)))
set_option maxRecDepth 100000 in
theorem works03_ac : AC Tryz.prog 47 [] (.b true) [] := AM.ac (cAMO (O := orc2 w3K) hTT hMX [] [] (fun _ => orc2_ok w3_ok) kR kR) (by decide)
end Go.Proofs.YtofjmklmnlcekaaGreatDoor

namespace Go.Proofs.YtofjmklmnlcekaaGreatDoor
open Go.Ab Go.RowKit Go.Dw Go.Shelf
end Go.Proofs.YtofjmklmnlcekaaGreatDoor

namespace Go.Proofs.YtofjmklmnlcekaaGreatDoor
open Go.Ab Go.RowKit Go.Dw Go.Shelf
end Go.Proofs.YtofjmklmnlcekaaGreatDoor
