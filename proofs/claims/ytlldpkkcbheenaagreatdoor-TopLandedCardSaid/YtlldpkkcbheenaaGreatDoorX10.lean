/-
  Several texts in one: The small examples of the layers up to 4, run by the machine. No condition. .. Arguments of the top's laws. No condition.
-/
import Derived.Test.YtlldpkkcbheenaaGreatDoorX04
import Derived.Test.YtlldpkkcbheenaaGreatDoorX01
import Derived.Test.YtlldpkkcbheenaaGreatDoorMC
import Derived.Test.YtlldpkkcbheenaaGreatDoorX09
import Derived.Test.YtlldpkkcbheenaaGreatDoorX03
import Derived.Test.YtlldpkkcbheenaaGreatDoorX08
import Derived.Test.YtlldpkkcbheenaaGreatDoorX05
import Derived.Test.YtlldpkkcbheenaaGreatDoorMD
import Derived.Test.YtlldpkkcbheenaaGreatDoorX06
namespace Go.Proofs.YtlldpkkcbheenaaGreatDoor
open Go.Ab Go.RowKit Go.Dw Go.Shelf
def evMu : List Nat := [163, 108, 81, 164, 130, 82, 147, 205, 213, 215, 220, 232, 241, 242, 243, 244, 245, 246, 247, 248, 256, 259, 260, 265]
def evM : ML := [(79, [21]), (206, [8]), (92, [24])]
def evLit (sz n : Nat) (cs : List V) : V := .sl sz n fun i => (cs.drop (i * sz)).take sz
def evR1 (l : List Int) : V := evLit 1 l.length (l.map V.i)
def evFl : List (Int × Int) → List V
  | [] => []
  | x :: l => .i x.1 :: .i x.2 :: evFl l
def evR2 (l : List (Int × Int)) : V := evLit 2 l.length (evFl l)
def evQ1 (l : List Int) : V := .sl 1 l.length (rowOf (l.map fun x => [.i x]))
def evQ2 (l : List (Int × Int)) : V := .sl 2 l.length (rowOf (l.map fun x => [.i x.1, .i x.2]))
theorem evIdf (l : List (List V)) (h : l.all V.idfL = true) (i : Nat) : V.idfL (rowOf l i) = true := rowOf_idf h i
def evCut : V := .agg [.i 400, .i 2000, .i 200, .i 2000, .i 1000, .i 1000, .i 100]
def evPt : List (Int × Int) := [(-400, 400), (-200, 600), (-400, 400)]
set_option maxRecDepth 100000 in
theorem ev_Cut0 : AM Tryz.prog 23 [evCut, evR2 [(0, 0), (100, 100), (0, 0)]] [] (.tup [.own 0, .i 0]) [] [.row 35 2 3 (rowOf [[.i (-400), .i 400], [.i (-200), .i 600], [.i (-400), .i 400]])] := cAM' hTT hMX evM evMu kR kR
theorem ev_Cut : AC Tryz.prog 23 [evCut, evR2 [(0, 0), (100, 100), (0, 0)]] (.tup [evQ2 evPt, .i 0]) [] := AC.shut1 (ev_Cut0.ac (by decide)) rfl (fun _ _ => rfl) (evIdf _ rfl) rfl rfl
set_option maxRecDepth 100000 in
theorem ev_L : AC Tryz.prog 29 [evCut, evQ2 evPt, .i 1000] (.tup [.i 31831, .i 0]) [] := AM.ac (cAM' hTT hMX evM evMu kR kR) (by decide)
set_option maxRecDepth 100000 in
theorem ev_Ap0 : AM Tryz.prog 145 [.agg [evR1 [64], evR1 [128], .i 256], evR1 [100, 0, 0, -3]] [] (.tup [.own 0, .i 0]) [] [.row 2 1 4 (rowOf [[.i 100], [.i 75], [.i 37], [.i 15]])] := cAM' hTT hMX evM evMu kR kR
theorem ev_Ap : AC Tryz.prog 145 [.agg [evR1 [64], evR1 [128], .i 256], evR1 [100, 0, 0, -3]] (.tup [evQ1 [100, 75, 37, 15], .i 0]) [] := AC.shut1 (ev_Ap0.ac (by decide)) rfl (fun _ _ => rfl) (evIdf _ rfl) rfl rfl
def evNa : ByteArray := ⟨#[97]⟩
def evTks : V := evLit 2 1 [.c (.string evNa), evR2 [(10, -10), (5, 0)]]
def evPrt : V := evLit 7 1 [.i 0, .i 0, .i 2, .i 0, .i 0, .i 0, .i 500]
set_option maxRecDepth 100000 in
theorem ev_Ren : AC Tryz.prog 39 [evTks, evPrt] (.tup [evQ2 [(5, -5), (2, 0)], .i 0]) [] := AM.ac (cAM' hTT hMX evM evMu kR kR) (by decide)
def evNf : ByteArray := ⟨#[102]⟩
def evFmt (l : List Int) : V := .agg (.c (.string evNf) :: l.map V.i)
set_option maxRecDepth 100000 in
theorem ev_Wid5 : AC Tryz.prog 90 [evFmt [1000, 400, 10, 0, 0, 0, 0], .agg [.i 95, .i 20, .i 0]] (.tup [.i 200, .i 0]) [] := AM.ac (cAM' hTT hMX evM evMu kR kR) (by decide)
end Go.Proofs.YtlldpkkcbheenaaGreatDoor

namespace Go.Proofs.YtlldpkkcbheenaaGreatDoor
open Go.Ab Go.RowKit Go.Dw Go.Shelf
def w3K : List (FuncId × List V × V) := [(23, [evCut, evR2 [(0, 0), (100, 100), (0, 0)]], .tup [evQ2 evPt, .i 0]), (29, [evCut, evQ2 evPt, .i 1000], .tup [.i 31831, .i 0]), (145, [.agg [evR1 [64], evR1 [128], .i 256], evR1 [100, 0, 0, -3]], .tup [evQ1 [100, 75, 37, 15], .i 0]), (39, [evTks, evPrt], .tup [evQ2 [(5, -5), (2, 0)], .i 0])]
theorem w3_ok : OrcOk2 Tryz.prog w3K := orc2_cons ev_Cut rfl rfl (orc2_cons ev_L rfl rfl (orc2_cons ev_Ap rfl rfl (orc2_cons ev_Ren rfl rfl orc2_nil)))
set_option maxRecDepth 100000 in
theorem works03_ac : AC Tryz.prog 91 [] (.b true) [] := AM.ac (cAMO (O := orc2 w3K) hTT hMX [] [] (fun _ => orc2_ok w3_ok) kR kR) (by decide)
end Go.Proofs.YtlldpkkcbheenaaGreatDoor

namespace Go.Proofs.YtlldpkkcbheenaaGreatDoor
open Go.Ab Go.RowKit Go.Dw Go.Shelf
end Go.Proofs.YtlldpkkcbheenaaGreatDoor

namespace Go.Proofs.YtlldpkkcbheenaaGreatDoor
open Go.Ab Go.RowKit Go.Dw Go.Shelf
end Go.Proofs.YtlldpkkcbheenaaGreatDoor

namespace Go.Proofs.YtlldpkkcbheenaaGreatDoor
open Go.Ab Go.RowKit Go.Dw Go.Shelf
def w6L : List Pt := [(-100, 100), (-100, 90), (-95, 100)]
theorem w6R : AC Tryz.prog 30 [.agg [V.ints [0, 2, 10]], V.pts w6L] (.tup [V.pts [(-100, 92), (-97, 90), (-95, 92)], .i 0]) [] := by
 have A := Read_ac [0, 2, 10] w6L (by decide) (by decide)
 rw [show wallsR [0, 2, 10] w6L = [(-100, 92), (-97, 90), (-95, 92)] by decide +kernel, show checkBoth [0, 2, 10] w6L = 0 by decide +kernel] at A
 exact A
theorem w6_lt {i : Nat} (h : i < 3) : i = 0 ∨ i = 1 ∨ i = 2 := by omega
def w6T : List V := [.agg [evR1 [0, 2, 10]], evR2 w6L]
def w6V : V := .tup [V.pts [(-100, 92), (-97, 90), (-95, 92)], .i 0]
theorem w6_read : AC Tryz.prog 30 w6T w6V [] := w6R.conv ⟨RImp.aggs ⟨RImp.rows rfl fun i hi => by rcases w6_lt hi with rfl | rfl | rfl <;> rfl, trivial⟩, RImp.rows rfl fun i hi => by rcases w6_lt hi with rfl | rfl | rfl <;> rfl, trivial⟩
end Go.Proofs.YtlldpkkcbheenaaGreatDoor

namespace Go.Proofs.YtlldpkkcbheenaaGreatDoor
open Go.Ab Go.RowKit Go.Dw Go.Shelf
def b5 : Bl := ⟨2, 1000, 100, 10, 1, 100⟩
def l5 : List Pt := [(-20, 20), (-20, 20), (-20, 20), (-20, 50), (-20, 20)]
theorem b5_ok : SOk b5 l5 := ⟨by decide, by decide⟩
theorem lt5 {v : Nat} (h : v < 5) : v = 0 ∨ v = 1 ∨ v = 2 ∨ v = 3 ∨ v = 4 := by omega
theorem o5 : LOut b5 l5 [980, 979, 930, 899, 880] := by
 refine ⟨rfl, ⟨fun v hv => ?_, fun v hv => ?_⟩, fun g hg v hv => ?_⟩
 ·
  rcases lt5 hv with rfl | rfl | rfl | rfl | rfl <;> decide
 ·
  rcases lt5 hv with rfl | rfl | rfl | rfl | rfl <;> decide
 ·
  have g0 := hg 0 (by decide)
  have g1 := hg 1 (by decide)
  have g2 := hg 2 (by decide)
  have g3 := hg 3 (by decide)
  have g4 := hg 4 (by decide)
  simp [gp, l5, b5] at g0 g1 g2 g3 g4
  rcases lt5 hv with rfl | rfl | rfl | rfl | rfl <;> simp [gi] <;> omega
theorem Outer5_ac : AC Tryz.prog 14 [b5.v, V.pts l5] (.tup [V.ints [980, 979, 930, 899, 880], .i 0]) [] := Outer_ok b5 l5 b5_ok o5
def w5T : List V := [b5.v, evR2 l5]
theorem w5_out : AC Tryz.prog 14 w5T (.tup [V.ints [980, 979, 930, 899, 880], .i 0]) [] := Outer5_ac.conv ⟨RImp.refl _, RImp.rows rfl fun i hi => by
 have hi : i < 5 := hi
 rcases lt5 hi with rfl | rfl | rfl | rfl | rfl <;> rfl, trivial⟩
def w5K : List (FuncId × List V × V) := [(14, w5T, .tup [V.ints [980, 979, 930, 899, 880], .i 0]), (90, [evFmt [1000, 400, 10, 0, 0, 0, 0], .agg [.i 95, .i 20, .i 0]], .tup [.i 200, .i 0]), (91, [], .b true)]
theorem w5_ok : OrcOk2 Tryz.prog w5K := orc2_cons w5_out rfl rfl (orc2_cons ev_Wid5 rfl rfl (orc2_cons works03_ac rfl rfl orc2_nil))
set_option maxRecDepth 100000 in
theorem works05_ac : AC Tryz.prog 37 [] (.b true) [] := AM.ac (cAMO (O := orc2 w5K) hTT hMX [] [] (fun _ => orc2_ok w5_ok) kR kR) (by decide)
end Go.Proofs.YtlldpkkcbheenaaGreatDoor

namespace Go.Proofs.YtlldpkkcbheenaaGreatDoor
open Go.Ab Go.RowKit Go.Dw Go.Shelf
def w7Mu : List Nat := [20, 60, 62, 63, 64, 126, 69, 165]
def w7M : ML := [(19, [12]), (50, [5]), (111, [3])]
def w7K : List (FuncId × List V × V) := [(30, w6T, w6V), (37, [], .b true)]
theorem w7_ok : OrcOk2 Tryz.prog w7K := orc2_cons w6_read rfl rfl (orc2_cons works05_ac rfl rfl orc2_nil)
set_option maxRecDepth 100000 in
theorem works07_ac : AC Tryz.prog 13 [] (.b true) [] := AM.ac (cAMO (O := orc2 w7K) hTT hMX w7M w7Mu (fun _ => orc2_ok w7_ok) kR kR) (by decide)
end Go.Proofs.YtlldpkkcbheenaaGreatDoor

namespace Go.Proofs.YtlldpkkcbheenaaGreatDoor
open Go.Ab Go.RowKit Go.Dw Go.Shelf
theorem wf_ptsT {l : List Pt} (h : ∀ x ∈ l, Sh.wf (.fld (.int .i64) (.lst (.int .i64))) x) : ∀ k, k < l.length → inR2 (gp l k) := fun k hk => by
 have : gp l k = l[k] := by simp [gp, List.getD_eq_getElem?_getD, List.getElem?_eq_getElem hk]
 rw [this]
 obtain ⟨h1, h2⟩ := h _ (List.getElem_mem hk)
 have q1 := wf_i64 h1
 have q2 := wf_i64 h2
 exact ⟨by simp only [inR]; omega, by simp only [inR]; omega⟩
end Go.Proofs.YtlldpkkcbheenaaGreatDoor
