/-
  The listed variables of the top, where one of them is read (what no plan is worth): its cells, out of the condition; the start that meets the condition.
-/
import Derived.Test.YtffggfnomhhckaaGreatDoorMC
import Derived.Test.YtffggfnomhhckaaGreatDoorTie
import Derived.Test.YtffggfnomhhckaaGreatDoorCards
import Derived.ProofKit
import Derived.LaidMore
import Derived.Lay
import Derived.OpenShut
import Derived.Stop.Joined
import Derived.SevenTiedAt
namespace Go.Proofs.YtffggfnomhhckaaGreatDoor
open Go.Ab Go.RowKit Go.Dw Go.Shelf Go.ChangeShapes Go.WideShapes Go.ChangeAt Go.Deep
def growsLaid : List (String × DataW Unit) := [("unicode/utf8.acceptRanges", Rows.laid_unicode_utf8_acceptRanges), ("deadwax/side.none", Rows.laid_deadwax_side_none), ("unicode/utf8.first", Rows.laid_unicode_utf8_first)]
theorem len2 {α : Type} (l : List α) (h : l.length = 2) : ∃ a b, l = [a, b] := by
 match l, h with
 | [a, b], _ => exact ⟨a, b, rfl⟩
set_option maxRecDepth 100000 in
theorem none_cells {W : World} (h : laidMetH Tryz.prog growsLaid W) (j : Nat) (a : Int) (hj : ([-1, 0] : List Int)[j]? = some a) : W.cell? ⟨0, j, none⟩ = some (.int .i64 a) := by
 rw [MakeChecks.laidMetH_plain _ _ _ kR] at h
 obtain ⟨ps, ⟨_, _, _, _, _, _, _, _, _, _, hL, _⟩, _, _⟩ := h
 obtain ⟨g, t, cs, fuel, p, q, hg, ht, hv, hd, _, _⟩ := hL
 obtain rfl := Option.some.inj ((show Tryz.prog.globalNamed "deadwax/side.none" = some 0 by kernel_rfl).symm.trans hg)
 obtain rfl := Option.some.inj ((show (Tryz.prog.globals[0]?).map (·.type) = some 64 by kernel_rfl).symm.trans ht)
 obtain ⟨xs, m, _, ex, hl, hn, hel⟩ := DataW.trod_array Tryz.underlying64 hd
 have c1 : Tryz.prog.cellsOf 2 = 1 := by kernel_rfl
 have c2 : Tryz.prog.cellsOf 64 = 2 := by kernel_rfl
 rw [c2] at hl
 have hw := World.var?_cell hg hv j
 obtain ⟨x, y, rfl⟩ := len2 xs hn
 obtain ⟨l⟩ := cs
 obtain ⟨c, d, rfl⟩ := len2 l hl
 simp only [Prod.mk.injEq, Rows.laid_deadwax_side_none, List.map_cons, List.map_nil, DataW.agg.injEq, List.cons.injEq] at ex
 obtain ⟨⟨k1, k2, _⟩, _⟩ := ex
 obtain ⟨p1, e1, e2, _⟩ := DataW.trod_int Tryz.underlying2 (hel 0 (by decide))
 obtain ⟨q1, f1, f2, _⟩ := DataW.trod_int Tryz.underlying2 (hel 1 (by decide))
 rw [c1] at e1 f1
 rw [e2] at k1; rw [f2] at k2
 have h1 : c = .int .i64 p1 := (List.cons.inj (show [c] = [.int .i64 p1] from e1)).1
 have h2 : d = .int .i64 q1 := (List.cons.inj (show [d] = [.int .i64 q1] from f1)).1
 have h3 : -1 = p1 := by injection k1 with k; injection k
 have h4 : 0 = q1 := by injection k2 with k; injection k
 rw [hw]
 match j, hj with
 | 0, hj => simp at hj; subst hj; rw [h1, ← h3]; rfl
 | 1, hj => simp at hj; subst hj; rw [h2, ← h4]; rfl
 | n + 2, hj => simp at hj
theorem gl_of_laid {W : World} (h : laidMetH Tryz.prog growsLaid W) (g : Nat) : R W (fun b => b < W.heap.size) ρ0 (gvals g) (gval g) := by
 by_cases hg : g = 0
 ·
  subst hg
  have h0 : 0 < W.heap.size := by
   have := none_cells h 0 (-1) rfl
   unfold World.cell? at this
   split at this
   ·
    rename_i c t fr hb
    exact (Array.getElem?_eq_some_iff.1 hb).1
   ·
    cases this
  refine .ptr _ _ 0 0 (fun j => .int .i64 (([-1, 0] : List Int).getD j 0)) h0 (fun j u hu => ⟨?_, rfl⟩) fun j u hu => ?_
  ·
   have hj : ∃ a, ([-1, 0] : List Int)[j]? = some a := by
    have : j < 2 := by have := (List.getElem?_eq_some_iff.1 hu).1; simpa using this
    exact ⟨_, List.getElem?_eq_getElem (by simpa using this)⟩
   obtain ⟨a, ha⟩ := hj
   rw [Nat.zero_add, none_cells h j a ha, List.getD, ha]; rfl
  ·
   match j, hu with
   | 0, hu => simp at hu; subst hu; exact .c _ _
   | 1, hu => simp at hu; subst hu; exact .c _ _
   | n + 2, hu => simp at hu
 ·
  have : gvals g = .any := by simp [gvals, hg]
  rw [this]; exact .any _ _
theorem lay_met (os : Os) (args : Array Value) : laidMetH Tryz.prog growsLaid ((World.laidAll Tryz.prog os growsLaid).forCall (fun _ _ => 0) ⟨#[], args, []⟩).memory := by
 rw [MakeChecks.laidMetH_plain _ _ _ kR]; exact laidMet_laidAll _ kR kR
end Go.Proofs.YtffggfnomhhckaaGreatDoor
