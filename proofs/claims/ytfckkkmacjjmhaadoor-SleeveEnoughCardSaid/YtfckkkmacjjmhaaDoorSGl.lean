/-
  The listed variable of the sleeve chapter: its cells, out of the condition; the start that meets the condition.
-/
import Derived.Test.YtfckkkmacjjmhaaDoorMC
import Derived.Test.YtfckkkmacjjmhaaDoorTie
import Derived.Test.YtfckkkmacjjmhaaDoorCards
import Derived.ProofKit
import Derived.LaidMore
import Derived.Lay
import Derived.OpenShut
import Derived.Stop.Joined
import Derived.SevenTiedAt
namespace Go.Proofs.YtfckkkmacjjmhaaDoor
open Go.Ab Go.RowKit Go.Dw Go.Shelf Go.ChangeShapes Go.WideShapes Go.ChangeAt Go.Deep

/-- What the rows list. -/
def growsLaid : List (String × DataW Unit) := [("deadwax/sleeve.grows", Rows.laid_deadwax_sleeve_grows)]

theorem len2 {α : Type} (l : List α) (h : l.length = 2) : ∃ a b, l = [a, b] := by
  match l, h with
  | [a, b], _ => exact ⟨a, b, rfl⟩
theorem len3 {α : Type} (l : List α) (h : l.length = 3) : ∃ a b c, l = [a, b, c] := by
  match l, h with
  | [a, b, c], _ => exact ⟨a, b, c, rfl⟩
theorem len6 {α : Type} (l : List α) (h : l.length = 6) : ∃ a b c d e f, l = [a, b, c, d, e, f] := by
  match l, h with
  | [a, b, c, d, e, f], _ => exact ⟨a, b, c, d, e, f, rfl⟩

set_option maxRecDepth 100000 in
theorem pair_cells {W : World} {sp : Nat → Bool} {held : Bool} {m : Nat} {cs : List Value} {a b : Int} {y : DataW Unit × List MemPlace}
    (h : DataW.trod (fun _ => ()) Tryd.prog W 0 sp held m 112 cs = some y) (e : y.1 = .agg [.lit (.int .i64 a), .lit (.int .i64 b)]) :
    cs = [.int .i64 a, .int .i64 b] := by
  obtain ⟨xs, n, _, rfl, hl, hn, hel⟩ := DataW.trod_array Tryd.underlying112 h
  have c1 : Tryd.prog.cellsOf 3 = 1 := by kernel_rfl
  have c2 : Tryd.prog.cellsOf 112 = 2 := by kernel_rfl
  rw [c2] at hl
  obtain ⟨x, y, rfl⟩ := len2 xs hn
  obtain ⟨c, d, rfl⟩ := len2 cs hl
  obtain ⟨p, e1, e2, _⟩ := DataW.trod_int Tryd.underlying3 (hel 0 (by decide))
  obtain ⟨q, f1, f2, _⟩ := DataW.trod_int Tryd.underlying3 (hel 1 (by decide))
  rw [c1] at e1 f1
  simp only [List.map_cons, List.map_nil, DataW.agg.injEq, List.cons.injEq] at e
  obtain ⟨g1, g2, _⟩ := e
  rw [e2] at g1; rw [f2] at g2
  have h1 : c = .int .i64 p := (List.cons.inj (show [c] = [.int .i64 p] from e1)).1
  have h2 : d = .int .i64 q := (List.cons.inj (show [d] = [.int .i64 q] from f1)).1
  have h3 : p = a := by injection g1 with k; injection k
  have h4 : q = b := by injection g2 with k; injection k
  rw [h1, h2, h3, h4]

set_option maxRecDepth 100000 in
theorem grows_cells {W : World} (h : laidMetH Tryd.prog growsLaid W) (j : Nat) (a : Int) (hj : ([0, 0, 1, 2, 2, 1] : List Int)[j]? = some a) : W.cell? ⟨0, j, none⟩ = some (.int .i64 a) := by
  rw [MakeChecks.laidMetH_plain _ _ _ (by kernel_rfl)] at h
  obtain ⟨ps, ⟨g, t, cs, fuel, p, q, hg, ht, hv, hd, _, _⟩, _, _⟩ := h
  obtain rfl := Option.some.inj ((show Tryd.prog.globalNamed "deadwax/sleeve.grows" = some 0 by kernel_rfl).symm.trans hg)
  obtain rfl := Option.some.inj ((show (Tryd.prog.globals[0]?).map (·.type) = some 113 by kernel_rfl).symm.trans ht)
  obtain ⟨xs, m, _, ex, hl, hn, hel⟩ := DataW.trod_array Tryd.underlying113 hd
  have c2 : Tryd.prog.cellsOf 112 = 2 := by kernel_rfl
  have c6 : Tryd.prog.cellsOf 113 = 6 := by kernel_rfl
  rw [c6] at hl
  have hw := World.var?_cell hg hv j
  obtain ⟨x, y, z, rfl⟩ := len3 xs hn
  simp only [Prod.mk.injEq, Rows.laid_deadwax_sleeve_grows, List.map_cons, List.map_nil, DataW.agg.injEq, List.cons.injEq] at ex
  obtain ⟨⟨k1, k2, k3, _⟩, _⟩ := ex
  have e1 := pair_cells (hel 0 (by decide)) k1.symm
  have e2 := pair_cells (hel 1 (by decide)) k2.symm
  have e3 := pair_cells (hel 2 (by decide)) k3.symm
  rw [c2] at e1 e2 e3
  obtain ⟨l⟩ := cs
  obtain ⟨a0, a1, a2, a3, a4, a5, rfl⟩ := len6 l hl
  have u1 : [a0, a1] = [.int .i64 0, .int .i64 0] := e1
  have u2 : [a2, a3] = [.int .i64 1, .int .i64 2] := e2
  have u3 : [a4, a5] = [.int .i64 2, .int .i64 1] := e3
  clear e1 e2 e3 hel hd hl hv
  injection u1 with s1 u1; injection u1 with s2; injection u2 with s3 u2; injection u2 with s4; injection u3 with s5 u3; injection u3 with s6
  subst s1 s2 s3 s4 s5 s6
  rw [hw]
  match j, hj with
  | 0, hj => simp at hj; subst hj; rfl
  | 1, hj => simp at hj; subst hj; rfl
  | 2, hj => simp at hj; subst hj; rfl
  | 3, hj => simp at hj; subst hj; rfl
  | 4, hj => simp at hj; subst hj; rfl
  | 5, hj => simp at hj; subst hj; rfl
  | n + 6, hj => simp at hj

theorem gl_of_laid {W : World} (h : laidMetH Tryd.prog growsLaid W) (g : Nat) : R W (fun b => b < W.heap.size) ρ0 (gvals g) (gval g) := by
  by_cases hg : g = 0
  · subst hg
    have h0 : 0 < W.heap.size := by
      have := grows_cells h 0 0 rfl
      unfold World.cell? at this
      split at this
      · rename_i c t fr hb
        exact (Array.getElem?_eq_some_iff.1 hb).1
      · cases this
    refine .ptr _ _ 0 0 (fun j => .int .i64 (([0, 0, 1, 2, 2, 1] : List Int).getD j 0)) h0 (fun j u hu => ⟨?_, rfl⟩) fun j u hu => ?_
    · have hj : ∃ a, ([0, 0, 1, 2, 2, 1] : List Int)[j]? = some a := by
        have : j < 6 := by have := (List.getElem?_eq_some_iff.1 hu).1; simpa using this
        exact ⟨_, List.getElem?_eq_getElem (by simpa using this)⟩
      obtain ⟨a, ha⟩ := hj
      rw [Nat.zero_add, grows_cells h j a ha, List.getD, ha]; rfl
    · match j, hu with
      | 0, hu => simp at hu; subst hu; exact .c _ _
      | 1, hu => simp at hu; subst hu; exact .c _ _
      | 2, hu => simp at hu; subst hu; exact .c _ _
      | 3, hu => simp at hu; subst hu; exact .c _ _
      | 4, hu => simp at hu; subst hu; exact .c _ _
      | 5, hu => simp at hu; subst hu; exact .c _ _
      | n + 6, hu => simp at hu
  · have : gvals g = .any := by simp [gvals, hg]
    rw [this]; exact .any _ _

theorem lay_met (os : Os) (args : Array Value) : laidMetH Tryd.prog growsLaid ((World.laidAll Tryd.prog os growsLaid).forCall (fun _ _ => 0) ⟨#[], args, []⟩).memory := by
  rw [MakeChecks.laidMetH_plain _ _ _ (by kernel_rfl)]; exact laidMet_laidAll _ (by kernel_rfl) (by kernel_rfl)
end Go.Proofs.YtfckkkmacjjmhaaDoor
