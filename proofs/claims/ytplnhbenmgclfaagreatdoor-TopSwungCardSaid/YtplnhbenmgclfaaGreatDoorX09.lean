/-
  Several texts in one: Samples that are read from points, in plain Lean. Conditions: told in each theorem. .. Curves and signals that are valid: both copies. Condition: as many elements as a slice can have.
-/
import Derived.Test.YtplnhbenmgclfaaGreatDoorX08
import Derived.Test.YtplnhbenmgclfaaGreatDoorX07
import Derived.Test.YtplnhbenmgclfaaGreatDoorX06
import Derived.Test.YtplnhbenmgclfaaGreatDoorMC
import Derived.Test.YtplnhbenmgclfaaGreatDoorX05
import Derived.Test.YtplnhbenmgclfaaGreatDoorX01
import Derived.Test.YtplnhbenmgclfaaGreatDoorMD
import Derived.Test.YtplnhbenmgclfaaGreatDoorAbs42
import Derived.Test.YtplnhbenmgclfaaGreatDoorX02
namespace Go.Proofs.YtplnhbenmgclfaaGreatDoor
open Go.Ab Go.RowKit Go.Dw Go.Shelf
theorem chE_opp (g n : Int) : chE g (-n) = -chE g n := by unfold chE; rw [Int.neg_mul, Int.neg_tdiv]
end Go.Proofs.YtplnhbenmgclfaaGreatDoor

namespace Go.Proofs.YtplnhbenmgclfaaGreatDoor
open Go.Ab Go.RowKit Go.Dw Go.Shelf
theorem edge_chE (half g n : Int) : edgeI half g n = half + chE g n := rfl
theorem chE_lt {g m n : Int} (h1 : 1000 ≤ g) (h : m < n) : chE g m < chE g n := by
 have hg : 0 ≤ g := by omega
 have st : ∀ a b : Int, 0 ≤ a → a < b → chE g a < chE g b := fun a b ha hab => by
  have s1 : chE g a + 1 ≤ chE g (a + 1) := by
   rw [chE_nn hg ha, chE_nn hg oM, Int.add_mul, Int.one_mul]
   omega
  have := chE_mono' (g := g) (m := a + 1) (n := b) hg oM oM
  omega
 rcases Int.lt_or_le m 0 with hm | hm
 ·
  rcases Int.lt_or_le 0 n with hn | hn
  ·
   have a := st 0 (-m) oM oM
   have b := st 0 n oM hn
   rw [chE_opp] at a
   have : chE g 0 = 0 := by unfold chE; simp
   omega
  ·
   have a := st (-n) (-m) oM oM
   rw [chE_opp, chE_opp] at a
   omega
 ·
  exact st m n hm h
theorem fs_in {c : Cut} {half lo hi n : Int} {s : Fs} (h : s.ok c half lo hi) (hn : -32767 ≤ n ∧ n ≤ 32767) (h1 : lo ≤ edgeI half c.gain n) (h2 : edgeI half c.gain n ≤ hi) : s.F ≤ n ∧ n < s.G := by
 obtain ⟨⟨_, _, a3, a4⟩, ⟨_, _, b3, b4⟩⟩ := h
 constructor
 ·
  refine Int.not_lt.1 fun hlt => ?_
  have := a3 n hn.1 hlt
  simp at this
  omega
 ·
  refine Int.not_le.1 fun hle => ?_
  have := b4 n hle hn.2
  simp at this
  omega
theorem fs_one {c : Cut} {half n : Int} {s : Fs} (hg : 1000 ≤ c.gain) (h : s.ok c half (edgeI half c.gain n) (edgeI half c.gain n)) (hn : -32767 ≤ n ∧ n ≤ 32767) : s.F = n ∧ s.G = n + 1 := by
 obtain ⟨i1, i2⟩ := fs_in h hn (Int.le_refl _) (Int.le_refl _)
 obtain ⟨⟨a1, a2, a3, a4⟩, ⟨b1, b2, b3, b4⟩⟩ := h
 constructor
 ·
  refine Int.le_antisymm i1 (Int.not_lt.1 fun hlt => ?_)
  have h1 : edgeI half c.gain n ≤ edgeI half c.gain s.F := of_decide_eq_true (a4 s.F (Int.le_refl _) oM)
  have := chE_lt hg hlt
  rw [edge_chE, edge_chE] at h1
  omega
 ·
  refine Int.le_antisymm (Int.not_lt.1 fun hlt => ?_) oM
  have h1 : ¬ edgeI half c.gain n < edgeI half c.gain (n + 1) := of_decide_eq_false (b3 (n + 1) oM hlt)
  have := chE_lt hg (show n < n + 1 by omega)
  rw [edge_chE, edge_chE] at h1
  omega
def samplesSh : List Sh := [(.fld (.int .i64) (.fld (.int .i64) (.fld (.int .i64) (.fld (.int .i64) (.fld (.int .i64) (.fld (.int .i64) (.lst (.int .i64)))))))), (.fld (.int .i64) (.lst (.int .i64))), (.arr 4 (.int .u16))]
theorem wf_u16s {x : Int} (h : (Lit.int .u16 x).wf = true) : 0 ≤ x ∧ x ≤ 65535 := by
 simp [Lit.wf, IntKind.min, IntKind.max, IntKind.signed, IntKind.bits] at h; omega
end Go.Proofs.YtplnhbenmgclfaaGreatDoor

namespace Go.Proofs.YtplnhbenmgclfaaGreatDoor
open Go.Ab Go.RowKit Go.Dw Go.Shelf
end Go.Proofs.YtplnhbenmgclfaaGreatDoor

namespace Go.Proofs.YtplnhbenmgclfaaGreatDoor
open Go.Ab Go.RowKit Go.Dw Go.Shelf
end Go.Proofs.YtplnhbenmgclfaaGreatDoor

namespace Go.Proofs.YtplnhbenmgclfaaGreatDoor
open Go.Ab Go.RowKit Go.Dw Go.Shelf
theorem Balance_ac (l : List Pt) (hl : l.length ≤ 4611686018427387904) : AC Tryz.prog 77 [V.pts l] (.tup [.agg [.i (balArm l).1, .i (balArm l).2], .i (checkPts l)]) [] := by
 refine ac_of_calls (enters_of Tryz.func77 kR rfl) fun L w vs hL hvs => ?_
 obtain ⟨vs⟩ := vs
 obtain ⟨x1, e1, q1⟩ := hvs.get (i := 0) rfl
 obtain ⟨A, c, rfl, _, ha⟩ := R_pts_inv q1 hL
 have hn := hvs.1
 have hvs' : vs = [.slice A l.length c] := by
  match vs, hn with
  | [a], _ => simp at e1; subst e1; rfl
 subst hvs'
 refine (balance_calls A _ c l w ha hl).mono ?_
 rintro e w' ⟨rfl, hb⟩
 exact ⟨_, rfl, hb, fun _ => False, fun _ h => h.elim, .tup' (.cons (.agg' (.cons (.c _ _) rfl (.cons (.c _ _) rfl .nil))) (.cons (.c _ _) .nil))⟩
theorem gp_take {l : List Pt} {m i : Nat} (h : i < m) : gp (l.take m) i = gp l i := by simp [gp, List.getD_eq_getElem?_getD, List.getElem?_take, h]
end Go.Proofs.YtplnhbenmgclfaaGreatDoor

namespace Go.Proofs.YtplnhbenmgclfaaGreatDoor
open Go.Ab Go.RowKit Go.Dw Go.Shelf
end Go.Proofs.YtplnhbenmgclfaaGreatDoor

namespace Go.Proofs.YtplnhbenmgclfaaGreatDoor
open Go.Ab Go.RowKit Go.Dw Go.Shelf
end Go.Proofs.YtplnhbenmgclfaaGreatDoor

namespace Go.Proofs.YtplnhbenmgclfaaGreatDoor
open Go.Ab Go.RowKit Go.Dw Go.Shelf
end Go.Proofs.YtplnhbenmgclfaaGreatDoor
