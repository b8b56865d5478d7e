/-
  The samples of extents: Channels in both copies. Conditions: told in each theorem.
-/
import Derived.Test.YtlfaaddoemcokaaPAb18
namespace Go.Proofs.Ytlfaaddoemcokaa
open Go.Ab Go.RowKit Go.Dw Go.Shelf

theorem tdiv_mono {a b m : Int} (hm : 0 < m) (h : a ≤ b) : a.tdiv m ≤ b.tdiv m := by
  by_cases ha : 0 ≤ a
  · rw [Int.tdiv_eq_ediv_of_nonneg ha, Int.tdiv_eq_ediv_of_nonneg (by omega)]
    exact Int.ediv_le_ediv hm h
  · by_cases hb : 0 ≤ b
    · have := (tdiv_bd a hm).2 (by omega)
      have := (tdiv_bd b hm).1 hb
      omega
    · have e1 : a.tdiv m = -((-a) / m) := by
        have := Int.neg_tdiv (a := -a) (b := m)
        rw [Int.neg_neg] at this
        rw [this, Int.tdiv_eq_ediv_of_nonneg (by omega)]
      have e2 : b.tdiv m = -((-b) / m) := by
        have := Int.neg_tdiv (a := -b) (b := m)
        rw [Int.neg_neg] at this
        rw [this, Int.tdiv_eq_ediv_of_nonneg (by omega)]
      have := Int.ediv_le_ediv hm (show -b ≤ -a by omega)
      omega
/-- what both copies answer: the first numbers are told -/
structure Fs where
  F : Int
  G : Int
def Fs.ok (s : Fs) (c : Cut) (half lo hi : Int) : Prop := IsFirst (fun n => decide (lo ≤ edgeI half c.gain n)) s.F ∧ IsFirst (fun n => decide (hi < edgeI half c.gain n)) s.G
def isB (s : Fs) : Bool := decide (s.F ≤ s.G - 1)
def fo (s : Fs) (x : Int) : Bool := decide (s.F < x) && isB s
end Go.Proofs.Ytlfaaddoemcokaa
