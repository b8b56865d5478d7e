/-
  Points with their neighbours, and the fault of a groove: the walks of the program. Conditions: told in each theorem.
-/
import Derived.Test.YtlfaaddoemcokaaGA3
namespace Go.Proofs.Ytlfaaddoemcokaa
open Go.Ab Go.RowKit Go.Dw Go.Shelf

def nb (l : List Pt) (i : Nat) : Option Pt := if 0 < i then some (gp l (i - 1)) else none
def na (l : List Pt) (i : Nat) : Option Pt := if i + 1 < l.length then some (gp l (i + 1)) else none
def nearI (l : List Pt) (i : Nat) : V := gNearV (nb l i) (gp l i) (na l i)
def allV (l : List Pt) : List (List V) := (List.range l.length).map fun i : Nat => [V.i i, nearI l i]
theorem allV_get {l : List Pt} {k : Nat} (h : k < l.length) : (allV l)[k]? = some [V.i k, nearI l k] := by simp [allV, h]
theorem allV_len (l : List Pt) : (allV l).length = l.length := by simp [allV]
theorem near_idf (b : Option Pt) (h : Pt) (a : Option Pt) (n : Int) : V.idfL [V.i n, gNearV b h a] = true := by cases b <;> cases a <;> rfl
theorem nearI_idf (l : List Pt) (i : Nat) : V.idf (nearI l i) = true := by
  unfold nearI
  cases nb l i <;> cases na l i <;> rfl
end Go.Proofs.Ytlfaaddoemcokaa
