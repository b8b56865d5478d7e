/-
  DERIVED. GIVEN WITH THE SEED: THE CARDS: each row of YtpmchnojeloohaaGreatDoorRows.lean that lists a variable, with what it lists TIED to the program's text (the seventh form; the later family's looks); each row that meets fmt, with fmt's text TOLD by the authors' own Lean function (tested against real Go, not proved from fmt's source: count such statements apart). THE CARD IS WHAT COUNTS. Prove the row's statement (the work); the ties are given (YtpmchnojeloohaaGreatDoorTie.lean); close each card by the builder's one call (the guide's Derived/Test/ToyasCard.lean, 'card_holds'). Laid BY PROGRAM, IN A SANDBOX (cutbox-door.mjs). By AI agents, Wed Nov 11 2026. No macro, syntax, notation, axiom, sorry.
-/
import Derived.Test.YtpmchnojeloohaaGreatDoorRows
import GoSem.ClaimSeven
namespace Go.Proofs.YtpmchnojeloohaaGreatDoor
namespace Rows

/-- THE TIED CARD OF 'deadwaxtop.TopTwoSides'. -/
def topTwoSidesCard : Claim7 := { stood := { row := topTwoSidesRow, standIns := [], harness := (true, "a44e304a1ca43be1c7b4b42f2e4fcec8a6bf628e0e0dc552ce5d4b7fc6eafb20"), looks := false }, kinds := [], alts := [], laidByText := true, laidKinds := [.data, .pinned], laidTests := true, laidLooks := .later }
def TopTwoSidesCardSaid : Prop := Claim7.holds Tryz.pinned (.plain (OpenSpec.ofChange topTwoSidesSpec)) topTwoSidesCard

/-- THE TIED CARD OF 'deadwaxtop.TopNeedle'. -/
def topNeedleCard : Claim7 := { stood := { row := topNeedleRow, standIns := [], harness := (true, "a44e304a1ca43be1c7b4b42f2e4fcec8a6bf628e0e0dc552ce5d4b7fc6eafb20"), looks := false }, kinds := [], alts := [], laidByText := true, laidKinds := [.data, .pinned], laidTests := true, laidLooks := .later }
def TopNeedleCardSaid : Prop := Claim7.holds Tryz.pinned (.plain (OpenSpec.ofChange topNeedleSpec)) topNeedleCard

/-- THE SECOND FORM's CARD OF 'deadwaxtop.TopTwoSides'. -/
def topTwoSidesUptoCard : Claim7 := { stood := { row := topTwoSidesUptoRow, standIns := [], harness := (true, "a44e304a1ca43be1c7b4b42f2e4fcec8a6bf628e0e0dc552ce5d4b7fc6eafb20"), looks := false }, kinds := [], alts := [], laidByText := true, laidKinds := [.data, .pinned], laidTests := true, laidLooks := .later }
def TopTwoSidesUptoCardSaid : Prop := Claim7.holds Tryz.pinned (.plain (OpenSpec.upto topTwoSidesSpec)) topTwoSidesUptoCard

/-- THE SECOND FORM's CARD OF 'deadwaxtop.TopNeedle'. -/
def topNeedleUptoCard : Claim7 := { stood := { row := topNeedleUptoRow, standIns := [], harness := (true, "a44e304a1ca43be1c7b4b42f2e4fcec8a6bf628e0e0dc552ce5d4b7fc6eafb20"), looks := false }, kinds := [], alts := [], laidByText := true, laidKinds := [.data, .pinned], laidTests := true, laidLooks := .later }
def TopNeedleUptoCardSaid : Prop := Claim7.holds Tryz.pinned (.plain (OpenSpec.upto topNeedleSpec)) topNeedleUptoCard
end Rows
end Go.Proofs.YtpmchnojeloohaaGreatDoor
