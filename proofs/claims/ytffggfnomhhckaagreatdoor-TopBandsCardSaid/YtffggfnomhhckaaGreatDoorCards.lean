/-
  DERIVED. GIVEN WITH THE SEED: THE CARDS: each row of YtffggfnomhhckaaGreatDoorRows.lean that lists a variable, with what it lists TIED to the program's text (the seventh form; the later family's looks); each row that meets fmt, with fmt's text TOLD by the authors' own Lean function (tested against real Go, not proved from fmt's source: count such statements apart). THE CARD IS WHAT COUNTS. Prove the row's statement (the work); the ties are given (YtffggfnomhhckaaGreatDoorTie.lean); close each card by the builder's one call (the guide's Derived/Test/ToyasCard.lean, 'card_holds'). Laid BY PROGRAM, IN A SANDBOX (cutbox-door.mjs). By AI agents, Wed Nov 11 2026. No macro, syntax, notation, axiom, sorry.
-/
import Derived.Test.YtffggfnomhhckaaGreatDoorRows
import GoSem.ClaimSeven
namespace Go.Proofs.YtffggfnomhhckaaGreatDoor
namespace Rows

/-- THE TIED CARD OF 'deadwaxtop.TopBands'. -/
def topBandsCard : Claim7 := { stood := { row := topBandsRow, standIns := [], harness := (true, "23cbf1d571ebdd81e21144fadea4da201d6f9f28ef0f29a26f1cf14dd785c72c"), looks := false }, kinds := [], alts := [], laidByText := true, laidKinds := [.data, .data, .pinned], laidTests := true, laidLooks := .later }
def TopBandsCardSaid : Prop := Claim7.holds Tryz.pinned (.plain (OpenSpec.ofChange topBandsSpec)) topBandsCard

/-- THE SECOND FORM's CARD OF 'deadwaxtop.TopBands'. -/
def topBandsUptoCard : Claim7 := { stood := { row := topBandsUptoRow, standIns := [], harness := (true, "23cbf1d571ebdd81e21144fadea4da201d6f9f28ef0f29a26f1cf14dd785c72c"), looks := false }, kinds := [], alts := [], laidByText := true, laidKinds := [.data, .data, .pinned], laidTests := true, laidLooks := .later }
def TopBandsUptoCardSaid : Prop := Claim7.holds Tryz.pinned (.plain (OpenSpec.upto topBandsSpec)) topBandsUptoCard
end Rows
end Go.Proofs.YtffggfnomhhckaaGreatDoor
