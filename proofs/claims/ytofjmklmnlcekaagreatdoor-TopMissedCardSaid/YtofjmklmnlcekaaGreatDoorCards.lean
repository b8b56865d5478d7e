/-
  DERIVED. GIVEN WITH THE SEED: THE CARDS: each row of YtofjmklmnlcekaaGreatDoorRows.lean that lists a variable, with what it lists TIED to the program's text (the seventh form; the later family's looks); each row that meets fmt, with fmt's text TOLD by the authors' own Lean function (tested against real Go, not proved from fmt's source: count such statements apart). THE CARD IS WHAT COUNTS. Prove the row's statement (the work); the ties are given (YtofjmklmnlcekaaGreatDoorTie.lean); close each card by the builder's one call (the guide's Derived/Test/ToyasCard.lean, 'card_holds'). Laid BY PROGRAM, IN A SANDBOX (cutbox-door.mjs). By AI agents, Wed Nov 11 2026. No macro, syntax, notation, axiom, sorry.
-/
import Derived.Test.YtofjmklmnlcekaaGreatDoorRows
import GoSem.ClaimSeven
namespace Go.Proofs.YtofjmklmnlcekaaGreatDoor
namespace Rows

/-- THE TIED CARD OF 'deadwaxtop.TopMissed'. -/
def topMissedCard : Claim7 := { stood := { row := topMissedRow, standIns := [], harness := (true, "0100cebab62d86dcd803fa0ceb023db33101b4f663d9a4d85ce35b3f381eca5d"), looks := false }, kinds := [], alts := [], laidByText := true, laidKinds := [.data, .pinned], laidTests := true, laidLooks := .later }
def TopMissedCardSaid : Prop := Claim7.holds Tryz.pinned (.plain (OpenSpec.ofChange topMissedSpec)) topMissedCard

/-- THE SECOND FORM's CARD OF 'deadwaxtop.TopMissed'. -/
def topMissedUptoCard : Claim7 := { stood := { row := topMissedUptoRow, standIns := [], harness := (true, "0100cebab62d86dcd803fa0ceb023db33101b4f663d9a4d85ce35b3f381eca5d"), looks := false }, kinds := [], alts := [], laidByText := true, laidKinds := [.data, .pinned], laidTests := true, laidLooks := .later }
def TopMissedUptoCardSaid : Prop := Claim7.holds Tryz.pinned (.plain (OpenSpec.upto topMissedSpec)) topMissedUptoCard
end Rows
end Go.Proofs.YtofjmklmnlcekaaGreatDoor
