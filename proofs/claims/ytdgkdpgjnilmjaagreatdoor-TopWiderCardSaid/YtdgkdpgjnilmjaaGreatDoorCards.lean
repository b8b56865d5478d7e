/-
  DERIVED. GIVEN WITH THE SEED: THE CARDS: each row of YtdgkdpgjnilmjaaGreatDoorRows.lean that lists a variable, with what it lists TIED to the program's text (the seventh form; the later family's looks); each row that meets fmt, with fmt's text TOLD by the authors' own Lean function (tested against real Go, not proved from fmt's source: count such statements apart). THE CARD IS WHAT COUNTS. Prove the row's statement (the work); the ties are given (YtdgkdpgjnilmjaaGreatDoorTie.lean); close each card by the builder's one call (the guide's Derived/Test/ToyasCard.lean, 'card_holds'). Laid BY PROGRAM, IN A SANDBOX (cutbox-door.mjs). By AI agents, Wed Nov 11 2026. No macro, syntax, notation, axiom, sorry.
-/
import Derived.Test.YtdgkdpgjnilmjaaGreatDoorRows
import GoSem.ClaimSeven
namespace Go.Proofs.YtdgkdpgjnilmjaaGreatDoor
namespace Rows

/-- THE TIED CARD OF 'deadwaxtop.TopWider'. -/
def topWiderCard : Claim7 := { stood := { row := topWiderRow, standIns := [], harness := (true, "566349cb0091b0a8a69e08e617ecc93f49bce65fb0903b102fb281a28712cf35"), looks := false }, kinds := [], alts := [], laidByText := true, laidKinds := [.data, .data, .pinned], laidTests := true, laidLooks := .later }
def TopWiderCardSaid : Prop := Claim7.holds Tryz.pinned (.plain (OpenSpec.ofChange topWiderSpec)) topWiderCard

/-- THE SECOND FORM's CARD OF 'deadwaxtop.TopWider'. -/
def topWiderUptoCard : Claim7 := { stood := { row := topWiderUptoRow, standIns := [], harness := (true, "566349cb0091b0a8a69e08e617ecc93f49bce65fb0903b102fb281a28712cf35"), looks := false }, kinds := [], alts := [], laidByText := true, laidKinds := [.data, .data, .pinned], laidTests := true, laidLooks := .later }
def TopWiderUptoCardSaid : Prop := Claim7.holds Tryz.pinned (.plain (OpenSpec.upto topWiderSpec)) topWiderUptoCard
end Rows
end Go.Proofs.YtdgkdpgjnilmjaaGreatDoor
