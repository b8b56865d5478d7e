/-
  DERIVED. GIVEN WITH THE SEED: THE CARDS: each row of YtjmbpjlojjgggaaGreatDoorRows.lean that lists a variable, with what it lists TIED to the program's text (the seventh form; the later family's looks); each row that meets fmt, with fmt's text TOLD by the authors' own Lean function (tested against real Go, not proved from fmt's source: count such statements apart). THE CARD IS WHAT COUNTS. Prove the row's statement (the work); the ties are given (YtjmbpjlojjgggaaGreatDoorTie.lean); close each card by the builder's one call (the guide's Derived/Test/ToyasCard.lean, 'card_holds'). Laid BY PROGRAM, IN A SANDBOX (cutbox-door.mjs). By AI agents, Wed Nov 11 2026. No macro, syntax, notation, axiom, sorry.
-/
import Derived.Test.YtjmbpjlojjgggaaGreatDoorRows
import GoSem.ClaimSeven
namespace Go.Proofs.YtjmbpjlojjgggaaGreatDoor
namespace Rows

/-- THE TIED CARD OF 'deadwaxtop.TopStruck'. -/
def topStruckCard : Claim7 := { stood := { row := topStruckRow, standIns := [], harness := (true, "d1eb64e8edcb503b2c0873946b129350d354406d6fa271955ea3f5e96019ebf9"), looks := false }, kinds := [], alts := [], laidByText := true, laidKinds := [.data, .pinned], laidTests := true, laidLooks := .later }
def TopStruckCardSaid : Prop := Claim7.holds Tryz.pinned (.plain (OpenSpec.ofChange topStruckSpec)) topStruckCard

/-- THE TIED CARD OF 'deadwaxtop.TopNegatives'. -/
def topNegativesCard : Claim7 := { stood := { row := topNegativesRow, standIns := [], harness := (true, "d1eb64e8edcb503b2c0873946b129350d354406d6fa271955ea3f5e96019ebf9"), looks := false }, kinds := [], alts := [], laidByText := true, laidKinds := [.data, .pinned], laidTests := true, laidLooks := .later }
def TopNegativesCardSaid : Prop := Claim7.holds Tryz.pinned (.plain (OpenSpec.ofChange topNegativesSpec)) topNegativesCard

/-- THE TIED CARD OF 'deadwaxtop.TopScratch'. -/
def topScratchCard : Claim7 := { stood := { row := topScratchRow, standIns := [], harness := (true, "d1eb64e8edcb503b2c0873946b129350d354406d6fa271955ea3f5e96019ebf9"), looks := false }, kinds := [], alts := [], laidByText := true, laidKinds := [.data, .pinned], laidTests := true, laidLooks := .later }
def TopScratchCardSaid : Prop := Claim7.holds Tryz.pinned (.plain (OpenSpec.ofChange topScratchSpec)) topScratchCard

/-- THE TIED CARD OF 'deadwaxtop.TopEnough'. -/
def topEnoughCard : Claim7 := { stood := { row := topEnoughRow, standIns := [], harness := (true, "d1eb64e8edcb503b2c0873946b129350d354406d6fa271955ea3f5e96019ebf9"), looks := false }, kinds := [], alts := [], laidByText := true, laidKinds := [.data, .pinned], laidTests := true, laidLooks := .later }
def TopEnoughCardSaid : Prop := Claim7.holds Tryz.pinned (.plain (OpenSpec.ofChange topEnoughSpec)) topEnoughCard

/-- THE TIED CARD OF 'deadwaxtop.TopCaused'. -/
def topCausedCard : Claim7 := { stood := { row := topCausedRow, standIns := [], harness := (true, "d1eb64e8edcb503b2c0873946b129350d354406d6fa271955ea3f5e96019ebf9"), looks := false }, kinds := [], alts := [], laidByText := true, laidKinds := [.data, .pinned], laidTests := true, laidLooks := .later }
def TopCausedCardSaid : Prop := Claim7.holds Tryz.pinned (.plain (OpenSpec.ofChange topCausedSpec)) topCausedCard

/-- THE TIED CARD OF 'deadwaxtop.TopLater'. -/
def topLaterCard : Claim7 := { stood := { row := topLaterRow, standIns := [], harness := (true, "d1eb64e8edcb503b2c0873946b129350d354406d6fa271955ea3f5e96019ebf9"), looks := false }, kinds := [], alts := [], laidByText := true, laidKinds := [.data, .pinned], laidTests := true, laidLooks := .later }
def TopLaterCardSaid : Prop := Claim7.holds Tryz.pinned (.plain (OpenSpec.ofChange topLaterSpec)) topLaterCard

/-- THE TIED CARD OF 'deadwaxtop.TopFewHearings'. -/
def topFewHearingsCard : Claim7 := { stood := { row := topFewHearingsRow, standIns := [], harness := (true, "d1eb64e8edcb503b2c0873946b129350d354406d6fa271955ea3f5e96019ebf9"), looks := false }, kinds := [], alts := [], laidByText := true, laidKinds := [.data, .pinned], laidTests := true, laidLooks := .later }
def TopFewHearingsCardSaid : Prop := Claim7.holds Tryz.pinned (.plain (OpenSpec.ofChange topFewHearingsSpec)) topFewHearingsCard

/-- THE SECOND FORM's CARD OF 'deadwaxtop.TopStruck'. -/
def topStruckUptoCard : Claim7 := { stood := { row := topStruckUptoRow, standIns := [], harness := (true, "d1eb64e8edcb503b2c0873946b129350d354406d6fa271955ea3f5e96019ebf9"), looks := false }, kinds := [], alts := [], laidByText := true, laidKinds := [.data, .pinned], laidTests := true, laidLooks := .later }
def TopStruckUptoCardSaid : Prop := Claim7.holds Tryz.pinned (.plain (OpenSpec.upto topStruckSpec)) topStruckUptoCard

/-- THE SECOND FORM's CARD OF 'deadwaxtop.TopNegatives'. -/
def topNegativesUptoCard : Claim7 := { stood := { row := topNegativesUptoRow, standIns := [], harness := (true, "d1eb64e8edcb503b2c0873946b129350d354406d6fa271955ea3f5e96019ebf9"), looks := false }, kinds := [], alts := [], laidByText := true, laidKinds := [.data, .pinned], laidTests := true, laidLooks := .later }
def TopNegativesUptoCardSaid : Prop := Claim7.holds Tryz.pinned (.plain (OpenSpec.upto topNegativesSpec)) topNegativesUptoCard

/-- THE SECOND FORM's CARD OF 'deadwaxtop.TopScratch'. -/
def topScratchUptoCard : Claim7 := { stood := { row := topScratchUptoRow, standIns := [], harness := (true, "d1eb64e8edcb503b2c0873946b129350d354406d6fa271955ea3f5e96019ebf9"), looks := false }, kinds := [], alts := [], laidByText := true, laidKinds := [.data, .pinned], laidTests := true, laidLooks := .later }
def TopScratchUptoCardSaid : Prop := Claim7.holds Tryz.pinned (.plain (OpenSpec.upto topScratchSpec)) topScratchUptoCard

/-- THE SECOND FORM's CARD OF 'deadwaxtop.TopEnough'. -/
def topEnoughUptoCard : Claim7 := { stood := { row := topEnoughUptoRow, standIns := [], harness := (true, "d1eb64e8edcb503b2c0873946b129350d354406d6fa271955ea3f5e96019ebf9"), looks := false }, kinds := [], alts := [], laidByText := true, laidKinds := [.data, .pinned], laidTests := true, laidLooks := .later }
def TopEnoughUptoCardSaid : Prop := Claim7.holds Tryz.pinned (.plain (OpenSpec.upto topEnoughSpec)) topEnoughUptoCard

/-- THE SECOND FORM's CARD OF 'deadwaxtop.TopCaused'. -/
def topCausedUptoCard : Claim7 := { stood := { row := topCausedUptoRow, standIns := [], harness := (true, "d1eb64e8edcb503b2c0873946b129350d354406d6fa271955ea3f5e96019ebf9"), looks := false }, kinds := [], alts := [], laidByText := true, laidKinds := [.data, .pinned], laidTests := true, laidLooks := .later }
def TopCausedUptoCardSaid : Prop := Claim7.holds Tryz.pinned (.plain (OpenSpec.upto topCausedSpec)) topCausedUptoCard

/-- THE SECOND FORM's CARD OF 'deadwaxtop.TopLater'. -/
def topLaterUptoCard : Claim7 := { stood := { row := topLaterUptoRow, standIns := [], harness := (true, "d1eb64e8edcb503b2c0873946b129350d354406d6fa271955ea3f5e96019ebf9"), looks := false }, kinds := [], alts := [], laidByText := true, laidKinds := [.data, .pinned], laidTests := true, laidLooks := .later }
def TopLaterUptoCardSaid : Prop := Claim7.holds Tryz.pinned (.plain (OpenSpec.upto topLaterSpec)) topLaterUptoCard

/-- THE SECOND FORM's CARD OF 'deadwaxtop.TopFewHearings'. -/
def topFewHearingsUptoCard : Claim7 := { stood := { row := topFewHearingsUptoRow, standIns := [], harness := (true, "d1eb64e8edcb503b2c0873946b129350d354406d6fa271955ea3f5e96019ebf9"), looks := false }, kinds := [], alts := [], laidByText := true, laidKinds := [.data, .pinned], laidTests := true, laidLooks := .later }
def TopFewHearingsUptoCardSaid : Prop := Claim7.holds Tryz.pinned (.plain (OpenSpec.upto topFewHearingsSpec)) topFewHearingsUptoCard
end Rows
end Go.Proofs.YtjmbpjlojjgggaaGreatDoor
