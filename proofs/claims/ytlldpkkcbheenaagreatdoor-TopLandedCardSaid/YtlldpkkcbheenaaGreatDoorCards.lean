/-
  DERIVED. GIVEN WITH THE SEED: THE CARDS: each row of YtlldpkkcbheenaaGreatDoorRows.lean that lists a variable, with what it lists TIED to the program's text (the seventh form; the later family's looks); each row that meets fmt, with fmt's text TOLD by the authors' own Lean function (tested against real Go, not proved from fmt's source: count such statements apart). THE CARD IS WHAT COUNTS. Prove the row's statement (the work); the ties are given (YtlldpkkcbheenaaGreatDoorTie.lean); close each card by the builder's one call (the guide's Derived/Test/ToyasCard.lean, 'card_holds'). Laid BY PROGRAM, IN A SANDBOX (cutbox-door.mjs). By AI agents, Wed Nov 11 2026. No macro, syntax, notation, axiom, sorry.
-/
import Derived.Test.YtlldpkkcbheenaaGreatDoorRows
import GoSem.ClaimSeven
namespace Go.Proofs.YtlldpkkcbheenaaGreatDoor
namespace Rows

/-- THE TIED CARD OF 'deadwaxtop.TopLanded'. -/
def topLandedCard : Claim7 := { stood := { row := topLandedRow, standIns := [], harness := (true, "b33165bbcc2a58128aa2b675a4bdfc0704262867b681a9ca182096bc69ff28f5"), looks := false }, kinds := [], alts := [], laidByText := true, laidKinds := [.data, .pinned], laidTests := true, laidLooks := .later }
def TopLandedCardSaid : Prop := Claim7.holds Tryz.pinned (.plain (OpenSpec.ofChange topLandedSpec)) topLandedCard

/-- THE TIED CARD OF 'deadwaxtop.TopWider'. -/
def topWiderCard : Claim7 := { stood := { row := topWiderRow, standIns := [], harness := (true, "b33165bbcc2a58128aa2b675a4bdfc0704262867b681a9ca182096bc69ff28f5"), looks := false }, kinds := [], alts := [], laidByText := true, laidKinds := [.data, .data, .pinned], laidTests := true, laidLooks := .later }
def TopWiderCardSaid : Prop := Claim7.holds Tryz.pinned (.plain (OpenSpec.ofChange topWiderSpec)) topWiderCard

/-- THE TIED CARD OF 'deadwaxtop.TopStruck'. -/
def topStruckCard : Claim7 := { stood := { row := topStruckRow, standIns := [], harness := (true, "b33165bbcc2a58128aa2b675a4bdfc0704262867b681a9ca182096bc69ff28f5"), looks := false }, kinds := [], alts := [], laidByText := true, laidKinds := [.data, .pinned], laidTests := true, laidLooks := .later }
def TopStruckCardSaid : Prop := Claim7.holds Tryz.pinned (.plain (OpenSpec.ofChange topStruckSpec)) topStruckCard

/-- THE TIED CARD OF 'deadwaxtop.TopNegatives'. -/
def topNegativesCard : Claim7 := { stood := { row := topNegativesRow, standIns := [], harness := (true, "b33165bbcc2a58128aa2b675a4bdfc0704262867b681a9ca182096bc69ff28f5"), looks := false }, kinds := [], alts := [], laidByText := true, laidKinds := [.data, .pinned], laidTests := true, laidLooks := .later }
def TopNegativesCardSaid : Prop := Claim7.holds Tryz.pinned (.plain (OpenSpec.ofChange topNegativesSpec)) topNegativesCard

/-- THE TIED CARD OF 'deadwaxtop.TopScratch'. -/
def topScratchCard : Claim7 := { stood := { row := topScratchRow, standIns := [], harness := (true, "b33165bbcc2a58128aa2b675a4bdfc0704262867b681a9ca182096bc69ff28f5"), looks := false }, kinds := [], alts := [], laidByText := true, laidKinds := [.data, .pinned], laidTests := true, laidLooks := .later }
def TopScratchCardSaid : Prop := Claim7.holds Tryz.pinned (.plain (OpenSpec.ofChange topScratchSpec)) topScratchCard

/-- THE TIED CARD OF 'deadwaxtop.TopTwoSides'. -/
def topTwoSidesCard : Claim7 := { stood := { row := topTwoSidesRow, standIns := [], harness := (true, "b33165bbcc2a58128aa2b675a4bdfc0704262867b681a9ca182096bc69ff28f5"), looks := false }, kinds := [], alts := [], laidByText := true, laidKinds := [.data, .pinned], laidTests := true, laidLooks := .later }
def TopTwoSidesCardSaid : Prop := Claim7.holds Tryz.pinned (.plain (OpenSpec.ofChange topTwoSidesSpec)) topTwoSidesCard

/-- THE TIED CARD OF 'deadwaxtop.TopBands'. -/
def topBandsCard : Claim7 := { stood := { row := topBandsRow, standIns := [], harness := (true, "b33165bbcc2a58128aa2b675a4bdfc0704262867b681a9ca182096bc69ff28f5"), looks := false }, kinds := [], alts := [], laidByText := true, laidKinds := [.data, .data, .pinned], laidTests := true, laidLooks := .later }
def TopBandsCardSaid : Prop := Claim7.holds Tryz.pinned (.plain (OpenSpec.ofChange topBandsSpec)) topBandsCard

/-- THE TIED CARD OF 'deadwaxtop.TopNeedle'. -/
def topNeedleCard : Claim7 := { stood := { row := topNeedleRow, standIns := [], harness := (true, "b33165bbcc2a58128aa2b675a4bdfc0704262867b681a9ca182096bc69ff28f5"), looks := false }, kinds := [], alts := [], laidByText := true, laidKinds := [.data, .pinned], laidTests := true, laidLooks := .later }
def TopNeedleCardSaid : Prop := Claim7.holds Tryz.pinned (.plain (OpenSpec.ofChange topNeedleSpec)) topNeedleCard

/-- THE SECOND FORM's CARD OF 'deadwaxtop.TopLanded'. -/
def topLandedUptoCard : Claim7 := { stood := { row := topLandedUptoRow, standIns := [], harness := (true, "b33165bbcc2a58128aa2b675a4bdfc0704262867b681a9ca182096bc69ff28f5"), looks := false }, kinds := [], alts := [], laidByText := true, laidKinds := [.data, .pinned], laidTests := true, laidLooks := .later }
def TopLandedUptoCardSaid : Prop := Claim7.holds Tryz.pinned (.plain (OpenSpec.upto topLandedSpec)) topLandedUptoCard

/-- THE SECOND FORM's CARD OF 'deadwaxtop.TopWider'. -/
def topWiderUptoCard : Claim7 := { stood := { row := topWiderUptoRow, standIns := [], harness := (true, "b33165bbcc2a58128aa2b675a4bdfc0704262867b681a9ca182096bc69ff28f5"), looks := false }, kinds := [], alts := [], laidByText := true, laidKinds := [.data, .data, .pinned], laidTests := true, laidLooks := .later }
def TopWiderUptoCardSaid : Prop := Claim7.holds Tryz.pinned (.plain (OpenSpec.upto topWiderSpec)) topWiderUptoCard

/-- THE SECOND FORM's CARD OF 'deadwaxtop.TopStruck'. -/
def topStruckUptoCard : Claim7 := { stood := { row := topStruckUptoRow, standIns := [], harness := (true, "b33165bbcc2a58128aa2b675a4bdfc0704262867b681a9ca182096bc69ff28f5"), looks := false }, kinds := [], alts := [], laidByText := true, laidKinds := [.data, .pinned], laidTests := true, laidLooks := .later }
def TopStruckUptoCardSaid : Prop := Claim7.holds Tryz.pinned (.plain (OpenSpec.upto topStruckSpec)) topStruckUptoCard

/-- THE SECOND FORM's CARD OF 'deadwaxtop.TopNegatives'. -/
def topNegativesUptoCard : Claim7 := { stood := { row := topNegativesUptoRow, standIns := [], harness := (true, "b33165bbcc2a58128aa2b675a4bdfc0704262867b681a9ca182096bc69ff28f5"), looks := false }, kinds := [], alts := [], laidByText := true, laidKinds := [.data, .pinned], laidTests := true, laidLooks := .later }
def TopNegativesUptoCardSaid : Prop := Claim7.holds Tryz.pinned (.plain (OpenSpec.upto topNegativesSpec)) topNegativesUptoCard

/-- THE SECOND FORM's CARD OF 'deadwaxtop.TopScratch'. -/
def topScratchUptoCard : Claim7 := { stood := { row := topScratchUptoRow, standIns := [], harness := (true, "b33165bbcc2a58128aa2b675a4bdfc0704262867b681a9ca182096bc69ff28f5"), looks := false }, kinds := [], alts := [], laidByText := true, laidKinds := [.data, .pinned], laidTests := true, laidLooks := .later }
def TopScratchUptoCardSaid : Prop := Claim7.holds Tryz.pinned (.plain (OpenSpec.upto topScratchSpec)) topScratchUptoCard

/-- THE SECOND FORM's CARD OF 'deadwaxtop.TopTwoSides'. -/
def topTwoSidesUptoCard : Claim7 := { stood := { row := topTwoSidesUptoRow, standIns := [], harness := (true, "b33165bbcc2a58128aa2b675a4bdfc0704262867b681a9ca182096bc69ff28f5"), looks := false }, kinds := [], alts := [], laidByText := true, laidKinds := [.data, .pinned], laidTests := true, laidLooks := .later }
def TopTwoSidesUptoCardSaid : Prop := Claim7.holds Tryz.pinned (.plain (OpenSpec.upto topTwoSidesSpec)) topTwoSidesUptoCard

/-- THE SECOND FORM's CARD OF 'deadwaxtop.TopBands'. -/
def topBandsUptoCard : Claim7 := { stood := { row := topBandsUptoRow, standIns := [], harness := (true, "b33165bbcc2a58128aa2b675a4bdfc0704262867b681a9ca182096bc69ff28f5"), looks := false }, kinds := [], alts := [], laidByText := true, laidKinds := [.data, .data, .pinned], laidTests := true, laidLooks := .later }
def TopBandsUptoCardSaid : Prop := Claim7.holds Tryz.pinned (.plain (OpenSpec.upto topBandsSpec)) topBandsUptoCard

/-- THE SECOND FORM's CARD OF 'deadwaxtop.TopNeedle'. -/
def topNeedleUptoCard : Claim7 := { stood := { row := topNeedleUptoRow, standIns := [], harness := (true, "b33165bbcc2a58128aa2b675a4bdfc0704262867b681a9ca182096bc69ff28f5"), looks := false }, kinds := [], alts := [], laidByText := true, laidKinds := [.data, .pinned], laidTests := true, laidLooks := .later }
def TopNeedleUptoCardSaid : Prop := Claim7.holds Tryz.pinned (.plain (OpenSpec.upto topNeedleSpec)) topNeedleUptoCard
end Rows
end Go.Proofs.YtlldpkkcbheenaaGreatDoor
