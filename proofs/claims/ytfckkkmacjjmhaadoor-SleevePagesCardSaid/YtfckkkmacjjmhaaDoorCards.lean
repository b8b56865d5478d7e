/-
  DERIVED. GIVEN WITH THE SEED: THE CARDS: each row of YtfckkkmacjjmhaaDoorRows.lean that lists a variable, with what it lists TIED to the program's text (the seventh form; the later family's looks); each row that meets fmt, with fmt's text TOLD by the authors' own Lean function (tested against real Go, not proved from fmt's source: count such statements apart). THE CARD IS WHAT COUNTS. Prove the row's statement (the work); the ties are given (YtfckkkmacjjmhaaDoorTie.lean); close each card by the builder's one call (the guide's Derived/Test/ToyasCard.lean, 'card_holds'). Laid BY PROGRAM, IN A SANDBOX (cutbox-door.mjs). By AI agents, Wed Nov 11 2026. No macro, syntax, notation, axiom, sorry.
-/
import Derived.Test.YtfckkkmacjjmhaaDoorRows
import GoSem.ClaimSeven
namespace Go.Proofs.YtfckkkmacjjmhaaDoor
namespace Rows

/-- THE TIED CARD OF 'deadwaxlaw10.SleevePages'. -/
def sleevePagesCard : Claim7 := { stood := { row := sleevePagesRow, standIns := [], harness := (true, "d8b2fc9be468dfc3e70dbe98bf5c0856315a8fe33d11c92e55dd285342bae7b7"), looks := true }, kinds := [], alts := [], laidByText := true, laidKinds := [.data], laidTests := true, laidLooks := .later }
def SleevePagesCardSaid : Prop := Claim7.holds Tryd.pinned (.plain (OpenSpec.ofChange sleevePagesSpec)) sleevePagesCard

/-- THE TIED CARD OF 'deadwaxlaw10.SleeveRuns'. -/
def sleeveRunsCard : Claim7 := { stood := { row := sleeveRunsRow, standIns := [], harness := (true, "d8b2fc9be468dfc3e70dbe98bf5c0856315a8fe33d11c92e55dd285342bae7b7"), looks := true }, kinds := [], alts := [], laidByText := true, laidKinds := [.data], laidTests := true, laidLooks := .later }
def SleeveRunsCardSaid : Prop := Claim7.holds Tryd.pinned (.plain (OpenSpec.ofChange sleeveRunsSpec)) sleeveRunsCard

/-- THE TIED CARD OF 'deadwaxlaw10.SleeveEach'. -/
def sleeveEachCard : Claim7 := { stood := { row := sleeveEachRow, standIns := [], harness := (true, "d8b2fc9be468dfc3e70dbe98bf5c0856315a8fe33d11c92e55dd285342bae7b7"), looks := true }, kinds := [], alts := [], laidByText := true, laidKinds := [.data], laidTests := true, laidLooks := .later }
def SleeveEachCardSaid : Prop := Claim7.holds Tryd.pinned (.plain (OpenSpec.ofChange sleeveEachSpec)) sleeveEachCard

/-- THE TIED CARD OF 'deadwaxlaw10.SleeveMirror'. -/
def sleeveMirrorCard : Claim7 := { stood := { row := sleeveMirrorRow, standIns := [], harness := (true, "d8b2fc9be468dfc3e70dbe98bf5c0856315a8fe33d11c92e55dd285342bae7b7"), looks := true }, kinds := [], alts := [], laidByText := true, laidKinds := [.data], laidTests := true, laidLooks := .later }
def SleeveMirrorCardSaid : Prop := Claim7.holds Tryd.pinned (.plain (OpenSpec.ofChange sleeveMirrorSpec)) sleeveMirrorCard

/-- THE TIED CARD OF 'deadwaxlaw10.SleeveEnough'. -/
def sleeveEnoughCard : Claim7 := { stood := { row := sleeveEnoughRow, standIns := [], harness := (true, "d8b2fc9be468dfc3e70dbe98bf5c0856315a8fe33d11c92e55dd285342bae7b7"), looks := true }, kinds := [], alts := [], laidByText := true, laidKinds := [.data], laidTests := true, laidLooks := .later }
def SleeveEnoughCardSaid : Prop := Claim7.holds Tryd.pinned (.plain (OpenSpec.ofChange sleeveEnoughSpec)) sleeveEnoughCard

/-- THE TIED CARD OF 'deadwaxlaw10.SleeveFlat'. -/
def sleeveFlatCard : Claim7 := { stood := { row := sleeveFlatRow, standIns := [], harness := (true, "d8b2fc9be468dfc3e70dbe98bf5c0856315a8fe33d11c92e55dd285342bae7b7"), looks := true }, kinds := [], alts := [], laidByText := true, laidKinds := [.data], laidTests := true, laidLooks := .later }
def SleeveFlatCardSaid : Prop := Claim7.holds Tryd.pinned (.plain (OpenSpec.ofChange sleeveFlatSpec)) sleeveFlatCard

/-- THE TIED CARD OF 'deadwaxlaw10.SleeveLayers'. -/
def sleeveLayersCard : Claim7 := { stood := { row := sleeveLayersRow, standIns := [], harness := (true, "d8b2fc9be468dfc3e70dbe98bf5c0856315a8fe33d11c92e55dd285342bae7b7"), looks := true }, kinds := [], alts := [], laidByText := true, laidKinds := [.data], laidTests := true, laidLooks := .later }
def SleeveLayersCardSaid : Prop := Claim7.holds Tryd.pinned (.plain (OpenSpec.ofChange sleeveLayersSpec)) sleeveLayersCard

/-- THE TIED CARD OF 'deadwaxlaw10.SleeveNets'. -/
def sleeveNetsCard : Claim7 := { stood := { row := sleeveNetsRow, standIns := [], harness := (true, "d8b2fc9be468dfc3e70dbe98bf5c0856315a8fe33d11c92e55dd285342bae7b7"), looks := true }, kinds := [], alts := [], laidByText := true, laidKinds := [.data], laidTests := true, laidLooks := .later }
def SleeveNetsCardSaid : Prop := Claim7.holds Tryd.pinned (.plain (OpenSpec.ofChange sleeveNetsSpec)) sleeveNetsCard

/-- THE TIED CARD OF 'deadwaxlaw10.SleeveGangs'. -/
def sleeveGangsCard : Claim7 := { stood := { row := sleeveGangsRow, standIns := [], harness := (true, "d8b2fc9be468dfc3e70dbe98bf5c0856315a8fe33d11c92e55dd285342bae7b7"), looks := true }, kinds := [], alts := [], laidByText := true, laidKinds := [.data], laidTests := true, laidLooks := .later }
def SleeveGangsCardSaid : Prop := Claim7.holds Tryd.pinned (.plain (OpenSpec.ofChange sleeveGangsSpec)) sleeveGangsCard

/-- THE TIED CARD OF 'deadwaxlaw10.SleeveCheapest'. -/
def sleeveCheapestCard : Claim7 := { stood := { row := sleeveCheapestRow, standIns := [], harness := (true, "d8b2fc9be468dfc3e70dbe98bf5c0856315a8fe33d11c92e55dd285342bae7b7"), looks := true }, kinds := [], alts := [], laidByText := true, laidKinds := [.data], laidTests := true, laidLooks := .later }
def SleeveCheapestCardSaid : Prop := Claim7.holds Tryd.pinned (.plain (OpenSpec.ofChange sleeveCheapestSpec)) sleeveCheapestCard

/-- THE TIED CARD OF 'deadwaxlaw10.SleeveKnown'. -/
def sleeveKnownCard : Claim7 := { stood := { row := sleeveKnownRow, standIns := [], harness := (true, "d8b2fc9be468dfc3e70dbe98bf5c0856315a8fe33d11c92e55dd285342bae7b7"), looks := true }, kinds := [], alts := [], laidByText := true, laidKinds := [.data], laidTests := true, laidLooks := .later }
def SleeveKnownCardSaid : Prop := Claim7.holds Tryd.pinned (.plain (OpenSpec.ofChange sleeveKnownSpec)) sleeveKnownCard

/-- THE SECOND FORM's CARD OF 'deadwaxlaw10.SleevePages'. -/
def sleevePagesUptoCard : Claim7 := { stood := { row := sleevePagesUptoRow, standIns := [], harness := (true, "d8b2fc9be468dfc3e70dbe98bf5c0856315a8fe33d11c92e55dd285342bae7b7"), looks := true }, kinds := [], alts := [], laidByText := true, laidKinds := [.data], laidTests := true, laidLooks := .later }
def SleevePagesUptoCardSaid : Prop := Claim7.holds Tryd.pinned (.plain (OpenSpec.upto sleevePagesSpec)) sleevePagesUptoCard

/-- THE SECOND FORM's CARD OF 'deadwaxlaw10.SleeveRuns'. -/
def sleeveRunsUptoCard : Claim7 := { stood := { row := sleeveRunsUptoRow, standIns := [], harness := (true, "d8b2fc9be468dfc3e70dbe98bf5c0856315a8fe33d11c92e55dd285342bae7b7"), looks := true }, kinds := [], alts := [], laidByText := true, laidKinds := [.data], laidTests := true, laidLooks := .later }
def SleeveRunsUptoCardSaid : Prop := Claim7.holds Tryd.pinned (.plain (OpenSpec.upto sleeveRunsSpec)) sleeveRunsUptoCard

/-- THE SECOND FORM's CARD OF 'deadwaxlaw10.SleeveEach'. -/
def sleeveEachUptoCard : Claim7 := { stood := { row := sleeveEachUptoRow, standIns := [], harness := (true, "d8b2fc9be468dfc3e70dbe98bf5c0856315a8fe33d11c92e55dd285342bae7b7"), looks := true }, kinds := [], alts := [], laidByText := true, laidKinds := [.data], laidTests := true, laidLooks := .later }
def SleeveEachUptoCardSaid : Prop := Claim7.holds Tryd.pinned (.plain (OpenSpec.upto sleeveEachSpec)) sleeveEachUptoCard

/-- THE SECOND FORM's CARD OF 'deadwaxlaw10.SleeveMirror'. -/
def sleeveMirrorUptoCard : Claim7 := { stood := { row := sleeveMirrorUptoRow, standIns := [], harness := (true, "d8b2fc9be468dfc3e70dbe98bf5c0856315a8fe33d11c92e55dd285342bae7b7"), looks := true }, kinds := [], alts := [], laidByText := true, laidKinds := [.data], laidTests := true, laidLooks := .later }
def SleeveMirrorUptoCardSaid : Prop := Claim7.holds Tryd.pinned (.plain (OpenSpec.upto sleeveMirrorSpec)) sleeveMirrorUptoCard

/-- THE SECOND FORM's CARD OF 'deadwaxlaw10.SleeveEnough'. -/
def sleeveEnoughUptoCard : Claim7 := { stood := { row := sleeveEnoughUptoRow, standIns := [], harness := (true, "d8b2fc9be468dfc3e70dbe98bf5c0856315a8fe33d11c92e55dd285342bae7b7"), looks := true }, kinds := [], alts := [], laidByText := true, laidKinds := [.data], laidTests := true, laidLooks := .later }
def SleeveEnoughUptoCardSaid : Prop := Claim7.holds Tryd.pinned (.plain (OpenSpec.upto sleeveEnoughSpec)) sleeveEnoughUptoCard

/-- THE SECOND FORM's CARD OF 'deadwaxlaw10.SleeveFlat'. -/
def sleeveFlatUptoCard : Claim7 := { stood := { row := sleeveFlatUptoRow, standIns := [], harness := (true, "d8b2fc9be468dfc3e70dbe98bf5c0856315a8fe33d11c92e55dd285342bae7b7"), looks := true }, kinds := [], alts := [], laidByText := true, laidKinds := [.data], laidTests := true, laidLooks := .later }
def SleeveFlatUptoCardSaid : Prop := Claim7.holds Tryd.pinned (.plain (OpenSpec.upto sleeveFlatSpec)) sleeveFlatUptoCard

/-- THE SECOND FORM's CARD OF 'deadwaxlaw10.SleeveLayers'. -/
def sleeveLayersUptoCard : Claim7 := { stood := { row := sleeveLayersUptoRow, standIns := [], harness := (true, "d8b2fc9be468dfc3e70dbe98bf5c0856315a8fe33d11c92e55dd285342bae7b7"), looks := true }, kinds := [], alts := [], laidByText := true, laidKinds := [.data], laidTests := true, laidLooks := .later }
def SleeveLayersUptoCardSaid : Prop := Claim7.holds Tryd.pinned (.plain (OpenSpec.upto sleeveLayersSpec)) sleeveLayersUptoCard

/-- THE SECOND FORM's CARD OF 'deadwaxlaw10.SleeveNets'. -/
def sleeveNetsUptoCard : Claim7 := { stood := { row := sleeveNetsUptoRow, standIns := [], harness := (true, "d8b2fc9be468dfc3e70dbe98bf5c0856315a8fe33d11c92e55dd285342bae7b7"), looks := true }, kinds := [], alts := [], laidByText := true, laidKinds := [.data], laidTests := true, laidLooks := .later }
def SleeveNetsUptoCardSaid : Prop := Claim7.holds Tryd.pinned (.plain (OpenSpec.upto sleeveNetsSpec)) sleeveNetsUptoCard

/-- THE SECOND FORM's CARD OF 'deadwaxlaw10.SleeveGangs'. -/
def sleeveGangsUptoCard : Claim7 := { stood := { row := sleeveGangsUptoRow, standIns := [], harness := (true, "d8b2fc9be468dfc3e70dbe98bf5c0856315a8fe33d11c92e55dd285342bae7b7"), looks := true }, kinds := [], alts := [], laidByText := true, laidKinds := [.data], laidTests := true, laidLooks := .later }
def SleeveGangsUptoCardSaid : Prop := Claim7.holds Tryd.pinned (.plain (OpenSpec.upto sleeveGangsSpec)) sleeveGangsUptoCard

/-- THE SECOND FORM's CARD OF 'deadwaxlaw10.SleeveCheapest'. -/
def sleeveCheapestUptoCard : Claim7 := { stood := { row := sleeveCheapestUptoRow, standIns := [], harness := (true, "d8b2fc9be468dfc3e70dbe98bf5c0856315a8fe33d11c92e55dd285342bae7b7"), looks := true }, kinds := [], alts := [], laidByText := true, laidKinds := [.data], laidTests := true, laidLooks := .later }
def SleeveCheapestUptoCardSaid : Prop := Claim7.holds Tryd.pinned (.plain (OpenSpec.upto sleeveCheapestSpec)) sleeveCheapestUptoCard

/-- THE SECOND FORM's CARD OF 'deadwaxlaw10.SleeveKnown'. -/
def sleeveKnownUptoCard : Claim7 := { stood := { row := sleeveKnownUptoRow, standIns := [], harness := (true, "d8b2fc9be468dfc3e70dbe98bf5c0856315a8fe33d11c92e55dd285342bae7b7"), looks := true }, kinds := [], alts := [], laidByText := true, laidKinds := [.data], laidTests := true, laidLooks := .later }
def SleeveKnownUptoCardSaid : Prop := Claim7.holds Tryd.pinned (.plain (OpenSpec.upto sleeveKnownSpec)) sleeveKnownUptoCard
end Rows
end Go.Proofs.YtfckkkmacjjmhaaDoor
