/-
  DERIVED. GIVEN WITH THE SEED: THE CARDS: each row of YtepkjobndmmejaaGreatDoorRows.lean that lists a variable, with what it lists TIED to the program's text (the seventh form; the later family's looks); each row that meets fmt, with fmt's text TOLD by the authors' own Lean function (tested against real Go, not proved from fmt's source: count such statements apart). THE CARD IS WHAT COUNTS. Prove the row's statement (the work); the ties are given (YtepkjobndmmejaaGreatDoorTie.lean); close each card by the builder's one call (the guide's Derived/Test/ToyasCard.lean, 'card_holds'). Laid BY PROGRAM, IN A SANDBOX (cutbox-door.mjs). By AI agents, Wed Nov 11 2026. No macro, syntax, notation, axiom, sorry.
-/
import Derived.Test.YtepkjobndmmejaaGreatDoorRows
import GoSem.ClaimSeven
namespace Go.Proofs.YtepkjobndmmejaaGreatDoor
namespace Rows

/-- THE TIED CARD OF 'deadwaxtop.TopHeardBack'. -/
def topHeardBackCard : Claim7 := { stood := { row := topHeardBackRow, standIns := [], harness := (true, "be306fbec650ebf9afa70d6a6817377cdec99fa577037d249112b6742175ae06"), looks := false }, kinds := [], alts := [], laidByText := true, laidKinds := [.data, .pinned], laidTests := true, laidLooks := .later }
def TopHeardBackCardSaid : Prop := Claim7.holds Tryz.pinned (.plain (OpenSpec.ofChange topHeardBackSpec)) topHeardBackCard

/-- THE TIED CARD OF 'deadwaxtop.TopFarther'. -/
def topFartherCard : Claim7 := { stood := { row := topFartherRow, standIns := [], harness := (true, "be306fbec650ebf9afa70d6a6817377cdec99fa577037d249112b6742175ae06"), looks := false }, kinds := [], alts := [], laidByText := true, laidKinds := [.data, .pinned], laidTests := true, laidLooks := .later }
def TopFartherCardSaid : Prop := Claim7.holds Tryz.pinned (.plain (OpenSpec.ofChange topFartherSpec)) topFartherCard

/-- THE TIED CARD OF 'deadwaxtop.TopHeld'. -/
def topHeldCard : Claim7 := { stood := { row := topHeldRow, standIns := [], harness := (true, "be306fbec650ebf9afa70d6a6817377cdec99fa577037d249112b6742175ae06"), looks := false }, kinds := [], alts := [], laidByText := true, laidKinds := [.data, .pinned], laidTests := true, laidLooks := .later }
def TopHeldCardSaid : Prop := Claim7.holds Tryz.pinned (.plain (OpenSpec.ofChange topHeldSpec)) topHeldCard

/-- THE TIED CARD OF 'deadwaxtop.TopNeedle'. -/
def topNeedleCard : Claim7 := { stood := { row := topNeedleRow, standIns := [], harness := (true, "be306fbec650ebf9afa70d6a6817377cdec99fa577037d249112b6742175ae06"), looks := false }, kinds := [], alts := [], laidByText := true, laidKinds := [.data, .pinned], laidTests := true, laidLooks := .later }
def TopNeedleCardSaid : Prop := Claim7.holds Tryz.pinned (.plain (OpenSpec.ofChange topNeedleSpec)) topNeedleCard

/-- THE SECOND FORM's CARD OF 'deadwaxtop.TopHeardBack'. -/
def topHeardBackUptoCard : Claim7 := { stood := { row := topHeardBackUptoRow, standIns := [], harness := (true, "be306fbec650ebf9afa70d6a6817377cdec99fa577037d249112b6742175ae06"), looks := false }, kinds := [], alts := [], laidByText := true, laidKinds := [.data, .pinned], laidTests := true, laidLooks := .later }
def TopHeardBackUptoCardSaid : Prop := Claim7.holds Tryz.pinned (.plain (OpenSpec.upto topHeardBackSpec)) topHeardBackUptoCard

/-- THE SECOND FORM's CARD OF 'deadwaxtop.TopFarther'. -/
def topFartherUptoCard : Claim7 := { stood := { row := topFartherUptoRow, standIns := [], harness := (true, "be306fbec650ebf9afa70d6a6817377cdec99fa577037d249112b6742175ae06"), looks := false }, kinds := [], alts := [], laidByText := true, laidKinds := [.data, .pinned], laidTests := true, laidLooks := .later }
def TopFartherUptoCardSaid : Prop := Claim7.holds Tryz.pinned (.plain (OpenSpec.upto topFartherSpec)) topFartherUptoCard

/-- THE SECOND FORM's CARD OF 'deadwaxtop.TopHeld'. -/
def topHeldUptoCard : Claim7 := { stood := { row := topHeldUptoRow, standIns := [], harness := (true, "be306fbec650ebf9afa70d6a6817377cdec99fa577037d249112b6742175ae06"), looks := false }, kinds := [], alts := [], laidByText := true, laidKinds := [.data, .pinned], laidTests := true, laidLooks := .later }
def TopHeldUptoCardSaid : Prop := Claim7.holds Tryz.pinned (.plain (OpenSpec.upto topHeldSpec)) topHeldUptoCard

/-- THE SECOND FORM's CARD OF 'deadwaxtop.TopNeedle'. -/
def topNeedleUptoCard : Claim7 := { stood := { row := topNeedleUptoRow, standIns := [], harness := (true, "be306fbec650ebf9afa70d6a6817377cdec99fa577037d249112b6742175ae06"), looks := false }, kinds := [], alts := [], laidByText := true, laidKinds := [.data, .pinned], laidTests := true, laidLooks := .later }
def TopNeedleUptoCardSaid : Prop := Claim7.holds Tryz.pinned (.plain (OpenSpec.upto topNeedleSpec)) topNeedleUptoCard
end Rows
end Go.Proofs.YtepkjobndmmejaaGreatDoor
