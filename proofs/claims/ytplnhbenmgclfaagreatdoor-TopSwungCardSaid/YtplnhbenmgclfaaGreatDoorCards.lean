/-
  DERIVED. GIVEN WITH THE SEED: THE CARDS: each row of YtplnhbenmgclfaaGreatDoorRows.lean that lists a variable, with what it lists TIED to the program's text (the seventh form; the later family's looks); each row that meets fmt, with fmt's text TOLD by the authors' own Lean function (tested against real Go, not proved from fmt's source: count such statements apart). THE CARD IS WHAT COUNTS. Prove the row's statement (the work); the ties are given (YtplnhbenmgclfaaGreatDoorTie.lean); close each card by the builder's one call (the guide's Derived/Test/ToyasCard.lean, 'card_holds'). Laid BY PROGRAM, IN A SANDBOX (cutbox-door.mjs). By AI agents, Wed Nov 11 2026. No macro, syntax, notation, axiom, sorry.
-/
import Derived.Test.YtplnhbenmgclfaaGreatDoorRows
import GoSem.ClaimSeven
namespace Go.Proofs.YtplnhbenmgclfaaGreatDoor
namespace Rows

/-- THE TIED CARD OF 'deadwaxtop.TopThinner'. -/
def topThinnerCard : Claim7 := { stood := { row := topThinnerRow, standIns := [], harness := (true, "40e0b4d99d5bc312fd8e3734de51e3e372b3947d3375e690d5243556846db1f8"), looks := false }, kinds := [], alts := [], laidByText := true, laidKinds := [.data, .pinned], laidTests := true, laidLooks := .later }
def TopThinnerCardSaid : Prop := Claim7.holds Tryz.pinned (.plain (OpenSpec.ofChange topThinnerSpec)) topThinnerCard

/-- THE TIED CARD OF 'deadwaxtop.TopTwoSides'. -/
def topTwoSidesCard : Claim7 := { stood := { row := topTwoSidesRow, standIns := [], harness := (true, "40e0b4d99d5bc312fd8e3734de51e3e372b3947d3375e690d5243556846db1f8"), looks := false }, kinds := [], alts := [], laidByText := true, laidKinds := [.data, .pinned], laidTests := true, laidLooks := .later }
def TopTwoSidesCardSaid : Prop := Claim7.holds Tryz.pinned (.plain (OpenSpec.ofChange topTwoSidesSpec)) topTwoSidesCard

/-- THE TIED CARD OF 'deadwaxtop.TopTold'. -/
def topToldCard : Claim7 := { stood := { row := topToldRow, standIns := [], harness := (true, "40e0b4d99d5bc312fd8e3734de51e3e372b3947d3375e690d5243556846db1f8"), looks := false }, kinds := [], alts := [], laidByText := true, laidKinds := [.data, .pinned], laidTests := true, laidLooks := .later }
def TopToldCardSaid : Prop := Claim7.holds Tryz.pinned (.plain (OpenSpec.ofChange topToldSpec)) topToldCard

/-- THE TIED CARD OF 'deadwaxtop.TopPlayable'. -/
def topPlayableCard : Claim7 := { stood := { row := topPlayableRow, standIns := [], harness := (true, "40e0b4d99d5bc312fd8e3734de51e3e372b3947d3375e690d5243556846db1f8"), looks := false }, kinds := [], alts := [], laidByText := true, laidKinds := [.data, .pinned], laidTests := true, laidLooks := .later }
def TopPlayableCardSaid : Prop := Claim7.holds Tryz.pinned (.plain (OpenSpec.ofChange topPlayableSpec)) topPlayableCard

/-- THE TIED CARD OF 'deadwaxtop.TopBands'. -/
def topBandsCard : Claim7 := { stood := { row := topBandsRow, standIns := [], harness := (true, "40e0b4d99d5bc312fd8e3734de51e3e372b3947d3375e690d5243556846db1f8"), looks := false }, kinds := [], alts := [], laidByText := true, laidKinds := [.data, .data, .pinned], laidTests := true, laidLooks := .later }
def TopBandsCardSaid : Prop := Claim7.holds Tryz.pinned (.plain (OpenSpec.ofChange topBandsSpec)) topBandsCard

/-- THE TIED CARD OF 'deadwaxtop.TopSwung'. -/
def topSwungCard : Claim7 := { stood := { row := topSwungRow, standIns := [], harness := (true, "40e0b4d99d5bc312fd8e3734de51e3e372b3947d3375e690d5243556846db1f8"), looks := false }, kinds := [], alts := [], laidByText := true, laidKinds := [.data, .pinned], laidTests := true, laidLooks := .later }
def TopSwungCardSaid : Prop := Claim7.holds Tryz.pinned (.plain (OpenSpec.ofChange topSwungSpec)) topSwungCard

/-- THE SECOND FORM's CARD OF 'deadwaxtop.TopThinner'. -/
def topThinnerUptoCard : Claim7 := { stood := { row := topThinnerUptoRow, standIns := [], harness := (true, "40e0b4d99d5bc312fd8e3734de51e3e372b3947d3375e690d5243556846db1f8"), looks := false }, kinds := [], alts := [], laidByText := true, laidKinds := [.data, .pinned], laidTests := true, laidLooks := .later }
def TopThinnerUptoCardSaid : Prop := Claim7.holds Tryz.pinned (.plain (OpenSpec.upto topThinnerSpec)) topThinnerUptoCard

/-- THE SECOND FORM's CARD OF 'deadwaxtop.TopTwoSides'. -/
def topTwoSidesUptoCard : Claim7 := { stood := { row := topTwoSidesUptoRow, standIns := [], harness := (true, "40e0b4d99d5bc312fd8e3734de51e3e372b3947d3375e690d5243556846db1f8"), looks := false }, kinds := [], alts := [], laidByText := true, laidKinds := [.data, .pinned], laidTests := true, laidLooks := .later }
def TopTwoSidesUptoCardSaid : Prop := Claim7.holds Tryz.pinned (.plain (OpenSpec.upto topTwoSidesSpec)) topTwoSidesUptoCard

/-- THE SECOND FORM's CARD OF 'deadwaxtop.TopTold'. -/
def topToldUptoCard : Claim7 := { stood := { row := topToldUptoRow, standIns := [], harness := (true, "40e0b4d99d5bc312fd8e3734de51e3e372b3947d3375e690d5243556846db1f8"), looks := false }, kinds := [], alts := [], laidByText := true, laidKinds := [.data, .pinned], laidTests := true, laidLooks := .later }
def TopToldUptoCardSaid : Prop := Claim7.holds Tryz.pinned (.plain (OpenSpec.upto topToldSpec)) topToldUptoCard

/-- THE SECOND FORM's CARD OF 'deadwaxtop.TopPlayable'. -/
def topPlayableUptoCard : Claim7 := { stood := { row := topPlayableUptoRow, standIns := [], harness := (true, "40e0b4d99d5bc312fd8e3734de51e3e372b3947d3375e690d5243556846db1f8"), looks := false }, kinds := [], alts := [], laidByText := true, laidKinds := [.data, .pinned], laidTests := true, laidLooks := .later }
def TopPlayableUptoCardSaid : Prop := Claim7.holds Tryz.pinned (.plain (OpenSpec.upto topPlayableSpec)) topPlayableUptoCard

/-- THE SECOND FORM's CARD OF 'deadwaxtop.TopBands'. -/
def topBandsUptoCard : Claim7 := { stood := { row := topBandsUptoRow, standIns := [], harness := (true, "40e0b4d99d5bc312fd8e3734de51e3e372b3947d3375e690d5243556846db1f8"), looks := false }, kinds := [], alts := [], laidByText := true, laidKinds := [.data, .data, .pinned], laidTests := true, laidLooks := .later }
def TopBandsUptoCardSaid : Prop := Claim7.holds Tryz.pinned (.plain (OpenSpec.upto topBandsSpec)) topBandsUptoCard

/-- THE SECOND FORM's CARD OF 'deadwaxtop.TopSwung'. -/
def topSwungUptoCard : Claim7 := { stood := { row := topSwungUptoRow, standIns := [], harness := (true, "40e0b4d99d5bc312fd8e3734de51e3e372b3947d3375e690d5243556846db1f8"), looks := false }, kinds := [], alts := [], laidByText := true, laidKinds := [.data, .pinned], laidTests := true, laidLooks := .later }
def TopSwungUptoCardSaid : Prop := Claim7.holds Tryz.pinned (.plain (OpenSpec.upto topSwungSpec)) topSwungUptoCard
end Rows
end Go.Proofs.YtplnhbenmgclfaaGreatDoor
