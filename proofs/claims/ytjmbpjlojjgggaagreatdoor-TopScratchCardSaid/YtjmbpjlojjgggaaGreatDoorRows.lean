/-
  NARROWER THAN 'FOR EVERY INPUT', by the rows' own cells (each row's printed sentence says how): TopStruck: laid · TopNegatives: laid · TopScratch: laid · TopEnough: laid · TopCaused: laid · TopLater: laid · TopFewHearings: laid.
  DERIVED. THE GIVEN ROWS OF THIS SEAT. 7 by the template 'for every input the law returns true; each argument reads behind the call as it read before'; 0 by the template 'total and deterministic' (their statements: YtjmbpjlojjgggaaGreatDoorTotals.lean).
  GIVEN WITH THE SEED: the statements are not yours to turn. If you find one false, say at which input.
  Laid BY PROGRAM, IN A SANDBOX (cutbox-rows.mjs): the forced cells as the released guide's own fill.sh prints them over the translation a1c02c34e6f0eb1e… (all of the seat's roots in one cut). By AI agents, Wed Nov 11 2026. No macro, syntax, notation, axiom, sorry.
-/
import Derived.Test.YtjmbpjlojjgggaaGreatDoorChecked
import GoSem.PinnedTables
import GoSem.Claim
import GoSem.ClaimJoined
import GoSem.ClaimMapViews
import Derived.JoinedTies
import Derived.KernelRfl
namespace Go.Proofs.YtjmbpjlojjgggaaGreatDoor
/- THE CELL 'sum', in the pinned program and in every row, IS THE sha256 OF THE DUMP (.gsa) THAT YtjmbpjlojjgggaaGreatDoorProg.lean LOADS. Nothing in Lean hashes anything: it is a label: what it is worth is what the hold of that sum in a sandbox is worth. -/
noncomputable def Tryz.pinned : Pinned := { name := "ytjmbpjlojjgggaagreatdoor", sum := "a1c02c34e6f0eb1ed07d0fca36f955e8e74f0ad28f61cbf8e4bde02c0296674b", checked := Tryz.checked }
namespace Rows
def none {H : Type} : Left H := { results := [], args := [] }

/- WHAT THE LISTED PACKAGE-LEVEL VARIABLES READ AS WHEN THE CALL BEGINS. Each datum BY PROGRAM (the guide's laid-datum.mjs) off the statement by which the dump's own 'gosem.cut.vars' lays the variable. In a bare row this is a premise. The card (YtjmbpjlojjgggaaGreatDoorCards.lean) ties it to the program's text. -/
def laid_unicode_utf8_acceptRanges {H : Type} : DataW H := .agg [.agg [.lit (.int .u8 128), .lit (.int .u8 191)], .agg [.lit (.int .u8 160), .lit (.int .u8 191)], .agg [.lit (.int .u8 128), .lit (.int .u8 159)], .agg [.lit (.int .u8 144), .lit (.int .u8 191)], .agg [.lit (.int .u8 128), .lit (.int .u8 143)], .agg [.lit (.int .u8 0), .lit (.int .u8 0)], .agg [.lit (.int .u8 0), .lit (.int .u8 0)], .agg [.lit (.int .u8 0), .lit (.int .u8 0)], .agg [.lit (.int .u8 0), .lit (.int .u8 0)], .agg [.lit (.int .u8 0), .lit (.int .u8 0)], .agg [.lit (.int .u8 0), .lit (.int .u8 0)], .agg [.lit (.int .u8 0), .lit (.int .u8 0)], .agg [.lit (.int .u8 0), .lit (.int .u8 0)], .agg [.lit (.int .u8 0), .lit (.int .u8 0)], .agg [.lit (.int .u8 0), .lit (.int .u8 0)], .agg [.lit (.int .u8 0), .lit (.int .u8 0)]]
/-- One of Go's own tables, pinned by name: the form's constant. -/
def laid_unicode_utf8_first : DataW Unit := Go.Pinned.utf8First

/-- 'deadwaxtop.TopStruck': WHATEVER THE INPUT: true; the input reads as it did. -/
def topStruckSpec : ChangeSpec := { name := "topStruck", fn := fun _ => fun
  | [d1, d2, d3, d4, d5, d6] => { results := [.lit (.bool true)], args := [d1, d2, d3, d4, d5, d6] }
  | _ => none }
def topStruckRow : OpenClaim := { program := "ytjmbpjlojjgggaagreatdoor", sum := "a1c02c34e6f0eb1ed07d0fca36f955e8e74f0ad28f61cbf8e4bde02c0296674b", func := "deadwax/deadwaxtop.TopStruck", spec := "topStruck", inPlace := ["internal/bytealg.IndexByteString", "internal/bytealg.IndexString"], unfollowed := true, recurses := true, named := ["unicode/utf8.first", "unicode/utf8.acceptRanges", "internal/bytealg.MaxLen"], apart := false, laid := [("unicode/utf8.acceptRanges", laid_unicode_utf8_acceptRanges), ("unicode/utf8.first", laid_unicode_utf8_first)] }
def TopStruckSaid : Prop := topStruckRow.holds Tryz.pinned (OpenSpec.ofChange topStruckSpec)

/-- ITS FALSE NEIGHBOUR: 'it returns false'. Refute it at one input. -/
def topStruckWrong : ChangeSpec := { name := "topStruck", fn := fun _ => fun
  | [d1, d2, d3, d4, d5, d6] => { results := [.lit (.bool false)], args := [d1, d2, d3, d4, d5, d6] }
  | _ => none }
def TopStruckWrongFalsely : Prop := topStruckRow.holds Tryz.pinned (OpenSpec.ofChange topStruckWrong)

/-- 'deadwaxtop.TopNegatives': WHATEVER THE INPUT: true; the input reads as it did. -/
def topNegativesSpec : ChangeSpec := { name := "topNegatives", fn := fun _ => fun
  | [d1, d2, d3, d4, d5, d6] => { results := [.lit (.bool true)], args := [d1, d2, d3, d4, d5, d6] }
  | _ => none }
def topNegativesRow : OpenClaim := { program := "ytjmbpjlojjgggaagreatdoor", sum := "a1c02c34e6f0eb1ed07d0fca36f955e8e74f0ad28f61cbf8e4bde02c0296674b", func := "deadwax/deadwaxtop.TopNegatives", spec := "topNegatives", inPlace := ["internal/bytealg.IndexByteString", "internal/bytealg.IndexString"], unfollowed := true, recurses := true, named := ["unicode/utf8.first", "unicode/utf8.acceptRanges", "internal/bytealg.MaxLen"], apart := false, laid := [("unicode/utf8.acceptRanges", laid_unicode_utf8_acceptRanges), ("unicode/utf8.first", laid_unicode_utf8_first)] }
def TopNegativesSaid : Prop := topNegativesRow.holds Tryz.pinned (OpenSpec.ofChange topNegativesSpec)

/-- ITS FALSE NEIGHBOUR: 'it returns false'. Refute it at one input. -/
def topNegativesWrong : ChangeSpec := { name := "topNegatives", fn := fun _ => fun
  | [d1, d2, d3, d4, d5, d6] => { results := [.lit (.bool false)], args := [d1, d2, d3, d4, d5, d6] }
  | _ => none }
def TopNegativesWrongFalsely : Prop := topNegativesRow.holds Tryz.pinned (OpenSpec.ofChange topNegativesWrong)

/-- 'deadwaxtop.TopScratch': WHATEVER THE INPUT: true; the input reads as it did. -/
def topScratchSpec : ChangeSpec := { name := "topScratch", fn := fun _ => fun
  | [d1, d2, d3, d4, d5, d6, d7, d8, d9] => { results := [.lit (.bool true)], args := [d1, d2, d3, d4, d5, d6, d7, d8, d9] }
  | _ => none }
def topScratchRow : OpenClaim := { program := "ytjmbpjlojjgggaagreatdoor", sum := "a1c02c34e6f0eb1ed07d0fca36f955e8e74f0ad28f61cbf8e4bde02c0296674b", func := "deadwax/deadwaxtop.TopScratch", spec := "topScratch", inPlace := ["internal/bytealg.IndexByteString", "internal/bytealg.IndexString"], unfollowed := true, recurses := true, named := ["unicode/utf8.first", "unicode/utf8.acceptRanges", "internal/bytealg.MaxLen"], apart := false, laid := [("unicode/utf8.acceptRanges", laid_unicode_utf8_acceptRanges), ("unicode/utf8.first", laid_unicode_utf8_first)] }
def TopScratchSaid : Prop := topScratchRow.holds Tryz.pinned (OpenSpec.ofChange topScratchSpec)

/-- ITS FALSE NEIGHBOUR: 'it returns false'. Refute it at one input. -/
def topScratchWrong : ChangeSpec := { name := "topScratch", fn := fun _ => fun
  | [d1, d2, d3, d4, d5, d6, d7, d8, d9] => { results := [.lit (.bool false)], args := [d1, d2, d3, d4, d5, d6, d7, d8, d9] }
  | _ => none }
def TopScratchWrongFalsely : Prop := topScratchRow.holds Tryz.pinned (OpenSpec.ofChange topScratchWrong)

/-- 'deadwaxtop.TopEnough': WHATEVER THE INPUT: true; the input reads as it did. -/
def topEnoughSpec : ChangeSpec := { name := "topEnough", fn := fun _ => fun
  | [d1, d2, d3, d4] => { results := [.lit (.bool true)], args := [d1, d2, d3, d4] }
  | _ => none }
def topEnoughRow : OpenClaim := { program := "ytjmbpjlojjgggaagreatdoor", sum := "a1c02c34e6f0eb1ed07d0fca36f955e8e74f0ad28f61cbf8e4bde02c0296674b", func := "deadwax/deadwaxtop.TopEnough", spec := "topEnough", inPlace := ["internal/bytealg.IndexByteString", "internal/bytealg.IndexString"], unfollowed := true, recurses := true, named := ["unicode/utf8.first", "unicode/utf8.acceptRanges", "internal/bytealg.MaxLen"], apart := false, laid := [("unicode/utf8.acceptRanges", laid_unicode_utf8_acceptRanges), ("unicode/utf8.first", laid_unicode_utf8_first)] }
def TopEnoughSaid : Prop := topEnoughRow.holds Tryz.pinned (OpenSpec.ofChange topEnoughSpec)

/-- ITS FALSE NEIGHBOUR: 'it returns false'. Refute it at one input. -/
def topEnoughWrong : ChangeSpec := { name := "topEnough", fn := fun _ => fun
  | [d1, d2, d3, d4] => { results := [.lit (.bool false)], args := [d1, d2, d3, d4] }
  | _ => none }
def TopEnoughWrongFalsely : Prop := topEnoughRow.holds Tryz.pinned (OpenSpec.ofChange topEnoughWrong)

/-- 'deadwaxtop.TopCaused': WHATEVER THE INPUT: true; the input reads as it did. -/
def topCausedSpec : ChangeSpec := { name := "topCaused", fn := fun _ => fun
  | [d1, d2, d3, d4, d5] => { results := [.lit (.bool true)], args := [d1, d2, d3, d4, d5] }
  | _ => none }
def topCausedRow : OpenClaim := { program := "ytjmbpjlojjgggaagreatdoor", sum := "a1c02c34e6f0eb1ed07d0fca36f955e8e74f0ad28f61cbf8e4bde02c0296674b", func := "deadwax/deadwaxtop.TopCaused", spec := "topCaused", inPlace := ["internal/bytealg.IndexByteString", "internal/bytealg.IndexString"], unfollowed := true, recurses := true, named := ["unicode/utf8.first", "unicode/utf8.acceptRanges", "internal/bytealg.MaxLen"], apart := false, laid := [("unicode/utf8.acceptRanges", laid_unicode_utf8_acceptRanges), ("unicode/utf8.first", laid_unicode_utf8_first)] }
def TopCausedSaid : Prop := topCausedRow.holds Tryz.pinned (OpenSpec.ofChange topCausedSpec)

/-- ITS FALSE NEIGHBOUR: 'it returns false'. Refute it at one input. -/
def topCausedWrong : ChangeSpec := { name := "topCaused", fn := fun _ => fun
  | [d1, d2, d3, d4, d5] => { results := [.lit (.bool false)], args := [d1, d2, d3, d4, d5] }
  | _ => none }
def TopCausedWrongFalsely : Prop := topCausedRow.holds Tryz.pinned (OpenSpec.ofChange topCausedWrong)

/-- 'deadwaxtop.TopLater': WHATEVER THE INPUT: true; the input reads as it did. -/
def topLaterSpec : ChangeSpec := { name := "topLater", fn := fun _ => fun
  | [d1, d2, d3, d4, d5, d6] => { results := [.lit (.bool true)], args := [d1, d2, d3, d4, d5, d6] }
  | _ => none }
def topLaterRow : OpenClaim := { program := "ytjmbpjlojjgggaagreatdoor", sum := "a1c02c34e6f0eb1ed07d0fca36f955e8e74f0ad28f61cbf8e4bde02c0296674b", func := "deadwax/deadwaxtop.TopLater", spec := "topLater", inPlace := ["internal/bytealg.IndexByteString", "internal/bytealg.IndexString"], unfollowed := true, recurses := true, named := ["unicode/utf8.first", "unicode/utf8.acceptRanges", "internal/bytealg.MaxLen"], apart := false, laid := [("unicode/utf8.acceptRanges", laid_unicode_utf8_acceptRanges), ("unicode/utf8.first", laid_unicode_utf8_first)] }
def TopLaterSaid : Prop := topLaterRow.holds Tryz.pinned (OpenSpec.ofChange topLaterSpec)

/-- ITS FALSE NEIGHBOUR: 'it returns false'. Refute it at one input. -/
def topLaterWrong : ChangeSpec := { name := "topLater", fn := fun _ => fun
  | [d1, d2, d3, d4, d5, d6] => { results := [.lit (.bool false)], args := [d1, d2, d3, d4, d5, d6] }
  | _ => none }
def TopLaterWrongFalsely : Prop := topLaterRow.holds Tryz.pinned (OpenSpec.ofChange topLaterWrong)

/-- 'deadwaxtop.TopFewHearings': WHATEVER THE INPUT: true; the input reads as it did. -/
def topFewHearingsSpec : ChangeSpec := { name := "topFewHearings", fn := fun _ => fun
  | [d1, d2, d3, d4, d5] => { results := [.lit (.bool true)], args := [d1, d2, d3, d4, d5] }
  | _ => none }
def topFewHearingsRow : OpenClaim := { program := "ytjmbpjlojjgggaagreatdoor", sum := "a1c02c34e6f0eb1ed07d0fca36f955e8e74f0ad28f61cbf8e4bde02c0296674b", func := "deadwax/deadwaxtop.TopFewHearings", spec := "topFewHearings", inPlace := ["internal/bytealg.IndexByteString", "internal/bytealg.IndexString"], unfollowed := true, recurses := true, named := ["unicode/utf8.first", "unicode/utf8.acceptRanges", "internal/bytealg.MaxLen"], apart := false, laid := [("unicode/utf8.acceptRanges", laid_unicode_utf8_acceptRanges), ("unicode/utf8.first", laid_unicode_utf8_first)] }
def TopFewHearingsSaid : Prop := topFewHearingsRow.holds Tryz.pinned (OpenSpec.ofChange topFewHearingsSpec)

/-- ITS FALSE NEIGHBOUR: 'it returns false'. Refute it at one input. -/
def topFewHearingsWrong : ChangeSpec := { name := "topFewHearings", fn := fun _ => fun
  | [d1, d2, d3, d4, d5] => { results := [.lit (.bool false)], args := [d1, d2, d3, d4, d5] }
  | _ => none }
def TopFewHearingsWrongFalsely : Prop := topFewHearingsRow.holds Tryz.pinned (OpenSpec.ofChange topFewHearingsWrong)

/- THE SECOND FORM. 'bulk': how many values and letters a reading holds, each counted each time it is reached (what is shared counts as often as it is met; a slice's spare places count too). A statement '..UptoSaid' is the law's where the arguments, and the package variables that the reading takes, are together of bulk at most 1048576: NARROWER than '..Said'. Prove '..Said' where nothing that the law and all that it calls make is longer than what came in: it says more and counts as full. Else prove '..UptoSaid'. A law counts once. -/
mutual
def uptoBulk {H : Type} : DataW H → Nat
  | .lit (.string bytes) => bytes.length + 1
  | .lit _ => 1
  | .nil => 1
  | .ptr d => uptoBulk d + 1
  | .slice elems spare => uptoBulkAll elems + uptoBulkAll spare + 1
  | .agg parts => uptoBulkAll parts + 1
  | .iface _ d => uptoBulk d + 1
  | .map entries => uptoBulkEntries entries + 1
  | .held _ => 1
def uptoBulkAll {H : Type} : List (DataW H) → Nat
  | [] => 0
  | d :: r => uptoBulk d + uptoBulkAll r
def uptoBulkEntries {H : Type} : List (Lit × DataW H) → Nat
  | [] => 0
  | x :: r => uptoBulkEntry x + uptoBulkEntries r
def uptoBulkEntry {H : Type} : Lit × DataW H → Nat
  | (.string bytes, d) => bytes.length + uptoBulk d + 1
  | (_, d) => uptoBulk d + 1
 end
def uptoSmall : (H : Type) → List (DataW H) → Bool := fun _ ds => decide (uptoBulkAll ds ≤ 1048576)
def OpenSpec.upto (s : _root_.Go.ChangeSpec) : _root_.Go.OpenSpec := { _root_.Go.OpenSpec.ofChange s with cond := some uptoSmall }

/-- 'deadwaxtop.TopStruck', WHERE WHAT IT READS IS OF BULK AT MOST 1048576: true; the input reads as it did. -/
def topStruckUptoRow : OpenClaim := { program := "ytjmbpjlojjgggaagreatdoor", sum := "a1c02c34e6f0eb1ed07d0fca36f955e8e74f0ad28f61cbf8e4bde02c0296674b", func := "deadwax/deadwaxtop.TopStruck", spec := "topStruck", inPlace := ["internal/bytealg.IndexByteString", "internal/bytealg.IndexString"], unfollowed := true, recurses := true, named := ["unicode/utf8.first", "unicode/utf8.acceptRanges", "internal/bytealg.MaxLen"], apart := false, laid := [("unicode/utf8.acceptRanges", laid_unicode_utf8_acceptRanges), ("unicode/utf8.first", laid_unicode_utf8_first)], narrowed := true }
def TopStruckUptoSaid : Prop := topStruckUptoRow.holds Tryz.pinned (OpenSpec.upto topStruckSpec)

/-- 'deadwaxtop.TopNegatives', WHERE WHAT IT READS IS OF BULK AT MOST 1048576: true; the input reads as it did. -/
def topNegativesUptoRow : OpenClaim := { program := "ytjmbpjlojjgggaagreatdoor", sum := "a1c02c34e6f0eb1ed07d0fca36f955e8e74f0ad28f61cbf8e4bde02c0296674b", func := "deadwax/deadwaxtop.TopNegatives", spec := "topNegatives", inPlace := ["internal/bytealg.IndexByteString", "internal/bytealg.IndexString"], unfollowed := true, recurses := true, named := ["unicode/utf8.first", "unicode/utf8.acceptRanges", "internal/bytealg.MaxLen"], apart := false, laid := [("unicode/utf8.acceptRanges", laid_unicode_utf8_acceptRanges), ("unicode/utf8.first", laid_unicode_utf8_first)], narrowed := true }
def TopNegativesUptoSaid : Prop := topNegativesUptoRow.holds Tryz.pinned (OpenSpec.upto topNegativesSpec)

/-- 'deadwaxtop.TopScratch', WHERE WHAT IT READS IS OF BULK AT MOST 1048576: true; the input reads as it did. -/
def topScratchUptoRow : OpenClaim := { program := "ytjmbpjlojjgggaagreatdoor", sum := "a1c02c34e6f0eb1ed07d0fca36f955e8e74f0ad28f61cbf8e4bde02c0296674b", func := "deadwax/deadwaxtop.TopScratch", spec := "topScratch", inPlace := ["internal/bytealg.IndexByteString", "internal/bytealg.IndexString"], unfollowed := true, recurses := true, named := ["unicode/utf8.first", "unicode/utf8.acceptRanges", "internal/bytealg.MaxLen"], apart := false, laid := [("unicode/utf8.acceptRanges", laid_unicode_utf8_acceptRanges), ("unicode/utf8.first", laid_unicode_utf8_first)], narrowed := true }
def TopScratchUptoSaid : Prop := topScratchUptoRow.holds Tryz.pinned (OpenSpec.upto topScratchSpec)

/-- 'deadwaxtop.TopEnough', WHERE WHAT IT READS IS OF BULK AT MOST 1048576: true; the input reads as it did. -/
def topEnoughUptoRow : OpenClaim := { program := "ytjmbpjlojjgggaagreatdoor", sum := "a1c02c34e6f0eb1ed07d0fca36f955e8e74f0ad28f61cbf8e4bde02c0296674b", func := "deadwax/deadwaxtop.TopEnough", spec := "topEnough", inPlace := ["internal/bytealg.IndexByteString", "internal/bytealg.IndexString"], unfollowed := true, recurses := true, named := ["unicode/utf8.first", "unicode/utf8.acceptRanges", "internal/bytealg.MaxLen"], apart := false, laid := [("unicode/utf8.acceptRanges", laid_unicode_utf8_acceptRanges), ("unicode/utf8.first", laid_unicode_utf8_first)], narrowed := true }
def TopEnoughUptoSaid : Prop := topEnoughUptoRow.holds Tryz.pinned (OpenSpec.upto topEnoughSpec)

/-- 'deadwaxtop.TopCaused', WHERE WHAT IT READS IS OF BULK AT MOST 1048576: true; the input reads as it did. -/
def topCausedUptoRow : OpenClaim := { program := "ytjmbpjlojjgggaagreatdoor", sum := "a1c02c34e6f0eb1ed07d0fca36f955e8e74f0ad28f61cbf8e4bde02c0296674b", func := "deadwax/deadwaxtop.TopCaused", spec := "topCaused", inPlace := ["internal/bytealg.IndexByteString", "internal/bytealg.IndexString"], unfollowed := true, recurses := true, named := ["unicode/utf8.first", "unicode/utf8.acceptRanges", "internal/bytealg.MaxLen"], apart := false, laid := [("unicode/utf8.acceptRanges", laid_unicode_utf8_acceptRanges), ("unicode/utf8.first", laid_unicode_utf8_first)], narrowed := true }
def TopCausedUptoSaid : Prop := topCausedUptoRow.holds Tryz.pinned (OpenSpec.upto topCausedSpec)

/-- 'deadwaxtop.TopLater', WHERE WHAT IT READS IS OF BULK AT MOST 1048576: true; the input reads as it did. -/
def topLaterUptoRow : OpenClaim := { program := "ytjmbpjlojjgggaagreatdoor", sum := "a1c02c34e6f0eb1ed07d0fca36f955e8e74f0ad28f61cbf8e4bde02c0296674b", func := "deadwax/deadwaxtop.TopLater", spec := "topLater", inPlace := ["internal/bytealg.IndexByteString", "internal/bytealg.IndexString"], unfollowed := true, recurses := true, named := ["unicode/utf8.first", "unicode/utf8.acceptRanges", "internal/bytealg.MaxLen"], apart := false, laid := [("unicode/utf8.acceptRanges", laid_unicode_utf8_acceptRanges), ("unicode/utf8.first", laid_unicode_utf8_first)], narrowed := true }
def TopLaterUptoSaid : Prop := topLaterUptoRow.holds Tryz.pinned (OpenSpec.upto topLaterSpec)

/-- 'deadwaxtop.TopFewHearings', WHERE WHAT IT READS IS OF BULK AT MOST 1048576: true; the input reads as it did. -/
def topFewHearingsUptoRow : OpenClaim := { program := "ytjmbpjlojjgggaagreatdoor", sum := "a1c02c34e6f0eb1ed07d0fca36f955e8e74f0ad28f61cbf8e4bde02c0296674b", func := "deadwax/deadwaxtop.TopFewHearings", spec := "topFewHearings", inPlace := ["internal/bytealg.IndexByteString", "internal/bytealg.IndexString"], unfollowed := true, recurses := true, named := ["unicode/utf8.first", "unicode/utf8.acceptRanges", "internal/bytealg.MaxLen"], apart := false, laid := [("unicode/utf8.acceptRanges", laid_unicode_utf8_acceptRanges), ("unicode/utf8.first", laid_unicode_utf8_first)], narrowed := true }
def TopFewHearingsUptoSaid : Prop := topFewHearingsUptoRow.holds Tryz.pinned (OpenSpec.upto topFewHearingsSpec)

end Rows
end Go.Proofs.YtjmbpjlojjgggaaGreatDoor
