/-
  NARROWER THAN 'FOR EVERY INPUT', by the rows' own cells (each row's printed sentence says how): TopLanded: laid · TopWider: laid · TopStruck: laid · TopNegatives: laid · TopScratch: laid · TopTwoSides: laid · TopBands: laid · TopNeedle: laid.
  DERIVED. THE GIVEN ROWS OF THIS SEAT. 8 by the template 'for every input the law returns true; each argument reads behind the call as it read before'; 0 by the template 'total and deterministic' (their statements: YtlldpkkcbheenaaGreatDoorTotals.lean).
  GIVEN WITH THE SEED: the statements are not yours to turn. If you find one false, say at which input.
  Laid BY PROGRAM, IN A SANDBOX (cutbox-rows.mjs): the forced cells as the released guide's own fill.sh prints them over the translation 9147b1ea8381edd3… (all of the seat's roots in one cut). By AI agents, Wed Nov 11 2026. No macro, syntax, notation, axiom, sorry.
-/
import Derived.Test.YtlldpkkcbheenaaGreatDoorChecked
import GoSem.PinnedTables
import GoSem.Claim
import GoSem.ClaimJoined
import GoSem.ClaimMapViews
import Derived.JoinedTies
import Derived.KernelRfl
namespace Go.Proofs.YtlldpkkcbheenaaGreatDoor
/- THE CELL 'sum', in the pinned program and in every row, IS THE sha256 OF THE DUMP (.gsa) THAT YtlldpkkcbheenaaGreatDoorProg.lean LOADS. Nothing in Lean hashes anything: it is a label: what it is worth is what the hold of that sum in a sandbox is worth. -/
noncomputable def Tryz.pinned : Pinned := { name := "ytlldpkkcbheenaagreatdoor", sum := "9147b1ea8381edd3112e978a069ad8112264dbf099dc67f7c7e6dfdb4d2744e3", checked := Tryz.checked }
namespace Rows
def none {H : Type} : Left H := { results := [], args := [] }

/- WHAT THE LISTED PACKAGE-LEVEL VARIABLES READ AS WHEN THE CALL BEGINS. Each datum BY PROGRAM (the guide's laid-datum.mjs) off the statement by which the dump's own 'gosem.cut.vars' lays the variable. In a bare row this is a premise. The card (YtlldpkkcbheenaaGreatDoorCards.lean) ties it to the program's text. -/
def laid_unicode_utf8_acceptRanges {H : Type} : DataW H := .agg [.agg [.lit (.int .u8 128), .lit (.int .u8 191)], .agg [.lit (.int .u8 160), .lit (.int .u8 191)], .agg [.lit (.int .u8 128), .lit (.int .u8 159)], .agg [.lit (.int .u8 144), .lit (.int .u8 191)], .agg [.lit (.int .u8 128), .lit (.int .u8 143)], .agg [.lit (.int .u8 0), .lit (.int .u8 0)], .agg [.lit (.int .u8 0), .lit (.int .u8 0)], .agg [.lit (.int .u8 0), .lit (.int .u8 0)], .agg [.lit (.int .u8 0), .lit (.int .u8 0)], .agg [.lit (.int .u8 0), .lit (.int .u8 0)], .agg [.lit (.int .u8 0), .lit (.int .u8 0)], .agg [.lit (.int .u8 0), .lit (.int .u8 0)], .agg [.lit (.int .u8 0), .lit (.int .u8 0)], .agg [.lit (.int .u8 0), .lit (.int .u8 0)], .agg [.lit (.int .u8 0), .lit (.int .u8 0)], .agg [.lit (.int .u8 0), .lit (.int .u8 0)]]
/-- One of Go's own tables, pinned by name: the form's constant. -/
def laid_unicode_utf8_first : DataW Unit := Go.Pinned.utf8First
def laid_deadwax_side_known {H : Type} : DataW H := .agg [.agg [.lit (.string [115, 101, 118, 101, 110]), .lit (.int .i64 1344000), .lit (.int .i64 864000), .lit (.int .i64 12000), .lit (.int .i64 16000), .lit (.int .i64 8000), .lit (.int .i64 24000), .lit (.int .i64 40)], .agg [.lit (.string [116, 101, 110]), .lit (.int .i64 1929600), .lit (.int .i64 768000), .lit (.int .i64 6923), .lit (.int .i64 16000), .lit (.int .i64 16000), .lit (.int .i64 32000), .lit (.int .i64 70)], .agg [.lit (.string [116, 119, 101, 108, 118, 101]), .lit (.int .i64 2336000), .lit (.int .i64 960000), .lit (.int .i64 16200), .lit (.int .i64 24000), .lit (.int .i64 16000), .lit (.int .i64 48000), .lit (.int .i64 100)]]
def laid_deadwax_side_none {H : Type} : DataW H := .agg [.lit (.int .i64 (-1)), .lit (.int .i64 0)]

/-- 'deadwaxtop.TopLanded': WHATEVER THE INPUT: true; the input reads as it did. -/
def topLandedSpec : ChangeSpec := { name := "topLanded", fn := fun _ => fun
  | [d1, d2, d3, d4, d5] => { results := [.lit (.bool true)], args := [d1, d2, d3, d4, d5] }
  | _ => none }
def topLandedRow : OpenClaim := { program := "ytlldpkkcbheenaagreatdoor", sum := "9147b1ea8381edd3112e978a069ad8112264dbf099dc67f7c7e6dfdb4d2744e3", func := "deadwax/deadwaxtop.TopLanded", spec := "topLanded", inPlace := ["internal/bytealg.IndexByteString", "internal/bytealg.IndexString"], unfollowed := true, recurses := true, named := ["unicode/utf8.first", "unicode/utf8.acceptRanges", "internal/bytealg.MaxLen"], apart := false, laid := [("unicode/utf8.acceptRanges", laid_unicode_utf8_acceptRanges), ("unicode/utf8.first", laid_unicode_utf8_first)] }
def TopLandedSaid : Prop := topLandedRow.holds Tryz.pinned (OpenSpec.ofChange topLandedSpec)

/-- ITS FALSE NEIGHBOUR: 'it returns false'. Refute it at one input. -/
def topLandedWrong : ChangeSpec := { name := "topLanded", fn := fun _ => fun
  | [d1, d2, d3, d4, d5] => { results := [.lit (.bool false)], args := [d1, d2, d3, d4, d5] }
  | _ => none }
def TopLandedWrongFalsely : Prop := topLandedRow.holds Tryz.pinned (OpenSpec.ofChange topLandedWrong)

/-- 'deadwaxtop.TopWider': WHATEVER THE INPUT: true; the input reads as it did. -/
def topWiderSpec : ChangeSpec := { name := "topWider", fn := fun _ => fun
  | [d1, d2, d3, d4] => { results := [.lit (.bool true)], args := [d1, d2, d3, d4] }
  | _ => none }
def topWiderRow : OpenClaim := { program := "ytlldpkkcbheenaagreatdoor", sum := "9147b1ea8381edd3112e978a069ad8112264dbf099dc67f7c7e6dfdb4d2744e3", func := "deadwax/deadwaxtop.TopWider", spec := "topWider", inPlace := ["internal/bytealg.IndexByteString", "internal/bytealg.IndexString"], unfollowed := true, recurses := true, named := ["unicode/utf8.first", "unicode/utf8.acceptRanges", "deadwax/side.known", "internal/bytealg.MaxLen"], apart := false, laid := [("unicode/utf8.acceptRanges", laid_unicode_utf8_acceptRanges), ("deadwax/side.known", laid_deadwax_side_known), ("unicode/utf8.first", laid_unicode_utf8_first)] }
def TopWiderSaid : Prop := topWiderRow.holds Tryz.pinned (OpenSpec.ofChange topWiderSpec)

/-- ITS FALSE NEIGHBOUR: 'it returns false'. Refute it at one input. -/
def topWiderWrong : ChangeSpec := { name := "topWider", fn := fun _ => fun
  | [d1, d2, d3, d4] => { results := [.lit (.bool false)], args := [d1, d2, d3, d4] }
  | _ => none }
def TopWiderWrongFalsely : Prop := topWiderRow.holds Tryz.pinned (OpenSpec.ofChange topWiderWrong)

/-- 'deadwaxtop.TopStruck': WHATEVER THE INPUT: true; the input reads as it did. -/
def topStruckSpec : ChangeSpec := { name := "topStruck", fn := fun _ => fun
  | [d1, d2, d3, d4, d5, d6] => { results := [.lit (.bool true)], args := [d1, d2, d3, d4, d5, d6] }
  | _ => none }
def topStruckRow : OpenClaim := { program := "ytlldpkkcbheenaagreatdoor", sum := "9147b1ea8381edd3112e978a069ad8112264dbf099dc67f7c7e6dfdb4d2744e3", func := "deadwax/deadwaxtop.TopStruck", spec := "topStruck", inPlace := ["internal/bytealg.IndexByteString", "internal/bytealg.IndexString"], unfollowed := true, recurses := true, named := ["unicode/utf8.first", "unicode/utf8.acceptRanges", "internal/bytealg.MaxLen"], apart := false, laid := [("unicode/utf8.acceptRanges", laid_unicode_utf8_acceptRanges), ("unicode/utf8.first", laid_unicode_utf8_first)] }
def TopStruckSaid : Prop := topStruckRow.holds Tryz.pinned (OpenSpec.ofChange topStruckSpec)

/-- ITS FALSE NEIGHBOUR: 'it returns false'. Refute it at one input. -/
def topStruckWrong : ChangeSpec := { name := "topStruck", fn := fun _ => fun
  | [d1, d2, d3, d4, d5, d6] => { results := [.lit (.bool false)], args := [d1, d2, d3, d4, d5, d6] }
  | _ => none }
def TopStruckWrongFalsely : Prop := topStruckRow.holds Tryz.pinned (OpenSpec.ofChange topStruckWrong)

/-- 'deadwaxtop.TopNegatives': WHATEVER THE INPUT: true; the input reads as it did. -/
def topNegativesSpec : ChangeSpec := { name := "topNegatives", fn := fun _ => fun
  | [d1, d2, d3, d4, d5, d6] => { results := [.lit (.bool true)], args := [d1, d2, d3, d4, d5, d6] }
  | _ => none }
def topNegativesRow : OpenClaim := { program := "ytlldpkkcbheenaagreatdoor", sum := "9147b1ea8381edd3112e978a069ad8112264dbf099dc67f7c7e6dfdb4d2744e3", func := "deadwax/deadwaxtop.TopNegatives", spec := "topNegatives", inPlace := ["internal/bytealg.IndexByteString", "internal/bytealg.IndexString"], unfollowed := true, recurses := true, named := ["unicode/utf8.first", "unicode/utf8.acceptRanges", "internal/bytealg.MaxLen"], apart := false, laid := [("unicode/utf8.acceptRanges", laid_unicode_utf8_acceptRanges), ("unicode/utf8.first", laid_unicode_utf8_first)] }
def TopNegativesSaid : Prop := topNegativesRow.holds Tryz.pinned (OpenSpec.ofChange topNegativesSpec)

/-- ITS FALSE NEIGHBOUR: 'it returns false'. Refute it at one input. -/
def topNegativesWrong : ChangeSpec := { name := "topNegatives", fn := fun _ => fun
  | [d1, d2, d3, d4, d5, d6] => { results := [.lit (.bool false)], args := [d1, d2, d3, d4, d5, d6] }
  | _ => none }
def TopNegativesWrongFalsely : Prop := topNegativesRow.holds Tryz.pinned (OpenSpec.ofChange topNegativesWrong)

/-- 'deadwaxtop.TopScratch': WHATEVER THE INPUT: true; the input reads as it did. -/
def topScratchSpec : ChangeSpec := { name := "topScratch", fn := fun _ => fun
  | [d1, d2, d3, d4, d5, d6, d7, d8, d9] => { results := [.lit (.bool true)], args := [d1, d2, d3, d4, d5, d6, d7, d8, d9] }
  | _ => none }
def topScratchRow : OpenClaim := { program := "ytlldpkkcbheenaagreatdoor", sum := "9147b1ea8381edd3112e978a069ad8112264dbf099dc67f7c7e6dfdb4d2744e3", func := "deadwax/deadwaxtop.TopScratch", spec := "topScratch", inPlace := ["internal/bytealg.IndexByteString", "internal/bytealg.IndexString"], unfollowed := true, recurses := true, named := ["unicode/utf8.first", "unicode/utf8.acceptRanges", "internal/bytealg.MaxLen"], apart := false, laid := [("unicode/utf8.acceptRanges", laid_unicode_utf8_acceptRanges), ("unicode/utf8.first", laid_unicode_utf8_first)] }
def TopScratchSaid : Prop := topScratchRow.holds Tryz.pinned (OpenSpec.ofChange topScratchSpec)

/-- ITS FALSE NEIGHBOUR: 'it returns false'. Refute it at one input. -/
def topScratchWrong : ChangeSpec := { name := "topScratch", fn := fun _ => fun
  | [d1, d2, d3, d4, d5, d6, d7, d8, d9] => { results := [.lit (.bool false)], args := [d1, d2, d3, d4, d5, d6, d7, d8, d9] }
  | _ => none }
def TopScratchWrongFalsely : Prop := topScratchRow.holds Tryz.pinned (OpenSpec.ofChange topScratchWrong)

/-- 'deadwaxtop.TopTwoSides': WHATEVER THE INPUT: true; the input reads as it did. -/
def topTwoSidesSpec : ChangeSpec := { name := "topTwoSides", fn := fun _ => fun
  | [d1, d2, d3, d4, d5] => { results := [.lit (.bool true)], args := [d1, d2, d3, d4, d5] }
  | _ => none }
def topTwoSidesRow : OpenClaim := { program := "ytlldpkkcbheenaagreatdoor", sum := "9147b1ea8381edd3112e978a069ad8112264dbf099dc67f7c7e6dfdb4d2744e3", func := "deadwax/deadwaxtop.TopTwoSides", spec := "topTwoSides", inPlace := ["internal/bytealg.IndexByteString", "internal/bytealg.IndexString"], unfollowed := true, recurses := true, named := ["unicode/utf8.first", "unicode/utf8.acceptRanges", "internal/bytealg.MaxLen"], apart := false, laid := [("unicode/utf8.acceptRanges", laid_unicode_utf8_acceptRanges), ("unicode/utf8.first", laid_unicode_utf8_first)] }
def TopTwoSidesSaid : Prop := topTwoSidesRow.holds Tryz.pinned (OpenSpec.ofChange topTwoSidesSpec)

/-- ITS FALSE NEIGHBOUR: 'it returns false'. Refute it at one input. -/
def topTwoSidesWrong : ChangeSpec := { name := "topTwoSides", fn := fun _ => fun
  | [d1, d2, d3, d4, d5] => { results := [.lit (.bool false)], args := [d1, d2, d3, d4, d5] }
  | _ => none }
def TopTwoSidesWrongFalsely : Prop := topTwoSidesRow.holds Tryz.pinned (OpenSpec.ofChange topTwoSidesWrong)

/-- 'deadwaxtop.TopBands': WHATEVER THE INPUT: true; the input reads as it did. -/
def topBandsSpec : ChangeSpec := { name := "topBands", fn := fun _ => fun
  | [d1, d2, d3, d4] => { results := [.lit (.bool true)], args := [d1, d2, d3, d4] }
  | _ => none }
def topBandsRow : OpenClaim := { program := "ytlldpkkcbheenaagreatdoor", sum := "9147b1ea8381edd3112e978a069ad8112264dbf099dc67f7c7e6dfdb4d2744e3", func := "deadwax/deadwaxtop.TopBands", spec := "topBands", inPlace := ["internal/bytealg.IndexByteString", "internal/bytealg.IndexString"], unfollowed := true, recurses := true, named := ["unicode/utf8.first", "unicode/utf8.acceptRanges", "deadwax/side.none", "internal/bytealg.MaxLen"], apart := false, laid := [("unicode/utf8.acceptRanges", laid_unicode_utf8_acceptRanges), ("deadwax/side.none", laid_deadwax_side_none), ("unicode/utf8.first", laid_unicode_utf8_first)] }
def TopBandsSaid : Prop := topBandsRow.holds Tryz.pinned (OpenSpec.ofChange topBandsSpec)

/-- ITS FALSE NEIGHBOUR: 'it returns false'. Refute it at one input. -/
def topBandsWrong : ChangeSpec := { name := "topBands", fn := fun _ => fun
  | [d1, d2, d3, d4] => { results := [.lit (.bool false)], args := [d1, d2, d3, d4] }
  | _ => none }
def TopBandsWrongFalsely : Prop := topBandsRow.holds Tryz.pinned (OpenSpec.ofChange topBandsWrong)

/-- 'deadwaxtop.TopNeedle': WHATEVER THE INPUT: true; the input reads as it did. -/
def topNeedleSpec : ChangeSpec := { name := "topNeedle", fn := fun _ => fun
  | [d1, d2, d3, d4, d5] => { results := [.lit (.bool true)], args := [d1, d2, d3, d4, d5] }
  | _ => none }
def topNeedleRow : OpenClaim := { program := "ytlldpkkcbheenaagreatdoor", sum := "9147b1ea8381edd3112e978a069ad8112264dbf099dc67f7c7e6dfdb4d2744e3", func := "deadwax/deadwaxtop.TopNeedle", spec := "topNeedle", inPlace := ["internal/bytealg.IndexByteString", "internal/bytealg.IndexString"], unfollowed := true, recurses := true, named := ["unicode/utf8.first", "unicode/utf8.acceptRanges", "internal/bytealg.MaxLen"], apart := false, laid := [("unicode/utf8.acceptRanges", laid_unicode_utf8_acceptRanges), ("unicode/utf8.first", laid_unicode_utf8_first)] }
def TopNeedleSaid : Prop := topNeedleRow.holds Tryz.pinned (OpenSpec.ofChange topNeedleSpec)

/-- ITS FALSE NEIGHBOUR: 'it returns false'. Refute it at one input. -/
def topNeedleWrong : ChangeSpec := { name := "topNeedle", fn := fun _ => fun
  | [d1, d2, d3, d4, d5] => { results := [.lit (.bool false)], args := [d1, d2, d3, d4, d5] }
  | _ => none }
def TopNeedleWrongFalsely : Prop := topNeedleRow.holds Tryz.pinned (OpenSpec.ofChange topNeedleWrong)

/- THE SECOND FORM. 'bulk': how many values and letters a reading holds, each counted each time it is reached (what is shared counts as often as it is met; a slice's spare places count too). A statement '..UptoSaid' is the law's where the arguments, and the package variables that the reading takes, are together of bulk at most 1048576: NARROWER than '..Said'. Prove '..Said' where nothing that the law and all that it calls make is longer than what came in: it says more and counts as full. Else prove '..UptoSaid'. A law counts once. -/
mutual
def uptoBulk {H : Type} : DataW H → Nat
  | .lit (.string bytes) => bytes.length + 1
  | .lit _ => 1
  | .nil => 1
  | .ptr d => uptoBulk d + 1
  | .slice elems spare => uptoBulkAll elems + uptoBulkAll spare + 1
  | .agg parts => uptoBulkAll parts + 1
  | .iface _ d => uptoBulk d + 1
  | .map entries => uptoBulkEntries entries + 1
  | .held _ => 1
def uptoBulkAll {H : Type} : List (DataW H) → Nat
  | [] => 0
  | d :: r => uptoBulk d + uptoBulkAll r
def uptoBulkEntries {H : Type} : List (Lit × DataW H) → Nat
  | [] => 0
  | x :: r => uptoBulkEntry x + uptoBulkEntries r
def uptoBulkEntry {H : Type} : Lit × DataW H → Nat
  | (.string bytes, d) => bytes.length + uptoBulk d + 1
  | (_, d) => uptoBulk d + 1
 end
def uptoSmall : (H : Type) → List (DataW H) → Bool := fun _ ds => decide (uptoBulkAll ds ≤ 1048576)
def OpenSpec.upto (s : _root_.Go.ChangeSpec) : _root_.Go.OpenSpec := { _root_.Go.OpenSpec.ofChange s with cond := some uptoSmall }

/-- 'deadwaxtop.TopLanded', WHERE WHAT IT READS IS OF BULK AT MOST 1048576: true; the input reads as it did. -/
def topLandedUptoRow : OpenClaim := { program := "ytlldpkkcbheenaagreatdoor", sum := "9147b1ea8381edd3112e978a069ad8112264dbf099dc67f7c7e6dfdb4d2744e3", func := "deadwax/deadwaxtop.TopLanded", spec := "topLanded", inPlace := ["internal/bytealg.IndexByteString", "internal/bytealg.IndexString"], unfollowed := true, recurses := true, named := ["unicode/utf8.first", "unicode/utf8.acceptRanges", "internal/bytealg.MaxLen"], apart := false, laid := [("unicode/utf8.acceptRanges", laid_unicode_utf8_acceptRanges), ("unicode/utf8.first", laid_unicode_utf8_first)], narrowed := true }
def TopLandedUptoSaid : Prop := topLandedUptoRow.holds Tryz.pinned (OpenSpec.upto topLandedSpec)

/-- 'deadwaxtop.TopWider', WHERE WHAT IT READS IS OF BULK AT MOST 1048576: true; the input reads as it did. -/
def topWiderUptoRow : OpenClaim := { program := "ytlldpkkcbheenaagreatdoor", sum := "9147b1ea8381edd3112e978a069ad8112264dbf099dc67f7c7e6dfdb4d2744e3", func := "deadwax/deadwaxtop.TopWider", spec := "topWider", inPlace := ["internal/bytealg.IndexByteString", "internal/bytealg.IndexString"], unfollowed := true, recurses := true, named := ["unicode/utf8.first", "unicode/utf8.acceptRanges", "deadwax/side.known", "internal/bytealg.MaxLen"], apart := false, laid := [("unicode/utf8.acceptRanges", laid_unicode_utf8_acceptRanges), ("deadwax/side.known", laid_deadwax_side_known), ("unicode/utf8.first", laid_unicode_utf8_first)], narrowed := true }
def TopWiderUptoSaid : Prop := topWiderUptoRow.holds Tryz.pinned (OpenSpec.upto topWiderSpec)

/-- 'deadwaxtop.TopStruck', WHERE WHAT IT READS IS OF BULK AT MOST 1048576: true; the input reads as it did. -/
def topStruckUptoRow : OpenClaim := { program := "ytlldpkkcbheenaagreatdoor", sum := "9147b1ea8381edd3112e978a069ad8112264dbf099dc67f7c7e6dfdb4d2744e3", func := "deadwax/deadwaxtop.TopStruck", spec := "topStruck", inPlace := ["internal/bytealg.IndexByteString", "internal/bytealg.IndexString"], unfollowed := true, recurses := true, named := ["unicode/utf8.first", "unicode/utf8.acceptRanges", "internal/bytealg.MaxLen"], apart := false, laid := [("unicode/utf8.acceptRanges", laid_unicode_utf8_acceptRanges), ("unicode/utf8.first", laid_unicode_utf8_first)], narrowed := true }
def TopStruckUptoSaid : Prop := topStruckUptoRow.holds Tryz.pinned (OpenSpec.upto topStruckSpec)

/-- 'deadwaxtop.TopNegatives', WHERE WHAT IT READS IS OF BULK AT MOST 1048576: true; the input reads as it did. -/
def topNegativesUptoRow : OpenClaim := { program := "ytlldpkkcbheenaagreatdoor", sum := "9147b1ea8381edd3112e978a069ad8112264dbf099dc67f7c7e6dfdb4d2744e3", func := "deadwax/deadwaxtop.TopNegatives", spec := "topNegatives", inPlace := ["internal/bytealg.IndexByteString", "internal/bytealg.IndexString"], unfollowed := true, recurses := true, named := ["unicode/utf8.first", "unicode/utf8.acceptRanges", "internal/bytealg.MaxLen"], apart := false, laid := [("unicode/utf8.acceptRanges", laid_unicode_utf8_acceptRanges), ("unicode/utf8.first", laid_unicode_utf8_first)], narrowed := true }
def TopNegativesUptoSaid : Prop := topNegativesUptoRow.holds Tryz.pinned (OpenSpec.upto topNegativesSpec)

/-- 'deadwaxtop.TopScratch', WHERE WHAT IT READS IS OF BULK AT MOST 1048576: true; the input reads as it did. -/
def topScratchUptoRow : OpenClaim := { program := "ytlldpkkcbheenaagreatdoor", sum := "9147b1ea8381edd3112e978a069ad8112264dbf099dc67f7c7e6dfdb4d2744e3", func := "deadwax/deadwaxtop.TopScratch", spec := "topScratch", inPlace := ["internal/bytealg.IndexByteString", "internal/bytealg.IndexString"], unfollowed := true, recurses := true, named := ["unicode/utf8.first", "unicode/utf8.acceptRanges", "internal/bytealg.MaxLen"], apart := false, laid := [("unicode/utf8.acceptRanges", laid_unicode_utf8_acceptRanges), ("unicode/utf8.first", laid_unicode_utf8_first)], narrowed := true }
def TopScratchUptoSaid : Prop := topScratchUptoRow.holds Tryz.pinned (OpenSpec.upto topScratchSpec)

/-- 'deadwaxtop.TopTwoSides', WHERE WHAT IT READS IS OF BULK AT MOST 1048576: true; the input reads as it did. -/
def topTwoSidesUptoRow : OpenClaim := { program := "ytlldpkkcbheenaagreatdoor", sum := "9147b1ea8381edd3112e978a069ad8112264dbf099dc67f7c7e6dfdb4d2744e3", func := "deadwax/deadwaxtop.TopTwoSides", spec := "topTwoSides", inPlace := ["internal/bytealg.IndexByteString", "internal/bytealg.IndexString"], unfollowed := true, recurses := true, named := ["unicode/utf8.first", "unicode/utf8.acceptRanges", "internal/bytealg.MaxLen"], apart := false, laid := [("unicode/utf8.acceptRanges", laid_unicode_utf8_acceptRanges), ("unicode/utf8.first", laid_unicode_utf8_first)], narrowed := true }
def TopTwoSidesUptoSaid : Prop := topTwoSidesUptoRow.holds Tryz.pinned (OpenSpec.upto topTwoSidesSpec)

/-- 'deadwaxtop.TopBands', WHERE WHAT IT READS IS OF BULK AT MOST 1048576: true; the input reads as it did. -/
def topBandsUptoRow : OpenClaim := { program := "ytlldpkkcbheenaagreatdoor", sum := "9147b1ea8381edd3112e978a069ad8112264dbf099dc67f7c7e6dfdb4d2744e3", func := "deadwax/deadwaxtop.TopBands", spec := "topBands", inPlace := ["internal/bytealg.IndexByteString", "internal/bytealg.IndexString"], unfollowed := true, recurses := true, named := ["unicode/utf8.first", "unicode/utf8.acceptRanges", "deadwax/side.none", "internal/bytealg.MaxLen"], apart := false, laid := [("unicode/utf8.acceptRanges", laid_unicode_utf8_acceptRanges), ("deadwax/side.none", laid_deadwax_side_none), ("unicode/utf8.first", laid_unicode_utf8_first)], narrowed := true }
def TopBandsUptoSaid : Prop := topBandsUptoRow.holds Tryz.pinned (OpenSpec.upto topBandsSpec)

/-- 'deadwaxtop.TopNeedle', WHERE WHAT IT READS IS OF BULK AT MOST 1048576: true; the input reads as it did. -/
def topNeedleUptoRow : OpenClaim := { program := "ytlldpkkcbheenaagreatdoor", sum := "9147b1ea8381edd3112e978a069ad8112264dbf099dc67f7c7e6dfdb4d2744e3", func := "deadwax/deadwaxtop.TopNeedle", spec := "topNeedle", inPlace := ["internal/bytealg.IndexByteString", "internal/bytealg.IndexString"], unfollowed := true, recurses := true, named := ["unicode/utf8.first", "unicode/utf8.acceptRanges", "internal/bytealg.MaxLen"], apart := false, laid := [("unicode/utf8.acceptRanges", laid_unicode_utf8_acceptRanges), ("unicode/utf8.first", laid_unicode_utf8_first)], narrowed := true }
def TopNeedleUptoSaid : Prop := topNeedleUptoRow.holds Tryz.pinned (OpenSpec.upto topNeedleSpec)

end Rows
end Go.Proofs.YtlldpkkcbheenaaGreatDoor
