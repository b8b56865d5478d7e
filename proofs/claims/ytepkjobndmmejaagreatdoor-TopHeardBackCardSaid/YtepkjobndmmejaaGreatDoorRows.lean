/-
  NARROWER THAN 'FOR EVERY INPUT', by the rows' own cells (each row's printed sentence says how): TopHeardBack: laid · TopFarther: laid · TopHeld: laid · TopNeedle: laid.
  DERIVED. THE GIVEN ROWS OF THIS SEAT. 4 by the template 'for every input the law returns true; each argument reads behind the call as it read before'; 0 by the template 'total and deterministic' (their statements: YtepkjobndmmejaaGreatDoorTotals.lean).
  GIVEN WITH THE SEED: the statements are not yours to turn. If you find one false, say at which input.
  Laid BY PROGRAM, IN A SANDBOX (cutbox-rows.mjs): the forced cells as the released guide's own fill.sh prints them over the translation 77cd9d0f9761d80d… (all of the seat's roots in one cut). By AI agents, Wed Nov 11 2026. No macro, syntax, notation, axiom, sorry.
-/
import Derived.Test.YtepkjobndmmejaaGreatDoorChecked
import GoSem.PinnedTables
import GoSem.Claim
import GoSem.ClaimJoined
import GoSem.ClaimMapViews
import Derived.JoinedTies
import Derived.KernelRfl
namespace Go.Proofs.YtepkjobndmmejaaGreatDoor
/- THE CELL 'sum', in the pinned program and in every row, IS THE sha256 OF THE DUMP (.gsa) THAT YtepkjobndmmejaaGreatDoorProg.lean LOADS. Nothing in Lean hashes anything: it is a label: what it is worth is what the hold of that sum in a sandbox is worth. -/
noncomputable def Tryz.pinned : Pinned := { name := "ytepkjobndmmejaagreatdoor", sum := "77cd9d0f9761d80db79eb45454c9e49eecc843db771dd53cc2ac0207e5aa3d48", checked := Tryz.checked }
namespace Rows
def none {H : Type} : Left H := { results := [], args := [] }

/- WHAT THE LISTED PACKAGE-LEVEL VARIABLES READ AS WHEN THE CALL BEGINS. Each datum BY PROGRAM (the guide's laid-datum.mjs) off the statement by which the dump's own 'gosem.cut.vars' lays the variable. In a bare row this is a premise. The card (YtepkjobndmmejaaGreatDoorCards.lean) ties it to the program's text. -/
def laid_unicode_utf8_acceptRanges {H : Type} : DataW H := .agg [.agg [.lit (.int .u8 128), .lit (.int .u8 191)], .agg [.lit (.int .u8 160), .lit (.int .u8 191)], .agg [.lit (.int .u8 128), .lit (.int .u8 159)], .agg [.lit (.int .u8 144), .lit (.int .u8 191)], .agg [.lit (.int .u8 128), .lit (.int .u8 143)], .agg [.lit (.int .u8 0), .lit (.int .u8 0)], .agg [.lit (.int .u8 0), .lit (.int .u8 0)], .agg [.lit (.int .u8 0), .lit (.int .u8 0)], .agg [.lit (.int .u8 0), .lit (.int .u8 0)], .agg [.lit (.int .u8 0), .lit (.int .u8 0)], .agg [.lit (.int .u8 0), .lit (.int .u8 0)], .agg [.lit (.int .u8 0), .lit (.int .u8 0)], .agg [.lit (.int .u8 0), .lit (.int .u8 0)], .agg [.lit (.int .u8 0), .lit (.int .u8 0)], .agg [.lit (.int .u8 0), .lit (.int .u8 0)], .agg [.lit (.int .u8 0), .lit (.int .u8 0)]]
/-- One of Go's own tables, pinned by name: the form's constant. -/
def laid_unicode_utf8_first : DataW Unit := Go.Pinned.utf8First

/-- 'deadwaxtop.TopHeardBack': WHATEVER THE INPUT: true; the input reads as it did. -/
def topHeardBackSpec : ChangeSpec := { name := "topHeardBack", fn := fun _ => fun
  | [d1, d2, d3, d4] => { results := [.lit (.bool true)], args := [d1, d2, d3, d4] }
  | _ => none }
def topHeardBackRow : OpenClaim := { program := "ytepkjobndmmejaagreatdoor", sum := "77cd9d0f9761d80db79eb45454c9e49eecc843db771dd53cc2ac0207e5aa3d48", func := "deadwax/deadwaxtop.TopHeardBack", spec := "topHeardBack", inPlace := ["internal/bytealg.IndexByteString", "internal/bytealg.IndexString"], unfollowed := true, recurses := true, named := ["unicode/utf8.first", "unicode/utf8.acceptRanges", "internal/bytealg.MaxLen"], apart := false, laid := [("unicode/utf8.acceptRanges", laid_unicode_utf8_acceptRanges), ("unicode/utf8.first", laid_unicode_utf8_first)] }
def TopHeardBackSaid : Prop := topHeardBackRow.holds Tryz.pinned (OpenSpec.ofChange topHeardBackSpec)

/-- ITS FALSE NEIGHBOUR: 'it returns false'. Refute it at one input. -/
def topHeardBackWrong : ChangeSpec := { name := "topHeardBack", fn := fun _ => fun
  | [d1, d2, d3, d4] => { results := [.lit (.bool false)], args := [d1, d2, d3, d4] }
  | _ => none }
def TopHeardBackWrongFalsely : Prop := topHeardBackRow.holds Tryz.pinned (OpenSpec.ofChange topHeardBackWrong)

/-- 'deadwaxtop.TopFarther': WHATEVER THE INPUT: true; the input reads as it did. -/
def topFartherSpec : ChangeSpec := { name := "topFarther", fn := fun _ => fun
  | [d1, d2, d3, d4] => { results := [.lit (.bool true)], args := [d1, d2, d3, d4] }
  | _ => none }
def topFartherRow : OpenClaim := { program := "ytepkjobndmmejaagreatdoor", sum := "77cd9d0f9761d80db79eb45454c9e49eecc843db771dd53cc2ac0207e5aa3d48", func := "deadwax/deadwaxtop.TopFarther", spec := "topFarther", inPlace := ["internal/bytealg.IndexByteString", "internal/bytealg.IndexString"], unfollowed := true, recurses := true, named := ["unicode/utf8.first", "unicode/utf8.acceptRanges", "internal/bytealg.MaxLen"], apart := false, laid := [("unicode/utf8.acceptRanges", laid_unicode_utf8_acceptRanges), ("unicode/utf8.first", laid_unicode_utf8_first)] }
def TopFartherSaid : Prop := topFartherRow.holds Tryz.pinned (OpenSpec.ofChange topFartherSpec)

/-- ITS FALSE NEIGHBOUR: 'it returns false'. Refute it at one input. -/
def topFartherWrong : ChangeSpec := { name := "topFarther", fn := fun _ => fun
  | [d1, d2, d3, d4] => { results := [.lit (.bool false)], args := [d1, d2, d3, d4] }
  | _ => none }
def TopFartherWrongFalsely : Prop := topFartherRow.holds Tryz.pinned (OpenSpec.ofChange topFartherWrong)

/-- 'deadwaxtop.TopHeld': WHATEVER THE INPUT: true; the input reads as it did. -/
def topHeldSpec : ChangeSpec := { name := "topHeld", fn := fun _ => fun
  | [d1, d2, d3, d4] => { results := [.lit (.bool true)], args := [d1, d2, d3, d4] }
  | _ => none }
def topHeldRow : OpenClaim := { program := "ytepkjobndmmejaagreatdoor", sum := "77cd9d0f9761d80db79eb45454c9e49eecc843db771dd53cc2ac0207e5aa3d48", func := "deadwax/deadwaxtop.TopHeld", spec := "topHeld", inPlace := ["internal/bytealg.IndexByteString", "internal/bytealg.IndexString"], unfollowed := true, recurses := true, named := ["unicode/utf8.first", "unicode/utf8.acceptRanges", "internal/bytealg.MaxLen"], apart := false, laid := [("unicode/utf8.acceptRanges", laid_unicode_utf8_acceptRanges), ("unicode/utf8.first", laid_unicode_utf8_first)] }
def TopHeldSaid : Prop := topHeldRow.holds Tryz.pinned (OpenSpec.ofChange topHeldSpec)

/-- ITS FALSE NEIGHBOUR: 'it returns false'. Refute it at one input. -/
def topHeldWrong : ChangeSpec := { name := "topHeld", fn := fun _ => fun
  | [d1, d2, d3, d4] => { results := [.lit (.bool false)], args := [d1, d2, d3, d4] }
  | _ => none }
def TopHeldWrongFalsely : Prop := topHeldRow.holds Tryz.pinned (OpenSpec.ofChange topHeldWrong)

/-- 'deadwaxtop.TopNeedle': WHATEVER THE INPUT: true; the input reads as it did. -/
def topNeedleSpec : ChangeSpec := { name := "topNeedle", fn := fun _ => fun
  | [d1, d2, d3, d4, d5] => { results := [.lit (.bool true)], args := [d1, d2, d3, d4, d5] }
  | _ => none }
def topNeedleRow : OpenClaim := { program := "ytepkjobndmmejaagreatdoor", sum := "77cd9d0f9761d80db79eb45454c9e49eecc843db771dd53cc2ac0207e5aa3d48", func := "deadwax/deadwaxtop.TopNeedle", spec := "topNeedle", inPlace := ["internal/bytealg.IndexByteString", "internal/bytealg.IndexString"], unfollowed := true, recurses := true, named := ["unicode/utf8.first", "unicode/utf8.acceptRanges", "internal/bytealg.MaxLen"], apart := false, laid := [("unicode/utf8.acceptRanges", laid_unicode_utf8_acceptRanges), ("unicode/utf8.first", laid_unicode_utf8_first)] }
def TopNeedleSaid : Prop := topNeedleRow.holds Tryz.pinned (OpenSpec.ofChange topNeedleSpec)

/-- ITS FALSE NEIGHBOUR: 'it returns false'. Refute it at one input. -/
def topNeedleWrong : ChangeSpec := { name := "topNeedle", fn := fun _ => fun
  | [d1, d2, d3, d4, d5] => { results := [.lit (.bool false)], args := [d1, d2, d3, d4, d5] }
  | _ => none }
def TopNeedleWrongFalsely : Prop := topNeedleRow.holds Tryz.pinned (OpenSpec.ofChange topNeedleWrong)

/- THE SECOND FORM. 'bulk': how many values and letters a reading holds, each counted each time it is reached (what is shared counts as often as it is met; a slice's spare places count too). A statement '..UptoSaid' is the law's where the arguments, and the package variables that the reading takes, are together of bulk at most 1048576: NARROWER than '..Said'. Prove '..Said' where nothing that the law and all that it calls make is longer than what came in: it says more and counts as full. Else prove '..UptoSaid'. A law counts once. -/
mutual
def uptoBulk {H : Type} : DataW H → Nat
  | .lit (.string bytes) => bytes.length + 1
  | .lit _ => 1
  | .nil => 1
  | .ptr d => uptoBulk d + 1
  | .slice elems spare => uptoBulkAll elems + uptoBulkAll spare + 1
  | .agg parts => uptoBulkAll parts + 1
  | .iface _ d => uptoBulk d + 1
  | .map entries => uptoBulkEntries entries + 1
  | .held _ => 1
def uptoBulkAll {H : Type} : List (DataW H) → Nat
  | [] => 0
  | d :: r => uptoBulk d + uptoBulkAll r
def uptoBulkEntries {H : Type} : List (Lit × DataW H) → Nat
  | [] => 0
  | x :: r => uptoBulkEntry x + uptoBulkEntries r
def uptoBulkEntry {H : Type} : Lit × DataW H → Nat
  | (.string bytes, d) => bytes.length + uptoBulk d + 1
  | (_, d) => uptoBulk d + 1
 end
def uptoSmall : (H : Type) → List (DataW H) → Bool := fun _ ds => decide (uptoBulkAll ds ≤ 1048576)
def OpenSpec.upto (s : _root_.Go.ChangeSpec) : _root_.Go.OpenSpec := { _root_.Go.OpenSpec.ofChange s with cond := some uptoSmall }

/-- 'deadwaxtop.TopHeardBack', WHERE WHAT IT READS IS OF BULK AT MOST 1048576: true; the input reads as it did. -/
def topHeardBackUptoRow : OpenClaim := { program := "ytepkjobndmmejaagreatdoor", sum := "77cd9d0f9761d80db79eb45454c9e49eecc843db771dd53cc2ac0207e5aa3d48", func := "deadwax/deadwaxtop.TopHeardBack", spec := "topHeardBack", inPlace := ["internal/bytealg.IndexByteString", "internal/bytealg.IndexString"], unfollowed := true, recurses := true, named := ["unicode/utf8.first", "unicode/utf8.acceptRanges", "internal/bytealg.MaxLen"], apart := false, laid := [("unicode/utf8.acceptRanges", laid_unicode_utf8_acceptRanges), ("unicode/utf8.first", laid_unicode_utf8_first)], narrowed := true }
def TopHeardBackUptoSaid : Prop := topHeardBackUptoRow.holds Tryz.pinned (OpenSpec.upto topHeardBackSpec)

/-- 'deadwaxtop.TopFarther', WHERE WHAT IT READS IS OF BULK AT MOST 1048576: true; the input reads as it did. -/
def topFartherUptoRow : OpenClaim := { program := "ytepkjobndmmejaagreatdoor", sum := "77cd9d0f9761d80db79eb45454c9e49eecc843db771dd53cc2ac0207e5aa3d48", func := "deadwax/deadwaxtop.TopFarther", spec := "topFarther", inPlace := ["internal/bytealg.IndexByteString", "internal/bytealg.IndexString"], unfollowed := true, recurses := true, named := ["unicode/utf8.first", "unicode/utf8.acceptRanges", "internal/bytealg.MaxLen"], apart := false, laid := [("unicode/utf8.acceptRanges", laid_unicode_utf8_acceptRanges), ("unicode/utf8.first", laid_unicode_utf8_first)], narrowed := true }
def TopFartherUptoSaid : Prop := topFartherUptoRow.holds Tryz.pinned (OpenSpec.upto topFartherSpec)

/-- 'deadwaxtop.TopHeld', WHERE WHAT IT READS IS OF BULK AT MOST 1048576: true; the input reads as it did. -/
def topHeldUptoRow : OpenClaim := { program := "ytepkjobndmmejaagreatdoor", sum := "77cd9d0f9761d80db79eb45454c9e49eecc843db771dd53cc2ac0207e5aa3d48", func := "deadwax/deadwaxtop.TopHeld", spec := "topHeld", inPlace := ["internal/bytealg.IndexByteString", "internal/bytealg.IndexString"], unfollowed := true, recurses := true, named := ["unicode/utf8.first", "unicode/utf8.acceptRanges", "internal/bytealg.MaxLen"], apart := false, laid := [("unicode/utf8.acceptRanges", laid_unicode_utf8_acceptRanges), ("unicode/utf8.first", laid_unicode_utf8_first)], narrowed := true }
def TopHeldUptoSaid : Prop := topHeldUptoRow.holds Tryz.pinned (OpenSpec.upto topHeldSpec)

/-- 'deadwaxtop.TopNeedle', WHERE WHAT IT READS IS OF BULK AT MOST 1048576: true; the input reads as it did. -/
def topNeedleUptoRow : OpenClaim := { program := "ytepkjobndmmejaagreatdoor", sum := "77cd9d0f9761d80db79eb45454c9e49eecc843db771dd53cc2ac0207e5aa3d48", func := "deadwax/deadwaxtop.TopNeedle", spec := "topNeedle", inPlace := ["internal/bytealg.IndexByteString", "internal/bytealg.IndexString"], unfollowed := true, recurses := true, named := ["unicode/utf8.first", "unicode/utf8.acceptRanges", "internal/bytealg.MaxLen"], apart := false, laid := [("unicode/utf8.acceptRanges", laid_unicode_utf8_acceptRanges), ("unicode/utf8.first", laid_unicode_utf8_first)], narrowed := true }
def TopNeedleUptoSaid : Prop := topNeedleUptoRow.holds Tryz.pinned (OpenSpec.upto topNeedleSpec)

end Rows
end Go.Proofs.YtepkjobndmmejaaGreatDoor
