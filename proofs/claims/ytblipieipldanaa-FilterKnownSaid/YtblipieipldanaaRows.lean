/-
  No cell of these rows narrows 'for every input' (looked for: loops, veiled, ifaces, maps, wideKeys, modest, calm, conditions, laid).
  DERIVED. THE GIVEN ROWS OF THIS SEAT. 17 by the template 'for every input the law returns true; each argument reads behind the call as it read before'; 0 by the template 'total and deterministic' (their statements: YtblipieipldanaaTotals.lean).
  GIVEN WITH THE SEED: the statements are not yours to turn. If you find one false, say at which input.
  Laid BY PROGRAM, IN A SANDBOX (cutbox-rows.mjs): the forced cells as the released guide's own fill.sh prints them over the translation cc3e1f7d5490680d… (all of the seat's roots in one cut). By AI agents, Wed Nov 11 2026. No macro, syntax, notation, axiom, sorry.
-/
import Derived.Test.YtblipieipldanaaChecked
import GoSem.Claim
import GoSem.ClaimJoined
import GoSem.ClaimMapViews
import Derived.JoinedTies
import Derived.KernelRfl
namespace Go.Proofs.Ytblipieipldanaa
/- THE CELL 'sum', in the pinned program and in every row, IS THE sha256 OF THE DUMP (.gsa) THAT YtblipieipldanaaProg.lean LOADS. Nothing in Lean hashes anything: it is a label: what it is worth is what the hold of that sum in a sandbox is worth. -/
noncomputable def Try.pinned : Pinned := { name := "ytblipieipldanaa", sum := "cc3e1f7d5490680dbbd8648c57d40f1056dc4d9f6e378277dd6c89681afc9817", checked := Try.checked }
namespace Rows
def none {H : Type} : Left H := { results := [], args := [] }

/-- 'deadwaxlaw02.FilterIdeal': WHATEVER THE INPUT: true; the input reads as it did. -/
def filterIdealSpec : ChangeSpec := { name := "filterIdeal", fn := fun _ => fun
  | [d1, d2] => { results := [.lit (.bool true)], args := [d1, d2] }
  | _ => none }
def filterIdealRow : OpenClaim := { program := "ytblipieipldanaa", sum := "cc3e1f7d5490680dbbd8648c57d40f1056dc4d9f6e378277dd6c89681afc9817", func := "deadwax/deadwaxlaw02.FilterIdeal", spec := "filterIdeal", unfollowed := true, recurses := true, apart := false }
def FilterIdealSaid : Prop := filterIdealRow.holds Try.pinned (OpenSpec.ofChange filterIdealSpec)

/-- ITS FALSE NEIGHBOUR: 'it returns false'. Refute it at one input. -/
def filterIdealWrong : ChangeSpec := { name := "filterIdeal", fn := fun _ => fun
  | [d1, d2] => { results := [.lit (.bool false)], args := [d1, d2] }
  | _ => none }
def FilterIdealWrongFalsely : Prop := filterIdealRow.holds Try.pinned (OpenSpec.ofChange filterIdealWrong)

/-- 'deadwaxlaw02.FilterCausal': WHATEVER THE INPUT: true; the input reads as it did. -/
def filterCausalSpec : ChangeSpec := { name := "filterCausal", fn := fun _ => fun
  | [d1, d2, d3, d4] => { results := [.lit (.bool true)], args := [d1, d2, d3, d4] }
  | _ => none }
def filterCausalRow : OpenClaim := { program := "ytblipieipldanaa", sum := "cc3e1f7d5490680dbbd8648c57d40f1056dc4d9f6e378277dd6c89681afc9817", func := "deadwax/deadwaxlaw02.FilterCausal", spec := "filterCausal", unfollowed := true, recurses := true, apart := false }
def FilterCausalSaid : Prop := filterCausalRow.holds Try.pinned (OpenSpec.ofChange filterCausalSpec)

/-- ITS FALSE NEIGHBOUR: 'it returns false'. Refute it at one input. -/
def filterCausalWrong : ChangeSpec := { name := "filterCausal", fn := fun _ => fun
  | [d1, d2, d3, d4] => { results := [.lit (.bool false)], args := [d1, d2, d3, d4] }
  | _ => none }
def FilterCausalWrongFalsely : Prop := filterCausalRow.holds Try.pinned (OpenSpec.ofChange filterCausalWrong)

/-- 'deadwaxlaw02.FilterApplies': WHATEVER THE INPUT: true; the input reads as it did. -/
def filterAppliesSpec : ChangeSpec := { name := "filterApplies", fn := fun _ => fun
  | [d1, d2] => { results := [.lit (.bool true)], args := [d1, d2] }
  | _ => none }
def filterAppliesRow : OpenClaim := { program := "ytblipieipldanaa", sum := "cc3e1f7d5490680dbbd8648c57d40f1056dc4d9f6e378277dd6c89681afc9817", func := "deadwax/deadwaxlaw02.FilterApplies", spec := "filterApplies", unfollowed := true, recurses := true, apart := false }
def FilterAppliesSaid : Prop := filterAppliesRow.holds Try.pinned (OpenSpec.ofChange filterAppliesSpec)

/-- ITS FALSE NEIGHBOUR: 'it returns false'. Refute it at one input. -/
def filterAppliesWrong : ChangeSpec := { name := "filterApplies", fn := fun _ => fun
  | [d1, d2] => { results := [.lit (.bool false)], args := [d1, d2] }
  | _ => none }
def FilterAppliesWrongFalsely : Prop := filterAppliesRow.holds Try.pinned (OpenSpec.ofChange filterAppliesWrong)

/-- 'deadwaxlaw02.FilterUndone': WHATEVER THE INPUT: true; the input reads as it did. -/
def filterUndoneSpec : ChangeSpec := { name := "filterUndone", fn := fun _ => fun
  | [d1, d2, d3] => { results := [.lit (.bool true)], args := [d1, d2, d3] }
  | _ => none }
def filterUndoneRow : OpenClaim := { program := "ytblipieipldanaa", sum := "cc3e1f7d5490680dbbd8648c57d40f1056dc4d9f6e378277dd6c89681afc9817", func := "deadwax/deadwaxlaw02.FilterUndone", spec := "filterUndone", unfollowed := true, recurses := true, apart := false }
def FilterUndoneSaid : Prop := filterUndoneRow.holds Try.pinned (OpenSpec.ofChange filterUndoneSpec)

/-- ITS FALSE NEIGHBOUR: 'it returns false'. Refute it at one input. -/
def filterUndoneWrong : ChangeSpec := { name := "filterUndone", fn := fun _ => fun
  | [d1, d2, d3] => { results := [.lit (.bool false)], args := [d1, d2, d3] }
  | _ => none }
def FilterUndoneWrongFalsely : Prop := filterUndoneRow.holds Try.pinned (OpenSpec.ofChange filterUndoneWrong)

/-- 'deadwaxlaw02.FilterChains': WHATEVER THE INPUT: true; the input reads as it did. -/
def filterChainsSpec : ChangeSpec := { name := "filterChains", fn := fun _ => fun
  | [d1, d2] => { results := [.lit (.bool true)], args := [d1, d2] }
  | _ => none }
def filterChainsRow : OpenClaim := { program := "ytblipieipldanaa", sum := "cc3e1f7d5490680dbbd8648c57d40f1056dc4d9f6e378277dd6c89681afc9817", func := "deadwax/deadwaxlaw02.FilterChains", spec := "filterChains", unfollowed := true, recurses := true, apart := false }
def FilterChainsSaid : Prop := filterChainsRow.holds Try.pinned (OpenSpec.ofChange filterChainsSpec)

/-- ITS FALSE NEIGHBOUR: 'it returns false'. Refute it at one input. -/
def filterChainsWrong : ChangeSpec := { name := "filterChains", fn := fun _ => fun
  | [d1, d2] => { results := [.lit (.bool false)], args := [d1, d2] }
  | _ => none }
def FilterChainsWrongFalsely : Prop := filterChainsRow.holds Try.pinned (OpenSpec.ofChange filterChainsWrong)

/-- 'deadwaxlaw02.FilterChained': WHATEVER THE INPUT: true; the input reads as it did. -/
def filterChainedSpec : ChangeSpec := { name := "filterChained", fn := fun _ => fun
  | [d1, d2, d3, d4] => { results := [.lit (.bool true)], args := [d1, d2, d3, d4] }
  | _ => none }
def filterChainedRow : OpenClaim := { program := "ytblipieipldanaa", sum := "cc3e1f7d5490680dbbd8648c57d40f1056dc4d9f6e378277dd6c89681afc9817", func := "deadwax/deadwaxlaw02.FilterChained", spec := "filterChained", unfollowed := true, recurses := true, apart := false }
def FilterChainedSaid : Prop := filterChainedRow.holds Try.pinned (OpenSpec.ofChange filterChainedSpec)

/-- ITS FALSE NEIGHBOUR: 'it returns false'. Refute it at one input. -/
def filterChainedWrong : ChangeSpec := { name := "filterChained", fn := fun _ => fun
  | [d1, d2, d3, d4] => { results := [.lit (.bool false)], args := [d1, d2, d3, d4] }
  | _ => none }
def FilterChainedWrongFalsely : Prop := filterChainedRow.holds Try.pinned (OpenSpec.ofChange filterChainedWrong)

/-- 'deadwaxlaw02.FilterLess': WHATEVER THE INPUT: true; the input reads as it did. -/
def filterLessSpec : ChangeSpec := { name := "filterLess", fn := fun _ => fun
  | [d1, d2, d3, d4, d5] => { results := [.lit (.bool true)], args := [d1, d2, d3, d4, d5] }
  | _ => none }
def filterLessRow : OpenClaim := { program := "ytblipieipldanaa", sum := "cc3e1f7d5490680dbbd8648c57d40f1056dc4d9f6e378277dd6c89681afc9817", func := "deadwax/deadwaxlaw02.FilterLess", spec := "filterLess", unfollowed := true, recurses := true, apart := false }
def FilterLessSaid : Prop := filterLessRow.holds Try.pinned (OpenSpec.ofChange filterLessSpec)

/-- ITS FALSE NEIGHBOUR: 'it returns false'. Refute it at one input. -/
def filterLessWrong : ChangeSpec := { name := "filterLess", fn := fun _ => fun
  | [d1, d2, d3, d4, d5] => { results := [.lit (.bool false)], args := [d1, d2, d3, d4, d5] }
  | _ => none }
def FilterLessWrongFalsely : Prop := filterLessRow.holds Try.pinned (OpenSpec.ofChange filterLessWrong)

/-- 'deadwaxlaw02.FilterCurves': WHATEVER THE INPUT: true; the input reads as it did. -/
def filterCurvesSpec : ChangeSpec := { name := "filterCurves", fn := fun _ => fun
  | [d1, d2] => { results := [.lit (.bool true)], args := [d1, d2] }
  | _ => none }
def filterCurvesRow : OpenClaim := { program := "ytblipieipldanaa", sum := "cc3e1f7d5490680dbbd8648c57d40f1056dc4d9f6e378277dd6c89681afc9817", func := "deadwax/deadwaxlaw02.FilterCurves", spec := "filterCurves", unfollowed := true, recurses := true, apart := false }
def FilterCurvesSaid : Prop := filterCurvesRow.holds Try.pinned (OpenSpec.ofChange filterCurvesSpec)

/-- ITS FALSE NEIGHBOUR: 'it returns false'. Refute it at one input. -/
def filterCurvesWrong : ChangeSpec := { name := "filterCurves", fn := fun _ => fun
  | [d1, d2] => { results := [.lit (.bool false)], args := [d1, d2] }
  | _ => none }
def FilterCurvesWrongFalsely : Prop := filterCurvesRow.holds Try.pinned (OpenSpec.ofChange filterCurvesWrong)

/-- 'deadwaxlaw02.FilterMatches': WHATEVER THE INPUT: true; the input reads as it did. -/
def filterMatchesSpec : ChangeSpec := { name := "filterMatches", fn := fun _ => fun
  | [d1, d2, d3] => { results := [.lit (.bool true)], args := [d1, d2, d3] }
  | _ => none }
def filterMatchesRow : OpenClaim := { program := "ytblipieipldanaa", sum := "cc3e1f7d5490680dbbd8648c57d40f1056dc4d9f6e378277dd6c89681afc9817", func := "deadwax/deadwaxlaw02.FilterMatches", spec := "filterMatches", unfollowed := true, recurses := true, apart := false }
def FilterMatchesSaid : Prop := filterMatchesRow.holds Try.pinned (OpenSpec.ofChange filterMatchesSpec)

/-- ITS FALSE NEIGHBOUR: 'it returns false'. Refute it at one input. -/
def filterMatchesWrong : ChangeSpec := { name := "filterMatches", fn := fun _ => fun
  | [d1, d2, d3] => { results := [.lit (.bool false)], args := [d1, d2, d3] }
  | _ => none }
def FilterMatchesWrongFalsely : Prop := filterMatchesRow.holds Try.pinned (OpenSpec.ofChange filterMatchesWrong)

/-- 'deadwaxlaw02.FilterGains': WHATEVER THE INPUT: true; the input reads as it did. -/
def filterGainsSpec : ChangeSpec := { name := "filterGains", fn := fun _ => fun
  | [d1, d2, d3, d4] => { results := [.lit (.bool true)], args := [d1, d2, d3, d4] }
  | _ => none }
def filterGainsRow : OpenClaim := { program := "ytblipieipldanaa", sum := "cc3e1f7d5490680dbbd8648c57d40f1056dc4d9f6e378277dd6c89681afc9817", func := "deadwax/deadwaxlaw02.FilterGains", spec := "filterGains", unfollowed := true, recurses := true, apart := false }
def FilterGainsSaid : Prop := filterGainsRow.holds Try.pinned (OpenSpec.ofChange filterGainsSpec)

/-- ITS FALSE NEIGHBOUR: 'it returns false'. Refute it at one input. -/
def filterGainsWrong : ChangeSpec := { name := "filterGains", fn := fun _ => fun
  | [d1, d2, d3, d4] => { results := [.lit (.bool false)], args := [d1, d2, d3, d4] }
  | _ => none }
def FilterGainsWrongFalsely : Prop := filterGainsRow.holds Try.pinned (OpenSpec.ofChange filterGainsWrong)

/-- 'deadwaxlaw02.FilterFair': WHATEVER THE INPUT: true; the input reads as it did. -/
def filterFairSpec : ChangeSpec := { name := "filterFair", fn := fun _ => fun
  | [d1, d2, d3, d4] => { results := [.lit (.bool true)], args := [d1, d2, d3, d4] }
  | _ => none }
def filterFairRow : OpenClaim := { program := "ytblipieipldanaa", sum := "cc3e1f7d5490680dbbd8648c57d40f1056dc4d9f6e378277dd6c89681afc9817", func := "deadwax/deadwaxlaw02.FilterFair", spec := "filterFair", unfollowed := true, recurses := true, apart := false }
def FilterFairSaid : Prop := filterFairRow.holds Try.pinned (OpenSpec.ofChange filterFairSpec)

/-- ITS FALSE NEIGHBOUR: 'it returns false'. Refute it at one input. -/
def filterFairWrong : ChangeSpec := { name := "filterFair", fn := fun _ => fun
  | [d1, d2, d3, d4] => { results := [.lit (.bool false)], args := [d1, d2, d3, d4] }
  | _ => none }
def FilterFairWrongFalsely : Prop := filterFairRow.holds Try.pinned (OpenSpec.ofChange filterFairWrong)

/-- 'deadwaxlaw02.FilterSides': WHATEVER THE INPUT: true; the input reads as it did. -/
def filterSidesSpec : ChangeSpec := { name := "filterSides", fn := fun _ => fun
  | [d1, d2] => { results := [.lit (.bool true)], args := [d1, d2] }
  | _ => none }
def filterSidesRow : OpenClaim := { program := "ytblipieipldanaa", sum := "cc3e1f7d5490680dbbd8648c57d40f1056dc4d9f6e378277dd6c89681afc9817", func := "deadwax/deadwaxlaw02.FilterSides", spec := "filterSides", unfollowed := true, recurses := true, apart := false }
def FilterSidesSaid : Prop := filterSidesRow.holds Try.pinned (OpenSpec.ofChange filterSidesSpec)

/-- ITS FALSE NEIGHBOUR: 'it returns false'. Refute it at one input. -/
def filterSidesWrong : ChangeSpec := { name := "filterSides", fn := fun _ => fun
  | [d1, d2] => { results := [.lit (.bool false)], args := [d1, d2] }
  | _ => none }
def FilterSidesWrongFalsely : Prop := filterSidesRow.holds Try.pinned (OpenSpec.ofChange filterSidesWrong)

/-- 'deadwaxlaw02.FilterSplits': WHATEVER THE INPUT: true; the input reads as it did. -/
def filterSplitsSpec : ChangeSpec := { name := "filterSplits", fn := fun _ => fun
  | [d1, d2, d3] => { results := [.lit (.bool true)], args := [d1, d2, d3] }
  | _ => none }
def filterSplitsRow : OpenClaim := { program := "ytblipieipldanaa", sum := "cc3e1f7d5490680dbbd8648c57d40f1056dc4d9f6e378277dd6c89681afc9817", func := "deadwax/deadwaxlaw02.FilterSplits", spec := "filterSplits", unfollowed := true, recurses := true, apart := false }
def FilterSplitsSaid : Prop := filterSplitsRow.holds Try.pinned (OpenSpec.ofChange filterSplitsSpec)

/-- ITS FALSE NEIGHBOUR: 'it returns false'. Refute it at one input. -/
def filterSplitsWrong : ChangeSpec := { name := "filterSplits", fn := fun _ => fun
  | [d1, d2, d3] => { results := [.lit (.bool false)], args := [d1, d2, d3] }
  | _ => none }
def FilterSplitsWrongFalsely : Prop := filterSplitsRow.holds Try.pinned (OpenSpec.ofChange filterSplitsWrong)

/-- 'deadwaxlaw02.FilterBounds': WHATEVER THE INPUT: true; the input reads as it did. -/
def filterBoundsSpec : ChangeSpec := { name := "filterBounds", fn := fun _ => fun
  | [d1, d2] => { results := [.lit (.bool true)], args := [d1, d2] }
  | _ => none }
def filterBoundsRow : OpenClaim := { program := "ytblipieipldanaa", sum := "cc3e1f7d5490680dbbd8648c57d40f1056dc4d9f6e378277dd6c89681afc9817", func := "deadwax/deadwaxlaw02.FilterBounds", spec := "filterBounds", unfollowed := true, recurses := true, apart := false }
def FilterBoundsSaid : Prop := filterBoundsRow.holds Try.pinned (OpenSpec.ofChange filterBoundsSpec)

/-- ITS FALSE NEIGHBOUR: 'it returns false'. Refute it at one input. -/
def filterBoundsWrong : ChangeSpec := { name := "filterBounds", fn := fun _ => fun
  | [d1, d2] => { results := [.lit (.bool false)], args := [d1, d2] }
  | _ => none }
def FilterBoundsWrongFalsely : Prop := filterBoundsRow.holds Try.pinned (OpenSpec.ofChange filterBoundsWrong)

/-- 'deadwaxlaw02.FilterBounded': WHATEVER THE INPUT: true; the input reads as it did. -/
def filterBoundedSpec : ChangeSpec := { name := "filterBounded", fn := fun _ => fun
  | [d1, d2, d3] => { results := [.lit (.bool true)], args := [d1, d2, d3] }
  | _ => none }
def filterBoundedRow : OpenClaim := { program := "ytblipieipldanaa", sum := "cc3e1f7d5490680dbbd8648c57d40f1056dc4d9f6e378277dd6c89681afc9817", func := "deadwax/deadwaxlaw02.FilterBounded", spec := "filterBounded", unfollowed := true, recurses := true, apart := false }
def FilterBoundedSaid : Prop := filterBoundedRow.holds Try.pinned (OpenSpec.ofChange filterBoundedSpec)

/-- ITS FALSE NEIGHBOUR: 'it returns false'. Refute it at one input. -/
def filterBoundedWrong : ChangeSpec := { name := "filterBounded", fn := fun _ => fun
  | [d1, d2, d3] => { results := [.lit (.bool false)], args := [d1, d2, d3] }
  | _ => none }
def FilterBoundedWrongFalsely : Prop := filterBoundedRow.holds Try.pinned (OpenSpec.ofChange filterBoundedWrong)

/-- 'deadwaxlaw02.FilterMono': WHATEVER THE INPUT: true; the input reads as it did. -/
def filterMonoSpec : ChangeSpec := { name := "filterMono", fn := fun _ => fun
  | [d1, d2] => { results := [.lit (.bool true)], args := [d1, d2] }
  | _ => none }
def filterMonoRow : OpenClaim := { program := "ytblipieipldanaa", sum := "cc3e1f7d5490680dbbd8648c57d40f1056dc4d9f6e378277dd6c89681afc9817", func := "deadwax/deadwaxlaw02.FilterMono", spec := "filterMono", unfollowed := true, recurses := true, apart := false }
def FilterMonoSaid : Prop := filterMonoRow.holds Try.pinned (OpenSpec.ofChange filterMonoSpec)

/-- ITS FALSE NEIGHBOUR: 'it returns false'. Refute it at one input. -/
def filterMonoWrong : ChangeSpec := { name := "filterMono", fn := fun _ => fun
  | [d1, d2] => { results := [.lit (.bool false)], args := [d1, d2] }
  | _ => none }
def FilterMonoWrongFalsely : Prop := filterMonoRow.holds Try.pinned (OpenSpec.ofChange filterMonoWrong)

/-- 'deadwaxlaw02.FilterKnown': WHATEVER THE INPUT: true; the input reads as it did. -/
def filterKnownSpec : ChangeSpec := { name := "filterKnown", fn := fun _ => fun
  | [] => { results := [.lit (.bool true)], args := [] }
  | _ => none }
def filterKnownRow : OpenClaim := { program := "ytblipieipldanaa", sum := "cc3e1f7d5490680dbbd8648c57d40f1056dc4d9f6e378277dd6c89681afc9817", func := "deadwax/deadwaxlaw02.FilterKnown", spec := "filterKnown", unfollowed := true, recurses := true, apart := false }
def FilterKnownSaid : Prop := filterKnownRow.holds Try.pinned (OpenSpec.ofChange filterKnownSpec)

/-- ITS FALSE NEIGHBOUR: 'it returns false'. Refute it at one input. -/
def filterKnownWrong : ChangeSpec := { name := "filterKnown", fn := fun _ => fun
  | [] => { results := [.lit (.bool false)], args := [] }
  | _ => none }
def FilterKnownWrongFalsely : Prop := filterKnownRow.holds Try.pinned (OpenSpec.ofChange filterKnownWrong)

/- THE SECOND FORM. 'bulk': how many values and letters a reading holds, each counted each time it is reached (what is shared counts as often as it is met; a slice's spare places count too). A statement '..UptoSaid' is the law's where the arguments, and the package variables that the reading takes, are together of bulk at most 1048576: NARROWER than '..Said'. Prove '..Said' where nothing that the law and all that it calls make is longer than what came in: it says more and counts as full. Else prove '..UptoSaid'. A law counts once. -/
mutual
def uptoBulk {H : Type} : DataW H → Nat
  | .lit (.string bytes) => bytes.length + 1
  | .lit _ => 1
  | .nil => 1
  | .ptr d => uptoBulk d + 1
  | .slice elems spare => uptoBulkAll elems + uptoBulkAll spare + 1
  | .agg parts => uptoBulkAll parts + 1
  | .iface _ d => uptoBulk d + 1
  | .map entries => uptoBulkEntries entries + 1
  | .held _ => 1
def uptoBulkAll {H : Type} : List (DataW H) → Nat
  | [] => 0
  | d :: r => uptoBulk d + uptoBulkAll r
def uptoBulkEntries {H : Type} : List (Lit × DataW H) → Nat
  | [] => 0
  | x :: r => uptoBulkEntry x + uptoBulkEntries r
def uptoBulkEntry {H : Type} : Lit × DataW H → Nat
  | (.string bytes, d) => bytes.length + uptoBulk d + 1
  | (_, d) => uptoBulk d + 1
 end
def uptoSmall : (H : Type) → List (DataW H) → Bool := fun _ ds => decide (uptoBulkAll ds ≤ 1048576)
def OpenSpec.upto (s : _root_.Go.ChangeSpec) : _root_.Go.OpenSpec := { _root_.Go.OpenSpec.ofChange s with cond := some uptoSmall }

/-- 'deadwaxlaw02.FilterIdeal', WHERE WHAT IT READS IS OF BULK AT MOST 1048576: true; the input reads as it did. -/
def filterIdealUptoRow : OpenClaim := { program := "ytblipieipldanaa", sum := "cc3e1f7d5490680dbbd8648c57d40f1056dc4d9f6e378277dd6c89681afc9817", func := "deadwax/deadwaxlaw02.FilterIdeal", spec := "filterIdeal", unfollowed := true, recurses := true, apart := false, narrowed := true }
def FilterIdealUptoSaid : Prop := filterIdealUptoRow.holds Try.pinned (OpenSpec.upto filterIdealSpec)

/-- 'deadwaxlaw02.FilterCausal', WHERE WHAT IT READS IS OF BULK AT MOST 1048576: true; the input reads as it did. -/
def filterCausalUptoRow : OpenClaim := { program := "ytblipieipldanaa", sum := "cc3e1f7d5490680dbbd8648c57d40f1056dc4d9f6e378277dd6c89681afc9817", func := "deadwax/deadwaxlaw02.FilterCausal", spec := "filterCausal", unfollowed := true, recurses := true, apart := false, narrowed := true }
def FilterCausalUptoSaid : Prop := filterCausalUptoRow.holds Try.pinned (OpenSpec.upto filterCausalSpec)

/-- 'deadwaxlaw02.FilterApplies', WHERE WHAT IT READS IS OF BULK AT MOST 1048576: true; the input reads as it did. -/
def filterAppliesUptoRow : OpenClaim := { program := "ytblipieipldanaa", sum := "cc3e1f7d5490680dbbd8648c57d40f1056dc4d9f6e378277dd6c89681afc9817", func := "deadwax/deadwaxlaw02.FilterApplies", spec := "filterApplies", unfollowed := true, recurses := true, apart := false, narrowed := true }
def FilterAppliesUptoSaid : Prop := filterAppliesUptoRow.holds Try.pinned (OpenSpec.upto filterAppliesSpec)

/-- 'deadwaxlaw02.FilterUndone', WHERE WHAT IT READS IS OF BULK AT MOST 1048576: true; the input reads as it did. -/
def filterUndoneUptoRow : OpenClaim := { program := "ytblipieipldanaa", sum := "cc3e1f7d5490680dbbd8648c57d40f1056dc4d9f6e378277dd6c89681afc9817", func := "deadwax/deadwaxlaw02.FilterUndone", spec := "filterUndone", unfollowed := true, recurses := true, apart := false, narrowed := true }
def FilterUndoneUptoSaid : Prop := filterUndoneUptoRow.holds Try.pinned (OpenSpec.upto filterUndoneSpec)

/-- 'deadwaxlaw02.FilterChains', WHERE WHAT IT READS IS OF BULK AT MOST 1048576: true; the input reads as it did. -/
def filterChainsUptoRow : OpenClaim := { program := "ytblipieipldanaa", sum := "cc3e1f7d5490680dbbd8648c57d40f1056dc4d9f6e378277dd6c89681afc9817", func := "deadwax/deadwaxlaw02.FilterChains", spec := "filterChains", unfollowed := true, recurses := true, apart := false, narrowed := true }
def FilterChainsUptoSaid : Prop := filterChainsUptoRow.holds Try.pinned (OpenSpec.upto filterChainsSpec)

/-- 'deadwaxlaw02.FilterChained', WHERE WHAT IT READS IS OF BULK AT MOST 1048576: true; the input reads as it did. -/
def filterChainedUptoRow : OpenClaim := { program := "ytblipieipldanaa", sum := "cc3e1f7d5490680dbbd8648c57d40f1056dc4d9f6e378277dd6c89681afc9817", func := "deadwax/deadwaxlaw02.FilterChained", spec := "filterChained", unfollowed := true, recurses := true, apart := false, narrowed := true }
def FilterChainedUptoSaid : Prop := filterChainedUptoRow.holds Try.pinned (OpenSpec.upto filterChainedSpec)

/-- 'deadwaxlaw02.FilterLess', WHERE WHAT IT READS IS OF BULK AT MOST 1048576: true; the input reads as it did. -/
def filterLessUptoRow : OpenClaim := { program := "ytblipieipldanaa", sum := "cc3e1f7d5490680dbbd8648c57d40f1056dc4d9f6e378277dd6c89681afc9817", func := "deadwax/deadwaxlaw02.FilterLess", spec := "filterLess", unfollowed := true, recurses := true, apart := false, narrowed := true }
def FilterLessUptoSaid : Prop := filterLessUptoRow.holds Try.pinned (OpenSpec.upto filterLessSpec)

/-- 'deadwaxlaw02.FilterCurves', WHERE WHAT IT READS IS OF BULK AT MOST 1048576: true; the input reads as it did. -/
def filterCurvesUptoRow : OpenClaim := { program := "ytblipieipldanaa", sum := "cc3e1f7d5490680dbbd8648c57d40f1056dc4d9f6e378277dd6c89681afc9817", func := "deadwax/deadwaxlaw02.FilterCurves", spec := "filterCurves", unfollowed := true, recurses := true, apart := false, narrowed := true }
def FilterCurvesUptoSaid : Prop := filterCurvesUptoRow.holds Try.pinned (OpenSpec.upto filterCurvesSpec)

/-- 'deadwaxlaw02.FilterMatches', WHERE WHAT IT READS IS OF BULK AT MOST 1048576: true; the input reads as it did. -/
def filterMatchesUptoRow : OpenClaim := { program := "ytblipieipldanaa", sum := "cc3e1f7d5490680dbbd8648c57d40f1056dc4d9f6e378277dd6c89681afc9817", func := "deadwax/deadwaxlaw02.FilterMatches", spec := "filterMatches", unfollowed := true, recurses := true, apart := false, narrowed := true }
def FilterMatchesUptoSaid : Prop := filterMatchesUptoRow.holds Try.pinned (OpenSpec.upto filterMatchesSpec)

/-- 'deadwaxlaw02.FilterGains', WHERE WHAT IT READS IS OF BULK AT MOST 1048576: true; the input reads as it did. -/
def filterGainsUptoRow : OpenClaim := { program := "ytblipieipldanaa", sum := "cc3e1f7d5490680dbbd8648c57d40f1056dc4d9f6e378277dd6c89681afc9817", func := "deadwax/deadwaxlaw02.FilterGains", spec := "filterGains", unfollowed := true, recurses := true, apart := false, narrowed := true }
def FilterGainsUptoSaid : Prop := filterGainsUptoRow.holds Try.pinned (OpenSpec.upto filterGainsSpec)

/-- 'deadwaxlaw02.FilterFair', WHERE WHAT IT READS IS OF BULK AT MOST 1048576: true; the input reads as it did. -/
def filterFairUptoRow : OpenClaim := { program := "ytblipieipldanaa", sum := "cc3e1f7d5490680dbbd8648c57d40f1056dc4d9f6e378277dd6c89681afc9817", func := "deadwax/deadwaxlaw02.FilterFair", spec := "filterFair", unfollowed := true, recurses := true, apart := false, narrowed := true }
def FilterFairUptoSaid : Prop := filterFairUptoRow.holds Try.pinned (OpenSpec.upto filterFairSpec)

/-- 'deadwaxlaw02.FilterSides', WHERE WHAT IT READS IS OF BULK AT MOST 1048576: true; the input reads as it did. -/
def filterSidesUptoRow : OpenClaim := { program := "ytblipieipldanaa", sum := "cc3e1f7d5490680dbbd8648c57d40f1056dc4d9f6e378277dd6c89681afc9817", func := "deadwax/deadwaxlaw02.FilterSides", spec := "filterSides", unfollowed := true, recurses := true, apart := false, narrowed := true }
def FilterSidesUptoSaid : Prop := filterSidesUptoRow.holds Try.pinned (OpenSpec.upto filterSidesSpec)

/-- 'deadwaxlaw02.FilterSplits', WHERE WHAT IT READS IS OF BULK AT MOST 1048576: true; the input reads as it did. -/
def filterSplitsUptoRow : OpenClaim := { program := "ytblipieipldanaa", sum := "cc3e1f7d5490680dbbd8648c57d40f1056dc4d9f6e378277dd6c89681afc9817", func := "deadwax/deadwaxlaw02.FilterSplits", spec := "filterSplits", unfollowed := true, recurses := true, apart := false, narrowed := true }
def FilterSplitsUptoSaid : Prop := filterSplitsUptoRow.holds Try.pinned (OpenSpec.upto filterSplitsSpec)

/-- 'deadwaxlaw02.FilterBounds', WHERE WHAT IT READS IS OF BULK AT MOST 1048576: true; the input reads as it did. -/
def filterBoundsUptoRow : OpenClaim := { program := "ytblipieipldanaa", sum := "cc3e1f7d5490680dbbd8648c57d40f1056dc4d9f6e378277dd6c89681afc9817", func := "deadwax/deadwaxlaw02.FilterBounds", spec := "filterBounds", unfollowed := true, recurses := true, apart := false, narrowed := true }
def FilterBoundsUptoSaid : Prop := filterBoundsUptoRow.holds Try.pinned (OpenSpec.upto filterBoundsSpec)

/-- 'deadwaxlaw02.FilterBounded', WHERE WHAT IT READS IS OF BULK AT MOST 1048576: true; the input reads as it did. -/
def filterBoundedUptoRow : OpenClaim := { program := "ytblipieipldanaa", sum := "cc3e1f7d5490680dbbd8648c57d40f1056dc4d9f6e378277dd6c89681afc9817", func := "deadwax/deadwaxlaw02.FilterBounded", spec := "filterBounded", unfollowed := true, recurses := true, apart := false, narrowed := true }
def FilterBoundedUptoSaid : Prop := filterBoundedUptoRow.holds Try.pinned (OpenSpec.upto filterBoundedSpec)

/-- 'deadwaxlaw02.FilterMono', WHERE WHAT IT READS IS OF BULK AT MOST 1048576: true; the input reads as it did. -/
def filterMonoUptoRow : OpenClaim := { program := "ytblipieipldanaa", sum := "cc3e1f7d5490680dbbd8648c57d40f1056dc4d9f6e378277dd6c89681afc9817", func := "deadwax/deadwaxlaw02.FilterMono", spec := "filterMono", unfollowed := true, recurses := true, apart := false, narrowed := true }
def FilterMonoUptoSaid : Prop := filterMonoUptoRow.holds Try.pinned (OpenSpec.upto filterMonoSpec)

/-- 'deadwaxlaw02.FilterKnown', WHERE WHAT IT READS IS OF BULK AT MOST 1048576: true; the input reads as it did. -/
def filterKnownUptoRow : OpenClaim := { program := "ytblipieipldanaa", sum := "cc3e1f7d5490680dbbd8648c57d40f1056dc4d9f6e378277dd6c89681afc9817", func := "deadwax/deadwaxlaw02.FilterKnown", spec := "filterKnown", unfollowed := true, recurses := true, apart := false, narrowed := true }
def FilterKnownUptoSaid : Prop := filterKnownUptoRow.holds Try.pinned (OpenSpec.upto filterKnownSpec)

end Rows
end Go.Proofs.Ytblipieipldanaa
