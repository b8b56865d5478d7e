/-
  No cell of these rows narrows 'for every input' (looked for: loops, veiled, ifaces, maps, wideKeys, modest, calm, conditions, laid).
  DERIVED. THE GIVEN ROWS OF THIS SEAT. 16 by the template 'for every input the law returns true; each argument reads behind the call as it read before'; 0 by the template 'total and deterministic' (their statements: YtlfaaddoemcokaaTotals.lean).
  GIVEN WITH THE SEED: the statements are not yours to turn. If you find one false, say at which input.
  Laid BY PROGRAM, IN A SANDBOX (cutbox-rows.mjs): the forced cells as the released guide's own fill.sh prints them over the translation 54609650306736ca… (all of the seat's roots in one cut). By AI agents, Wed Nov 11 2026. No macro, syntax, notation, axiom, sorry.
-/
import Derived.Test.YtlfaaddoemcokaaChecked
import GoSem.Claim
import GoSem.ClaimJoined
import GoSem.ClaimMapViews
import Derived.JoinedTies
import Derived.KernelRfl
namespace Go.Proofs.Ytlfaaddoemcokaa
/- THE CELL 'sum', in the pinned program and in every row, IS THE sha256 OF THE DUMP (.gsa) THAT YtlfaaddoemcokaaProg.lean LOADS. Nothing in Lean hashes anything: it is a label: what it is worth is what the hold of that sum in a sandbox is worth. -/
noncomputable def Try.pinned : Pinned := { name := "ytlfaaddoemcokaa", sum := "54609650306736ca8bd84c52e0f7418bb120f8a0946814c6ef9490df40c0a887", checked := Try.checked }
namespace Rows
def none {H : Type} : Left H := { results := [], args := [] }

/-- 'deadwaxlaw06.PlayTurned': WHATEVER THE INPUT: true; the input reads as it did. -/
def playTurnedSpec : ChangeSpec := { name := "playTurned", fn := fun _ => fun
  | [d1, d2, d3] => { results := [.lit (.bool true)], args := [d1, d2, d3] }
  | _ => none }
def playTurnedRow : OpenClaim := { program := "ytlfaaddoemcokaa", sum := "54609650306736ca8bd84c52e0f7418bb120f8a0946814c6ef9490df40c0a887", func := "deadwax/deadwaxlaw06.PlayTurned", spec := "playTurned", unfollowed := true, recurses := true, apart := false }
def PlayTurnedSaid : Prop := playTurnedRow.holds Try.pinned (OpenSpec.ofChange playTurnedSpec)

/-- ITS FALSE NEIGHBOUR: 'it returns false'. Refute it at one input. -/
def playTurnedWrong : ChangeSpec := { name := "playTurned", fn := fun _ => fun
  | [d1, d2, d3] => { results := [.lit (.bool false)], args := [d1, d2, d3] }
  | _ => none }
def PlayTurnedWrongFalsely : Prop := playTurnedRow.holds Try.pinned (OpenSpec.ofChange playTurnedWrong)

/-- 'deadwaxlaw06.PlayInside': WHATEVER THE INPUT: true; the input reads as it did. -/
def playInsideSpec : ChangeSpec := { name := "playInside", fn := fun _ => fun
  | [d1, d2, d3, d4, d5] => { results := [.lit (.bool true)], args := [d1, d2, d3, d4, d5] }
  | _ => none }
def playInsideRow : OpenClaim := { program := "ytlfaaddoemcokaa", sum := "54609650306736ca8bd84c52e0f7418bb120f8a0946814c6ef9490df40c0a887", func := "deadwax/deadwaxlaw06.PlayInside", spec := "playInside", unfollowed := true, recurses := true, apart := false }
def PlayInsideSaid : Prop := playInsideRow.holds Try.pinned (OpenSpec.ofChange playInsideSpec)

/-- ITS FALSE NEIGHBOUR: 'it returns false'. Refute it at one input. -/
def playInsideWrong : ChangeSpec := { name := "playInside", fn := fun _ => fun
  | [d1, d2, d3, d4, d5] => { results := [.lit (.bool false)], args := [d1, d2, d3, d4, d5] }
  | _ => none }
def PlayInsideWrongFalsely : Prop := playInsideRow.holds Try.pinned (OpenSpec.ofChange playInsideWrong)

/-- 'deadwaxlaw06.PlaySwept': WHATEVER THE INPUT: true; the input reads as it did. -/
def playSweptSpec : ChangeSpec := { name := "playSwept", fn := fun _ => fun
  | [d1, d2, d3] => { results := [.lit (.bool true)], args := [d1, d2, d3] }
  | _ => none }
def playSweptRow : OpenClaim := { program := "ytlfaaddoemcokaa", sum := "54609650306736ca8bd84c52e0f7418bb120f8a0946814c6ef9490df40c0a887", func := "deadwax/deadwaxlaw06.PlaySwept", spec := "playSwept", unfollowed := true, recurses := true, apart := false }
def PlaySweptSaid : Prop := playSweptRow.holds Try.pinned (OpenSpec.ofChange playSweptSpec)

/-- ITS FALSE NEIGHBOUR: 'it returns false'. Refute it at one input. -/
def playSweptWrong : ChangeSpec := { name := "playSwept", fn := fun _ => fun
  | [d1, d2, d3] => { results := [.lit (.bool false)], args := [d1, d2, d3] }
  | _ => none }
def PlaySweptWrongFalsely : Prop := playSweptRow.holds Try.pinned (OpenSpec.ofChange playSweptWrong)

/-- 'deadwaxlaw06.PlayBalanced': WHATEVER THE INPUT: true; the input reads as it did. -/
def playBalancedSpec : ChangeSpec := { name := "playBalanced", fn := fun _ => fun
  | [d1, d2, d3] => { results := [.lit (.bool true)], args := [d1, d2, d3] }
  | _ => none }
def playBalancedRow : OpenClaim := { program := "ytlfaaddoemcokaa", sum := "54609650306736ca8bd84c52e0f7418bb120f8a0946814c6ef9490df40c0a887", func := "deadwax/deadwaxlaw06.PlayBalanced", spec := "playBalanced", unfollowed := true, recurses := true, apart := false }
def PlayBalancedSaid : Prop := playBalancedRow.holds Try.pinned (OpenSpec.ofChange playBalancedSpec)

/-- ITS FALSE NEIGHBOUR: 'it returns false'. Refute it at one input. -/
def playBalancedWrong : ChangeSpec := { name := "playBalanced", fn := fun _ => fun
  | [d1, d2, d3] => { results := [.lit (.bool false)], args := [d1, d2, d3] }
  | _ => none }
def PlayBalancedWrongFalsely : Prop := playBalancedRow.holds Try.pinned (OpenSpec.ofChange playBalancedWrong)

/-- 'deadwaxlaw06.PlayReads': WHATEVER THE INPUT: true; the input reads as it did. -/
def playReadsSpec : ChangeSpec := { name := "playReads", fn := fun _ => fun
  | [d1, d2] => { results := [.lit (.bool true)], args := [d1, d2] }
  | _ => none }
def playReadsRow : OpenClaim := { program := "ytlfaaddoemcokaa", sum := "54609650306736ca8bd84c52e0f7418bb120f8a0946814c6ef9490df40c0a887", func := "deadwax/deadwaxlaw06.PlayReads", spec := "playReads", unfollowed := true, recurses := true, apart := false }
def PlayReadsSaid : Prop := playReadsRow.holds Try.pinned (OpenSpec.ofChange playReadsSpec)

/-- ITS FALSE NEIGHBOUR: 'it returns false'. Refute it at one input. -/
def playReadsWrong : ChangeSpec := { name := "playReads", fn := fun _ => fun
  | [d1, d2] => { results := [.lit (.bool false)], args := [d1, d2] }
  | _ => none }
def PlayReadsWrongFalsely : Prop := playReadsRow.holds Try.pinned (OpenSpec.ofChange playReadsWrong)

/-- 'deadwaxlaw06.PlayExact': WHATEVER THE INPUT: true; the input reads as it did. -/
def playExactSpec : ChangeSpec := { name := "playExact", fn := fun _ => fun
  | [d1, d2, d3, d4] => { results := [.lit (.bool true)], args := [d1, d2, d3, d4] }
  | _ => none }
def playExactRow : OpenClaim := { program := "ytlfaaddoemcokaa", sum := "54609650306736ca8bd84c52e0f7418bb120f8a0946814c6ef9490df40c0a887", func := "deadwax/deadwaxlaw06.PlayExact", spec := "playExact", unfollowed := true, recurses := true, apart := false }
def PlayExactSaid : Prop := playExactRow.holds Try.pinned (OpenSpec.ofChange playExactSpec)

/-- ITS FALSE NEIGHBOUR: 'it returns false'. Refute it at one input. -/
def playExactWrong : ChangeSpec := { name := "playExact", fn := fun _ => fun
  | [d1, d2, d3, d4] => { results := [.lit (.bool false)], args := [d1, d2, d3, d4] }
  | _ => none }
def PlayExactWrongFalsely : Prop := playExactRow.holds Try.pinned (OpenSpec.ofChange playExactWrong)

/-- 'deadwaxlaw06.PlayLands': WHATEVER THE INPUT: true; the input reads as it did. -/
def playLandsSpec : ChangeSpec := { name := "playLands", fn := fun _ => fun
  | [d1, d2, d3, d4, d5, d6] => { results := [.lit (.bool true)], args := [d1, d2, d3, d4, d5, d6] }
  | _ => none }
def playLandsRow : OpenClaim := { program := "ytlfaaddoemcokaa", sum := "54609650306736ca8bd84c52e0f7418bb120f8a0946814c6ef9490df40c0a887", func := "deadwax/deadwaxlaw06.PlayLands", spec := "playLands", unfollowed := true, recurses := true, apart := false }
def PlayLandsSaid : Prop := playLandsRow.holds Try.pinned (OpenSpec.ofChange playLandsSpec)

/-- ITS FALSE NEIGHBOUR: 'it returns false'. Refute it at one input. -/
def playLandsWrong : ChangeSpec := { name := "playLands", fn := fun _ => fun
  | [d1, d2, d3, d4, d5, d6] => { results := [.lit (.bool false)], args := [d1, d2, d3, d4, d5, d6] }
  | _ => none }
def PlayLandsWrongFalsely : Prop := playLandsRow.holds Try.pinned (OpenSpec.ofChange playLandsWrong)

/-- 'deadwaxlaw06.PlayTips': WHATEVER THE INPUT: true; the input reads as it did. -/
def playTipsSpec : ChangeSpec := { name := "playTips", fn := fun _ => fun
  | [d1, d2, d3, d4] => { results := [.lit (.bool true)], args := [d1, d2, d3, d4] }
  | _ => none }
def playTipsRow : OpenClaim := { program := "ytlfaaddoemcokaa", sum := "54609650306736ca8bd84c52e0f7418bb120f8a0946814c6ef9490df40c0a887", func := "deadwax/deadwaxlaw06.PlayTips", spec := "playTips", unfollowed := true, recurses := true, apart := false }
def PlayTipsSaid : Prop := playTipsRow.holds Try.pinned (OpenSpec.ofChange playTipsSpec)

/-- ITS FALSE NEIGHBOUR: 'it returns false'. Refute it at one input. -/
def playTipsWrong : ChangeSpec := { name := "playTips", fn := fun _ => fun
  | [d1, d2, d3, d4] => { results := [.lit (.bool false)], args := [d1, d2, d3, d4] }
  | _ => none }
def PlayTipsWrongFalsely : Prop := playTipsRow.holds Try.pinned (OpenSpec.ofChange playTipsWrong)

/-- 'deadwaxlaw06.PlayHeard': WHATEVER THE INPUT: true; the input reads as it did. -/
def playHeardSpec : ChangeSpec := { name := "playHeard", fn := fun _ => fun
  | [d1, d2, d3, d4, d5, d6, d7] => { results := [.lit (.bool true)], args := [d1, d2, d3, d4, d5, d6, d7] }
  | _ => none }
def playHeardRow : OpenClaim := { program := "ytlfaaddoemcokaa", sum := "54609650306736ca8bd84c52e0f7418bb120f8a0946814c6ef9490df40c0a887", func := "deadwax/deadwaxlaw06.PlayHeard", spec := "playHeard", unfollowed := true, recurses := true, apart := false }
def PlayHeardSaid : Prop := playHeardRow.holds Try.pinned (OpenSpec.ofChange playHeardSpec)

/-- ITS FALSE NEIGHBOUR: 'it returns false'. Refute it at one input. -/
def playHeardWrong : ChangeSpec := { name := "playHeard", fn := fun _ => fun
  | [d1, d2, d3, d4, d5, d6, d7] => { results := [.lit (.bool false)], args := [d1, d2, d3, d4, d5, d6, d7] }
  | _ => none }
def PlayHeardWrongFalsely : Prop := playHeardRow.holds Try.pinned (OpenSpec.ofChange playHeardWrong)

/-- 'deadwaxlaw06.PlayChannels': WHATEVER THE INPUT: true; the input reads as it did. -/
def playChannelsSpec : ChangeSpec := { name := "playChannels", fn := fun _ => fun
  | [d1, d2] => { results := [.lit (.bool true)], args := [d1, d2] }
  | _ => none }
def playChannelsRow : OpenClaim := { program := "ytlfaaddoemcokaa", sum := "54609650306736ca8bd84c52e0f7418bb120f8a0946814c6ef9490df40c0a887", func := "deadwax/deadwaxlaw06.PlayChannels", spec := "playChannels", unfollowed := true, recurses := true, apart := false }
def PlayChannelsSaid : Prop := playChannelsRow.holds Try.pinned (OpenSpec.ofChange playChannelsSpec)

/-- ITS FALSE NEIGHBOUR: 'it returns false'. Refute it at one input. -/
def playChannelsWrong : ChangeSpec := { name := "playChannels", fn := fun _ => fun
  | [d1, d2] => { results := [.lit (.bool false)], args := [d1, d2] }
  | _ => none }
def PlayChannelsWrongFalsely : Prop := playChannelsRow.holds Try.pinned (OpenSpec.ofChange playChannelsWrong)

/-- 'deadwaxlaw06.PlayArms': WHATEVER THE INPUT: true; the input reads as it did. -/
def playArmsSpec : ChangeSpec := { name := "playArms", fn := fun _ => fun
  | [d1, d2, d3, d4, d5, d6] => { results := [.lit (.bool true)], args := [d1, d2, d3, d4, d5, d6] }
  | _ => none }
def playArmsRow : OpenClaim := { program := "ytlfaaddoemcokaa", sum := "54609650306736ca8bd84c52e0f7418bb120f8a0946814c6ef9490df40c0a887", func := "deadwax/deadwaxlaw06.PlayArms", spec := "playArms", unfollowed := true, recurses := true, apart := false }
def PlayArmsSaid : Prop := playArmsRow.holds Try.pinned (OpenSpec.ofChange playArmsSpec)

/-- ITS FALSE NEIGHBOUR: 'it returns false'. Refute it at one input. -/
def playArmsWrong : ChangeSpec := { name := "playArms", fn := fun _ => fun
  | [d1, d2, d3, d4, d5, d6] => { results := [.lit (.bool false)], args := [d1, d2, d3, d4, d5, d6] }
  | _ => none }
def PlayArmsWrongFalsely : Prop := playArmsRow.holds Try.pinned (OpenSpec.ofChange playArmsWrong)

/-- 'deadwaxlaw06.PlayHears': WHATEVER THE INPUT: true; the input reads as it did. -/
def playHearsSpec : ChangeSpec := { name := "playHears", fn := fun _ => fun
  | [d1, d2, d3, d4, d5, d6, d7] => { results := [.lit (.bool true)], args := [d1, d2, d3, d4, d5, d6, d7] }
  | _ => none }
def playHearsRow : OpenClaim := { program := "ytlfaaddoemcokaa", sum := "54609650306736ca8bd84c52e0f7418bb120f8a0946814c6ef9490df40c0a887", func := "deadwax/deadwaxlaw06.PlayHears", spec := "playHears", unfollowed := true, recurses := true, apart := false }
def PlayHearsSaid : Prop := playHearsRow.holds Try.pinned (OpenSpec.ofChange playHearsSpec)

/-- ITS FALSE NEIGHBOUR: 'it returns false'. Refute it at one input. -/
def playHearsWrong : ChangeSpec := { name := "playHears", fn := fun _ => fun
  | [d1, d2, d3, d4, d5, d6, d7] => { results := [.lit (.bool false)], args := [d1, d2, d3, d4, d5, d6, d7] }
  | _ => none }
def PlayHearsWrongFalsely : Prop := playHearsRow.holds Try.pinned (OpenSpec.ofChange playHearsWrong)

/-- 'deadwaxlaw06.PlayGreatest': WHATEVER THE INPUT: true; the input reads as it did. -/
def playGreatestSpec : ChangeSpec := { name := "playGreatest", fn := fun _ => fun
  | [d1, d2, d3] => { results := [.lit (.bool true)], args := [d1, d2, d3] }
  | _ => none }
def playGreatestRow : OpenClaim := { program := "ytlfaaddoemcokaa", sum := "54609650306736ca8bd84c52e0f7418bb120f8a0946814c6ef9490df40c0a887", func := "deadwax/deadwaxlaw06.PlayGreatest", spec := "playGreatest", unfollowed := true, recurses := true, apart := false }
def PlayGreatestSaid : Prop := playGreatestRow.holds Try.pinned (OpenSpec.ofChange playGreatestSpec)

/-- ITS FALSE NEIGHBOUR: 'it returns false'. Refute it at one input. -/
def playGreatestWrong : ChangeSpec := { name := "playGreatest", fn := fun _ => fun
  | [d1, d2, d3] => { results := [.lit (.bool false)], args := [d1, d2, d3] }
  | _ => none }
def PlayGreatestWrongFalsely : Prop := playGreatestRow.holds Try.pinned (OpenSpec.ofChange playGreatestWrong)

/-- 'deadwaxlaw06.PlayRound': WHATEVER THE INPUT: true; the input reads as it did. -/
def playRoundSpec : ChangeSpec := { name := "playRound", fn := fun _ => fun
  | [d1, d2, d3, d4] => { results := [.lit (.bool true)], args := [d1, d2, d3, d4] }
  | _ => none }
def playRoundRow : OpenClaim := { program := "ytlfaaddoemcokaa", sum := "54609650306736ca8bd84c52e0f7418bb120f8a0946814c6ef9490df40c0a887", func := "deadwax/deadwaxlaw06.PlayRound", spec := "playRound", unfollowed := true, recurses := true, apart := false }
def PlayRoundSaid : Prop := playRoundRow.holds Try.pinned (OpenSpec.ofChange playRoundSpec)

/-- ITS FALSE NEIGHBOUR: 'it returns false'. Refute it at one input. -/
def playRoundWrong : ChangeSpec := { name := "playRound", fn := fun _ => fun
  | [d1, d2, d3, d4] => { results := [.lit (.bool false)], args := [d1, d2, d3, d4] }
  | _ => none }
def PlayRoundWrongFalsely : Prop := playRoundRow.holds Try.pinned (OpenSpec.ofChange playRoundWrong)

/-- 'deadwaxlaw06.PlaySamples': WHATEVER THE INPUT: true; the input reads as it did. -/
def playSamplesSpec : ChangeSpec := { name := "playSamples", fn := fun _ => fun
  | [d1, d2, d3] => { results := [.lit (.bool true)], args := [d1, d2, d3] }
  | _ => none }
def playSamplesRow : OpenClaim := { program := "ytlfaaddoemcokaa", sum := "54609650306736ca8bd84c52e0f7418bb120f8a0946814c6ef9490df40c0a887", func := "deadwax/deadwaxlaw06.PlaySamples", spec := "playSamples", unfollowed := true, recurses := true, apart := false }
def PlaySamplesSaid : Prop := playSamplesRow.holds Try.pinned (OpenSpec.ofChange playSamplesSpec)

/-- ITS FALSE NEIGHBOUR: 'it returns false'. Refute it at one input. -/
def playSamplesWrong : ChangeSpec := { name := "playSamples", fn := fun _ => fun
  | [d1, d2, d3] => { results := [.lit (.bool false)], args := [d1, d2, d3] }
  | _ => none }
def PlaySamplesWrongFalsely : Prop := playSamplesRow.holds Try.pinned (OpenSpec.ofChange playSamplesWrong)

/-- 'deadwaxlaw06.PlayKnown': WHATEVER THE INPUT: true; the input reads as it did. -/
def playKnownSpec : ChangeSpec := { name := "playKnown", fn := fun _ => fun
  | [] => { results := [.lit (.bool true)], args := [] }
  | _ => none }
def playKnownRow : OpenClaim := { program := "ytlfaaddoemcokaa", sum := "54609650306736ca8bd84c52e0f7418bb120f8a0946814c6ef9490df40c0a887", func := "deadwax/deadwaxlaw06.PlayKnown", spec := "playKnown", unfollowed := true, recurses := true, apart := false }
def PlayKnownSaid : Prop := playKnownRow.holds Try.pinned (OpenSpec.ofChange playKnownSpec)

/-- ITS FALSE NEIGHBOUR: 'it returns false'. Refute it at one input. -/
def playKnownWrong : ChangeSpec := { name := "playKnown", fn := fun _ => fun
  | [] => { results := [.lit (.bool false)], args := [] }
  | _ => none }
def PlayKnownWrongFalsely : Prop := playKnownRow.holds Try.pinned (OpenSpec.ofChange playKnownWrong)

/- THE SECOND FORM. 'bulk': how many values and letters a reading holds, each counted each time it is reached (what is shared counts as often as it is met; a slice's spare places count too). A statement '..UptoSaid' is the law's where the arguments, and the package variables that the reading takes, are together of bulk at most 1048576: NARROWER than '..Said'. Prove '..Said' where nothing that the law and all that it calls make is longer than what came in: it says more and counts as full. Else prove '..UptoSaid'. A law counts once. -/
mutual
def uptoBulk {H : Type} : DataW H → Nat
  | .lit (.string bytes) => bytes.length + 1
  | .lit _ => 1
  | .nil => 1
  | .ptr d => uptoBulk d + 1
  | .slice elems spare => uptoBulkAll elems + uptoBulkAll spare + 1
  | .agg parts => uptoBulkAll parts + 1
  | .iface _ d => uptoBulk d + 1
  | .map entries => uptoBulkEntries entries + 1
  | .held _ => 1
def uptoBulkAll {H : Type} : List (DataW H) → Nat
  | [] => 0
  | d :: r => uptoBulk d + uptoBulkAll r
def uptoBulkEntries {H : Type} : List (Lit × DataW H) → Nat
  | [] => 0
  | x :: r => uptoBulkEntry x + uptoBulkEntries r
def uptoBulkEntry {H : Type} : Lit × DataW H → Nat
  | (.string bytes, d) => bytes.length + uptoBulk d + 1
  | (_, d) => uptoBulk d + 1
 end
def uptoSmall : (H : Type) → List (DataW H) → Bool := fun _ ds => decide (uptoBulkAll ds ≤ 1048576)
def OpenSpec.upto (s : _root_.Go.ChangeSpec) : _root_.Go.OpenSpec := { _root_.Go.OpenSpec.ofChange s with cond := some uptoSmall }

/-- 'deadwaxlaw06.PlayTurned', WHERE WHAT IT READS IS OF BULK AT MOST 1048576: true; the input reads as it did. -/
def playTurnedUptoRow : OpenClaim := { program := "ytlfaaddoemcokaa", sum := "54609650306736ca8bd84c52e0f7418bb120f8a0946814c6ef9490df40c0a887", func := "deadwax/deadwaxlaw06.PlayTurned", spec := "playTurned", unfollowed := true, recurses := true, apart := false, narrowed := true }
def PlayTurnedUptoSaid : Prop := playTurnedUptoRow.holds Try.pinned (OpenSpec.upto playTurnedSpec)

/-- 'deadwaxlaw06.PlayInside', WHERE WHAT IT READS IS OF BULK AT MOST 1048576: true; the input reads as it did. -/
def playInsideUptoRow : OpenClaim := { program := "ytlfaaddoemcokaa", sum := "54609650306736ca8bd84c52e0f7418bb120f8a0946814c6ef9490df40c0a887", func := "deadwax/deadwaxlaw06.PlayInside", spec := "playInside", unfollowed := true, recurses := true, apart := false, narrowed := true }
def PlayInsideUptoSaid : Prop := playInsideUptoRow.holds Try.pinned (OpenSpec.upto playInsideSpec)

/-- 'deadwaxlaw06.PlaySwept', WHERE WHAT IT READS IS OF BULK AT MOST 1048576: true; the input reads as it did. -/
def playSweptUptoRow : OpenClaim := { program := "ytlfaaddoemcokaa", sum := "54609650306736ca8bd84c52e0f7418bb120f8a0946814c6ef9490df40c0a887", func := "deadwax/deadwaxlaw06.PlaySwept", spec := "playSwept", unfollowed := true, recurses := true, apart := false, narrowed := true }
def PlaySweptUptoSaid : Prop := playSweptUptoRow.holds Try.pinned (OpenSpec.upto playSweptSpec)

/-- 'deadwaxlaw06.PlayBalanced', WHERE WHAT IT READS IS OF BULK AT MOST 1048576: true; the input reads as it did. -/
def playBalancedUptoRow : OpenClaim := { program := "ytlfaaddoemcokaa", sum := "54609650306736ca8bd84c52e0f7418bb120f8a0946814c6ef9490df40c0a887", func := "deadwax/deadwaxlaw06.PlayBalanced", spec := "playBalanced", unfollowed := true, recurses := true, apart := false, narrowed := true }
def PlayBalancedUptoSaid : Prop := playBalancedUptoRow.holds Try.pinned (OpenSpec.upto playBalancedSpec)

/-- 'deadwaxlaw06.PlayReads', WHERE WHAT IT READS IS OF BULK AT MOST 1048576: true; the input reads as it did. -/
def playReadsUptoRow : OpenClaim := { program := "ytlfaaddoemcokaa", sum := "54609650306736ca8bd84c52e0f7418bb120f8a0946814c6ef9490df40c0a887", func := "deadwax/deadwaxlaw06.PlayReads", spec := "playReads", unfollowed := true, recurses := true, apart := false, narrowed := true }
def PlayReadsUptoSaid : Prop := playReadsUptoRow.holds Try.pinned (OpenSpec.upto playReadsSpec)

/-- 'deadwaxlaw06.PlayExact', WHERE WHAT IT READS IS OF BULK AT MOST 1048576: true; the input reads as it did. -/
def playExactUptoRow : OpenClaim := { program := "ytlfaaddoemcokaa", sum := "54609650306736ca8bd84c52e0f7418bb120f8a0946814c6ef9490df40c0a887", func := "deadwax/deadwaxlaw06.PlayExact", spec := "playExact", unfollowed := true, recurses := true, apart := false, narrowed := true }
def PlayExactUptoSaid : Prop := playExactUptoRow.holds Try.pinned (OpenSpec.upto playExactSpec)

/-- 'deadwaxlaw06.PlayLands', WHERE WHAT IT READS IS OF BULK AT MOST 1048576: true; the input reads as it did. -/
def playLandsUptoRow : OpenClaim := { program := "ytlfaaddoemcokaa", sum := "54609650306736ca8bd84c52e0f7418bb120f8a0946814c6ef9490df40c0a887", func := "deadwax/deadwaxlaw06.PlayLands", spec := "playLands", unfollowed := true, recurses := true, apart := false, narrowed := true }
def PlayLandsUptoSaid : Prop := playLandsUptoRow.holds Try.pinned (OpenSpec.upto playLandsSpec)

/-- 'deadwaxlaw06.PlayTips', WHERE WHAT IT READS IS OF BULK AT MOST 1048576: true; the input reads as it did. -/
def playTipsUptoRow : OpenClaim := { program := "ytlfaaddoemcokaa", sum := "54609650306736ca8bd84c52e0f7418bb120f8a0946814c6ef9490df40c0a887", func := "deadwax/deadwaxlaw06.PlayTips", spec := "playTips", unfollowed := true, recurses := true, apart := false, narrowed := true }
def PlayTipsUptoSaid : Prop := playTipsUptoRow.holds Try.pinned (OpenSpec.upto playTipsSpec)

/-- 'deadwaxlaw06.PlayHeard', WHERE WHAT IT READS IS OF BULK AT MOST 1048576: true; the input reads as it did. -/
def playHeardUptoRow : OpenClaim := { program := "ytlfaaddoemcokaa", sum := "54609650306736ca8bd84c52e0f7418bb120f8a0946814c6ef9490df40c0a887", func := "deadwax/deadwaxlaw06.PlayHeard", spec := "playHeard", unfollowed := true, recurses := true, apart := false, narrowed := true }
def PlayHeardUptoSaid : Prop := playHeardUptoRow.holds Try.pinned (OpenSpec.upto playHeardSpec)

/-- 'deadwaxlaw06.PlayChannels', WHERE WHAT IT READS IS OF BULK AT MOST 1048576: true; the input reads as it did. -/
def playChannelsUptoRow : OpenClaim := { program := "ytlfaaddoemcokaa", sum := "54609650306736ca8bd84c52e0f7418bb120f8a0946814c6ef9490df40c0a887", func := "deadwax/deadwaxlaw06.PlayChannels", spec := "playChannels", unfollowed := true, recurses := true, apart := false, narrowed := true }
def PlayChannelsUptoSaid : Prop := playChannelsUptoRow.holds Try.pinned (OpenSpec.upto playChannelsSpec)

/-- 'deadwaxlaw06.PlayArms', WHERE WHAT IT READS IS OF BULK AT MOST 1048576: true; the input reads as it did. -/
def playArmsUptoRow : OpenClaim := { program := "ytlfaaddoemcokaa", sum := "54609650306736ca8bd84c52e0f7418bb120f8a0946814c6ef9490df40c0a887", func := "deadwax/deadwaxlaw06.PlayArms", spec := "playArms", unfollowed := true, recurses := true, apart := false, narrowed := true }
def PlayArmsUptoSaid : Prop := playArmsUptoRow.holds Try.pinned (OpenSpec.upto playArmsSpec)

/-- 'deadwaxlaw06.PlayHears', WHERE WHAT IT READS IS OF BULK AT MOST 1048576: true; the input reads as it did. -/
def playHearsUptoRow : OpenClaim := { program := "ytlfaaddoemcokaa", sum := "54609650306736ca8bd84c52e0f7418bb120f8a0946814c6ef9490df40c0a887", func := "deadwax/deadwaxlaw06.PlayHears", spec := "playHears", unfollowed := true, recurses := true, apart := false, narrowed := true }
def PlayHearsUptoSaid : Prop := playHearsUptoRow.holds Try.pinned (OpenSpec.upto playHearsSpec)

/-- 'deadwaxlaw06.PlayGreatest', WHERE WHAT IT READS IS OF BULK AT MOST 1048576: true; the input reads as it did. -/
def playGreatestUptoRow : OpenClaim := { program := "ytlfaaddoemcokaa", sum := "54609650306736ca8bd84c52e0f7418bb120f8a0946814c6ef9490df40c0a887", func := "deadwax/deadwaxlaw06.PlayGreatest", spec := "playGreatest", unfollowed := true, recurses := true, apart := false, narrowed := true }
def PlayGreatestUptoSaid : Prop := playGreatestUptoRow.holds Try.pinned (OpenSpec.upto playGreatestSpec)

/-- 'deadwaxlaw06.PlayRound', WHERE WHAT IT READS IS OF BULK AT MOST 1048576: true; the input reads as it did. -/
def playRoundUptoRow : OpenClaim := { program := "ytlfaaddoemcokaa", sum := "54609650306736ca8bd84c52e0f7418bb120f8a0946814c6ef9490df40c0a887", func := "deadwax/deadwaxlaw06.PlayRound", spec := "playRound", unfollowed := true, recurses := true, apart := false, narrowed := true }
def PlayRoundUptoSaid : Prop := playRoundUptoRow.holds Try.pinned (OpenSpec.upto playRoundSpec)

/-- 'deadwaxlaw06.PlaySamples', WHERE WHAT IT READS IS OF BULK AT MOST 1048576: true; the input reads as it did. -/
def playSamplesUptoRow : OpenClaim := { program := "ytlfaaddoemcokaa", sum := "54609650306736ca8bd84c52e0f7418bb120f8a0946814c6ef9490df40c0a887", func := "deadwax/deadwaxlaw06.PlaySamples", spec := "playSamples", unfollowed := true, recurses := true, apart := false, narrowed := true }
def PlaySamplesUptoSaid : Prop := playSamplesUptoRow.holds Try.pinned (OpenSpec.upto playSamplesSpec)

/-- 'deadwaxlaw06.PlayKnown', WHERE WHAT IT READS IS OF BULK AT MOST 1048576: true; the input reads as it did. -/
def playKnownUptoRow : OpenClaim := { program := "ytlfaaddoemcokaa", sum := "54609650306736ca8bd84c52e0f7418bb120f8a0946814c6ef9490df40c0a887", func := "deadwax/deadwaxlaw06.PlayKnown", spec := "playKnown", unfollowed := true, recurses := true, apart := false, narrowed := true }
def PlayKnownUptoSaid : Prop := playKnownUptoRow.holds Try.pinned (OpenSpec.upto playKnownSpec)

end Rows
end Go.Proofs.Ytlfaaddoemcokaa
