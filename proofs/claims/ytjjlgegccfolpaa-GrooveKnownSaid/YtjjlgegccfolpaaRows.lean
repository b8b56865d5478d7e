/-
  No cell of these rows narrows 'for every input' (looked for: loops, veiled, ifaces, maps, wideKeys, modest, calm, conditions, laid).
  DERIVED. THE GIVEN ROWS OF THIS SEAT. 12 by the template 'for every input the law returns true; each argument reads behind the call as it read before'; 0 by the template 'total and deterministic' (their statements: YtjjlgegccfolpaaTotals.lean).
  GIVEN WITH THE SEED: the statements are not yours to turn. If you find one false, say at which input.
  Laid BY PROGRAM, IN A SANDBOX (cutbox-rows.mjs): the forced cells as the released guide's own fill.sh prints them over the translation b790c092c4ce97ba… (all of the seat's roots in one cut). By AI agents, Wed Nov 11 2026. No macro, syntax, notation, axiom, sorry.
-/
import Derived.Test.YtjjlgegccfolpaaChecked
import GoSem.Claim
import GoSem.ClaimJoined
import GoSem.ClaimMapViews
import Derived.JoinedTies
import Derived.KernelRfl
namespace Go.Proofs.Ytjjlgegccfolpaa
/- THE CELL 'sum', in the pinned program and in every row, IS THE sha256 OF THE DUMP (.gsa) THAT YtjjlgegccfolpaaProg.lean LOADS. Nothing in Lean hashes anything: it is a label: what it is worth is what the hold of that sum in a sandbox is worth. -/
noncomputable def Try.pinned : Pinned := { name := "ytjjlgegccfolpaa", sum := "b790c092c4ce97ba1e354efe372aac2b2453d30580cfb15b4cc380b71f1638c1", checked := Try.checked }
namespace Rows
def none {H : Type} : Left H := { results := [], args := [] }

/-- 'deadwaxlaw03.GrooveWalls': WHATEVER THE INPUT: true; the input reads as it did. -/
def grooveWallsSpec : ChangeSpec := { name := "grooveWalls", fn := fun _ => fun
  | [d1, d2, d3] => { results := [.lit (.bool true)], args := [d1, d2, d3] }
  | _ => none }
def grooveWallsRow : OpenClaim := { program := "ytjjlgegccfolpaa", sum := "b790c092c4ce97ba1e354efe372aac2b2453d30580cfb15b4cc380b71f1638c1", func := "deadwax/deadwaxlaw03.GrooveWalls", spec := "grooveWalls", unfollowed := true, recurses := true, apart := false }
def GrooveWallsSaid : Prop := grooveWallsRow.holds Try.pinned (OpenSpec.ofChange grooveWallsSpec)

/-- ITS FALSE NEIGHBOUR: 'it returns false'. Refute it at one input. -/
def grooveWallsWrong : ChangeSpec := { name := "grooveWalls", fn := fun _ => fun
  | [d1, d2, d3] => { results := [.lit (.bool false)], args := [d1, d2, d3] }
  | _ => none }
def GrooveWallsWrongFalsely : Prop := grooveWallsRow.holds Try.pinned (OpenSpec.ofChange grooveWallsWrong)

/-- 'deadwaxlaw03.GrooveTurned': WHATEVER THE INPUT: true; the input reads as it did. -/
def grooveTurnedSpec : ChangeSpec := { name := "grooveTurned", fn := fun _ => fun
  | [d1, d2, d3, d4] => { results := [.lit (.bool true)], args := [d1, d2, d3, d4] }
  | _ => none }
def grooveTurnedRow : OpenClaim := { program := "ytjjlgegccfolpaa", sum := "b790c092c4ce97ba1e354efe372aac2b2453d30580cfb15b4cc380b71f1638c1", func := "deadwax/deadwaxlaw03.GrooveTurned", spec := "grooveTurned", unfollowed := true, recurses := true, apart := false }
def GrooveTurnedSaid : Prop := grooveTurnedRow.holds Try.pinned (OpenSpec.ofChange grooveTurnedSpec)

/-- ITS FALSE NEIGHBOUR: 'it returns false'. Refute it at one input. -/
def grooveTurnedWrong : ChangeSpec := { name := "grooveTurned", fn := fun _ => fun
  | [d1, d2, d3, d4] => { results := [.lit (.bool false)], args := [d1, d2, d3, d4] }
  | _ => none }
def GrooveTurnedWrongFalsely : Prop := grooveTurnedRow.holds Try.pinned (OpenSpec.ofChange grooveTurnedWrong)

/-- 'deadwaxlaw03.GrooveParts': WHATEVER THE INPUT: true; the input reads as it did. -/
def groovePartsSpec : ChangeSpec := { name := "grooveParts", fn := fun _ => fun
  | [d1, d2, d3, d4, d5] => { results := [.lit (.bool true)], args := [d1, d2, d3, d4, d5] }
  | _ => none }
def groovePartsRow : OpenClaim := { program := "ytjjlgegccfolpaa", sum := "b790c092c4ce97ba1e354efe372aac2b2453d30580cfb15b4cc380b71f1638c1", func := "deadwax/deadwaxlaw03.GrooveParts", spec := "grooveParts", unfollowed := true, recurses := true, apart := false }
def GroovePartsSaid : Prop := groovePartsRow.holds Try.pinned (OpenSpec.ofChange groovePartsSpec)

/-- ITS FALSE NEIGHBOUR: 'it returns false'. Refute it at one input. -/
def groovePartsWrong : ChangeSpec := { name := "grooveParts", fn := fun _ => fun
  | [d1, d2, d3, d4, d5] => { results := [.lit (.bool false)], args := [d1, d2, d3, d4, d5] }
  | _ => none }
def GroovePartsWrongFalsely : Prop := groovePartsRow.holds Try.pinned (OpenSpec.ofChange groovePartsWrong)

/-- 'deadwaxlaw03.GrooveMilder': WHATEVER THE INPUT: true; the input reads as it did. -/
def grooveMilderSpec : ChangeSpec := { name := "grooveMilder", fn := fun _ => fun
  | [d1, d2, d3, d4, d5] => { results := [.lit (.bool true)], args := [d1, d2, d3, d4, d5] }
  | _ => none }
def grooveMilderRow : OpenClaim := { program := "ytjjlgegccfolpaa", sum := "b790c092c4ce97ba1e354efe372aac2b2453d30580cfb15b4cc380b71f1638c1", func := "deadwax/deadwaxlaw03.GrooveMilder", spec := "grooveMilder", unfollowed := true, recurses := true, apart := false }
def GrooveMilderSaid : Prop := grooveMilderRow.holds Try.pinned (OpenSpec.ofChange grooveMilderSpec)

/-- ITS FALSE NEIGHBOUR: 'it returns false'. Refute it at one input. -/
def grooveMilderWrong : ChangeSpec := { name := "grooveMilder", fn := fun _ => fun
  | [d1, d2, d3, d4, d5] => { results := [.lit (.bool false)], args := [d1, d2, d3, d4, d5] }
  | _ => none }
def GrooveMilderWrongFalsely : Prop := grooveMilderRow.holds Try.pinned (OpenSpec.ofChange grooveMilderWrong)

/-- 'deadwaxlaw03.GrooveRadii': WHATEVER THE INPUT: true; the input reads as it did. -/
def grooveRadiiSpec : ChangeSpec := { name := "grooveRadii", fn := fun _ => fun
  | [d1, d2, d3, d4] => { results := [.lit (.bool true)], args := [d1, d2, d3, d4] }
  | _ => none }
def grooveRadiiRow : OpenClaim := { program := "ytjjlgegccfolpaa", sum := "b790c092c4ce97ba1e354efe372aac2b2453d30580cfb15b4cc380b71f1638c1", func := "deadwax/deadwaxlaw03.GrooveRadii", spec := "grooveRadii", unfollowed := true, recurses := true, apart := false }
def GrooveRadiiSaid : Prop := grooveRadiiRow.holds Try.pinned (OpenSpec.ofChange grooveRadiiSpec)

/-- ITS FALSE NEIGHBOUR: 'it returns false'. Refute it at one input. -/
def grooveRadiiWrong : ChangeSpec := { name := "grooveRadii", fn := fun _ => fun
  | [d1, d2, d3, d4] => { results := [.lit (.bool false)], args := [d1, d2, d3, d4] }
  | _ => none }
def GrooveRadiiWrongFalsely : Prop := grooveRadiiRow.holds Try.pinned (OpenSpec.ofChange grooveRadiiWrong)

/-- 'deadwaxlaw03.GrooveFaults': WHATEVER THE INPUT: true; the input reads as it did. -/
def grooveFaultsSpec : ChangeSpec := { name := "grooveFaults", fn := fun _ => fun
  | [d1, d2, d3, d4] => { results := [.lit (.bool true)], args := [d1, d2, d3, d4] }
  | _ => none }
def grooveFaultsRow : OpenClaim := { program := "ytjjlgegccfolpaa", sum := "b790c092c4ce97ba1e354efe372aac2b2453d30580cfb15b4cc380b71f1638c1", func := "deadwax/deadwaxlaw03.GrooveFaults", spec := "grooveFaults", unfollowed := true, recurses := true, apart := false }
def GrooveFaultsSaid : Prop := grooveFaultsRow.holds Try.pinned (OpenSpec.ofChange grooveFaultsSpec)

/-- ITS FALSE NEIGHBOUR: 'it returns false'. Refute it at one input. -/
def grooveFaultsWrong : ChangeSpec := { name := "grooveFaults", fn := fun _ => fun
  | [d1, d2, d3, d4] => { results := [.lit (.bool false)], args := [d1, d2, d3, d4] }
  | _ => none }
def GrooveFaultsWrongFalsely : Prop := grooveFaultsRow.holds Try.pinned (OpenSpec.ofChange grooveFaultsWrong)

/-- 'deadwaxlaw03.GrooveCuts': WHATEVER THE INPUT: true; the input reads as it did. -/
def grooveCutsSpec : ChangeSpec := { name := "grooveCuts", fn := fun _ => fun
  | [d1, d2, d3, d4, d5] => { results := [.lit (.bool true)], args := [d1, d2, d3, d4, d5] }
  | _ => none }
def grooveCutsRow : OpenClaim := { program := "ytjjlgegccfolpaa", sum := "b790c092c4ce97ba1e354efe372aac2b2453d30580cfb15b4cc380b71f1638c1", func := "deadwax/deadwaxlaw03.GrooveCuts", spec := "grooveCuts", unfollowed := true, recurses := true, apart := false }
def GrooveCutsSaid : Prop := grooveCutsRow.holds Try.pinned (OpenSpec.ofChange grooveCutsSpec)

/-- ITS FALSE NEIGHBOUR: 'it returns false'. Refute it at one input. -/
def grooveCutsWrong : ChangeSpec := { name := "grooveCuts", fn := fun _ => fun
  | [d1, d2, d3, d4, d5] => { results := [.lit (.bool false)], args := [d1, d2, d3, d4, d5] }
  | _ => none }
def GrooveCutsWrongFalsely : Prop := grooveCutsRow.holds Try.pinned (OpenSpec.ofChange grooveCutsWrong)

/-- 'deadwaxlaw03.GrooveBack': WHATEVER THE INPUT: true; the input reads as it did. -/
def grooveBackSpec : ChangeSpec := { name := "grooveBack", fn := fun _ => fun
  | [d1, d2, d3, d4] => { results := [.lit (.bool true)], args := [d1, d2, d3, d4] }
  | _ => none }
def grooveBackRow : OpenClaim := { program := "ytjjlgegccfolpaa", sum := "b790c092c4ce97ba1e354efe372aac2b2453d30580cfb15b4cc380b71f1638c1", func := "deadwax/deadwaxlaw03.GrooveBack", spec := "grooveBack", unfollowed := true, recurses := true, apart := false }
def GrooveBackSaid : Prop := grooveBackRow.holds Try.pinned (OpenSpec.ofChange grooveBackSpec)

/-- ITS FALSE NEIGHBOUR: 'it returns false'. Refute it at one input. -/
def grooveBackWrong : ChangeSpec := { name := "grooveBack", fn := fun _ => fun
  | [d1, d2, d3, d4] => { results := [.lit (.bool false)], args := [d1, d2, d3, d4] }
  | _ => none }
def GrooveBackWrongFalsely : Prop := grooveBackRow.holds Try.pinned (OpenSpec.ofChange grooveBackWrong)

/-- 'deadwaxlaw03.GrooveFits': WHATEVER THE INPUT: true; the input reads as it did. -/
def grooveFitsSpec : ChangeSpec := { name := "grooveFits", fn := fun _ => fun
  | [d1, d2, d3, d4] => { results := [.lit (.bool true)], args := [d1, d2, d3, d4] }
  | _ => none }
def grooveFitsRow : OpenClaim := { program := "ytjjlgegccfolpaa", sum := "b790c092c4ce97ba1e354efe372aac2b2453d30580cfb15b4cc380b71f1638c1", func := "deadwax/deadwaxlaw03.GrooveFits", spec := "grooveFits", unfollowed := true, recurses := true, apart := false }
def GrooveFitsSaid : Prop := grooveFitsRow.holds Try.pinned (OpenSpec.ofChange grooveFitsSpec)

/-- ITS FALSE NEIGHBOUR: 'it returns false'. Refute it at one input. -/
def grooveFitsWrong : ChangeSpec := { name := "grooveFits", fn := fun _ => fun
  | [d1, d2, d3, d4] => { results := [.lit (.bool false)], args := [d1, d2, d3, d4] }
  | _ => none }
def GrooveFitsWrongFalsely : Prop := grooveFitsRow.holds Try.pinned (OpenSpec.ofChange grooveFitsWrong)

/-- 'deadwaxlaw03.GrooveLoudest': WHATEVER THE INPUT: true; the input reads as it did. -/
def grooveLoudestSpec : ChangeSpec := { name := "grooveLoudest", fn := fun _ => fun
  | [d1, d2, d3, d4] => { results := [.lit (.bool true)], args := [d1, d2, d3, d4] }
  | _ => none }
def grooveLoudestRow : OpenClaim := { program := "ytjjlgegccfolpaa", sum := "b790c092c4ce97ba1e354efe372aac2b2453d30580cfb15b4cc380b71f1638c1", func := "deadwax/deadwaxlaw03.GrooveLoudest", spec := "grooveLoudest", unfollowed := true, recurses := true, apart := false }
def GrooveLoudestSaid : Prop := grooveLoudestRow.holds Try.pinned (OpenSpec.ofChange grooveLoudestSpec)

/-- ITS FALSE NEIGHBOUR: 'it returns false'. Refute it at one input. -/
def grooveLoudestWrong : ChangeSpec := { name := "grooveLoudest", fn := fun _ => fun
  | [d1, d2, d3, d4] => { results := [.lit (.bool false)], args := [d1, d2, d3, d4] }
  | _ => none }
def GrooveLoudestWrongFalsely : Prop := grooveLoudestRow.holds Try.pinned (OpenSpec.ofChange grooveLoudestWrong)

/-- 'deadwaxlaw03.GrooveLouder': WHATEVER THE INPUT: true; the input reads as it did. -/
def grooveLouderSpec : ChangeSpec := { name := "grooveLouder", fn := fun _ => fun
  | [d1, d2, d3, d4, d5] => { results := [.lit (.bool true)], args := [d1, d2, d3, d4, d5] }
  | _ => none }
def grooveLouderRow : OpenClaim := { program := "ytjjlgegccfolpaa", sum := "b790c092c4ce97ba1e354efe372aac2b2453d30580cfb15b4cc380b71f1638c1", func := "deadwax/deadwaxlaw03.GrooveLouder", spec := "grooveLouder", unfollowed := true, recurses := true, apart := false }
def GrooveLouderSaid : Prop := grooveLouderRow.holds Try.pinned (OpenSpec.ofChange grooveLouderSpec)

/-- ITS FALSE NEIGHBOUR: 'it returns false'. Refute it at one input. -/
def grooveLouderWrong : ChangeSpec := { name := "grooveLouder", fn := fun _ => fun
  | [d1, d2, d3, d4, d5] => { results := [.lit (.bool false)], args := [d1, d2, d3, d4, d5] }
  | _ => none }
def GrooveLouderWrongFalsely : Prop := grooveLouderRow.holds Try.pinned (OpenSpec.ofChange grooveLouderWrong)

/-- 'deadwaxlaw03.GrooveKnown': WHATEVER THE INPUT: true; the input reads as it did. -/
def grooveKnownSpec : ChangeSpec := { name := "grooveKnown", fn := fun _ => fun
  | [] => { results := [.lit (.bool true)], args := [] }
  | _ => none }
def grooveKnownRow : OpenClaim := { program := "ytjjlgegccfolpaa", sum := "b790c092c4ce97ba1e354efe372aac2b2453d30580cfb15b4cc380b71f1638c1", func := "deadwax/deadwaxlaw03.GrooveKnown", spec := "grooveKnown", unfollowed := true, recurses := true, apart := false }
def GrooveKnownSaid : Prop := grooveKnownRow.holds Try.pinned (OpenSpec.ofChange grooveKnownSpec)

/-- ITS FALSE NEIGHBOUR: 'it returns false'. Refute it at one input. -/
def grooveKnownWrong : ChangeSpec := { name := "grooveKnown", fn := fun _ => fun
  | [] => { results := [.lit (.bool false)], args := [] }
  | _ => none }
def GrooveKnownWrongFalsely : Prop := grooveKnownRow.holds Try.pinned (OpenSpec.ofChange grooveKnownWrong)

/- THE SECOND FORM. 'bulk': how many values and letters a reading holds, each counted each time it is reached (what is shared counts as often as it is met; a slice's spare places count too). A statement '..UptoSaid' is the law's where the arguments, and the package variables that the reading takes, are together of bulk at most 1048576: NARROWER than '..Said'. Prove '..Said' where nothing that the law and all that it calls make is longer than what came in: it says more and counts as full. Else prove '..UptoSaid'. A law counts once. -/
mutual
def uptoBulk {H : Type} : DataW H → Nat
  | .lit (.string bytes) => bytes.length + 1
  | .lit _ => 1
  | .nil => 1
  | .ptr d => uptoBulk d + 1
  | .slice elems spare => uptoBulkAll elems + uptoBulkAll spare + 1
  | .agg parts => uptoBulkAll parts + 1
  | .iface _ d => uptoBulk d + 1
  | .map entries => uptoBulkEntries entries + 1
  | .held _ => 1
def uptoBulkAll {H : Type} : List (DataW H) → Nat
  | [] => 0
  | d :: r => uptoBulk d + uptoBulkAll r
def uptoBulkEntries {H : Type} : List (Lit × DataW H) → Nat
  | [] => 0
  | x :: r => uptoBulkEntry x + uptoBulkEntries r
def uptoBulkEntry {H : Type} : Lit × DataW H → Nat
  | (.string bytes, d) => bytes.length + uptoBulk d + 1
  | (_, d) => uptoBulk d + 1
 end
def uptoSmall : (H : Type) → List (DataW H) → Bool := fun _ ds => decide (uptoBulkAll ds ≤ 1048576)
def OpenSpec.upto (s : _root_.Go.ChangeSpec) : _root_.Go.OpenSpec := { _root_.Go.OpenSpec.ofChange s with cond := some uptoSmall }

/-- 'deadwaxlaw03.GrooveWalls', WHERE WHAT IT READS IS OF BULK AT MOST 1048576: true; the input reads as it did. -/
def grooveWallsUptoRow : OpenClaim := { program := "ytjjlgegccfolpaa", sum := "b790c092c4ce97ba1e354efe372aac2b2453d30580cfb15b4cc380b71f1638c1", func := "deadwax/deadwaxlaw03.GrooveWalls", spec := "grooveWalls", unfollowed := true, recurses := true, apart := false, narrowed := true }
def GrooveWallsUptoSaid : Prop := grooveWallsUptoRow.holds Try.pinned (OpenSpec.upto grooveWallsSpec)

/-- 'deadwaxlaw03.GrooveTurned', WHERE WHAT IT READS IS OF BULK AT MOST 1048576: true; the input reads as it did. -/
def grooveTurnedUptoRow : OpenClaim := { program := "ytjjlgegccfolpaa", sum := "b790c092c4ce97ba1e354efe372aac2b2453d30580cfb15b4cc380b71f1638c1", func := "deadwax/deadwaxlaw03.GrooveTurned", spec := "grooveTurned", unfollowed := true, recurses := true, apart := false, narrowed := true }
def GrooveTurnedUptoSaid : Prop := grooveTurnedUptoRow.holds Try.pinned (OpenSpec.upto grooveTurnedSpec)

/-- 'deadwaxlaw03.GrooveParts', WHERE WHAT IT READS IS OF BULK AT MOST 1048576: true; the input reads as it did. -/
def groovePartsUptoRow : OpenClaim := { program := "ytjjlgegccfolpaa", sum := "b790c092c4ce97ba1e354efe372aac2b2453d30580cfb15b4cc380b71f1638c1", func := "deadwax/deadwaxlaw03.GrooveParts", spec := "grooveParts", unfollowed := true, recurses := true, apart := false, narrowed := true }
def GroovePartsUptoSaid : Prop := groovePartsUptoRow.holds Try.pinned (OpenSpec.upto groovePartsSpec)

/-- 'deadwaxlaw03.GrooveMilder', WHERE WHAT IT READS IS OF BULK AT MOST 1048576: true; the input reads as it did. -/
def grooveMilderUptoRow : OpenClaim := { program := "ytjjlgegccfolpaa", sum := "b790c092c4ce97ba1e354efe372aac2b2453d30580cfb15b4cc380b71f1638c1", func := "deadwax/deadwaxlaw03.GrooveMilder", spec := "grooveMilder", unfollowed := true, recurses := true, apart := false, narrowed := true }
def GrooveMilderUptoSaid : Prop := grooveMilderUptoRow.holds Try.pinned (OpenSpec.upto grooveMilderSpec)

/-- 'deadwaxlaw03.GrooveRadii', WHERE WHAT IT READS IS OF BULK AT MOST 1048576: true; the input reads as it did. -/
def grooveRadiiUptoRow : OpenClaim := { program := "ytjjlgegccfolpaa", sum := "b790c092c4ce97ba1e354efe372aac2b2453d30580cfb15b4cc380b71f1638c1", func := "deadwax/deadwaxlaw03.GrooveRadii", spec := "grooveRadii", unfollowed := true, recurses := true, apart := false, narrowed := true }
def GrooveRadiiUptoSaid : Prop := grooveRadiiUptoRow.holds Try.pinned (OpenSpec.upto grooveRadiiSpec)

/-- 'deadwaxlaw03.GrooveFaults', WHERE WHAT IT READS IS OF BULK AT MOST 1048576: true; the input reads as it did. -/
def grooveFaultsUptoRow : OpenClaim := { program := "ytjjlgegccfolpaa", sum := "b790c092c4ce97ba1e354efe372aac2b2453d30580cfb15b4cc380b71f1638c1", func := "deadwax/deadwaxlaw03.GrooveFaults", spec := "grooveFaults", unfollowed := true, recurses := true, apart := false, narrowed := true }
def GrooveFaultsUptoSaid : Prop := grooveFaultsUptoRow.holds Try.pinned (OpenSpec.upto grooveFaultsSpec)

/-- 'deadwaxlaw03.GrooveCuts', WHERE WHAT IT READS IS OF BULK AT MOST 1048576: true; the input reads as it did. -/
def grooveCutsUptoRow : OpenClaim := { program := "ytjjlgegccfolpaa", sum := "b790c092c4ce97ba1e354efe372aac2b2453d30580cfb15b4cc380b71f1638c1", func := "deadwax/deadwaxlaw03.GrooveCuts", spec := "grooveCuts", unfollowed := true, recurses := true, apart := false, narrowed := true }
def GrooveCutsUptoSaid : Prop := grooveCutsUptoRow.holds Try.pinned (OpenSpec.upto grooveCutsSpec)

/-- 'deadwaxlaw03.GrooveBack', WHERE WHAT IT READS IS OF BULK AT MOST 1048576: true; the input reads as it did. -/
def grooveBackUptoRow : OpenClaim := { program := "ytjjlgegccfolpaa", sum := "b790c092c4ce97ba1e354efe372aac2b2453d30580cfb15b4cc380b71f1638c1", func := "deadwax/deadwaxlaw03.GrooveBack", spec := "grooveBack", unfollowed := true, recurses := true, apart := false, narrowed := true }
def GrooveBackUptoSaid : Prop := grooveBackUptoRow.holds Try.pinned (OpenSpec.upto grooveBackSpec)

/-- 'deadwaxlaw03.GrooveFits', WHERE WHAT IT READS IS OF BULK AT MOST 1048576: true; the input reads as it did. -/
def grooveFitsUptoRow : OpenClaim := { program := "ytjjlgegccfolpaa", sum := "b790c092c4ce97ba1e354efe372aac2b2453d30580cfb15b4cc380b71f1638c1", func := "deadwax/deadwaxlaw03.GrooveFits", spec := "grooveFits", unfollowed := true, recurses := true, apart := false, narrowed := true }
def GrooveFitsUptoSaid : Prop := grooveFitsUptoRow.holds Try.pinned (OpenSpec.upto grooveFitsSpec)

/-- 'deadwaxlaw03.GrooveLoudest', WHERE WHAT IT READS IS OF BULK AT MOST 1048576: true; the input reads as it did. -/
def grooveLoudestUptoRow : OpenClaim := { program := "ytjjlgegccfolpaa", sum := "b790c092c4ce97ba1e354efe372aac2b2453d30580cfb15b4cc380b71f1638c1", func := "deadwax/deadwaxlaw03.GrooveLoudest", spec := "grooveLoudest", unfollowed := true, recurses := true, apart := false, narrowed := true }
def GrooveLoudestUptoSaid : Prop := grooveLoudestUptoRow.holds Try.pinned (OpenSpec.upto grooveLoudestSpec)

/-- 'deadwaxlaw03.GrooveLouder', WHERE WHAT IT READS IS OF BULK AT MOST 1048576: true; the input reads as it did. -/
def grooveLouderUptoRow : OpenClaim := { program := "ytjjlgegccfolpaa", sum := "b790c092c4ce97ba1e354efe372aac2b2453d30580cfb15b4cc380b71f1638c1", func := "deadwax/deadwaxlaw03.GrooveLouder", spec := "grooveLouder", unfollowed := true, recurses := true, apart := false, narrowed := true }
def GrooveLouderUptoSaid : Prop := grooveLouderUptoRow.holds Try.pinned (OpenSpec.upto grooveLouderSpec)

/-- 'deadwaxlaw03.GrooveKnown', WHERE WHAT IT READS IS OF BULK AT MOST 1048576: true; the input reads as it did. -/
def grooveKnownUptoRow : OpenClaim := { program := "ytjjlgegccfolpaa", sum := "b790c092c4ce97ba1e354efe372aac2b2453d30580cfb15b4cc380b71f1638c1", func := "deadwax/deadwaxlaw03.GrooveKnown", spec := "grooveKnown", unfollowed := true, recurses := true, apart := false, narrowed := true }
def GrooveKnownUptoSaid : Prop := grooveKnownUptoRow.holds Try.pinned (OpenSpec.upto grooveKnownSpec)

end Rows
end Go.Proofs.Ytjjlgegccfolpaa
