/-
  NARROWER THAN 'FOR EVERY INPUT', by the rows' own cells (each row's printed sentence says how): SleevePages: laid · SleeveRuns: laid · SleeveEach: laid · SleeveMirror: laid · SleeveEnough: laid · SleeveFlat: laid · SleeveLayers: laid · SleeveNets: laid · SleeveGangs: laid · SleeveCheapest: laid · SleeveKnown: laid.
  DERIVED. THE GIVEN ROWS OF THIS SEAT. 11 by the template 'for every input the law returns true; each argument reads behind the call as it read before'; 0 by the template 'total and deterministic' (their statements: YtfckkkmacjjmhaaDoorTotals.lean).
  GIVEN WITH THE SEED: the statements are not yours to turn. If you find one false, say at which input.
  Laid BY PROGRAM, IN A SANDBOX (cutbox-rows.mjs): the forced cells as the released guide's own fill.sh prints them over the translation e6110771c78d9b0c… (all of the seat's roots in one cut). By AI agents, Wed Nov 11 2026. No macro, syntax, notation, axiom, sorry.
-/
import Derived.Test.YtfckkkmacjjmhaaDoorChecked
import GoSem.Claim
import GoSem.ClaimJoined
import GoSem.ClaimMapViews
import Derived.JoinedTies
import Derived.KernelRfl
namespace Go.Proofs.YtfckkkmacjjmhaaDoor
/- THE CELL 'sum', in the pinned program and in every row, IS THE sha256 OF THE DUMP (.gsa) THAT YtfckkkmacjjmhaaDoorProg.lean LOADS. Nothing in Lean hashes anything: it is a label: what it is worth is what the hold of that sum in a sandbox is worth. -/
noncomputable def Tryd.pinned : Pinned := { name := "ytfckkkmacjjmhaadoor", sum := "e6110771c78d9b0cc2d6e3079a346600419326675cd846c6dceec23ebedeb12a", checked := Tryd.checked }
namespace Rows
def none {H : Type} : Left H := { results := [], args := [] }

/- WHAT THE LISTED PACKAGE-LEVEL VARIABLES READ AS WHEN THE CALL BEGINS. Each datum BY PROGRAM (the guide's laid-datum.mjs) off the statement by which the dump's own 'gosem.cut.vars' lays the variable. In a bare row this is a premise. The card (YtfckkkmacjjmhaaDoorCards.lean) ties it to the program's text. -/
def laid_deadwax_sleeve_grows {H : Type} : DataW H := .agg [.agg [.lit (.int .i64 0), .lit (.int .i64 0)], .agg [.lit (.int .i64 1), .lit (.int .i64 2)], .agg [.lit (.int .i64 2), .lit (.int .i64 1)]]

/-- 'deadwaxlaw10.SleevePages': WHATEVER THE INPUT: true; the input reads as it did. -/
def sleevePagesSpec : ChangeSpec := { name := "sleevePages", fn := fun _ => fun
  | [d1, d2, d3, d4] => { results := [.lit (.bool true)], args := [d1, d2, d3, d4] }
  | _ => none }
def sleevePagesRow : OpenClaim := { program := "ytfckkkmacjjmhaadoor", sum := "e6110771c78d9b0cc2d6e3079a346600419326675cd846c6dceec23ebedeb12a", func := "deadwax/deadwaxlaw10.SleevePages", spec := "sleevePages", unfollowed := true, recurses := true, named := ["deadwax/sleeve.grows"], apart := false, laid := [("deadwax/sleeve.grows", laid_deadwax_sleeve_grows)] }
def SleevePagesSaid : Prop := sleevePagesRow.holds Tryd.pinned (OpenSpec.ofChange sleevePagesSpec)

/-- ITS FALSE NEIGHBOUR: 'it returns false'. Refute it at one input. -/
def sleevePagesWrong : ChangeSpec := { name := "sleevePages", fn := fun _ => fun
  | [d1, d2, d3, d4] => { results := [.lit (.bool false)], args := [d1, d2, d3, d4] }
  | _ => none }
def SleevePagesWrongFalsely : Prop := sleevePagesRow.holds Tryd.pinned (OpenSpec.ofChange sleevePagesWrong)

/-- 'deadwaxlaw10.SleeveRuns': WHATEVER THE INPUT: true; the input reads as it did. -/
def sleeveRunsSpec : ChangeSpec := { name := "sleeveRuns", fn := fun _ => fun
  | [d1, d2, d3] => { results := [.lit (.bool true)], args := [d1, d2, d3] }
  | _ => none }
def sleeveRunsRow : OpenClaim := { program := "ytfckkkmacjjmhaadoor", sum := "e6110771c78d9b0cc2d6e3079a346600419326675cd846c6dceec23ebedeb12a", func := "deadwax/deadwaxlaw10.SleeveRuns", spec := "sleeveRuns", unfollowed := true, recurses := true, named := ["deadwax/sleeve.grows"], apart := false, laid := [("deadwax/sleeve.grows", laid_deadwax_sleeve_grows)] }
def SleeveRunsSaid : Prop := sleeveRunsRow.holds Tryd.pinned (OpenSpec.ofChange sleeveRunsSpec)

/-- ITS FALSE NEIGHBOUR: 'it returns false'. Refute it at one input. -/
def sleeveRunsWrong : ChangeSpec := { name := "sleeveRuns", fn := fun _ => fun
  | [d1, d2, d3] => { results := [.lit (.bool false)], args := [d1, d2, d3] }
  | _ => none }
def SleeveRunsWrongFalsely : Prop := sleeveRunsRow.holds Tryd.pinned (OpenSpec.ofChange sleeveRunsWrong)

/-- 'deadwaxlaw10.SleeveEach': WHATEVER THE INPUT: true; the input reads as it did. -/
def sleeveEachSpec : ChangeSpec := { name := "sleeveEach", fn := fun _ => fun
  | [d] => { results := [.lit (.bool true)], args := [d] }
  | _ => none }
def sleeveEachRow : OpenClaim := { program := "ytfckkkmacjjmhaadoor", sum := "e6110771c78d9b0cc2d6e3079a346600419326675cd846c6dceec23ebedeb12a", func := "deadwax/deadwaxlaw10.SleeveEach", spec := "sleeveEach", unfollowed := true, recurses := true, named := ["deadwax/sleeve.grows"], apart := false, laid := [("deadwax/sleeve.grows", laid_deadwax_sleeve_grows)] }
def SleeveEachSaid : Prop := sleeveEachRow.holds Tryd.pinned (OpenSpec.ofChange sleeveEachSpec)

/-- ITS FALSE NEIGHBOUR: 'it returns false'. Refute it at one input. -/
def sleeveEachWrong : ChangeSpec := { name := "sleeveEach", fn := fun _ => fun
  | [d] => { results := [.lit (.bool false)], args := [d] }
  | _ => none }
def SleeveEachWrongFalsely : Prop := sleeveEachRow.holds Tryd.pinned (OpenSpec.ofChange sleeveEachWrong)

/-- 'deadwaxlaw10.SleeveMirror': WHATEVER THE INPUT: true; the input reads as it did. -/
def sleeveMirrorSpec : ChangeSpec := { name := "sleeveMirror", fn := fun _ => fun
  | [d1, d2] => { results := [.lit (.bool true)], args := [d1, d2] }
  | _ => none }
def sleeveMirrorRow : OpenClaim := { program := "ytfckkkmacjjmhaadoor", sum := "e6110771c78d9b0cc2d6e3079a346600419326675cd846c6dceec23ebedeb12a", func := "deadwax/deadwaxlaw10.SleeveMirror", spec := "sleeveMirror", unfollowed := true, recurses := true, named := ["deadwax/sleeve.grows"], apart := false, laid := [("deadwax/sleeve.grows", laid_deadwax_sleeve_grows)] }
def SleeveMirrorSaid : Prop := sleeveMirrorRow.holds Tryd.pinned (OpenSpec.ofChange sleeveMirrorSpec)

/-- ITS FALSE NEIGHBOUR: 'it returns false'. Refute it at one input. -/
def sleeveMirrorWrong : ChangeSpec := { name := "sleeveMirror", fn := fun _ => fun
  | [d1, d2] => { results := [.lit (.bool false)], args := [d1, d2] }
  | _ => none }
def SleeveMirrorWrongFalsely : Prop := sleeveMirrorRow.holds Tryd.pinned (OpenSpec.ofChange sleeveMirrorWrong)

/-- 'deadwaxlaw10.SleeveEnough': WHATEVER THE INPUT: true; the input reads as it did. -/
def sleeveEnoughSpec : ChangeSpec := { name := "sleeveEnough", fn := fun _ => fun
  | [d1, d2, d3, d4, d5] => { results := [.lit (.bool true)], args := [d1, d2, d3, d4, d5] }
  | _ => none }
def sleeveEnoughRow : OpenClaim := { program := "ytfckkkmacjjmhaadoor", sum := "e6110771c78d9b0cc2d6e3079a346600419326675cd846c6dceec23ebedeb12a", func := "deadwax/deadwaxlaw10.SleeveEnough", spec := "sleeveEnough", unfollowed := true, recurses := true, named := ["deadwax/sleeve.grows"], apart := false, laid := [("deadwax/sleeve.grows", laid_deadwax_sleeve_grows)] }
def SleeveEnoughSaid : Prop := sleeveEnoughRow.holds Tryd.pinned (OpenSpec.ofChange sleeveEnoughSpec)

/-- ITS FALSE NEIGHBOUR: 'it returns false'. Refute it at one input. -/
def sleeveEnoughWrong : ChangeSpec := { name := "sleeveEnough", fn := fun _ => fun
  | [d1, d2, d3, d4, d5] => { results := [.lit (.bool false)], args := [d1, d2, d3, d4, d5] }
  | _ => none }
def SleeveEnoughWrongFalsely : Prop := sleeveEnoughRow.holds Tryd.pinned (OpenSpec.ofChange sleeveEnoughWrong)

/-- 'deadwaxlaw10.SleeveFlat': WHATEVER THE INPUT: true; the input reads as it did. -/
def sleeveFlatSpec : ChangeSpec := { name := "sleeveFlat", fn := fun _ => fun
  | [d] => { results := [.lit (.bool true)], args := [d] }
  | _ => none }
def sleeveFlatRow : OpenClaim := { program := "ytfckkkmacjjmhaadoor", sum := "e6110771c78d9b0cc2d6e3079a346600419326675cd846c6dceec23ebedeb12a", func := "deadwax/deadwaxlaw10.SleeveFlat", spec := "sleeveFlat", unfollowed := true, recurses := true, named := ["deadwax/sleeve.grows"], apart := false, laid := [("deadwax/sleeve.grows", laid_deadwax_sleeve_grows)] }
def SleeveFlatSaid : Prop := sleeveFlatRow.holds Tryd.pinned (OpenSpec.ofChange sleeveFlatSpec)

/-- ITS FALSE NEIGHBOUR: 'it returns false'. Refute it at one input. -/
def sleeveFlatWrong : ChangeSpec := { name := "sleeveFlat", fn := fun _ => fun
  | [d] => { results := [.lit (.bool false)], args := [d] }
  | _ => none }
def SleeveFlatWrongFalsely : Prop := sleeveFlatRow.holds Tryd.pinned (OpenSpec.ofChange sleeveFlatWrong)

/-- 'deadwaxlaw10.SleeveLayers': WHATEVER THE INPUT: true; the input reads as it did. -/
def sleeveLayersSpec : ChangeSpec := { name := "sleeveLayers", fn := fun _ => fun
  | [d1, d2, d3] => { results := [.lit (.bool true)], args := [d1, d2, d3] }
  | _ => none }
def sleeveLayersRow : OpenClaim := { program := "ytfckkkmacjjmhaadoor", sum := "e6110771c78d9b0cc2d6e3079a346600419326675cd846c6dceec23ebedeb12a", func := "deadwax/deadwaxlaw10.SleeveLayers", spec := "sleeveLayers", unfollowed := true, recurses := true, named := ["deadwax/sleeve.grows"], apart := false, laid := [("deadwax/sleeve.grows", laid_deadwax_sleeve_grows)] }
def SleeveLayersSaid : Prop := sleeveLayersRow.holds Tryd.pinned (OpenSpec.ofChange sleeveLayersSpec)

/-- ITS FALSE NEIGHBOUR: 'it returns false'. Refute it at one input. -/
def sleeveLayersWrong : ChangeSpec := { name := "sleeveLayers", fn := fun _ => fun
  | [d1, d2, d3] => { results := [.lit (.bool false)], args := [d1, d2, d3] }
  | _ => none }
def SleeveLayersWrongFalsely : Prop := sleeveLayersRow.holds Tryd.pinned (OpenSpec.ofChange sleeveLayersWrong)

/-- 'deadwaxlaw10.SleeveNets': WHATEVER THE INPUT: true; the input reads as it did. -/
def sleeveNetsSpec : ChangeSpec := { name := "sleeveNets", fn := fun _ => fun
  | [d1, d2, d3, d4, d5] => { results := [.lit (.bool true)], args := [d1, d2, d3, d4, d5] }
  | _ => none }
def sleeveNetsRow : OpenClaim := { program := "ytfckkkmacjjmhaadoor", sum := "e6110771c78d9b0cc2d6e3079a346600419326675cd846c6dceec23ebedeb12a", func := "deadwax/deadwaxlaw10.SleeveNets", spec := "sleeveNets", unfollowed := true, recurses := true, named := ["deadwax/sleeve.grows"], apart := false, laid := [("deadwax/sleeve.grows", laid_deadwax_sleeve_grows)] }
def SleeveNetsSaid : Prop := sleeveNetsRow.holds Tryd.pinned (OpenSpec.ofChange sleeveNetsSpec)

/-- ITS FALSE NEIGHBOUR: 'it returns false'. Refute it at one input. -/
def sleeveNetsWrong : ChangeSpec := { name := "sleeveNets", fn := fun _ => fun
  | [d1, d2, d3, d4, d5] => { results := [.lit (.bool false)], args := [d1, d2, d3, d4, d5] }
  | _ => none }
def SleeveNetsWrongFalsely : Prop := sleeveNetsRow.holds Tryd.pinned (OpenSpec.ofChange sleeveNetsWrong)

/-- 'deadwaxlaw10.SleeveGangs': WHATEVER THE INPUT: true; the input reads as it did. -/
def sleeveGangsSpec : ChangeSpec := { name := "sleeveGangs", fn := fun _ => fun
  | [d1, d2, d3, d4] => { results := [.lit (.bool true)], args := [d1, d2, d3, d4] }
  | _ => none }
def sleeveGangsRow : OpenClaim := { program := "ytfckkkmacjjmhaadoor", sum := "e6110771c78d9b0cc2d6e3079a346600419326675cd846c6dceec23ebedeb12a", func := "deadwax/deadwaxlaw10.SleeveGangs", spec := "sleeveGangs", unfollowed := true, recurses := true, named := ["deadwax/sleeve.grows"], apart := false, laid := [("deadwax/sleeve.grows", laid_deadwax_sleeve_grows)] }
def SleeveGangsSaid : Prop := sleeveGangsRow.holds Tryd.pinned (OpenSpec.ofChange sleeveGangsSpec)

/-- ITS FALSE NEIGHBOUR: 'it returns false'. Refute it at one input. -/
def sleeveGangsWrong : ChangeSpec := { name := "sleeveGangs", fn := fun _ => fun
  | [d1, d2, d3, d4] => { results := [.lit (.bool false)], args := [d1, d2, d3, d4] }
  | _ => none }
def SleeveGangsWrongFalsely : Prop := sleeveGangsRow.holds Tryd.pinned (OpenSpec.ofChange sleeveGangsWrong)

/-- 'deadwaxlaw10.SleeveCheapest': WHATEVER THE INPUT: true; the input reads as it did. -/
def sleeveCheapestSpec : ChangeSpec := { name := "sleeveCheapest", fn := fun _ => fun
  | [d1, d2, d3, d4, d5, d6] => { results := [.lit (.bool true)], args := [d1, d2, d3, d4, d5, d6] }
  | _ => none }
def sleeveCheapestRow : OpenClaim := { program := "ytfckkkmacjjmhaadoor", sum := "e6110771c78d9b0cc2d6e3079a346600419326675cd846c6dceec23ebedeb12a", func := "deadwax/deadwaxlaw10.SleeveCheapest", spec := "sleeveCheapest", unfollowed := true, recurses := true, named := ["deadwax/sleeve.grows"], apart := false, laid := [("deadwax/sleeve.grows", laid_deadwax_sleeve_grows)] }
def SleeveCheapestSaid : Prop := sleeveCheapestRow.holds Tryd.pinned (OpenSpec.ofChange sleeveCheapestSpec)

/-- ITS FALSE NEIGHBOUR: 'it returns false'. Refute it at one input. -/
def sleeveCheapestWrong : ChangeSpec := { name := "sleeveCheapest", fn := fun _ => fun
  | [d1, d2, d3, d4, d5, d6] => { results := [.lit (.bool false)], args := [d1, d2, d3, d4, d5, d6] }
  | _ => none }
def SleeveCheapestWrongFalsely : Prop := sleeveCheapestRow.holds Tryd.pinned (OpenSpec.ofChange sleeveCheapestWrong)

/-- 'deadwaxlaw10.SleeveKnown': WHATEVER THE INPUT: true; the input reads as it did. -/
def sleeveKnownSpec : ChangeSpec := { name := "sleeveKnown", fn := fun _ => fun
  | [] => { results := [.lit (.bool true)], args := [] }
  | _ => none }
def sleeveKnownRow : OpenClaim := { program := "ytfckkkmacjjmhaadoor", sum := "e6110771c78d9b0cc2d6e3079a346600419326675cd846c6dceec23ebedeb12a", func := "deadwax/deadwaxlaw10.SleeveKnown", spec := "sleeveKnown", unfollowed := true, recurses := true, named := ["deadwax/sleeve.grows"], apart := false, laid := [("deadwax/sleeve.grows", laid_deadwax_sleeve_grows)] }
def SleeveKnownSaid : Prop := sleeveKnownRow.holds Tryd.pinned (OpenSpec.ofChange sleeveKnownSpec)

/-- ITS FALSE NEIGHBOUR: 'it returns false'. Refute it at one input. -/
def sleeveKnownWrong : ChangeSpec := { name := "sleeveKnown", fn := fun _ => fun
  | [] => { results := [.lit (.bool false)], args := [] }
  | _ => none }
def SleeveKnownWrongFalsely : Prop := sleeveKnownRow.holds Tryd.pinned (OpenSpec.ofChange sleeveKnownWrong)

/- THE SECOND FORM. 'bulk': how many values and letters a reading holds, each counted each time it is reached (what is shared counts as often as it is met; a slice's spare places count too). A statement '..UptoSaid' is the law's where the arguments, and the package variables that the reading takes, are together of bulk at most 1048576: NARROWER than '..Said'. Prove '..Said' where nothing that the law and all that it calls make is longer than what came in: it says more and counts as full. Else prove '..UptoSaid'. A law counts once. -/
mutual
def uptoBulk {H : Type} : DataW H → Nat
  | .lit (.string bytes) => bytes.length + 1
  | .lit _ => 1
  | .nil => 1
  | .ptr d => uptoBulk d + 1
  | .slice elems spare => uptoBulkAll elems + uptoBulkAll spare + 1
  | .agg parts => uptoBulkAll parts + 1
  | .iface _ d => uptoBulk d + 1
  | .map entries => uptoBulkEntries entries + 1
  | .held _ => 1
def uptoBulkAll {H : Type} : List (DataW H) → Nat
  | [] => 0
  | d :: r => uptoBulk d + uptoBulkAll r
def uptoBulkEntries {H : Type} : List (Lit × DataW H) → Nat
  | [] => 0
  | x :: r => uptoBulkEntry x + uptoBulkEntries r
def uptoBulkEntry {H : Type} : Lit × DataW H → Nat
  | (.string bytes, d) => bytes.length + uptoBulk d + 1
  | (_, d) => uptoBulk d + 1
 end
def uptoSmall : (H : Type) → List (DataW H) → Bool := fun _ ds => decide (uptoBulkAll ds ≤ 1048576)
def OpenSpec.upto (s : _root_.Go.ChangeSpec) : _root_.Go.OpenSpec := { _root_.Go.OpenSpec.ofChange s with cond := some uptoSmall }

/-- 'deadwaxlaw10.SleevePages', WHERE WHAT IT READS IS OF BULK AT MOST 1048576: true; the input reads as it did. -/
def sleevePagesUptoRow : OpenClaim := { program := "ytfckkkmacjjmhaadoor", sum := "e6110771c78d9b0cc2d6e3079a346600419326675cd846c6dceec23ebedeb12a", func := "deadwax/deadwaxlaw10.SleevePages", spec := "sleevePages", unfollowed := true, recurses := true, named := ["deadwax/sleeve.grows"], apart := false, laid := [("deadwax/sleeve.grows", laid_deadwax_sleeve_grows)], narrowed := true }
def SleevePagesUptoSaid : Prop := sleevePagesUptoRow.holds Tryd.pinned (OpenSpec.upto sleevePagesSpec)

/-- 'deadwaxlaw10.SleeveRuns', WHERE WHAT IT READS IS OF BULK AT MOST 1048576: true; the input reads as it did. -/
def sleeveRunsUptoRow : OpenClaim := { program := "ytfckkkmacjjmhaadoor", sum := "e6110771c78d9b0cc2d6e3079a346600419326675cd846c6dceec23ebedeb12a", func := "deadwax/deadwaxlaw10.SleeveRuns", spec := "sleeveRuns", unfollowed := true, recurses := true, named := ["deadwax/sleeve.grows"], apart := false, laid := [("deadwax/sleeve.grows", laid_deadwax_sleeve_grows)], narrowed := true }
def SleeveRunsUptoSaid : Prop := sleeveRunsUptoRow.holds Tryd.pinned (OpenSpec.upto sleeveRunsSpec)

/-- 'deadwaxlaw10.SleeveEach', WHERE WHAT IT READS IS OF BULK AT MOST 1048576: true; the input reads as it did. -/
def sleeveEachUptoRow : OpenClaim := { program := "ytfckkkmacjjmhaadoor", sum := "e6110771c78d9b0cc2d6e3079a346600419326675cd846c6dceec23ebedeb12a", func := "deadwax/deadwaxlaw10.SleeveEach", spec := "sleeveEach", unfollowed := true, recurses := true, named := ["deadwax/sleeve.grows"], apart := false, laid := [("deadwax/sleeve.grows", laid_deadwax_sleeve_grows)], narrowed := true }
def SleeveEachUptoSaid : Prop := sleeveEachUptoRow.holds Tryd.pinned (OpenSpec.upto sleeveEachSpec)

/-- 'deadwaxlaw10.SleeveMirror', WHERE WHAT IT READS IS OF BULK AT MOST 1048576: true; the input reads as it did. -/
def sleeveMirrorUptoRow : OpenClaim := { program := "ytfckkkmacjjmhaadoor", sum := "e6110771c78d9b0cc2d6e3079a346600419326675cd846c6dceec23ebedeb12a", func := "deadwax/deadwaxlaw10.SleeveMirror", spec := "sleeveMirror", unfollowed := true, recurses := true, named := ["deadwax/sleeve.grows"], apart := false, laid := [("deadwax/sleeve.grows", laid_deadwax_sleeve_grows)], narrowed := true }
def SleeveMirrorUptoSaid : Prop := sleeveMirrorUptoRow.holds Tryd.pinned (OpenSpec.upto sleeveMirrorSpec)

/-- 'deadwaxlaw10.SleeveEnough', WHERE WHAT IT READS IS OF BULK AT MOST 1048576: true; the input reads as it did. -/
def sleeveEnoughUptoRow : OpenClaim := { program := "ytfckkkmacjjmhaadoor", sum := "e6110771c78d9b0cc2d6e3079a346600419326675cd846c6dceec23ebedeb12a", func := "deadwax/deadwaxlaw10.SleeveEnough", spec := "sleeveEnough", unfollowed := true, recurses := true, named := ["deadwax/sleeve.grows"], apart := false, laid := [("deadwax/sleeve.grows", laid_deadwax_sleeve_grows)], narrowed := true }
def SleeveEnoughUptoSaid : Prop := sleeveEnoughUptoRow.holds Tryd.pinned (OpenSpec.upto sleeveEnoughSpec)

/-- 'deadwaxlaw10.SleeveFlat', WHERE WHAT IT READS IS OF BULK AT MOST 1048576: true; the input reads as it did. -/
def sleeveFlatUptoRow : OpenClaim := { program := "ytfckkkmacjjmhaadoor", sum := "e6110771c78d9b0cc2d6e3079a346600419326675cd846c6dceec23ebedeb12a", func := "deadwax/deadwaxlaw10.SleeveFlat", spec := "sleeveFlat", unfollowed := true, recurses := true, named := ["deadwax/sleeve.grows"], apart := false, laid := [("deadwax/sleeve.grows", laid_deadwax_sleeve_grows)], narrowed := true }
def SleeveFlatUptoSaid : Prop := sleeveFlatUptoRow.holds Tryd.pinned (OpenSpec.upto sleeveFlatSpec)

/-- 'deadwaxlaw10.SleeveLayers', WHERE WHAT IT READS IS OF BULK AT MOST 1048576: true; the input reads as it did. -/
def sleeveLayersUptoRow : OpenClaim := { program := "ytfckkkmacjjmhaadoor", sum := "e6110771c78d9b0cc2d6e3079a346600419326675cd846c6dceec23ebedeb12a", func := "deadwax/deadwaxlaw10.SleeveLayers", spec := "sleeveLayers", unfollowed := true, recurses := true, named := ["deadwax/sleeve.grows"], apart := false, laid := [("deadwax/sleeve.grows", laid_deadwax_sleeve_grows)], narrowed := true }
def SleeveLayersUptoSaid : Prop := sleeveLayersUptoRow.holds Tryd.pinned (OpenSpec.upto sleeveLayersSpec)

/-- 'deadwaxlaw10.SleeveNets', WHERE WHAT IT READS IS OF BULK AT MOST 1048576: true; the input reads as it did. -/
def sleeveNetsUptoRow : OpenClaim := { program := "ytfckkkmacjjmhaadoor", sum := "e6110771c78d9b0cc2d6e3079a346600419326675cd846c6dceec23ebedeb12a", func := "deadwax/deadwaxlaw10.SleeveNets", spec := "sleeveNets", unfollowed := true, recurses := true, named := ["deadwax/sleeve.grows"], apart := false, laid := [("deadwax/sleeve.grows", laid_deadwax_sleeve_grows)], narrowed := true }
def SleeveNetsUptoSaid : Prop := sleeveNetsUptoRow.holds Tryd.pinned (OpenSpec.upto sleeveNetsSpec)

/-- 'deadwaxlaw10.SleeveGangs', WHERE WHAT IT READS IS OF BULK AT MOST 1048576: true; the input reads as it did. -/
def sleeveGangsUptoRow : OpenClaim := { program := "ytfckkkmacjjmhaadoor", sum := "e6110771c78d9b0cc2d6e3079a346600419326675cd846c6dceec23ebedeb12a", func := "deadwax/deadwaxlaw10.SleeveGangs", spec := "sleeveGangs", unfollowed := true, recurses := true, named := ["deadwax/sleeve.grows"], apart := false, laid := [("deadwax/sleeve.grows", laid_deadwax_sleeve_grows)], narrowed := true }
def SleeveGangsUptoSaid : Prop := sleeveGangsUptoRow.holds Tryd.pinned (OpenSpec.upto sleeveGangsSpec)

/-- 'deadwaxlaw10.SleeveCheapest', WHERE WHAT IT READS IS OF BULK AT MOST 1048576: true; the input reads as it did. -/
def sleeveCheapestUptoRow : OpenClaim := { program := "ytfckkkmacjjmhaadoor", sum := "e6110771c78d9b0cc2d6e3079a346600419326675cd846c6dceec23ebedeb12a", func := "deadwax/deadwaxlaw10.SleeveCheapest", spec := "sleeveCheapest", unfollowed := true, recurses := true, named := ["deadwax/sleeve.grows"], apart := false, laid := [("deadwax/sleeve.grows", laid_deadwax_sleeve_grows)], narrowed := true }
def SleeveCheapestUptoSaid : Prop := sleeveCheapestUptoRow.holds Tryd.pinned (OpenSpec.upto sleeveCheapestSpec)

/-- 'deadwaxlaw10.SleeveKnown', WHERE WHAT IT READS IS OF BULK AT MOST 1048576: true; the input reads as it did. -/
def sleeveKnownUptoRow : OpenClaim := { program := "ytfckkkmacjjmhaadoor", sum := "e6110771c78d9b0cc2d6e3079a346600419326675cd846c6dceec23ebedeb12a", func := "deadwax/deadwaxlaw10.SleeveKnown", spec := "sleeveKnown", unfollowed := true, recurses := true, named := ["deadwax/sleeve.grows"], apart := false, laid := [("deadwax/sleeve.grows", laid_deadwax_sleeve_grows)], narrowed := true }
def SleeveKnownUptoSaid : Prop := sleeveKnownUptoRow.holds Tryd.pinned (OpenSpec.upto sleeveKnownSpec)

end Rows
end Go.Proofs.YtfckkkmacjjmhaaDoor
