/-
  The listed variables of the top: they are never read; the start that meets the condition.
-/
import Derived.Test.YtjmbpjlojjgggaaGreatDoorMC
import Derived.Test.YtjmbpjlojjgggaaGreatDoorTie
import Derived.Test.YtjmbpjlojjgggaaGreatDoorCards
import Derived.ProofKit
import Derived.LaidMore
import Derived.Lay
import Derived.OpenShut
import Derived.Stop.Joined
import Derived.SevenTiedAt
namespace Go.Proofs.YtjmbpjlojjgggaaGreatDoor
open Go.Ab Go.RowKit Go.Dw Go.Shelf Go.ChangeShapes Go.WideShapes Go.ChangeAt Go.Deep
def growsLaid:List (String×DataW Unit):=[("unicode/utf8.acceptRanges",Rows.laid_unicode_utf8_acceptRanges),("unicode/utf8.first",Rows.laid_unicode_utf8_first)]
theorem gl_of_laid{W:World}(h:laidMetH Tryz.prog growsLaid W)(g:Nat):R W (fun b=>b< W.heap.size) ρ0 (gvals g) (gval g):= .any _ _
theorem lay_met(os:Os)(args:Array Value):laidMetH Tryz.prog growsLaid ((World.laidAll Tryz.prog os growsLaid).forCall (fun _ _=>0) ⟨#[],args,[]⟩).memory:=by
 rw [MakeChecks.laidMetH_plain _ _ _ kR];exact laidMet_laidAll _ kR kR
end Go.Proofs.YtjmbpjlojjgggaaGreatDoor
