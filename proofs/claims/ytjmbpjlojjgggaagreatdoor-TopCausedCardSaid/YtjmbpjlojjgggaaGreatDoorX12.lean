/-
  Several texts in one: The small examples of the layers up to 4, run by the machine. No condition. .. The document's reading and sweeping are the program's: plain laws, and the contracts of 'Read' and 'Sweep' of the document. No condition but the sizes of slices.
-/
import Derived.Test.YtjmbpjlojjgggaaGreatDoorX11
import Derived.Test.YtjmbpjlojjgggaaGreatDoorMC
import Derived.Test.YtjmbpjlojjgggaaGreatDoorMD
import Derived.Test.YtjmbpjlojjgggaaGreatDoorX05
import Derived.Test.YtjmbpjlojjgggaaGreatDoorX06
namespace Go.Proofs.YtjmbpjlojjgggaaGreatDoor
open Go.Ab Go.RowKit Go.Dw Go.Shelf
def PZ(a b:List Pt)(k:Nat):Prop:=(gp a k).2<=(gp b k).2/\(gp b k).1<=(gp a k).1
def Eb(a b:List Pt):Prop:=a.length=b.length/\∀k,k< a.length->PZ a b k
instance (a b:List Pt):Decidable (Eb a b):=by unfold Eb PZ;infer_instance
def OD(a b:List Int):Prop:=a.length=b.length/\∀k,k< a.length->gi a k<=gi b k
theorem OD.trans{a b c:List Int}(h:OD a b)(k:OD b c):OD a c:=⟨h.1.trans k.1,fun i hi=>Int.le_trans (h.2 i hi) (k.2 i (by rw [<-h.1];exact hi))⟩
end Go.Proofs.YtjmbpjlojjgggaaGreatDoor
