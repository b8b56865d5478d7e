/-
  Several texts in one: What a tip misses: the reference's copy, and both exported functions. No condition. .. Edges of samples, in plain Lean. Conditions: told in each theorem.
-/
import Derived.Test.YtjmbpjlojjgggaaGreatDoorX13
import Derived.Test.YtjmbpjlojjgggaaGreatDoorX06
import Derived.Test.YtjmbpjlojjgggaaGreatDoorX12
import Derived.Test.YtjmbpjlojjgggaaGreatDoorX00
import Derived.Test.YtjmbpjlojjgggaaGreatDoorX07
set_option maxRecDepth 100000
namespace Go.Proofs.YtjmbpjlojjgggaaGreatDoor
open Go.Ab Go.RowKit Go.Dw Go.Shelf
def PV:List Pt:=[(-100,100),(-100,90),(-95,100)]
theorem RM:AC Tryz.prog 22 [.agg [V.ints [0,2,10]],V.pts PV] (.tup [V.pts [(-100,92),(-97,90),(-95,92)],.i 0]) []:=by have A:=IM [0,2,10] PV (by decide) (by decide);rw [show jT [0,2,10] PV=[(-100,92),(-97,90),(-95,92)] by decide +kernel,show cm [0,2,10] PV=0 by decide +kernel]at A;exact A
theorem LP{i:Nat}(h:i< 3):i=0\/i=1\/i=2:=by omega
def Rw:List V:=[.agg [s9 [0,2,10]],DP PV]
def Rx:V:= .tup [V.pts [(-100,92),(-97,90),(-95,92)],.i 0]
theorem KM:AC Tryz.prog 22 Rw Rx []:=RM.conv ⟨cv.Qr ⟨cv.rows rfl fun i hi=>by rcases LP hi with rfl |rfl |rfl <;> rfl,trivial⟩,cv.rows rfl fun i hi=>by rcases LP hi with rfl |rfl |rfl <;> rfl,trivial⟩
def Rf:List V:=[.agg [.i 2,.i 1000,.i 100,.i 10,.i 1,.i 100],DP [(-20,20),(-20,20),(-20,20),(-20,50),(-20,20)]]
theorem KL:AM Tryz.prog 28 Rf [] (.tup [.own 0,.i 0]) [] [.row 2 1 5 (rowOf [[.i 980],[.i 979],[.i 930],[.i 899],[.i 880]])]:=Dt ah b9 [] [] kR kR
theorem NB:AC Tryz.prog 28 Rf (.tup [Jt [980,979,930,899,880],.i 0]) []:=AC.iQ (KL.ac (by decide)) rfl (fun _ _=>rfl) (F6 _ rfl) rfl rfl
def Rv:List (FuncId×List V×V):=[(28,Rf,.tup [Jt [980,979,930,899,880],.i 0]),(100,[Lj [1000,400,10,0,0,0,0],.agg [.i 95,.i 20,.i 0]],.tup [.i 200,.i 0]),(101,[],.b true)]
theorem PU:jy Tryz.prog Rv:=cO NB rfl rfl (cO Jv rfl rfl (cO A7 rfl rfl kZ))
theorem A8:AC Tryz.prog 47 [] (.b true) []:=AM.ac (Du (O:=Am Rv) ah b9 [] [] (fun _=>nJ PU) kR kR) (by decide)
def Rg:List Nat:=[13,49,51,52,53,104,71,129]
def RN:ML:=[(12,[12]),(32,[5]),(82,[3])]
def Ry:List (FuncId×List V×V):=[(22,Rw,Rx),(47,[],.b true)]
theorem PW:jy Tryz.prog Ry:=cO KM rfl rfl (cO A8 rfl rfl kZ)
theorem A9:AC Tryz.prog 11 [] (.b true) []:=AM.ac (Du (O:=Am Ry) ah b9 RN Rg (fun _=>nJ PW) kR kR) (by decide)
def RB:List (FuncId×List V×V):=[(133,[],KH)]
theorem NC:jy Tryz.prog RB:=cO Eg rfl rfl kZ
theorem ND:AC Tryz.prog 86 [.i 10,.i 0,.i 5,.i 0,.i 100] (.tup [.i 3,.i 0,.i 0]) []:= AM.ac (Du (O:=Am RB) ah b9 [] [] (fun _=>nJ NC) kR kR) (by decide)
def Rz:List (FuncId×List V×V):=[(86,[.i 10,.i 0,.i 5,.i 0,.i 100],.tup [.i 3,.i 0,.i 0]),(11,[],.b true)]
theorem PY:jy Tryz.prog Rz:=cO ND rfl rfl (cO A9 rfl rfl kZ)
theorem jU:AC Tryz.prog 33 [] (.b true) []:=AM.ac (Du (O:=Am Rz) ah b9 [] [] (fun _=>nJ PY) kR kR) (by decide)
end Go.Proofs.YtjmbpjlojjgggaaGreatDoor
