/-
  Several texts in one: The small examples of the layers up to 6. No condition. .. Recipes and acts as arguments of laws. No condition but those told in each theorem.
-/
import Derived.Test.YtjmbpjlojjgggaaGreatDoorX12
import Derived.Test.YtjmbpjlojjgggaaGreatDoorX00
import Derived.Test.YtjmbpjlojjgggaaGreatDoorX13
import Derived.Test.YtjmbpjlojjgggaaGreatDoorX07
import Derived.Test.YtjmbpjlojjgggaaGreatDoorAbs42
import Derived.Test.YtjmbpjlojjgggaaGreatDoorMC
import Derived.Test.YtjmbpjlojjgggaaGreatDoorX09
set_option maxRecDepth 100000
namespace Go.Proofs.YtjmbpjlojjgggaaGreatDoor
open Go.Ab Go.RowKit Go.Dw Go.Shelf
def OC:List Pt:=[(-100,100),(-100,90),(-95,100)]
theorem Qt:AC Tryz.prog 22 [.agg [V.ints [0,2,10]],V.pts OC] (.tup [V.pts [(-100,92),(-97,90),(-95,92)],.i 0]) []:=by have A:=HM [0,2,10] OC (by decide) (by decide);rw [show jR [0,2,10] OC=[(-100,92),(-97,90),(-95,92)] by decide +kernel,show ck [0,2,10] OC=0 by decide +kernel]at A;exact A
theorem KA{i:Nat}(h:i< 3):i=0\/i=1\/i=2:=by omega
def Qh:List V:=[.agg [sU [0,2,10]],C5 OC]
def Qi:V:= .tup [V.pts [(-100,92),(-97,90),(-95,92)],.i 0]
theorem JK:AC Tryz.prog 22 Qh Qi []:=Qt.conv ⟨cq.O6 ⟨cq.rows rfl fun i hi=>by rcases KA hi with rfl |rfl |rfl <;> rfl,trivial⟩,cq.rows rfl fun i hi=>by rcases KA hi with rfl |rfl |rfl <;> rfl,trivial⟩
def PV:List V:=[.agg [.i 2,.i 1000,.i 100,.i 10,.i 1,.i 100],C5 [(-20,20),(-20,20),(-20,20),(-20,50),(-20,20)]]
theorem JJ:AM Tryz.prog 28 PV [] (.tup [.own 0,.i 0]) [] [.row 2 1 5 (rowOf [[.i 980],[.i 979],[.i 930],[.i 899],[.i 880]])]:=CI ah cv [] [] kR kR
theorem Mp:AC Tryz.prog 28 PV (.tup [Iw [980,979,930,899,880],.i 0]) []:=AC.jZ (JJ.ac (by decide)) rfl (fun _ _=>rfl) (Fg _ rfl) rfl rfl
def Qg:List (FuncId×List V×V):=[(28,PV,.tup [Iw [980,979,930,899,880],.i 0]),(100,[Kc [1000,400,10,0,0,0,0],.agg [.i 95,.i 20,.i 0]],.tup [.i 200,.i 0]),(101,[],.b true)]
theorem OB:jv Tryz.prog Qg:=cN Mp rfl rfl (cN Iz rfl rfl (cN Ag rfl rfl kU))
theorem Ai:AC Tryz.prog 47 [] (.b true) []:=AM.ac (CJ (O:=zJ Qg) ah cv [] [] (fun _=>nC OB) kR kR) (by decide)
def PW:List Nat:=[13,49,51,52,53,104,71,129]
def Qu:ML:=[(12,[12]),(32,[5]),(82,[3])]
def Qj:List (FuncId×List V×V):=[(22,Qh,Qi),(47,[],.b true)]
theorem OD:jv Tryz.prog Qj:=cN JK rfl rfl (cN Ai rfl rfl kU)
theorem Aj:AC Tryz.prog 11 [] (.b true) []:=AM.ac (CJ (O:=zJ Qj) ah cv Qu PW (fun _=>nC OD) kR kR) (by decide)
def Ql:List (FuncId×List V×V):=[(133,[],JG)]
theorem Mq:jv Tryz.prog Ql:=cN Dv rfl rfl kU
theorem Mr:AC Tryz.prog 86 [.i 10,.i 0,.i 5,.i 0,.i 100] (.tup [.i 3,.i 0,.i 0]) []:= AM.ac (CJ (O:=zJ Ql) ah cv [] [] (fun _=>nC Mq) kR kR) (by decide)
def Qk:List (FuncId×List V×V):=[(86,[.i 10,.i 0,.i 5,.i 0,.i 100],.tup [.i 3,.i 0,.i 0]),(11,[],.b true)]
theorem OE:jv Tryz.prog Qk:=cN Mr rfl rfl (cN Aj rfl rfl kU)
theorem jS:AC Tryz.prog 33 [] (.b true) []:=AM.ac (CJ (O:=zJ Qk) ah cv [] [] (fun _=>nC OE) kR kR) (by decide)
abbrev s9:Go.Ab.Sh:=(.iT (.arr 4 (.int .i64)) (.iT (.arr 4 (.int .i64)) (.iT (.int .i64) (.iT (.int .i64) (.iT (.int .i64) (.iT (.int .i64) (.lst (.int .i64))))))))
abbrev sL:Go.Ab.Sh:=(.iT (.int .i64) (.iT (.int .i64) (.iT (.int .i64) (.iT (.int .i64) (.iT (.int .i64) (.iT (.int .i64) (.iT (.int .i64) (.iT (.arr 2 (.int .i64)) (.iT (.int .i64) (.iT (.int .i64) (.iT (.int .i64) (.lst (.int .i64)))))))))))))
def Mm:s9.T->Rc
 | (n,k,a,b,c,d,e)=>⟨gi n 0,gi n 1,gi n 2,gi n 3,gi k 0,gi k 1,gi k 2,gi k 3,a,b,c,d,e⟩
theorem Mn(x:s9.T)(h:s9.wf x):s9.cells x=(Mm x).c:=by
 obtain⟨n,k,a,b,c,d,e⟩:=x;obtain⟨⟨h1,_⟩,⟨h2,_⟩,_⟩:=h;match n,k,h1,h2 with
 | [_,_,_,_],[_,_,_,_],_,_=>rfl
theorem Ma(x:s9.T)(h:s9.wf x):cq (s9.val x) (Mm x).v:=by rw [show s9.val x= .agg (s9.cells x)from rfl,Mn x h];exact cq.refl _
def x9:sL.T->Act
 | (k,cut,ar,st,y,pl,ba,s,cu,se,pc,f)=>⟨k,cut,ar,st,y,pl,ba,gi s 0,gi s 1,cu,se,pc,f⟩
theorem JF(x:sL.T)(h:sL.wf x):sL.cells x=(x9 x).c:=by
 obtain⟨k,cut,ar,st,y,pl,ba,s,cu,se,pc,f⟩:=x;obtain⟨_,_,_,_,_,_,_,⟨h1,_⟩,_⟩:=h;match s,h1 with
 | [_,_],_=>rfl
theorem Eg(l:List sL.T)(h:∀x∈l,sL.wf x):cq (.sl 13 l.length fun i=>sL.cells (l.getD i sL.dflt)) (qE (l.map x9)):= cq.rows (by simp) fun i hi=>by
 have e:l.getD i sL.dflt=l[i]:=by rw [List.getD_eq_getElem?_getD,List.getElem?_eq_getElem hi];rfl
 have e2:fq (l.map x9) i=x9 l[i]:=by simp [fq,List.getD_eq_getElem?_getD,hi]
 rw [e,e2];exact JF _ (h _ (List.getElem_mem hi))
end Go.Proofs.YtjmbpjlojjgggaaGreatDoor
