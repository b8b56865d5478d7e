/-
  Several texts in one: How much of a groove fits, and narrower grooves, in plain Lean. Conditions: told in each theorem. .. Arguments of the top's laws. No condition.
-/
import Derived.Test.YtjmbpjlojjgggaaGreatDoorX13
import Derived.Test.YtjmbpjlojjgggaaGreatDoorX05
import Derived.Test.YtjmbpjlojjgggaaGreatDoorX02
import Derived.Test.YtjmbpjlojjgggaaGreatDoorMC
import Derived.Test.YtjmbpjlojjgggaaGreatDoorX00
import Derived.Test.YtjmbpjlojjgggaaGreatDoorX10
import Derived.Test.YtjmbpjlojjgggaaGreatDoorX12
set_option maxRecDepth 100000
namespace Go.Proofs.YtjmbpjlojjgggaaGreatDoor
open Go.Ab Go.RowKit Go.Dw Go.Shelf
theorem gj{l:List Pt}{k v:Nat}(h:v< k):gp (l.take k) v=gp l v:=by simp [gp,List.getD_eq_getElem?_getD,List.getElem?_take,h]
theorem zA.take{b:Bl}{l:List Pt}{g:Nat->Int}{k k':Nat}(hk:k<=k')(h:zA b (l.take k') g):zA b (l.take k) g:=by
 refine⟨fun v hv=> ?_,fun v hv=> ?_⟩;·rw [List.length_take]at hv;have:=h.1 v (by rw [List.length_take];omega);rw [gj (show v< k' by omega)]at this;rw [gj (show v< k by omega)];refine⟨this.1,this.2.1,fun hp=> ?_⟩;have:=this.2.2 hp;rw [gj (show v- b.per.toNat< k' by omega)]at this;rw [gj (show v- b.per.toNat< k by omega)];exact this
 ·rw [List.length_take]at hv;have:=h.2 v (by rw [List.length_take];omega);rw [gj (show v< k' by omega)]at this;rw [gj (show v< k by omega)];exact this
def kB(l m:List Pt):Prop:=m.length=l.length/\∀v,v< l.length->(gp l v).1<=(gp m v).1/\(gp m v).2<=(gp l v).2
theorem kB.cut{b:Bl}{l m:List Pt}{g:Nat->Int}(hn:kB l m)(h:zA b l g):zA b m g:= ⟨h.1.anti hn.1 (fun v hv=>(hn.2 v hv).1) fun v hv=>(hn.2 v hv).2,fun v hv=>by have:=h.2 v (by rw [<-hn.1];exact hv);have:=(hn.2 v (by rw [<-hn.1];exact hv)).1;omega⟩
theorem kB.take{l m:List Pt}(hn:kB l m)(k:Nat):kB (l.take k) (m.take k):=by refine⟨by rw [List.length_take,List.length_take,hn.1],fun v hv=> ?_⟩;rw [List.length_take]at hv;rw [gj oM,gj oM];exact hn.2 v oM
theorem Eu{c:Cut}{q:List Pt}(hc:jH c=0)(hs:ki q=0):rR (q.map (b9 c))=0:=by obtain⟨h1,h2⟩:=Ct.1 hs;refine lN.2 ⟨by simpa using h1,fun k hk=> ?_⟩;rw [List.length_map]at hk;rw [Gb hk];exact HX hc (h2 k hk)
def FU:List Nat:=[148,111,66,149,112,67,192,188,199,201,999999,999999,999999,999999,999999,999999,999999,999999,999999,999999,999999,999999,999999,999999]
def NT:ML:=[(64,[21]),(189,[8]),(175,[24])]
def BP(sz n:Nat)(cs:List V):V:= .sl sz n fun i=>(cs.drop (i*sz)).take sz
def tM(l:List Int):V:=BP 1 l.length (l.map V.i)
def NS:List (Int×Int)->List V
 | []=>[]
 |x::l=> .i x.1:: .i x.2::NS l
def DC(l:List (Int×Int)):V:=BP 2 l.length (NS l)
def I5(l:List Int):V:= .sl 1 l.length (rowOf (l.map fun x=>[.i x]))
def DB(l:List (Int×Int)):V:= .sl 2 l.length (rowOf (l.map fun x=>[.i x.1,.i x.2]))
theorem FT(l:List (List V))(h:l.all V.bA=true)(i:Nat):V.bA (rowOf l i)=true:=ia h i
def xQ:V:= .agg [.i 400,.i 2000,.i 200,.i 2000,.i 1000,.i 1000,.i 100]
def I4:List (Int×Int):=[(-400,400),(-200,600),(-400,400)]
theorem I6:AM Tryz.prog 14 [xQ,DC [(0,0),(100,100),(0,0)]] [] (.tup [.own 0,.i 0]) [] [.row 47 2 3 (rowOf [[.i (-400),.i 400],[.i (-200),.i 600],[.i (-400),.i 400]])]:=Dd aj bX NT FU kR kR
theorem LP:AC Tryz.prog 14 [xQ,DC [(0,0),(100,100),(0,0)]] (.tup [DB I4,.i 0]) []:=AC.sP (I6.ac (by decide)) rfl (fun _ _=>rfl) (FT _ rfl) rfl rfl
theorem PE:AC Tryz.prog 21 [xQ,DB I4,.i 1000] (.tup [.i 31831,.i 0]) []:=AM.ac (Dd aj bX NT FU kR kR) (by decide)
theorem LO:AM Tryz.prog 144 [.agg [tM [64],tM [128],.i 256],tM [100,0,0, -3]] [] (.tup [.own 0,.i 0]) [] [.row 2 1 4 (rowOf [[.i 100],[.i 75],[.i 37],[.i 15]])]:=Dd aj bX NT FU kR kR
theorem NU:AC Tryz.prog 144 [.agg [tM [64],tM [128],.i 256],tM [100,0,0, -3]] (.tup [I5 [100,75,37,15],.i 0]) []:=AC.sP (LO.ac (by decide)) rfl (fun _ _=>rfl) (FT _ rfl) rfl rfl
def PC:ByteArray:=⟨#[97]⟩
def KJ:V:=BP 2 1 [.c (.string PC),DC [(10, -10),(5,0)]]
def KI:V:=BP 7 1 [.i 0,.i 0,.i 2,.i 0,.i 0,.i 0,.i 500]
theorem LQ:AC Tryz.prog 145 [KJ,KI] (.tup [DB [(5, -5),(2,0)],.i 0]) []:=AM.ac (Dd aj bX NT FU kR kR) (by decide)
def PD:ByteArray:=⟨#[102]⟩
def KH(l:List Int):V:= .agg (.c (.string PD)::l.map V.i)
theorem I7:AC Tryz.prog 100 [KH [1000,400,10,0,0,0,0],.agg [.i 95,.i 20,.i 0]] (.tup [.i 200,.i 0]) []:=AM.ac (Dd aj bX NT FU kR kR) (by decide)
def Qy:List (FuncId×List V×V):=[(14,[xQ,DC [(0,0),(100,100),(0,0)]],.tup [DB I4,.i 0]),(21,[xQ,DB I4,.i 1000],.tup [.i 31831,.i 0]),(144,[.agg [tM [64],tM [128],.i 256],tM [100,0,0, -3]],.tup [I5 [100,75,37,15],.i 0]),(145,[KJ,KI],.tup [DB [(5, -5),(2,0)],.i 0])]
theorem OX:mE Tryz.prog Qy:=eN LP rfl rfl (eN PE rfl rfl (eN NU rfl rfl (eN LQ rfl rfl sq)))
theorem Be:AC Tryz.prog 101 [] (.b true) []:=AM.ac (IQ (O:=G7 Qy) aj bX [] [] (fun _=>wk OX) kR kR) (by decide)
def OZ:List Pt:=[(-100,100),(-100,90),(-95,100)]
theorem QK:AC Tryz.prog 22 [.agg [V.ints [0,2,10]],V.pts OZ] (.tup [V.pts [(-100,92),(-97,90),(-95,92)],.i 0]) []:=by have A:=Bv [0,2,10] OZ (by decide) (by decide);rw [show iD [0,2,10] OZ=[(-100,92),(-97,90),(-95,92)] by decide +kernel,show bS [0,2,10] OZ=0 by decide +kernel]at A;exact A
theorem K7{i:Nat}(h:i< 3):i=0\/i=1\/i=2:=by omega
def QA:List V:=[.agg [tM [0,2,10]],DC OZ]
def QB:V:= .tup [V.pts [(-100,92),(-97,90),(-95,92)],.i 0]
theorem J9:AC Tryz.prog 22 QA QB []:=QK.conv ⟨cw.Pw ⟨cw.rows rfl fun i hi=>by rcases K7 hi with rfl |rfl |rfl <;> rfl,trivial⟩,cw.rows rfl fun i hi=>by rcases K7 hi with rfl |rfl |rfl <;> rfl,trivial⟩
def Qg:List V:=[.agg [.i 2,.i 1000,.i 100,.i 10,.i 1,.i 100],DC [(-20,20),(-20,20),(-20,20),(-20,50),(-20,20)]]
theorem J8:AM Tryz.prog 28 Qg [] (.tup [.own 0,.i 0]) [] [.row 2 1 5 (rowOf [[.i 980],[.i 979],[.i 930],[.i 899],[.i 880]])]:=Dd aj bX [] [] kR kR
theorem MW:AC Tryz.prog 28 Qg (.tup [I5 [980,979,930,899,880],.i 0]) []:=AC.sP (J8.ac (by decide)) rfl (fun _ _=>rfl) (FT _ rfl) rfl rfl
def Qz:List (FuncId×List V×V):=[(28,Qg,.tup [I5 [980,979,930,899,880],.i 0]),(100,[KH [1000,400,10,0,0,0,0],.agg [.i 95,.i 20,.i 0]],.tup [.i 200,.i 0]),(101,[],.b true)]
theorem OY:mE Tryz.prog Qz:=eN MW rfl rfl (eN I7 rfl rfl (eN Be rfl rfl sq))
theorem Bf:AC Tryz.prog 47 [] (.b true) []:=AM.ac (IQ (O:=G7 Qz) aj bX [] [] (fun _=>wk OY) kR kR) (by decide)
def Qh:List Nat:=[13,49,51,52,53,104,71,129]
def QL:ML:=[(12,[12]),(32,[5]),(82,[3])]
def QC:List (FuncId×List V×V):=[(22,QA,QB),(47,[],.b true)]
theorem O0:mE Tryz.prog QC:=eN J9 rfl rfl (eN Bf rfl rfl sq)
theorem eD:AC Tryz.prog 11 [] (.b true) []:=AM.ac (IQ (O:=G7 QC) aj bX QL Qh (fun _=>wk O0) kR kR) (by decide)
theorem Kb{l:List Pt}(h:∀x∈l,Sh.wf (.fI (.int .i64) (.lst (.int .i64))) x):∀k,k< l.length->Gl (gp l k):=fun k hk=>by
 have:gp l k=l[k]:=by simp [gp,List.getD_eq_getElem?_getD,List.getElem?_eq_getElem hk]
 rw [this];obtain⟨h1,h2⟩:=h _ (List.getElem_mem hk);have q1:=wf_i64 h1;have q2:=wf_i64 h2;exact⟨by simp only [qm];omega,by simp only [qm];omega⟩
end Go.Proofs.YtjmbpjlojjgggaaGreatDoor
