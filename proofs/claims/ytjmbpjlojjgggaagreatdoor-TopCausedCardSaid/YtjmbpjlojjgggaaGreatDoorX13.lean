/-
  Several texts in one: The document's 'Sweep' is the program's. No condition but the sizes of slices. .. The small examples of the layers up to 7. No condition.
-/
import Derived.Test.YtjmbpjlojjgggaaGreatDoorX12
import Derived.Test.YtjmbpjlojjgggaaGreatDoorX06
import Derived.Test.YtjmbpjlojjgggaaGreatDoorX00
import Derived.Test.YtjmbpjlojjgggaaGreatDoorX11
set_option maxRecDepth 100000
namespace Go.Proofs.YtjmbpjlojjgggaaGreatDoor
open Go.RowKit Go.Dw
open Go.Ab Go.Shelf
theorem Jl{w:World}{L:Nat->Prop}{t:List Int}{l:List Pt}{vs:Array Value}(hL:∀b,L b->b< w.heap.size)(h:RV w L ρ0 [.agg [V.ints t],V.pts l] vs.toList) : ∃A c B d,vs= #[.agg #[.slice A t.length c],.slice B l.length d]/\eL w A t.length t/\lP w B l.length l:=by
 obtain⟨vs⟩:=vs;obtain⟨x1,e1,q1⟩:=h.get (i:=0) rfl;obtain⟨x2,e2,q2⟩:=h.get (i:=1) rfl;obtain⟨xs,rfl,hx⟩:=q1.e7;obtain⟨xs⟩:=xs;obtain⟨y,e3,q3,_⟩:=hx.get (i:=0) rfl;obtain⟨A,c,rfl,_,ha⟩:=yN q3 hL;obtain⟨B,d,rfl,_,hb⟩:=Cg q2 hL;have hn:=h.1;have hm:=hx.1;refine⟨A,c,B,d,?_,ha,hb⟩;match vs,hn,xs,hm with
 | [a,b],_,[x],_=>simp at e1 e2 e3;subst e1 e2 e3;rfl
theorem Ch{P:Program}{f:FuncId}{args:List V}{e0:TypeId}{l:List Pt}{n:Nat}{k:Int}(he:∀(args:Array Value) (w:World),(callFunc f args).run P w= .ok (.enter f args) w) (h:∀(L:Nat->Prop) (w:World) (vs:Array Value),(∀b,L b->b< w.heap.size)->RV w L ρ0 args vs.toList->Calls P f vs w fun e w'=>∃v,e= .returned (.tuple #[v,.int .i64 k])/\w'.ownsRow w.heap.size e0 2 v n (l.flatMap n7)/\Below w.heap.size w w'):AC P f args (.tup [V.pts l,.i k]) []:=by refine v7 he fun L w vs hL hvs=>(h L w vs hL hvs).mono ?_;rintro e w' ⟨v,rfl,ho,hb⟩;obtain⟨N,hN,hr⟩:=DC ho;exact⟨_,rfl,hb,N,hN,.tj (.cons ((hr ρ0).ext ⟨fun b hb=>⟨.inr hb,rfl⟩,fun _ _ h=>h⟩) (.cons (.c _ _) .nil))⟩
section
variable (t:List Int) (l:List Pt) (ht:t.length<=4611686018427387904) (hl:l.length<=4611686018427387904)
include ht hl
theorem HK:AC Tryz.prog 22 [.agg [V.ints t],V.pts l] (.tup [V.pts (jN t l),.i (cn t l)]) []:=by refine Ch (e0:=47) (n:=(jN t l).length) (enters_of Tryz.func22 kR rfl) fun L w vs hL hvs=> ?_;obtain⟨A,c,B,d,rfl,ha,hb⟩:=Jl hL hvs;exact yQ A _ c t B _ d l w ha hb ht hl
end
def Ox:List Pt:=[(-100,100),(-100,90),(-95,100)]
theorem Ql:AC Tryz.prog 22 [.agg [V.ints [0,2,10]],V.pts Ox] (.tup [V.pts [(-100,92),(-97,90),(-95,92)],.i 0]) []:=by have A:=HK [0,2,10] Ox (by decide) (by decide);rw [show jN [0,2,10] Ox=[(-100,92),(-97,90),(-95,92)] by decide +kernel,show cn [0,2,10] Ox=0 by decide +kernel]at A;exact A
theorem KC{i:Nat}(h:i< 3):i=0\/i=1\/i=2:=by omega
def Qa:List V:=[.agg [sR [0,2,10]],De Ox]
def Qb:V:= .tup [V.pts [(-100,92),(-97,90),(-95,92)],.i 0]
theorem JJ:AC Tryz.prog 22 Qa Qb []:=Ql.conv ⟨b6.O0 ⟨b6.rows rfl fun i hi=>by rcases KC hi with rfl |rfl |rfl <;> rfl,trivial⟩,b6.rows rfl fun i hi=>by rcases KC hi with rfl |rfl |rfl <;> rfl,trivial⟩
def PL:List V:=[.agg [.i 2,.i 1000,.i 100,.i 10,.i 1,.i 100],De [(-20,20),(-20,20),(-20,20),(-20,50),(-20,20)]]
theorem JI:AM Tryz.prog 28 PL [] (.tup [.own 0,.i 0]) [] [.row 2 1 5 (rowOf [[.i 980],[.i 979],[.i 930],[.i 899],[.i 880]])]:=CO ah cv [] [] kR kR
theorem Mr:AC Tryz.prog 28 PL (.tup [ID [980,979,930,899,880],.i 0]) []:=AC.lY (JI.ac (by decide)) rfl (fun _ _=>rfl) (Fj _ rfl) rfl rfl
def P9:List (FuncId×List V×V):=[(28,PL,.tup [ID [980,979,930,899,880],.i 0]),(100,[Kc [1000,400,10,0,0,0,0],.agg [.i 95,.i 20,.i 0]],.tup [.i 200,.i 0]),(101,[],.b true)]
theorem Ow:kf Tryz.prog P9:=dg Mr rfl rfl (dg IF rfl rfl (dg Av rfl rfl nu))
theorem Aw:AC Tryz.prog 47 [] (.b true) []:=AM.ac (ET (O:=DA P9) ah cv [] [] (fun _=>qk Ow) kR kR) (by decide)
def PM:List Nat:=[13,49,51,52,53,104,71,129]
def Qm:ML:=[(12,[12]),(32,[5]),(82,[3])]
def Qc:List (FuncId×List V×V):=[(22,Qa,Qb),(47,[],.b true)]
theorem Oy:kf Tryz.prog Qc:=dg JJ rfl rfl (dg Aw rfl rfl nu)
theorem Ay:AC Tryz.prog 11 [] (.b true) []:=AM.ac (ET (O:=DA Qc) ah cv Qm PM (fun _=>qk Oy) kR kR) (by decide)
end Go.Proofs.YtjmbpjlojjgggaaGreatDoor
