/-
  Several texts in one: 'sharper': the tip that it returns, what it is, and what it reads. No condition but the sizes of slices. .. A groove turned round, mirrored, cut: what is read of it. Conditions: told in each theorem.
-/
import Derived.Test.YtjmbpjlojjgggaaGreatDoorX12
import Derived.Test.YtjmbpjlojjgggaaGreatDoorX06
namespace Go.Proofs.YtjmbpjlojjgggaaGreatDoor
open Go.RowKit Go.Dw
open Go.Ab Go.Shelf
theorem Jl{w:World}{L:Nat->Prop}{t:List Int}{l:List Pt}{vs:Array Value}(hL:∀b,L b->b< w.heap.size)(h:RV w L ρ0 [.agg [V.ints t],V.pts l] vs.toList) : ∃A c B d,vs= #[.agg #[.slice A t.length c],.slice B l.length d]/\eN w A t.length t/\lR w B l.length l:=by
 obtain⟨vs⟩:=vs;obtain⟨x1,e1,q1⟩:=h.get (i:=0) rfl;obtain⟨x2,e2,q2⟩:=h.get (i:=1) rfl;obtain⟨xs,rfl,hx⟩:=q1.e7;obtain⟨xs⟩:=xs;obtain⟨y,e3,q3,_⟩:=hx.get (i:=0) rfl;obtain⟨A,c,rfl,_,ha⟩:=yA q3 hL;obtain⟨B,d,rfl,_,hb⟩:=B9 q2 hL;have hn:=h.1;have hm:=hx.1;refine⟨A,c,B,d,?_,ha,hb⟩;match vs,hn,xs,hm with
 | [a,b],_,[x],_=>simp at e1 e2 e3;subst e1 e2 e3;rfl
theorem Ca{P:Program}{f:FuncId}{args:List V}{e0:TypeId}{l:List Pt}{n:Nat}{k:Int}(he:∀(args:Array Value) (w:World),(callFunc f args).run P w= .ok (.enter f args) w) (h:∀(L:Nat->Prop) (w:World) (vs:Array Value),(∀b,L b->b< w.heap.size)->RV w L ρ0 args vs.toList->Calls P f vs w fun e w'=>∃v,e= .returned (.tuple #[v,.int .i64 k])/\w'.ownsRow w.heap.size e0 2 v n (l.flatMap n7)/\Below w.heap.size w w'):AC P f args (.tup [V.pts l,.i k]) []:=by refine vW he fun L w vs hL hvs=>(h L w vs hL hvs).mono ?_;rintro e w' ⟨v,rfl,ho,hb⟩;obtain⟨N,hN,hr⟩:=Dt ho;exact⟨_,rfl,hb,N,hN,.tv (.cons ((hr ρ0).ext ⟨fun b hb=>⟨.inr hb,rfl⟩,fun _ _ h=>h⟩) (.cons (.c _ _) .nil))⟩
section
variable (t:List Int) (l:List Pt) (ht:t.length<=4611686018427387904) (hl:l.length<=4611686018427387904)
include ht hl
theorem HM:AC Tryz.prog 22 [.agg [V.ints t],V.pts l] (.tup [V.pts (jR t l),.i (ck t l)]) []:=by refine Ca (e0:=47) (n:=(jR t l).length) (enters_of Tryz.func22 kR rfl) fun L w vs hL hvs=> ?_;obtain⟨A,c,B,d,rfl,ha,hb⟩:=Jl hL hvs;exact yE A _ c t B _ d l w ha hb ht hl
end
end Go.Proofs.YtjmbpjlojjgggaaGreatDoor
