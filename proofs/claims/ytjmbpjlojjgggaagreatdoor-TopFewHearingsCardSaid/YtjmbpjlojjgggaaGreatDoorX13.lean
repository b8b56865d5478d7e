/-
  Several texts in one: What a tip misses: the walks of both copies. Conditions: a valid tip and groove. .. The contracts of package play, and of its reference, for values without addresses. No condition.
-/
import Derived.Test.YtjmbpjlojjgggaaGreatDoorX12
import Derived.Test.YtjmbpjlojjgggaaGreatDoorX05
import Derived.Test.YtjmbpjlojjgggaaGreatDoorX06
import Derived.Test.YtjmbpjlojjgggaaGreatDoorMC
namespace Go.Proofs.YtjmbpjlojjgggaaGreatDoor
open Go.Ab Go.RowKit Go.Dw Go.Shelf
def Rq(a b:List Pt)(k:Nat):Prop:=(gp a k).2<=(gp b k).2/\(gp b k).1<=(gp a k).1
def EN(a b:List Pt):Prop:=a.length=b.length/\∀k,k< a.length->Rq a b k
instance (a b:List Pt):Decidable (EN a b):=by unfold EN Rq;infer_instance
def N1(a b:List Int):Prop:=a.length=b.length/\∀k,k< a.length->gi a k<=gi b k
theorem N1.refl(a:List Int):N1 a a:=⟨rfl,fun _ _=>Int.le_refl _⟩
theorem N1.trans{a b c:List Int}(h:N1 a b)(k:N1 b c):N1 a c:=⟨h.1.trans k.1,fun i hi=>Int.le_trans (h.2 i hi) (k.2 i (by rw [<-h.1];exact hi))⟩
theorem Ki{w:World}{L:Nat->Prop}{t:List Int}{l:List Pt}{vs:Array Value}(hL:∀b,L b->b< w.heap.size)(h:RV w L ρ0 [.agg [V.ints t],V.pts l] vs.toList) : ∃A c B d,vs= #[.agg #[.slice A t.length c],.slice B l.length d]/\eT w A t.length t/\lY w B l.length l:=by
 obtain⟨vs⟩:=vs;obtain⟨x1,e1,q1⟩:=h.get (i:=0) rfl;obtain⟨x2,e2,q2⟩:=h.get (i:=1) rfl;obtain⟨xs,rfl,hx⟩:=q1.fm;obtain⟨xs⟩:=xs;obtain⟨y,e3,q3,_⟩:=hx.get (i:=0) rfl;obtain⟨A,c,rfl,_,ha⟩:=y9 q3 hL;obtain⟨B,d,rfl,_,hb⟩:=CP q2 hL;have hn:=h.1;have hm:=hx.1;refine⟨A,c,B,d,?_,ha,hb⟩;match vs,hn,xs,hm with
 | [a,b],_,[x],_=>simp at e1 e2 e3;subst e1 e2 e3;rfl
theorem CQ{P:Program}{f:FuncId}{args:List V}{e0:TypeId}{l:List Pt}{n:Nat}{k:Int}(he:∀(args:Array Value) (w:World),(callFunc f args).run P w= .ok (.enter f args) w) (h:∀(L:Nat->Prop) (w:World) (vs:Array Value),(∀b,L b->b< w.heap.size)->RV w L ρ0 args vs.toList->Calls P f vs w fun e w'=>∃v,e= .returned (.tuple #[v,.int .i64 k])/\w'.ownsRow w.heap.size e0 2 v n (l.flatMap oh)/\Below w.heap.size w w'):AC P f args (.tup [V.pts l,.i k]) []:=by refine wz he fun L w vs hL hvs=>(h L w vs hL hvs).mono ?_;rintro e w' ⟨v,rfl,ho,hb⟩;obtain⟨N,hN,hr⟩:=Ee ho;exact⟨_,rfl,hb,N,hN,.tJ (.cons ((hr ρ0).ext ⟨fun b hb=>⟨.inr hb,rfl⟩,fun _ _ h=>h⟩) (.cons (.c _ _) .nil))⟩
section
variable (t:List Int) (l:List Pt) (ht:t.length<=4611686018427387904) (hl:l.length<=4611686018427387904)
include ht hl
theorem IM:AC Tryz.prog 22 [.agg [V.ints t],V.pts l] (.tup [V.pts (jT t l),.i (cm t l)]) []:=by refine CQ (e0:=47) (n:=(jT t l).length) (enters_of Tryz.func22 kR rfl) fun L w vs hL hvs=> ?_;obtain⟨A,c,B,d,rfl,ha,hb⟩:=Ki hL hvs;exact zc A _ c t B _ d l w ha hb ht hl
end
end Go.Proofs.YtjmbpjlojjgggaaGreatDoor
