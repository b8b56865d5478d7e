/-
  Several texts in one: The contracts of package play, and of its reference, for values without addresses. No condition. .. The edges between samples, as a groove's side yields them: the walk of the iterator. Conditions: told in each theorem.
-/
import Derived.Test.YtjmbpjlojjgggaaGreatDoorX09
import Derived.Test.YtjmbpjlojjgggaaGreatDoorX04
import Derived.Test.YtjmbpjlojjgggaaGreatDoorMD
import Derived.Test.YtjmbpjlojjgggaaGreatDoorAbs42
import Derived.Test.YtjmbpjlojjgggaaGreatDoorX00
import Derived.Test.YtjmbpjlojjgggaaGreatDoorX06
import Derived.Test.YtjmbpjlojjgggaaGreatDoorX03
set_option maxRecDepth 100000
namespace Go.Proofs.YtjmbpjlojjgggaaGreatDoor
open Go.Ab Go.RowKit Go.Dw Go.Shelf
theorem JJ{w:World}{L:Nat->Prop}{t:List Int}{l:List Pt}{vs:Array Value}(hL:∀b,L b->b< w.heap.size)(h:RV w L ρ0 [.agg [V.ints t],V.pts l] vs.toList) : ∃A c B d,vs= #[.agg #[.slice A t.length c],.slice B l.length d]/\dQ w A t.length t/\l9 w B l.length l:=by
 obtain⟨vs⟩:=vs;obtain⟨x1,e1,q1⟩:=h.get (i:=0) rfl;obtain⟨x2,e2,q2⟩:=h.get (i:=1) rfl;obtain⟨xs,rfl,hx⟩:=q1.eU;obtain⟨xs⟩:=xs;obtain⟨y,e3,q3,_⟩:=hx.get (i:=0) rfl;obtain⟨A,c,rfl,_,ha⟩:=qT q3 hL;obtain⟨B,d,rfl,_,hb⟩:=ue q2 hL;have hn:=h.1;have hm:=hx.1;refine⟨A,c,B,d,?_,ha,hb⟩;match vs,hn,xs,hm with
 | [a,b],_,[x],_=>simp at e1 e2 e3;subst e1 e2 e3;rfl
theorem qW{P:Program}{f:FuncId}{args:List V}{x:Value}(he:∀(args:Array Value) (w:World),(callFunc f args).run P w= .ok (.enter f args) w) (h:∀(L:Nat->Prop) (w:World) (vs:Array Value),(∀b,L b->b< w.heap.size)->RV w L ρ0 args vs.toList->Calls P f vs w fun e w'=>e= .returned x/\Below w.heap.size w w'):AC P f args (.c x) []:=by refine pI he fun L w vs hL hvs=>(h L w vs hL hvs).mono ?_;rintro e w' ⟨rfl,hb⟩;exact⟨_,rfl,hb,fun _=>False,fun _ h=>h.elim,.c _ _⟩
theorem CF{P:Program}{f:FuncId}{args:List V}{e0:TypeId}{l:List Pt}{n:Nat}{k:Int}(he:∀(args:Array Value) (w:World),(callFunc f args).run P w= .ok (.enter f args) w) (h:∀(L:Nat->Prop) (w:World) (vs:Array Value),(∀b,L b->b< w.heap.size)->RV w L ρ0 args vs.toList->Calls P f vs w fun e w'=>∃v,e= .returned (.tuple #[v,.int .i64 k])/\w'.ownsRow w.heap.size e0 2 v n (l.flatMap oD)/\Below w.heap.size w w'):AC P f args (.tup [V.pts l,.i k]) []:=by refine pI he fun L w vs hL hvs=>(h L w vs hL hvs).mono ?_;rintro e w' ⟨v,rfl,ho,hb⟩;obtain⟨N,hN,hr⟩:=DY ho;exact⟨_,rfl,hb,N,hN,.wK (.cons ((hr ρ0).ext ⟨fun b hb=>⟨.inr hb,rfl⟩,fun _ _ h=>h⟩) (.cons (.c _ _) .nil))⟩
section
variable (t:List Int) (l:List Pt) (ht:t.length<=4611686018427387904) (hl:l.length<=4611686018427387904)
include ht hl
theorem Bv:AC Tryz.prog 22 [.agg [V.ints t],V.pts l] (.tup [V.pts (iD t l),.i (bS t l)]) []:=by refine CF (e0:=47) (n:=(iD t l).length) (enters_of Tryz.func22 kR rfl) fun L w vs hL hvs=> ?_;obtain⟨A,c,B,d,rfl,ha,hb⟩:=JJ hL hvs;exact zF A _ c t B _ d l w ha hb ht hl
end
theorem xZ{t:List Int}{l:List Pt}{i:Nat}(hi:i< l.length):gp (eS t l) i=jf t l i l.length:=by rw [<-AO,iQ,gL (by simpa using hi)];simp
def fq(l:List Pt):List Pt:=l.map fun p=>(-p.2, -p.1)
theorem k7(l:List Pt):(fq l).length=l.length:=by simp [fq]
theorem qE(l:List Pt)(i:Nat):gp (fq l) i=(-(gp l i).2, -(gp l i).1):=by simp only [gp,fq,List.getD_eq_getElem?_getD,List.getElem?_map];cases l[i]? <;> simp
theorem AC.args{P:Program}{f:FuncId}{args args':List V}{v:V}{obs:List Ob}(h:AC P f args v obs)(hc:∀(w:World) (L:Nat->Prop) (vs:List Value),RV w L ρ0 args' vs->RV w L ρ0 args vs):AC P f args' v obs:= ⟨h.1,fun L w vs hL hgl hv=>h.2 L w vs hL hgl (hc w L _ hv)⟩
theorem xE(l:List Pt)(hl:l.length<=4611686018427387904):AC Tryz.prog 76 [V.pts l] (.i (bZ l)) []:=by
 refine qW (enters_of Tryz.func76 kR rfl) fun L w vs hL hvs=> ?_;obtain⟨vs⟩:=vs;obtain⟨x1,e1,q1⟩:=hvs.get (i:=0) rfl;obtain⟨A,c,rfl,_,ha⟩:=ue q1 hL;have hn:=hvs.1;have hvs':vs=[.slice A l.length c]:=by
  match vs,hn with
  | [a],_=>simp at e1;subst e1;rfl
 subst hvs';exact kM A _ c l w ha hl
def D6(r:Int):Bool:=decide (r < -16777216) || decide (16777216< r)
theorem FG(r:Int):AC Tryz.prog 78 [.i r] (.b (D6 r)) []:=by refine eT aj bX Tryz.func78 Tryz.ntmps78 fun C hC hF=> ?_;refine sK fun K hK=> ?_;refine ag (n':=2) kR kR ?_;refine au aj (M:=[]) (n:=1) [pv (2:Nat) (V.b false)] kR kR tI ?_;refine aa ?_;refine ai ?_;refine hK _ ?_;clear hK K;refine sK fun K hK=> ?_;refine ag (n':=3) kR kR ?_;refine aY aj 7 [] ?_;refine aa ?_;refine ai ?_;refine hK _ ?_;clear hK K;refine av ?_;refine bg (.inr rfl) rfl rfl rfl
theorem vW(l:List Int)(hl:l.length<=65536)(hb:∀k,k< l.length->D6 (gi l k)=false):AC Tryz.prog 128 [V.ints l,.fn (.func 78) [] []] (.i (-1)) []:=by
 refine eT aj bX Tryz.func128 Tryz.ntmps128 fun C hC hF=> ?_;refine sK fun K hK=> ?_;refine ag (n':=2) kR kR ?_;refine au aj (M:=[]) (n:=1) [pv (4:Nat) (V.i (0:Int))] kR kR tI ?_;refine aa ?_;refine ai ?_;refine hK _ ?_;clear hK K;refine sK fun K hK=> ?_;refine sK fun K hK=> ?_;refine ag (n':=3) kR kR ?_;refine au aj (M:=[]) (n:=3) [pv (6:Nat) (V.sl (1:Nat) (List.length l) fun(k:Nat)=>[V.i (gi l k)]),pv (7:Nat) (V.i (↑(List.length l):Int)),pv (8:Nat) (V.i (0:Int))] kR kR tI ?_;refine aa ?_;refine ai ?_;refine hK _ ?_;clear hK K;refine az ?_;refine dO (fun k:Nat=>[(0,V.ints l),(1,.fn (.func 78) [] []),(7,.i l.length),(8,.i k)]) (fun _=>[]) (fun k=>k<=l.length) (fun k=>l.length- k) 0 (Nat.zero_le _) ?_ ?_;·exact aH [] (.cons rfl (.cons rfl (.cons rfl (.cons rfl .nil)))) .nil rfl rfl
 intro k hk;refine sK fun K hK=> ?_;refine ag (n':=2) kR kR ?_;refine au aj (M:=[]) (n:=1) [pv (9:Nat) (V.b (decide ((↑k:Int)< (↑(List.length l):Int))))] kR kR tI ?_;refine aa ?_;refine ai ?_;refine hK _ ?_;clear hK K;refine sK fun K hK=> ?_;refine ax rfl (fun h=> ?_) (fun h=> ?_)
 ·simp at h;refine aq ?_;refine ai ?_;refine hK _ ?_;clear hK K;refine sK fun K hK=> ?_;refine az ?_;refine sK fun K hK=> ?_;refine ag (n':=3) kR kR ?_;refine au aj (M:=[]) (n:=2) [pv (10:Nat) (V.i (↑k:Int)),pv (5:Nat) (V.i (↑k:Int))] kR kR tI ?_;refine aa ?_;refine ai ?_;refine hK _ ?_;clear hK K;refine sK fun K hK=> ?_;refine ag (n':=4) kR kR ?_;refine aY aj 5 [(3,.c ((0:Int)<=(↑k:Int)/\(↑k:Int)< (↑(List.length l):Int)) oM)] ?_;refine oC (FG (gi l k)) rfl rfl rfl rfl rfl ?_;refine aa ?_;refine ai ?_;refine hK _ ?_;clear hK K;refine ax rfl (fun h2=> ?_) (fun h2=> ?_);·exfalso;have:=hb k oM;rw [this]at h2;cases h2
  refine aq ?_;refine cn ?_;refine ai ?_;refine hK _ ?_;clear hK K;refine ag (n':=5) kR kR ?_;refine aY aj 2 [(0,.c (iR ((↑k:Int)+1)) oM)] ?_;refine aa ?_;refine ai ?_;refine⟨k+1,by omega,aH [] (.cons rfl (.cons rfl (.cons rfl (.cons rfl .nil)))) .nil rfl rfl,by omega⟩
 ·simp at h;refine bN ?_;refine cO ?_;refine cO ?_;refine cg ?_;refine ai ?_;clear hK K;refine hK _ ?_;clear hK K;refine sK fun K hK=> ?_;refine ag (n':=3) kR kR ?_;refine au aj (M:=[]) (n:=1) [pv (4:Nat) (V.i (-1:Int))] kR kR tI ?_;refine aa ?_;refine ai ?_;refine hK _ ?_;clear hK K;refine av ?_;refine bg (.inr rfl) rfl rfl rfl
theorem qg(l:List Int)(hl:l.length<=65536)(hb:∀k,k< l.length->D6 (gi l k)=false):AC Tryz.prog 77 [V.ints l,.fn (.func 78) [] []] (.b false) []:=by refine eT aj bX Tryz.func77 Tryz.ntmps77 fun C hC hF=> ?_;refine sK fun K hK=> ?_;refine ag (n':=2) kR kR ?_;refine au aj (M:=[]) (n:=1) [pv (4:Nat) (V.b false)] kR kR tI ?_;refine aa ?_;refine ai ?_;refine hK _ ?_;clear hK K;refine sK fun K hK=> ?_;refine ag (n':=3) kR kR ?_;refine au aj (M:=[]) (n:=2) [pv (5:Nat) (V.sl (1:Nat) (List.length l) fun(k:Nat)=>[V.i (gi l k)]),pv (6:Nat) (V.fn (Fn.func (78:Nat)) [] [])] kR kR tI ?_;refine oC (vW l hl hb) rfl rfl rfl rfl rfl ?_;refine au aj (M:=[]) (n:=2) [pv (8:Nat) (V.b false),pv (4:Nat) (V.b false)] kR kR tI ?_;refine aa ?_;refine ai ?_;refine hK _ ?_;clear hK K;refine av ?_;refine bg (.inr rfl) rfl rfl rfl
def mR(l:List Pt)(radii:List Int)(x:Int)(i:Nat):Bool:=decide (gi radii i+(gp l i).1<=x) && decide (x<=gi radii i+(gp l i).2)
def FH(l:List Pt)(radii:List Int)(per angle:Nat)(x:Int):Option Nat:=(List.range l.length).find? fun i=>decide (i% per=angle) && mR l radii x i
def rE(l:List Pt)(radii:List Int)(per angle:Nat)(x:Int):Int×Int:=match FH l radii per angle x with
 |some i=>((i:Int),0)
 |none=>(0,5)
theorem ym{per angle i e:Nat}(hi:i% per=angle)(hp:0< per)(h0:0< e)(h1:e< per):(i+e)% per≠angle:=by
 have ha:angle< per:=by rw [<-hi];exact Nat.mod_lt _ hp
 have e1:(i+e)% per=(angle+e)% per:=by rw [<-hi,Nat.mod_add_mod]
 rw [e1];by_cases h:angle+e< per;·rw [Nat.mod_eq_of_lt h];omega
 ·rw [Nat.mod_eq_sub_mod oM,Nat.mod_eq_of_lt oM];omega
theorem rF{l:List Pt}{radii:List Int}{per angle:Nat}{x:Int}{i:Nat}(hi:i< l.length)(hm:i% per=angle)(hd:mR l radii x i=true)(h:∀j,j< i->(decide (j% per=angle) && mR l radii x j)=false):rE l radii per angle x=((i:Int),0):=by have:FH l radii per angle x=some i:=Aj hi (by simp [hm,hd]) h;rw [rE,this]
theorem Ac{l:List Pt}{radii:List Int}{per angle:Nat}{x:Int}(h:∀j,j< l.length->(decide (j% per=angle) && mR l radii x j)=false):rE l radii per angle x=(0,5):=by have:FH l radii per angle x=none:=DD h;rw [rE,this]
theorem Ip(l:List Pt)(radii:List Int)(per angle:Nat)(x:Int)(h0:bZ l=0)(hr:radii.length=l.length)(hb:∀k,k< radii.length->D6 (gi radii k)=false)(hp:1<=per/\per<=65536)(ha:angle< per) :
    AC Tryz.prog 30 [V.pts l,V.ints radii,.i per,.i angle,.i x] (.tup [.i (rE l radii per angle x).1,.i (rE l radii per angle x).2]) []:=by
  obtain⟨m4,m5⟩:=pM h0
  refine eT aj bX Tryz.func30 Tryz.ntmps30 fun C hC hF=> ?_
  refine sK fun K hK=> ?_
  refine ag (n':=2) kR kR ?_
  refine au aj (M:=[]) (n:=2) [pv (10:Nat) (V.i (0:Int)),pv (11:Nat) (V.i (0:Int))] kR kR tI ?_
  refine aa ?_
  refine ai ?_
  refine hK _ ?_
  clear hK K
  refine sK fun K hK=> ?_
  refine sK fun K hK=> ?_
  refine ag (n':=3) kR kR ?_
  refine au aj (M:=[]) (n:=1) [pv (15:Nat) (V.sl (2:Nat) (List.length l) fun(k:Nat)=>[V.i (Prod.fst (gp l k)),V.i (Prod.snd (gp l k))])] kR kR tI ?_
  refine oC (xE l oM) rfl rfl rfl rfl rfl ?_
  refine au aj (M:=[]) (n:=1) [pv (12:Nat) (V.i (bZ l))] kR kR tI ?_
  refine aa ?_
  refine ai ?_
  refine hK _ ?_
  clear hK K
  refine sK fun K hK=> ?_
  refine ag (n':=4) kR kR ?_
  refine au aj (M:=[]) (n:=2) [pv (17:Nat) (V.i (bZ l)),pv (18:Nat) (V.b !decide (bZ l=0))] kR kR tI ?_
  refine aa ?_
  refine ai ?_
  refine hK _ ?_
  clear hK K
  refine ax rfl (fun h=> ?_) (fun h=> ?_)
  · simp [h0]at h
  refine aq ?_
  refine ai ?_
  refine hK _ ?_
  clear hK K
  refine sK fun K hK=> ?_
  refine az ?_
  refine sK fun K hK=> ?_
  refine ag (n':=5) kR kR ?_
  refine aY aj 6 [] ?_
  refine aa ?_
  refine ai ?_
  refine hK _ ?_
  clear hK K
  refine ax rfl (fun h=> ?_) (fun h=> ?_)
  · simp [hr]at h
  refine sK fun K hK=> ?_
  refine ag (n':=6) kR kR ?_
  refine au aj (M:=[]) (n:=1) [pv (27:Nat) (V.sl (1:Nat) (List.length radii) fun(k:Nat)=>[V.i (gi radii k)])] kR kR tI ?_
  refine oC (qg radii oM hb) rfl rfl rfl rfl rfl ?_
  refine au aj (M:=[]) (n:=1) [pv (26:Nat) (V.b false)] kR kR tI ?_
  refine aa ?_
  refine ai ?_
  refine hK _ ?_
  clear hK K
  refine aB (t:=false) kR rfl ?_
  refine sK fun K hK=> ?_
  refine ag (n':=7) kR kR ?_
  refine aY aj 16 [] ?_
  refine aa ?_
  refine ai ?_
  refine hK _ ?_
  clear hK K
  refine ax rfl (fun h=> ?_) (fun h=> ?_)
  · simp at h;omega
  refine aq ?_
  refine cn ?_
  refine ai ?_
  refine hK _ ?_
  clear hK K
  refine sK fun K hK=> ?_
  refine sK fun K hK=> ?_
  refine ag (n':=8) kR kR ?_
  refine au aj (M:=[]) (n:=2) [pv (45:Nat) (V.i (↑angle:Int)),pv (13:Nat) (V.i (↑angle:Int))] kR kR tI ?_
  refine aa ?_
  refine ai ?_
  refine hK _ ?_
  clear hK K
  refine az ?_
  refine dO (fun i:Nat=>[(0,V.pts l),(1,V.ints radii),(2,.i per),(4,.i x),(13,.i i)]) (fun _=>[]) (fun i=>i% per=angle/\∀j,j< i->(decide (j% per=angle) && mR l radii x j)=false) (fun i=>l.length- i) angle ⟨Nat.mod_eq_of_lt ha,fun j hj=>by simp [Nat.mod_eq_of_lt (show j< per by omega)];omega⟩ ?_ ?_
  · exact aH [] (.cons rfl (.cons rfl (.cons rfl (.cons rfl (.cons rfl .nil))))) .nil rfl rfl
  rintro i ⟨hi,hbad⟩
  refine sK fun K hK=> ?_
  refine sK fun K hK=> ?_
  refine ag (n':=2) kR kR ?_
  refine aY aj 4 [] ?_
  refine aa ?_
  refine ai ?_
  refine hK _ ?_
  clear hK K
  refine ax rfl (fun h=> ?_) (fun h=> ?_)
  · simp at h
    have b0:=NW m5 i
    have b1: -16777216<=gi radii i/\gi radii i<=16777216:=by
      have:=hb i oM
      simp [D6]at this
      simpa using this
    have hri:i< radii.length:=by omega
    refine aq ?_
    refine ai ?_
    refine hK _ ?_
    clear hK K
    refine sK fun K hK=> ?_
    refine az ?_
    refine sK fun K hK=> ?_
    refine ag (n':=3) kR kR ?_
    refine aY aj 5 [(2,.c ((0:Int)<=(↑i:Int)/\(↑i:Int)< (↑(List.length radii):Int)) oM)] ?_
    refine aa ?_
    refine ai ?_
    refine hK _ ?_
    clear hK K
    refine sK fun K hK=> ?_
    refine ag (n':=4) kR kR ?_
    refine au aj (M:=[]) (n:=20) [pv (57:Nat) (V.i x),pv (58:Nat) (V.i (gi radii i)),pv (59:Nat) (V.sl (2:Nat) (List.length l) fun(k:Nat)=>[V.i (Prod.fst (gp l k)),V.i (Prod.snd (gp l k))]),pv (60:Nat) (V.i (↑i:Int)),pc (61:Nat) ((0:Int)<=(↑i:Int)/\(↑i:Int)< (↑(List.length l):Int)) (V.ptr [V.i (Prod.fst (gp l i)),V.i (Prod.snd (gp l i))]),pv (62:Nat) (V.ptr [V.i (Prod.fst (gp l i)),V.i (Prod.snd (gp l i))]),pv (63:Nat) (V.i (Prod.fst (gp l i))),pc (64:Nat) ((-9223372036854775808:Int)<=gi radii i+Prod.fst (gp l i)/\gi radii i+Prod.fst (gp l i)<=9223372036854775807) (V.i (gi radii i+Prod.fst (gp l i))),pv (65:Nat) (V.b (decide (gi radii i+Prod.fst (gp l i)<=x))),pv (66:Nat) (V.b (decide (gi radii i+Prod.fst (gp l i)<=x))),pc (67:Nat) ((True/\True)/\((decide (gi radii i+Prod.fst (gp l i)<=x) == true)=true->True)) (V.gd (decide (gi radii i+Prod.fst (gp l i)<=x) == true) (V.i x)),pc (68:Nat) ((True/\True)/\((decide (gi radii i+Prod.fst (gp l i)<=x) == true)=true->True)) (V.gd (decide (gi radii i+Prod.fst (gp l i)<=x) == true) (V.i (gi radii i))),pc (69:Nat) ((True/\True)/\((decide (gi radii i+Prod.fst (gp l i)<=x) == true)=true->True)) (V.gd (decide (gi radii i+Prod.fst (gp l i)<=x) == true) (V.sl (2:Nat) (List.length l) fun(k:Nat)=>[V.i (Prod.fst (gp l k)),V.i (Prod.snd (gp l k))])),pc (70:Nat) ((True/\True)/\((decide (gi radii i+Prod.fst (gp l i)<=x) == true)=true->True)) (V.gd (decide (gi radii i+Prod.fst (gp l i)<=x) == true) (V.i (↑i:Int))),pc (71:Nat) ((((decide (gi radii i+Prod.fst (gp l i)<=x) == true)=true->(decide (gi radii i+Prod.fst (gp l i)<=x) == true)=true)/\((decide (gi radii i+Prod.fst (gp l i)<=x) == true)=true->(decide (gi radii i+Prod.fst (gp l i)<=x) == true)=true)/\True)/\((decide (gi radii i+Prod.fst (gp l i)<=x) == true)=true->(0:Int)<=(↑i:Int)/\(↑i:Int)< (↑(List.length l):Int))) (V.gd (decide (gi radii i+Prod.fst (gp l i)<=x) == true) (V.ptr [V.i (Prod.fst (gp l i)),V.i (Prod.snd (gp l i))])),pc (72:Nat) ((((decide (gi radii i+Prod.fst (gp l i)<=x) == true)=true->(decide (gi radii i+Prod.fst (gp l i)<=x) == true)=true)/\True)/\((decide (gi radii i+Prod.fst (gp l i)<=x) == true)=true->True)) (V.gd (decide (gi radii i+Prod.fst (gp l i)<=x) == true) (V.ptr [V.i (Prod.snd (gp l i))])),pc (73:Nat) ((((decide (gi radii i+Prod.fst (gp l i)<=x) == true)=true->(decide (gi radii i+Prod.fst (gp l i)<=x) == true)=true)/\True)/\((decide (gi radii i+Prod.fst (gp l i)<=x) == true)=true->True)) (V.gd (decide (gi radii i+Prod.fst (gp l i)<=x) == true) (V.i (Prod.snd (gp l i)))),pc (74:Nat) ((((decide (gi radii i+Prod.fst (gp l i)<=x) == true)=true->(decide (gi radii i+Prod.fst (gp l i)<=x) == true)=true)/\((decide (gi radii i+Prod.fst (gp l i)<=x) == true)=true->(decide (gi radii i+Prod.fst (gp l i)<=x) == true)=true)/\True)/\((decide (gi radii i+Prod.fst (gp l i)<=x) == true)=true->(-9223372036854775808:Int)<=gi radii i+Prod.snd (gp l i)/\gi radii i+Prod.snd (gp l i)<=9223372036854775807)) (V.gd (decide (gi radii i+Prod.fst (gp l i)<=x) == true) (V.i (gi radii i+Prod.snd (gp l i)))),pc (75:Nat) ((((decide (gi radii i+Prod.fst (gp l i)<=x) == true)=true->(decide (gi radii i+Prod.fst (gp l i)<=x) == true)=true)/\((decide (gi radii i+Prod.fst (gp l i)<=x) == true)=true->(decide (gi radii i+Prod.fst (gp l i)<=x) == true)=true)/\True)/\((decide (gi radii i+Prod.fst (gp l i)<=x) == true)=true->True)) (V.gd (decide (gi radii i+Prod.fst (gp l i)<=x) == true) (V.b (decide (x<=gi radii i+Prod.snd (gp l i))))),pc (76:Nat) ((decide (gi radii i+Prod.fst (gp l i)<=x)=true->(decide (gi radii i+Prod.fst (gp l i)<=x) == true)=true)/\True) (V.b (decide (gi radii i+Prod.fst (gp l i)<=x) && decide (x<=gi radii i+Prod.snd (gp l i))))] kR kR ⟨oM,oM,⟨⟨tI,tI⟩,(fun _=>tI)⟩,⟨⟨tI,tI⟩,(fun _=>tI)⟩,⟨⟨tI,tI⟩,(fun _=>tI)⟩,⟨⟨tI,tI⟩,(fun _=>tI)⟩,⟨⟨(by(exact fun h=>h)),⟨(by(exact fun h=>h)),tI⟩⟩,(by(intro hg;simp at hg;omega))⟩,⟨⟨(by(exact fun h=>h)),tI⟩,(fun _=>tI)⟩,⟨⟨(by(exact fun h=>h)),tI⟩,(fun _=>tI)⟩,⟨⟨(by(exact fun h=>h)),⟨(by(exact fun h=>h)),tI⟩⟩,(by(intro hg;simp at hg;omega))⟩,⟨⟨(by(exact fun h=>h)),⟨(by(exact fun h=>h)),tI⟩⟩,(fun _=>tI)⟩,⟨(by(intro h;rw [h];rfl)),tI⟩,tI⟩ ?_
    refine aa ?_
    refine ai ?_
    refine hK _ ?_
    clear hK K
    refine ax rfl (fun h2=> ?_) (fun h2=> ?_)
    ·
      refine sK fun K hK=> ?_
      refine ag (n':=5) kR kR ?_
      refine au aj (M:=[]) (n:=3) [pv (77:Nat) (V.i (↑i:Int)),pv (10:Nat) (V.i (↑i:Int)),pv (11:Nat) (V.i (0:Int))] kR kR tI ?_
      refine aa ?_
      refine ai ?_
      refine hK _ ?_
      clear hK K
      refine av ?_
      refine dL ?_
      refine bB ?_
      refine bB ?_
      refine dL ?_
      refine bB ?_
      rw [rF h hi h2 hbad]
      refine bg (.inr rfl) rfl rfl rfl
    ·
      refine aq ?_
      refine cn ?_
      refine ai ?_
      refine hK _ ?_
      clear hK K
      refine ag (n':=5) kR kR ?_
      refine aY aj 4 [(2,.c (iR ((↑i:Int)+(↑per:Int))) oM)] ?_
      refine aa ?_
      refine ai ?_
      refine⟨i+per,⟨by simpa using hi,fun j hj=> ?_⟩,aH [] (.cons rfl (.cons rfl (.cons rfl (.cons rfl (.cons rfl .nil))))) .nil rfl rfl,by omega⟩
      by_cases h3:j< i
      · exact hbad j h3
      · by_cases h4:j=i
        · subst h4
          have:mR l radii x j=false:=h2
          simp [this]
        · have:=ym (e:=j- i) hi oM oM oM
          rw [show i+(j- i)=j by omega]at this
          simp [this]
  · simp at h
    refine bN ?_
    refine cO ?_
    refine cO ?_
    refine cg ?_
    refine ai ?_
    clear hK K
    refine hK _ ?_
    clear hK K
    refine sK fun K hK=> ?_
    refine ag (n':=3) kR kR ?_
    refine au aj (M:=[]) (n:=2) [pv (10:Nat) (V.i (0:Int)),pv (11:Nat) (V.i (5:Int))] kR kR tI ?_
    refine aa ?_
    refine ai ?_
    refine hK _ ?_
    clear hK K
    refine av ?_
    rw [Ac fun j hj=>hbad j oM]
    refine bg (.inr rfl) rfl rfl rfl
def Bl.c(b:Bl):List V:=[.i b.per,.i b.rim,.i b.core,.i b.land,.i b.slow,.i b.fast]
abbrev Bl.v(b:Bl):V:= .agg b.c
def vt(b:Bl):Int:=if aC b.per 1 65536 && aC b.rim 0 4194304 && aC b.core 0 b.rim && aC b.land 0 65536 && aC b.fast 0 65536 && aC b.slow 0 b.fast then 0 else 2
theorem vu{b:Bl}:vt b=0<->b.ok:=by
 unfold vt Bl.ok;constructor
 ·intro h;split at h;·rename_i h1;simp [aC]at h1;omega
  ·cases h
 ·intro h;rw [if_pos];simp [aC];omega
theorem NC{b:Bl}(h:¬b.ok):vt b=2:=by
 have h1:vt b≠0:=fun e=>h (vu.1 e);unfold vt at h1 ⊢;split;·rename_i h2;rw [if_pos h2]at h1;exact absurd rfl h1
 ·rfl
theorem fe(x lo hi:Int):AC Tryz.prog 164 [.i x,.i lo,.i hi] (.b (aC x lo hi)) []:=by refine eT aj bX Tryz.func164 Tryz.ntmps164 fun C hC hF=> ?_;refine sK fun K hK=> ?_;refine ag (n':=2) kR kR ?_;refine au aj (M:=[]) (n:=1) [pv (6:Nat) (V.b false)] kR kR tI ?_;refine aa ?_;refine ai ?_;refine hK _ ?_;clear hK K;refine sK fun K hK=> ?_;refine ag (n':=3) kR kR ?_;refine aY aj 9 [] ?_;refine aa ?_;refine ai ?_;refine hK _ ?_;clear hK K;refine av ?_;refine rP (V.b (decide (lo<=x) && decide (x<=hi)))
theorem DM(b:Bl):AC Tryz.prog 122 [b.v] (.i (vt b)) []:=by
 refine eT aj bX Tryz.func122 Tryz.ntmps122 fun C hC hF=> ?_;refine sK fun K hK=> ?_;refine ag (n':=2) kR kR ?_;refine au aj (M:=[]) (n:=2) [pv (1:Nat) (V.ptr [V.i (Bl.per b),V.i (Bl.rim b),V.i (Bl.core b),V.i (Bl.land b),V.i (Bl.slow b),V.i (Bl.fast b)]),pv (2:Nat) (V.i (0:Int))] kR kR tI ?_;refine aa ?_;refine ai ?_;refine hK _ ?_;clear hK K;refine sK fun K hK=> ?_;refine sK fun K hK=> ?_;refine ag (n':=3) kR kR ?_;refine au aj (M:=[]) (n:=2) [pv (3:Nat) (V.ptr [V.i (Bl.per b),V.i (Bl.rim b),V.i (Bl.core b),V.i (Bl.land b),V.i (Bl.slow b),V.i (Bl.fast b)]),pv (4:Nat) (V.i (Bl.per b))] kR kR tI ?_;refine eC (fe b.per 1 65536) ?_;refine aY aj 4 [] ?_;refine eG 1 (g:=(!aC (Bl.per b) (1:Int) (65536:Int)) == false) (fun h=>fe b.rim 0 4194304) ?_;refine aY aj 7 [] ?_;refine eG 2 (g:=(!aC (Bl.per b) (1:Int) (65536:Int) || !aC (Bl.rim b) (0:Int) (4194304:Int)) == false) (fun h=>fe b.core 0 b.rim) ?_;refine aY aj 5 [] ?_;refine eG 1 (g:=(!aC (Bl.per b) (1:Int) (65536:Int) || !aC (Bl.rim b) (0:Int) (4194304:Int) || !aC (Bl.core b) (0:Int) (Bl.rim b)) == false) (fun h=>fe b.land 0 65536) ?_;refine aY aj 5 [] ?_;refine eG 1 (g:=(!aC (Bl.per b) (1:Int) (65536:Int) || !aC (Bl.rim b) (0:Int) (4194304:Int) || !aC (Bl.core b) (0:Int) (Bl.rim b) || !aC (Bl.land b) (0:Int) (65536:Int)) == false) (fun h=>fe b.fast 0 65536) ?_;refine aY aj 7 [] ?_;refine eG 2 (g:=(!aC (Bl.per b) (1:Int) (65536:Int) || !aC (Bl.rim b) (0:Int) (4194304:Int) || !aC (Bl.core b) (0:Int) (Bl.rim b) || !aC (Bl.land b) (0:Int) (65536:Int) || !aC (Bl.fast b) (0:Int) (65536:Int)) == false) (fun h=>fe b.slow 0 b.fast) ?_;refine aY aj 2 [] ?_;refine aa ?_;refine ai ?_;refine hK _ ?_;clear hK K;refine ax (t:= !aC (Bl.per b) (1:Int) (65536:Int) || !aC (Bl.rim b) (0:Int) (4194304:Int) || !aC (Bl.core b) (0:Int) (Bl.rim b) || !aC (Bl.land b) (0:Int) (65536:Int) || !aC (Bl.fast b) (0:Int) (65536:Int) || !aC (Bl.slow b) (0:Int) (Bl.fast b)) kR (fun c1=> ?_) (fun c1=> ?_)
 ·refine sK fun K hK=> ?_;refine ag (n':=4) kR kR ?_;refine au aj (M:=[]) (n:=1) [pv (2:Nat) (V.i (2:Int))] kR kR tI ?_;refine aa ?_;refine ai ?_;refine hK _ ?_;clear hK K;refine av ?_;refine bB ?_;have e:vt b=2:=by rw [vt,if_neg];intro h;simp only [Bool.and_eq_true]at h;simp [h.1.1.1.1.1,h.1.1.1.1.2,h.1.1.1.2,h.1.1.2,h.1.2,h.2]at c1
  rw [e];refine bg (v':=V.i (2:Int)) (.inr rfl) kR kR kR
 ·refine aq ?_;refine ai ?_;refine hK _ ?_;clear hK K;refine sK fun K hK=> ?_;refine ag (n':=4) kR kR ?_;refine au aj (M:=[]) (n:=1) [pv (2:Nat) (V.i (0:Int))] kR kR tI ?_;refine aa ?_;refine ai ?_;refine hK _ ?_;clear hK K;refine av ?_;have e:vt b=0:=by rw [vt,if_pos];simpa [and_assoc]using c1
  rw [e];refine bg (v':=V.i (0:Int)) (.inr rfl) kR kR kR
def sM(b:Bl)(l:List Pt):List V:=b.c++[V.pts l,.i b.per]
structure ku(b:Bl)(l:List Pt):Prop where
  b0:vt b=0
  l0:rR l=0
theorem ku.bl{b:Bl}{l:List Pt}(h:ku b l):b.ok:=vu.1 h.b0
theorem ku.pt{b:Bl}{l:List Pt}(h:ku b l)(k:Nat)(hk:k< l.length):(-4194304<=(gp l k).1/\(gp l k).1<=4194304)/\ -4194304<=(gp l k).2/\(gp l k).2<=4194304:=kQ.1 ((lN.1 h.l0).2 k hk)
theorem ku.len{b:Bl}{l:List Pt}(h:ku b l):l.length<=4096:=(lN.1 h.l0).1
theorem sj(b:Bl)(l:List Pt)(h:ku b l):AC Tryz.prog 74 [b.v,V.pts l] (.tup [.ptr (sM b l),.i 0]) []:=by have hl:=h.len;refine eT aj bX Tryz.func74 Tryz.ntmps74 fun C hC hF=> ?_;refine sK fun K hK=> ?_;refine ag (n':=2) kR kR ?_;refine au aj (M:=[]) (n:=3) [pv (2:Nat) (V.ptr [V.i (Bl.per b),V.i (Bl.rim b),V.i (Bl.core b),V.i (Bl.land b),V.i (Bl.slow b),V.i (Bl.fast b)]),pv (4:Nat) (V.c (Value.pointer none)),pv (5:Nat) (V.i (0:Int))] kR kR tI ?_;refine aa ?_;refine ai ?_;refine hK _ ?_;clear hK K;refine sK fun K hK=> ?_;refine sK fun K hK=> ?_;refine ag (n':=3) kR kR ?_;refine au aj (M:=[]) (n:=1) [pv (8:Nat) (V.agg [V.i (Bl.per b),V.i (Bl.rim b),V.i (Bl.core b),V.i (Bl.land b),V.i (Bl.slow b),V.i (Bl.fast b)])] kR kR tI ?_;refine eC (DM b) ?_;rw [h.b0];refine au aj (M:=[]) (n:=1) [pv (6:Nat) (V.i (0:Int))] kR kR tI ?_;refine aa ?_;refine ai ?_;refine hK _ ?_;clear hK K;refine sK fun K hK=> ?_;refine ag (n':=4) kR kR ?_;refine au aj (M:=[]) (n:=2) [pv (10:Nat) (V.i (0:Int)),pv (11:Nat) (V.b false)] kR kR tI ?_;refine aa ?_;refine ai ?_;refine hK _ ?_;clear hK K;refine aB (t:=false) kR rfl ?_;refine aq ?_;refine ai ?_;refine hK _ ?_;clear hK K;refine sK fun K hK=> ?_;refine sK fun K hK=> ?_;refine ag (n':=5) kR kR ?_;refine au aj (M:=[]) (n:=1) [pv (13:Nat) (V.sl (2:Nat) (List.length l) fun(k:Nat)=>[V.i (Prod.fst (gp l k)),V.i (Prod.snd (gp l k))])] kR kR tI ?_;refine eC (qk l oM) ?_;rw [h.l0];refine au aj (M:=[]) (n:=1) [pv (7:Nat) (V.i (0:Int))] kR kR tI ?_;refine aa ?_;refine ai ?_;refine hK _ ?_;clear hK K;refine sK fun K hK=> ?_;refine ag (n':=6) kR kR ?_;refine au aj (M:=[]) (n:=2) [pv (15:Nat) (V.i (0:Int)),pv (16:Nat) (V.b false)] kR kR tI ?_;refine aa ?_;refine ai ?_;refine hK _ ?_;clear hK K;refine aB (t:=false) kR rfl ?_;refine aq ?_;refine ai ?_;refine hK _ ?_;clear hK K;refine sK fun K hK=> ?_;refine ag (n':=7) kR kR ?_;refine aY aj 8 [] ?_;refine aa ?_;refine ai ?_;refine hK _ ?_;clear hK K;refine av ?_;refine rP (V.tup [V.ptr [V.i (Bl.per b),V.i (Bl.rim b),V.i (Bl.core b),V.i (Bl.land b),V.i (Bl.slow b),V.i (Bl.fast b),V.sl (2:Nat) (List.length l) fun(k:Nat)=>[V.i (Prod.fst (gp l k)),V.i (Prod.snd (gp l k))],V.i (Bl.per b)],V.i (0:Int)])
def LN(e:BE):List V:=[.i e.rule,.i e.at',.i e.f,.i e.t,.i e.w]
def P8(b:Bl)(l:List Pt)(i:Nat):List V:=[.i 1,.i i,.i (-1),.i i,.i (dI b l i)]
theorem FI(b:Bl)(l:List Pt)(h:ku b l)(i:Nat)(hi:i< l.length):AC Tryz.prog 123 [.ptr (sM b l),.i 1,.i i] (.tup [.agg (P8 b l i),.b true]) []:=by
 obtain⟨⟨q1,q2⟩,⟨q3,q4⟩,⟨q5,q6⟩,⟨q7,q8⟩,⟨q9,q10⟩,q11,q12⟩:=h.bl;obtain⟨⟨p1,p2⟩,p3,p4⟩:=h.pt i hi;have hl:=h.len;refine eT aj bX Tryz.func123 Tryz.ntmps123 fun C hC hF=> ?_;refine sK fun K hK=> ?_;refine ag (n':=2) kR kR ?_;refine au aj (M:=[]) (n:=2) [pn (6:Nat) (V.ref (100006:Nat) (0:Nat)) (100006:Nat) (Ob.box (235:Nat) [V.i (0:Int),V.i (0:Int),V.i (0:Int),V.i (0:Int),V.i (0:Int)]),pv (7:Nat) (V.b false)] kR kR tI ?_;refine aa ?_;refine ai ?_;refine hK _ ?_;clear hK K;refine sK fun K hK=> ?_;refine ag (n':=3) kR kR ?_;refine aY aj 8 [(7,.c ((0:Nat)+(5:Nat)<=(5:Nat)) oM)] ?_;refine aa ?_;refine ai ?_;refine hK _ ?_;clear hK K;refine sK fun K hK=> ?_;refine sK fun K hK=> ?_;refine ag (n':=4) kR kR ?_;refine aY aj 11 [] ?_;refine aa ?_;refine ai ?_;refine hK _ ?_;clear hK K;refine ax (t:=decide ((↑i:Int)< 0) || decide ((↑(List.length l):Int)<=(↑i:Int))) kR (fun c1=> ?_) (fun c1=> ?_);·simp at c1;omega
 clear c1;refine aq ?_;refine ai ?_;refine hK _ ?_;clear hK K;refine sK fun K hK=> ?_;refine ag (n':=5) kR kR ?_;refine aY aj 9 [(5,.c ((0:Int)<=(↑i:Int)/\(↑i:Int)< (↑(List.length l):Int)) oM),(2,.c ((0:Nat)+(2:Nat)<=(2:Nat)) oM)] ?_;refine aa ?_;refine ai ?_;refine hK _ ?_;clear hK K;refine sK fun K hK=> ?_;refine sK fun K hK=> ?_;refine ag (n':=6) kR kR ?_;refine au aj (M:=[]) (n:=1) [pv (35:Nat) (V.i (1:Int))] kR kR tI ?_;refine aa ?_;refine ai ?_;refine hK _ ?_;clear hK K;refine az ?_;refine sK fun K hK=> ?_;refine ag (n':=7) kR kR ?_;refine au aj (M:=[]) (n:=2) [pv (38:Nat) (V.b true),pv (37:Nat) (V.b true)] kR kR tI ?_;refine aa ?_;refine ai ?_;refine hK _ ?_;clear hK K;refine bQ (t:=true) kR rfl ?_;refine bU (n':=8) kR kR ?_;refine aY aj 12 [(6,.c ((1:Nat)<=(2:Nat)) oM),(0,.c (iR (Bl.rim b- Prod.snd (gp l i))) oM),(1,.c ((2:Nat)+(1:Nat)<=(5:Nat)) oM),(1,.c ((4:Nat)+(1:Nat)<=(5:Nat)) oM)] ?_;refine aa ⟨kR,?_⟩;refine cn ?_;refine ai ?_;refine hK _ ?_;clear hK K;refine sK fun K hK=> ?_;refine ag (n':=9) kR kR ?_;refine aY aj 3 [(0,.c ((0:Nat)<=(5:Nat)) oM),(0,.c ((0:Nat)+(5:Nat)<=(5:Nat)) oM)] ?_;refine aa ?_;refine ai ?_;refine hK _ ?_;clear hK K;refine av ?_;refine rP (V.tup [V.agg [V.i (1:Int),V.i (↑i:Int),V.i (-1:Int),V.i (↑i:Int),V.i (Bl.rim b- Prod.snd (gp l i))],V.b true])
theorem FJ(b:Bl)(l:List Pt)(h:ku b l)(i:Nat)(hi:i< l.length):AC Tryz.prog 123 [.ptr (sM b l),.i 2,.i i] (.tup [.agg [.i 2,.i i,.i i,.i (-1),.i ((gp l i).1- b.core)],.b true]) []:=by
 obtain⟨⟨q1,q2⟩,⟨q3,q4⟩,⟨q5,q6⟩,⟨q7,q8⟩,⟨q9,q10⟩,q11,q12⟩:=h.bl;obtain⟨⟨p1,p2⟩,p3,p4⟩:=h.pt i hi;have hl:=h.len;refine eT aj bX Tryz.func123 Tryz.ntmps123 fun C hC hF=> ?_;refine sK fun K hK=> ?_;refine ag (n':=2) kR kR ?_;refine au aj (M:=[]) (n:=2) [pn (6:Nat) (V.ref (100006:Nat) (0:Nat)) (100006:Nat) (Ob.box (235:Nat) [V.i (0:Int),V.i (0:Int),V.i (0:Int),V.i (0:Int),V.i (0:Int)]),pv (7:Nat) (V.b false)] kR kR tI ?_;refine aa ?_;refine ai ?_;refine hK _ ?_;clear hK K;refine sK fun K hK=> ?_;refine ag (n':=3) kR kR ?_;refine aY aj 8 [(7,.c ((0:Nat)+(5:Nat)<=(5:Nat)) oM)] ?_;refine aa ?_;refine ai ?_;refine hK _ ?_;clear hK K;refine sK fun K hK=> ?_;refine sK fun K hK=> ?_;refine ag (n':=4) kR kR ?_;refine aY aj 11 [] ?_;refine aa ?_;refine ai ?_;refine hK _ ?_;clear hK K;refine ax (t:=decide ((↑i:Int)< 0) || decide ((↑(List.length l):Int)<=(↑i:Int))) kR (fun c1=> ?_) (fun c1=> ?_);·simp at c1;omega
 clear c1;refine aq ?_;refine ai ?_;refine hK _ ?_;clear hK K;refine sK fun K hK=> ?_;refine ag (n':=5) kR kR ?_;refine aY aj 9 [(5,.c ((0:Int)<=(↑i:Int)/\(↑i:Int)< (↑(List.length l):Int)) oM),(2,.c ((0:Nat)+(2:Nat)<=(2:Nat)) oM)] ?_;refine aa ?_;refine ai ?_;refine hK _ ?_;clear hK K;refine sK fun K hK=> ?_;refine sK fun K hK=> ?_;refine ag (n':=6) kR kR ?_;refine au aj (M:=[]) (n:=1) [pv (35:Nat) (V.i (2:Int))] kR kR tI ?_;refine aa ?_;refine ai ?_;refine hK _ ?_;clear hK K;refine az ?_;refine sK fun K hK=> ?_;refine ag (n':=7) kR kR ?_;refine au aj (M:=[]) (n:=2) [pv (38:Nat) (V.b false),pv (37:Nat) (V.b false)] kR kR tI ?_;refine aa ?_;refine ai ?_;refine hK _ ?_;clear hK K;refine aB (t:=false) kR rfl ?_;refine sK fun K hK=> ?_;refine ag (n':=8) kR kR ?_;refine au aj (M:=[]) (n:=2) [pv (50:Nat) (V.b true),pv (49:Nat) (V.b true)] kR kR tI ?_;refine aa ?_;refine ai ?_;refine hK _ ?_;clear hK K;refine bQ (t:=true) kR rfl ?_;refine bU (n':=9) kR kR ?_;refine aY aj 12 [(1,.c ((0:Nat)<=(2:Nat)) oM),(5,.c (iR (Prod.fst (gp l i)- Bl.core b)) oM),(1,.c ((3:Nat)+(1:Nat)<=(5:Nat)) oM),(1,.c ((4:Nat)+(1:Nat)<=(5:Nat)) oM)] ?_;refine aa ⟨kR,?_⟩;refine cn ?_;refine ai ?_;refine hK _ ?_;clear hK K;refine sK fun K hK=> ?_;refine ag (n':=10) kR kR ?_;refine aY aj 3 [(0,.c ((0:Nat)<=(5:Nat)) oM),(0,.c ((0:Nat)+(5:Nat)<=(5:Nat)) oM)] ?_;refine aa ?_;refine ai ?_;refine hK _ ?_;clear hK K;refine av ?_;refine rP (V.tup [V.agg [V.i (2:Int),V.i (↑i:Int),V.i (↑i:Int),V.i (-1:Int),V.i (Prod.fst (gp l i)- Bl.core b)],V.b true])
theorem FK(b:Bl)(l:List Pt)(h:ku b l)(i:Nat)(hi:i< l.length)(h0:0< i):AC Tryz.prog 123 [.ptr (sM b l),.i 3,.i i] (.tup [.agg (LN (lz b i)),.b true]) []:=by
 obtain⟨⟨q1,q2⟩,⟨q3,q4⟩,⟨q5,q6⟩,⟨q7,q8⟩,⟨q9,q10⟩,q11,q12⟩:=h.bl;obtain⟨⟨p1,p2⟩,p3,p4⟩:=h.pt i hi;have hl:=h.len;have e1:((i- 1:Nat):Int)=(i:Int)- 1:=by omega
 refine eT aj bX Tryz.func123 Tryz.ntmps123 fun C hC hF=> ?_;refine sK fun K hK=> ?_;refine ag (n':=2) kR kR ?_;refine au aj (M:=[]) (n:=2) [pn (6:Nat) (V.ref (100006:Nat) (0:Nat)) (100006:Nat) (Ob.box (235:Nat) [V.i (0:Int),V.i (0:Int),V.i (0:Int),V.i (0:Int),V.i (0:Int)]),pv (7:Nat) (V.b false)] kR kR tI ?_;refine aa ?_;refine ai ?_;refine hK _ ?_;clear hK K;refine sK fun K hK=> ?_;refine ag (n':=3) kR kR ?_;refine aY aj 8 [(7,.c ((0:Nat)+(5:Nat)<=(5:Nat)) oM)] ?_;refine aa ?_;refine ai ?_;refine hK _ ?_;clear hK K;refine sK fun K hK=> ?_;refine sK fun K hK=> ?_;refine ag (n':=4) kR kR ?_;refine aY aj 11 [] ?_;refine aa ?_;refine ai ?_;refine hK _ ?_;clear hK K;refine ax (t:=decide ((↑i:Int)< 0) || decide ((↑(List.length l):Int)<=(↑i:Int))) kR (fun c1=> ?_) (fun c1=> ?_);·simp at c1;omega
 clear c1;refine aq ?_;refine ai ?_;refine hK _ ?_;clear hK K;refine sK fun K hK=> ?_;refine ag (n':=5) kR kR ?_;refine aY aj 9 [(5,.c ((0:Int)<=(↑i:Int)/\(↑i:Int)< (↑(List.length l):Int)) oM),(2,.c ((0:Nat)+(2:Nat)<=(2:Nat)) oM)] ?_;refine aa ?_;refine ai ?_;refine hK _ ?_;clear hK K;refine sK fun K hK=> ?_;refine sK fun K hK=> ?_;refine ag (n':=6) kR kR ?_;refine au aj (M:=[]) (n:=1) [pv (35:Nat) (V.i (3:Int))] kR kR tI ?_;refine aa ?_;refine ai ?_;refine hK _ ?_;clear hK K;refine az ?_;refine sK fun K hK=> ?_;refine ag (n':=7) kR kR ?_;refine au aj (M:=[]) (n:=2) [pv (38:Nat) (V.b false),pv (37:Nat) (V.b false)] kR kR tI ?_;refine aa ?_;refine ai ?_;refine hK _ ?_;clear hK K;refine aB (t:=false) kR rfl ?_;refine sK fun K hK=> ?_;refine ag (n':=8) kR kR ?_;refine au aj (M:=[]) (n:=2) [pv (50:Nat) (V.b false),pv (49:Nat) (V.b false)] kR kR tI ?_;refine aa ?_;refine ai ?_;refine hK _ ?_;clear hK K;refine aB (t:=false) kR rfl ?_;refine sK fun K hK=> ?_;refine ag (n':=9) kR kR ?_;refine au aj (M:=[]) (n:=2) [pv (62:Nat) (V.b true),pv (61:Nat) (V.b true)] kR kR tI ?_;refine aa ?_;refine ai ?_;refine hK _ ?_;clear hK K;refine bQ (t:=true) kR rfl ?_;refine sK fun K hK=> ?_;refine bU (n':=10) kR kR ?_;refine aY aj 12 [(1,.c (iR ((↑i:Int)- 1)) oM),(5,.c (iR (-Bl.slow b)) oM),(1,.c ((2:Nat)+(1:Nat)<=(5:Nat)) oM),(1,.c ((4:Nat)+(1:Nat)<=(5:Nat)) oM)] ?_;refine aa ⟨kR,?_⟩;refine ai ?_;refine hK _ ?_;clear hK K;refine sK fun K hK=> ?_;refine ag (n':=11) kR kR ?_;refine aY aj 5 [(0,.c ((0:Nat)<=(5:Nat)) oM),(2,.c ((0:Nat)+(5:Nat)<=(5:Nat)) oM)] ?_;refine aa ?_;refine ai ?_;refine hK _ ?_;clear hK K;refine av ?_;refine dL ?_;refine bB ?_;rw [LN,lz,e1];refine bg (v':=V.tup [V.agg [V.i (3:Int),V.i (↑i:Int),V.i ((↑i:Int)- 1),V.i (↑i:Int),V.i (-Bl.slow b)],V.b (decide ((0:Int)< (↑i:Int)))]) (.inr rfl) kR ?_ kR;simpa using h0
theorem Dy(b:Bl)(l:List Pt)(h:ku b l)(i:Nat)(hi:i< l.length)(h0:i=0):AC Tryz.prog 123 [.ptr (sM b l),.i 3,.i i] (.tup [.agg [.i 3,.i i,.i ((i:Int)- 1),.i i,.i (-b.slow)],.b false]) []:=by
 obtain⟨⟨q1,q2⟩,⟨q3,q4⟩,⟨q5,q6⟩,⟨q7,q8⟩,⟨q9,q10⟩,q11,q12⟩:=h.bl;obtain⟨⟨p1,p2⟩,p3,p4⟩:=h.pt i hi;have hl:=h.len;refine eT aj bX Tryz.func123 Tryz.ntmps123 fun C hC hF=> ?_;refine sK fun K hK=> ?_;refine ag (n':=2) kR kR ?_;refine au aj (M:=[]) (n:=2) [pn (6:Nat) (V.ref (100006:Nat) (0:Nat)) (100006:Nat) (Ob.box (235:Nat) [V.i (0:Int),V.i (0:Int),V.i (0:Int),V.i (0:Int),V.i (0:Int)]),pv (7:Nat) (V.b false)] kR kR tI ?_;refine aa ?_;refine ai ?_;refine hK _ ?_;clear hK K;refine sK fun K hK=> ?_;refine ag (n':=3) kR kR ?_;refine aY aj 8 [(7,.c ((0:Nat)+(5:Nat)<=(5:Nat)) oM)] ?_;refine aa ?_;refine ai ?_;refine hK _ ?_;clear hK K;refine sK fun K hK=> ?_;refine sK fun K hK=> ?_;refine ag (n':=4) kR kR ?_;refine aY aj 11 [] ?_;refine aa ?_;refine ai ?_;refine hK _ ?_;clear hK K;refine ax (t:=decide ((↑i:Int)< 0) || decide ((↑(List.length l):Int)<=(↑i:Int))) kR (fun c1=> ?_) (fun c1=> ?_);·simp at c1;omega
 clear c1;refine aq ?_;refine ai ?_;refine hK _ ?_;clear hK K;refine sK fun K hK=> ?_;refine ag (n':=5) kR kR ?_;refine aY aj 9 [(5,.c ((0:Int)<=(↑i:Int)/\(↑i:Int)< (↑(List.length l):Int)) oM),(2,.c ((0:Nat)+(2:Nat)<=(2:Nat)) oM)] ?_;refine aa ?_;refine ai ?_;refine hK _ ?_;clear hK K;refine sK fun K hK=> ?_;refine sK fun K hK=> ?_;refine ag (n':=6) kR kR ?_;refine au aj (M:=[]) (n:=1) [pv (35:Nat) (V.i (3:Int))] kR kR tI ?_;refine aa ?_;refine ai ?_;refine hK _ ?_;clear hK K;refine az ?_;refine sK fun K hK=> ?_;refine ag (n':=7) kR kR ?_;refine au aj (M:=[]) (n:=2) [pv (38:Nat) (V.b false),pv (37:Nat) (V.b false)] kR kR tI ?_;refine aa ?_;refine ai ?_;refine hK _ ?_;clear hK K;refine aB (t:=false) kR rfl ?_;refine sK fun K hK=> ?_;refine ag (n':=8) kR kR ?_;refine au aj (M:=[]) (n:=2) [pv (50:Nat) (V.b false),pv (49:Nat) (V.b false)] kR kR tI ?_;refine aa ?_;refine ai ?_;refine hK _ ?_;clear hK K;refine aB (t:=false) kR rfl ?_;refine sK fun K hK=> ?_;refine ag (n':=9) kR kR ?_;refine au aj (M:=[]) (n:=2) [pv (62:Nat) (V.b true),pv (61:Nat) (V.b true)] kR kR tI ?_;refine aa ?_;refine ai ?_;refine hK _ ?_;clear hK K;refine bQ (t:=true) kR rfl ?_;refine sK fun K hK=> ?_;refine bU (n':=10) kR kR ?_;refine aY aj 12 [(1,.c (iR ((↑i:Int)- 1)) oM),(5,.c (iR (-Bl.slow b)) oM),(1,.c ((2:Nat)+(1:Nat)<=(5:Nat)) oM),(1,.c ((4:Nat)+(1:Nat)<=(5:Nat)) oM)] ?_;refine aa ⟨kR,?_⟩;refine ai ?_;refine hK _ ?_;clear hK K;refine sK fun K hK=> ?_;refine ag (n':=11) kR kR ?_;refine aY aj 5 [(0,.c ((0:Nat)<=(5:Nat)) oM),(2,.c ((0:Nat)+(5:Nat)<=(5:Nat)) oM)] ?_;refine aa ?_;refine ai ?_;refine hK _ ?_;clear hK K;refine av ?_;refine dL ?_;refine bB ?_;refine bg (v':=V.tup [V.agg [V.i (3:Int),V.i (↑i:Int),V.i ((↑i:Int)- 1),V.i (↑i:Int),V.i (-Bl.slow b)],V.b (decide ((0:Int)< (↑i:Int)))]) (.inr rfl) kR ?_ kR;simp [h0]
theorem FL(b:Bl)(l:List Pt)(h:ku b l)(i:Nat)(hi:i< l.length)(h0:0< i):AC Tryz.prog 123 [.ptr (sM b l),.i 4,.i i] (.tup [.agg (LN (me b i)),.b true]) []:=by
 obtain⟨⟨q1,q2⟩,⟨q3,q4⟩,⟨q5,q6⟩,⟨q7,q8⟩,⟨q9,q10⟩,q11,q12⟩:=h.bl;obtain⟨⟨p1,p2⟩,p3,p4⟩:=h.pt i hi;have hl:=h.len;have e1:((i- 1:Nat):Int)=(i:Int)- 1:=by omega
 refine eT aj bX Tryz.func123 Tryz.ntmps123 fun C hC hF=> ?_;refine sK fun K hK=> ?_;refine ag (n':=2) kR kR ?_;refine au aj (M:=[]) (n:=2) [pn (6:Nat) (V.ref (100006:Nat) (0:Nat)) (100006:Nat) (Ob.box (235:Nat) [V.i (0:Int),V.i (0:Int),V.i (0:Int),V.i (0:Int),V.i (0:Int)]),pv (7:Nat) (V.b false)] kR kR tI ?_;refine aa ?_;refine ai ?_;refine hK _ ?_;clear hK K;refine sK fun K hK=> ?_;refine ag (n':=3) kR kR ?_;refine aY aj 8 [(7,.c ((0:Nat)+(5:Nat)<=(5:Nat)) oM)] ?_;refine aa ?_;refine ai ?_;refine hK _ ?_;clear hK K;refine sK fun K hK=> ?_;refine sK fun K hK=> ?_;refine ag (n':=4) kR kR ?_;refine aY aj 11 [] ?_;refine aa ?_;refine ai ?_;refine hK _ ?_;clear hK K;refine ax (t:=decide ((↑i:Int)< 0) || decide ((↑(List.length l):Int)<=(↑i:Int))) kR (fun c1=> ?_) (fun c1=> ?_);·simp at c1;omega
 clear c1;refine aq ?_;refine ai ?_;refine hK _ ?_;clear hK K;refine sK fun K hK=> ?_;refine ag (n':=5) kR kR ?_;refine aY aj 9 [(5,.c ((0:Int)<=(↑i:Int)/\(↑i:Int)< (↑(List.length l):Int)) oM),(2,.c ((0:Nat)+(2:Nat)<=(2:Nat)) oM)] ?_;refine aa ?_;refine ai ?_;refine hK _ ?_;clear hK K;refine sK fun K hK=> ?_;refine sK fun K hK=> ?_;refine ag (n':=6) kR kR ?_;refine au aj (M:=[]) (n:=1) [pv (35:Nat) (V.i (4:Int))] kR kR tI ?_;refine aa ?_;refine ai ?_;refine hK _ ?_;clear hK K;refine az ?_;refine sK fun K hK=> ?_;refine ag (n':=7) kR kR ?_;refine au aj (M:=[]) (n:=2) [pv (38:Nat) (V.b false),pv (37:Nat) (V.b false)] kR kR tI ?_;refine aa ?_;refine ai ?_;refine hK _ ?_;clear hK K;refine aB (t:=false) kR rfl ?_;refine sK fun K hK=> ?_;refine ag (n':=8) kR kR ?_;refine au aj (M:=[]) (n:=2) [pv (50:Nat) (V.b false),pv (49:Nat) (V.b false)] kR kR tI ?_;refine aa ?_;refine ai ?_;refine hK _ ?_;clear hK K;refine aB (t:=false) kR rfl ?_;refine sK fun K hK=> ?_;refine ag (n':=9) kR kR ?_;refine au aj (M:=[]) (n:=2) [pv (62:Nat) (V.b false),pv (61:Nat) (V.b false)] kR kR tI ?_;refine aa ?_;refine ai ?_;refine hK _ ?_;clear hK K;refine aB (t:=false) kR rfl ?_;refine sK fun K hK=> ?_;refine ag (n':=10) kR kR ?_;refine au aj (M:=[]) (n:=2) [pv (77:Nat) (V.b true),pv (76:Nat) (V.b true)] kR kR tI ?_;refine aa ?_;refine ai ?_;refine hK _ ?_;clear hK K;refine bQ (t:=true) kR rfl ?_;refine sK fun K hK=> ?_;refine bU (n':=11) kR kR ?_;refine aY aj 11 [(1,.c (iR ((↑i:Int)- 1)) oM),(6,.c ((3:Nat)+(1:Nat)<=(5:Nat)) oM),(1,.c ((4:Nat)+(1:Nat)<=(5:Nat)) oM)] ?_;refine aa ⟨kR,?_⟩;refine ai ?_;refine hK _ ?_;clear hK K;refine sK fun K hK=> ?_;refine ag (n':=12) kR kR ?_;refine aY aj 5 [(0,.c ((0:Nat)<=(5:Nat)) oM),(2,.c ((0:Nat)+(5:Nat)<=(5:Nat)) oM)] ?_;refine aa ?_;refine ai ?_;refine hK _ ?_;clear hK K;refine av ?_;refine dL ?_;refine bB ?_;rw [LN,me,e1];refine bg (v':=V.tup [V.agg [V.i (4:Int),V.i (↑i:Int),V.i (↑i:Int),V.i ((↑i:Int)- 1),V.i (Bl.fast b)],V.b (decide ((0:Int)< (↑i:Int)))]) (.inr rfl) kR ?_ kR;simpa using h0
theorem FM(b:Bl)(l:List Pt)(h:ku b l)(i:Nat)(hi:i< l.length)(h0:b.per.toNat<=i):AC Tryz.prog 123 [.ptr (sM b l),.i 5,.i i] (.tup [.agg (LN (kY b l i)),.b true]) []:=by
 obtain⟨⟨q1,q2⟩,⟨q3,q4⟩,⟨q5,q6⟩,⟨q7,q8⟩,⟨q9,q10⟩,q11,q12⟩:=h.bl;obtain⟨⟨p1,p2⟩,p3,p4⟩:=h.pt i hi;have hl:=h.len;have hj:i- b.per.toNat< l.length:=by omega
 obtain⟨⟨r1,r2⟩,r3,r4⟩:=h.pt ((i:Int)- b.per).toNat oM;have e1:((i- b.per.toNat:Nat):Int)=(i:Int)- b.per:=by omega
 have e2:((i:Int)- b.per).toNat=i- b.per.toNat:=by omega
 refine eT aj bX Tryz.func123 Tryz.ntmps123 fun C hC hF=> ?_;refine sK fun K hK=> ?_;refine ag (n':=2) kR kR ?_;refine au aj (M:=[]) (n:=2) [pn (6:Nat) (V.ref (100006:Nat) (0:Nat)) (100006:Nat) (Ob.box (235:Nat) [V.i (0:Int),V.i (0:Int),V.i (0:Int),V.i (0:Int),V.i (0:Int)]),pv (7:Nat) (V.b false)] kR kR tI ?_;refine aa ?_;refine ai ?_;refine hK _ ?_;clear hK K;refine sK fun K hK=> ?_;refine ag (n':=3) kR kR ?_;refine aY aj 8 [(7,.c ((0:Nat)+(5:Nat)<=(5:Nat)) oM)] ?_;refine aa ?_;refine ai ?_;refine hK _ ?_;clear hK K;refine sK fun K hK=> ?_;refine sK fun K hK=> ?_;refine ag (n':=4) kR kR ?_;refine aY aj 11 [] ?_;refine aa ?_;refine ai ?_;refine hK _ ?_;clear hK K;refine ax (t:=decide ((↑i:Int)< 0) || decide ((↑(List.length l):Int)<=(↑i:Int))) kR (fun c1=> ?_) (fun c1=> ?_);·simp at c1;omega
 clear c1;refine aq ?_;refine ai ?_;refine hK _ ?_;clear hK K;refine sK fun K hK=> ?_;refine ag (n':=5) kR kR ?_;refine aY aj 9 [(5,.c ((0:Int)<=(↑i:Int)/\(↑i:Int)< (↑(List.length l):Int)) oM),(2,.c ((0:Nat)+(2:Nat)<=(2:Nat)) oM)] ?_;refine aa ?_;refine ai ?_;refine hK _ ?_;clear hK K;refine sK fun K hK=> ?_;refine sK fun K hK=> ?_;refine ag (n':=6) kR kR ?_;refine au aj (M:=[]) (n:=1) [pv (35:Nat) (V.i (5:Int))] kR kR tI ?_;refine aa ?_;refine ai ?_;refine hK _ ?_;clear hK K;refine az ?_;refine sK fun K hK=> ?_;refine ag (n':=7) kR kR ?_;refine au aj (M:=[]) (n:=2) [pv (38:Nat) (V.b false),pv (37:Nat) (V.b false)] kR kR tI ?_;refine aa ?_;refine ai ?_;refine hK _ ?_;clear hK K;refine aB (t:=false) kR rfl ?_;refine sK fun K hK=> ?_;refine ag (n':=8) kR kR ?_;refine au aj (M:=[]) (n:=2) [pv (50:Nat) (V.b false),pv (49:Nat) (V.b false)] kR kR tI ?_;refine aa ?_;refine ai ?_;refine hK _ ?_;clear hK K;refine aB (t:=false) kR rfl ?_;refine sK fun K hK=> ?_;refine ag (n':=9) kR kR ?_;refine au aj (M:=[]) (n:=2) [pv (62:Nat) (V.b false),pv (61:Nat) (V.b false)] kR kR tI ?_;refine aa ?_;refine ai ?_;refine hK _ ?_;clear hK K;refine aB (t:=false) kR rfl ?_;refine sK fun K hK=> ?_;refine ag (n':=10) kR kR ?_;refine au aj (M:=[]) (n:=2) [pv (77:Nat) (V.b false),pv (76:Nat) (V.b false)] kR kR tI ?_;refine aa ?_;refine ai ?_;refine hK _ ?_;clear hK K;refine aB (t:=false) kR rfl ?_;refine sK fun K hK=> ?_;refine ag (n':=11) kR kR ?_;refine au aj (M:=[]) (n:=2) [pv (91:Nat) (V.b true),pv (90:Nat) (V.b true)] kR kR tI ?_;refine aa ?_;refine ai ?_;refine hK _ ?_;clear hK K;refine bQ (t:=true) kR rfl ?_;refine sK fun K hK=> ?_;refine sK fun K hK=> ?_;refine ag (n':=12) kR kR ?_;refine aY aj 6 [] ?_;refine aa ?_;refine ai ?_;refine hK _ ?_;clear hK K;refine ax (t:=decide ((↑i:Int)< Bl.per b)) kR (fun c2=> ?_) (fun c2=> ?_);·simp at c2;omega
 clear c2;refine aq ?_;refine ai ?_;refine hK _ ?_;clear hK K;refine bU (n':=13) kR kR ?_;refine aY aj 32 [(5,.c (iR ((↑i:Int)- Bl.per b)) oM),(9,.c (iR ((↑i:Int)- Bl.per b)) oM),(0,.c ((0:Int)<=(↑i:Int)- Bl.per b/\(↑i:Int)- Bl.per b< (↑(List.length l):Int)) oM),(3,.c ((1:Nat)<=(2:Nat)) oM),(0,.c (iR (Prod.fst (gp l (Int.toNat ((↑i:Int)- Bl.per b)))- Prod.snd (gp l i))) oM),(5,.c (iR (Prod.fst (gp l (Int.toNat ((↑i:Int)- Bl.per b)))- Prod.snd (gp l i)- Bl.land b)) oM),(1,.c ((2:Nat)+(1:Nat)<=(5:Nat)) oM),(1,.c ((4:Nat)+(1:Nat)<=(5:Nat)) oM)] ?_;refine aa ⟨kR,?_⟩;refine cn ?_;refine ai ?_;refine hK _ ?_;clear hK K;refine sK fun K hK=> ?_;refine ag (n':=14) kR kR ?_;refine aY aj 3 [(0,.c ((0:Nat)<=(5:Nat)) oM),(0,.c ((0:Nat)+(5:Nat)<=(5:Nat)) oM)] ?_;refine aa ?_;refine ai ?_;refine hK _ ?_;clear hK K;refine av ?_;rw [LN,kY,e1,<-e2];refine rP (V.tup [V.agg [V.i (5:Int),V.i (↑i:Int),V.i ((↑i:Int)- Bl.per b),V.i (↑i:Int),V.i (Prod.fst (gp l (Int.toNat ((↑i:Int)- Bl.per b)))- Prod.snd (gp l i)- Bl.land b)],V.b true])
theorem Dz(b:Bl)(l:List Pt)(h:ku b l)(i:Nat)(hi:i< l.length)(h0:i< b.per.toNat):AC Tryz.prog 123 [.ptr (sM b l),.i 5,.i i] (.tup [.agg [.i 5,.i i,.i i,.i i,.i 0],.b false]) []:=by
 obtain⟨⟨q1,q2⟩,⟨q3,q4⟩,⟨q5,q6⟩,⟨q7,q8⟩,⟨q9,q10⟩,q11,q12⟩:=h.bl;obtain⟨⟨p1,p2⟩,p3,p4⟩:=h.pt i hi;have hl:=h.len;refine eT aj bX Tryz.func123 Tryz.ntmps123 fun C hC hF=> ?_;refine sK fun K hK=> ?_;refine ag (n':=2) kR kR ?_;refine au aj (M:=[]) (n:=2) [pn (6:Nat) (V.ref (100006:Nat) (0:Nat)) (100006:Nat) (Ob.box (235:Nat) [V.i (0:Int),V.i (0:Int),V.i (0:Int),V.i (0:Int),V.i (0:Int)]),pv (7:Nat) (V.b false)] kR kR tI ?_;refine aa ?_;refine ai ?_;refine hK _ ?_;clear hK K;refine sK fun K hK=> ?_;refine ag (n':=3) kR kR ?_;refine aY aj 8 [(7,.c ((0:Nat)+(5:Nat)<=(5:Nat)) oM)] ?_;refine aa ?_;refine ai ?_;refine hK _ ?_;clear hK K;refine sK fun K hK=> ?_;refine sK fun K hK=> ?_;refine ag (n':=4) kR kR ?_;refine aY aj 11 [] ?_;refine aa ?_;refine ai ?_;refine hK _ ?_;clear hK K;refine ax (t:=decide ((↑i:Int)< 0) || decide ((↑(List.length l):Int)<=(↑i:Int))) kR (fun c1=> ?_) (fun c1=> ?_);·simp at c1;omega
 clear c1;refine aq ?_;refine ai ?_;refine hK _ ?_;clear hK K;refine sK fun K hK=> ?_;refine ag (n':=5) kR kR ?_;refine aY aj 9 [(5,.c ((0:Int)<=(↑i:Int)/\(↑i:Int)< (↑(List.length l):Int)) oM),(2,.c ((0:Nat)+(2:Nat)<=(2:Nat)) oM)] ?_;refine aa ?_;refine ai ?_;refine hK _ ?_;clear hK K;refine sK fun K hK=> ?_;refine sK fun K hK=> ?_;refine ag (n':=6) kR kR ?_;refine au aj (M:=[]) (n:=1) [pv (35:Nat) (V.i (5:Int))] kR kR tI ?_;refine aa ?_;refine ai ?_;refine hK _ ?_;clear hK K;refine az ?_;refine sK fun K hK=> ?_;refine ag (n':=7) kR kR ?_;refine au aj (M:=[]) (n:=2) [pv (38:Nat) (V.b false),pv (37:Nat) (V.b false)] kR kR tI ?_;refine aa ?_;refine ai ?_;refine hK _ ?_;clear hK K;refine aB (t:=false) kR rfl ?_;refine sK fun K hK=> ?_;refine ag (n':=8) kR kR ?_;refine au aj (M:=[]) (n:=2) [pv (50:Nat) (V.b false),pv (49:Nat) (V.b false)] kR kR tI ?_;refine aa ?_;refine ai ?_;refine hK _ ?_;clear hK K;refine aB (t:=false) kR rfl ?_;refine sK fun K hK=> ?_;refine ag (n':=9) kR kR ?_;refine au aj (M:=[]) (n:=2) [pv (62:Nat) (V.b false),pv (61:Nat) (V.b false)] kR kR tI ?_;refine aa ?_;refine ai ?_;refine hK _ ?_;clear hK K;refine aB (t:=false) kR rfl ?_;refine sK fun K hK=> ?_;refine ag (n':=10) kR kR ?_;refine au aj (M:=[]) (n:=2) [pv (77:Nat) (V.b false),pv (76:Nat) (V.b false)] kR kR tI ?_;refine aa ?_;refine ai ?_;refine hK _ ?_;clear hK K;refine aB (t:=false) kR rfl ?_;refine sK fun K hK=> ?_;refine ag (n':=11) kR kR ?_;refine au aj (M:=[]) (n:=2) [pv (91:Nat) (V.b true),pv (90:Nat) (V.b true)] kR kR tI ?_;refine aa ?_;refine ai ?_;refine hK _ ?_;clear hK K;refine bQ (t:=true) kR rfl ?_;refine sK fun K hK=> ?_;refine sK fun K hK=> ?_;refine ag (n':=12) kR kR ?_;refine aY aj 6 [] ?_;refine aa ?_;refine ai ?_;refine hK _ ?_;clear hK K;refine ax (t:=decide ((↑i:Int)< Bl.per b)) kR (fun c2=> ?_) (fun c2=> ?_);·refine sK fun K hK=> ?_;refine ag (n':=13) kR kR ?_;refine aY aj 3 [(0,.c ((0:Nat)<=(5:Nat)) oM),(0,.c ((0:Nat)+(5:Nat)<=(5:Nat)) oM)] ?_;refine aa ?_;refine ai ?_;refine hK _ ?_;clear hK K;refine av ?_;refine bB ?_;refine dL ?_;refine bB ?_;refine rP (V.tup [V.agg [V.i (5:Int),V.i (↑i:Int),V.i (↑i:Int),V.i (↑i:Int),V.i (0:Int)],V.b false])
 ·simp at c2;omega
def O8(e:BE):List V:=[.agg (LN e)]
def ij(b:Bl)(l:List Pt):List (List V):=(bu b l).map O8
theorem lQ(b:Bl)(l:List Pt)(n:Nat):kg b l (n+1)=kg b l n++wS b l n:=by unfold kg;rw [List.range_succ,List.flatMap_append];simp
theorem Jj(b:Bl)(l:List Pt)(i:Nat):(wS b l i).length=(if 0< i then 1 else 0)+if b.per.toNat<=i then 1 else 0:=by unfold wS;split <;> split <;> simp
theorem Jk(b:Bl)(l:List Pt){i n:Nat}(h:i<=n):(kg b l i).length<=(kg b l n).length:=by
 induction n with
 |zero=>rw [show i=0 by omega];exact Nat.le_refl _
 |succ n ih=>
  by_cases hi:i=n+1;·rw [hi];exact Nat.le_refl _
  ·have:=ih oM;rw [lQ,List.length_append];omega
theorem Gk(b:Bl)(l:List Pt){i n m:Nat}{e:BE}(h:i< n)(he:(wS b l i)[m]?=some e):(kg b l n)[(kg b l i).length+m]?=some e:=by
 induction n with
 |zero=>omega
 |succ n ih=>
  rw [lQ];have hm:m< (wS b l i).length:=(List.getElem?_eq_some_iff.1 he).1;by_cases hi:i=n;·subst hi;rw [List.getElem?_append_right oM,Nat.add_sub_cancel_left];exact he
  ·have:=ih oM;rw [List.getElem?_append_left (List.getElem?_eq_some_iff.1 this).1];exact this
theorem xM{b:Bl}{l:List Pt}{i m:Nat}{e:BE}(h:i< l.length)(he:(wS b l i)[m]?=some e):(ij b l)[(kg b l i).length+m]?=some (O8 e):=by have h1:=Gk b l h he;unfold ij bu;rw [List.getElem?_map,List.getElem?_append_left (List.getElem?_eq_some_iff.1 h1).1,h1];rfl
theorem DA{b:Bl}{l:List Pt}{m:Nat}(h:m< l.length- 1):(ij b l)[(kg b l l.length).length+m]?=some (O8 (me b (l.length- 1- m))):=by unfold ij bu;rw [List.getElem?_map,List.getElem?_append_right oM,Nat.add_sub_cancel_left];simp [yE,h]
theorem Ad(b:Bl)(l:List Pt):(ij b l).length=(kg b l l.length).length+(l.length- 1):=by simp [ij,bu,yE]
theorem NY{b:Bl}{l:List Pt}{i:Nat}(h:0< i):(wS b l i)[0]?=some (lz b i):=by simp [wS,h]
theorem NZ{b:Bl}{l:List Pt}{i:Nat}(h:b.per.toNat<=i):(wS b l i)[if 0< i then 1 else 0]?=some (kY b l i):=by
 unfold wS;by_cases h0:0< i;·rw [if_pos h0,if_pos h0,if_pos h];rfl
 ·rw [if_neg h0,if_neg h0,if_pos h];rfl
def zY(b:Bl)(l:List Pt)(i:Nat):Nat->Nat
 |0=>0
 |1=>if 0< i then 1 else 0
 |_=>(wS b l i).length
theorem FO(b:Bl)(l:List Pt)(h:ku b l):zw Tryz.prog 165 [.ptr [.ptr (sM b l)]] [] (ij b l):=by
  have hl:=h.len
  have hp:=h.bl.1
  refine mH aj bX (fn:=Tryz.f165) (N:=_) ⟨Tryz.func165,rfl,Tryz.ntmps165,kR⟩ rfl (by simp) (fun Y=> ?_) (by simp)
  rw [Ad]
  refine bp fun C hF hC K hK=> ?_
  refine wR 2 ?_
  refine aY aj 6 [] ?_
  refine aa ?_
  refine ai ?_
  refine hK _ ?_
  clear hK K
  refine cD ?_
  refine bp fun C hF hC K hK=> ?_
  refine wR 3 ?_
  refine aY aj 2 [] ?_
  refine aa ?_
  refine ai ?_
  refine hK _ ?_
  clear hK K
  refine cv ?_
  refine lK (ι:=Nat) (fun i=>⟨gF [(0,.c (.func (.yield Y.l) #[] #[])),(1,.ptr [.ptr (sM b l)]),(3,.i l.length),(17,.i l.length),(18,.i i)],eL [],1⟩) (fun i=>(kg b l i).length) (fun i=>i<=l.length) (fun i=>l.length- i) 0 (Nat.zero_le _) ?_ rfl ?_
  · refine aH [] (.cons kR (.cons kR (.cons kR (.cons kR (.cons kR .nil))))) .nil kR kR
  intro i hi
  refine bp fun C hF hC K hK=> ?_
  refine wR 2 ?_
  refine aY aj 1 [] ?_
  refine aa ?_
  refine ai ?_
  refine hK _ ?_
  clear hK K
  refine bp fun C hF hC K hK=> ?_
  refine ax (t:=decide ((↑i:Int)< (↑(List.length l):Int))) kR (fun c1=> ?_) (fun c1=> ?_)
  · have h1:i< l.length:=by simpa using c1
    have hk0:(kg b l i).length+(wS b l i).length<=(kg b l l.length).length:=by
      have:=Jk b l (i:=i+1) (n:=l.length) oM
      rw [lQ,List.length_append]at this
      exact this
    have hil:=Jj b l i
    refine aq ?_
    refine ai ?_
    refine hK _ ?_
    clear hK K
    refine cD ?_
    refine cv ?_
    refine bp fun C hF hC K hK=> ?_
    refine wR 3 ?_
    refine aY aj 2 [] ?_
    refine aa ?_
    refine ai ?_
    refine hK _ ?_
    clear hK K
    refine bp fun C hF hC K hK=> ?_
    refine wR 4 ?_
    refine aY aj 2 [] ?_
    refine aa ?_
    refine ai ?_
    refine hK _ ?_
    clear hK K
    refine cv ?_
    refine lK (ι:=Nat) (fun j=>⟨gF [(0,.c (.func (.yield Y.l) #[] #[])),(1,.ptr [.ptr (sM b l)]),(3,.i l.length),(4,.i i),(17,.i l.length),(18,.i i),(21,.agg [.i 3,.i 5]),(22,.i j)],eL [],1⟩) (fun j=>(kg b l i).length+zY b l i j) (fun j=>j<=2) (fun j=>2- j) 0 (by decide) ?_ rfl ?_
    · refine aH [] (.cons kR (.cons kR (.cons kR (.cons kR (.cons kR (.cons kR (.cons kR (.cons kR .nil)))))))) .nil kR kR
    intro j hj
    refine bp fun C hF hC K hK=> ?_
    refine wR 2 ?_
    refine aY aj 1 [] ?_
    refine aa ?_
    refine ai ?_
    refine hK _ ?_
    clear hK K
    refine bp fun C hF hC K hK=> ?_
    refine ax (t:=decide ((↑j:Int)< 2)) kR (fun c2=> ?_) (fun c2=> ?_)
    · have h2:j=0\/j=1:=by simp at c2;omega
      rcases h2 with rfl |rfl
      · by_cases h0:0< i
        · refine aq ?_
          refine ai ?_
          refine hK _ ?_
          clear hK K
          refine cD ?_
          refine cv ?_
          refine bp fun C hF hC K hK=> ?_
          refine wR 3 ?_
          refine aY aj 2 [(0,.d)] ?_
          refine aa ?_
          refine ai ?_
          refine hK _ ?_
          clear hK K
          refine bp fun C hF hC K hK=> ?_
          refine wR 4 ?_
          refine aY aj 3 [] ?_
          refine eC (FK b l h i h1 h0) ?_
          refine aY aj 6 [(4,.c ((0:Nat)+(5:Nat)<=(5:Nat)) oM)] ?_
          refine aa ?_
          refine ai ?_
          refine hK _ ?_
          clear hK K
          refine cD (ig 4 kR rfl fun C hF hC=> ?_)
          refine aY aj 4 [(3,.g (true == true) ((0:Nat)<=(5:Nat)) (by(intro _;simp;done)))] ?_
          refine aa ?_
          refine⟨kR,kR,by kernel_rfl,⟨_,xM h1 (NY h0),cw.refl _,trivial⟩,rfl,fun C hF hC=> ?_,fun C hF hC=> ?_⟩
          · refine aY aj 2 [] ?_
            refine aa ?_
            refine eH ?_
            refine cA (t:=false) kR (fun h=>by cases h) (fun _=> ?_)
            refine fJ ?_
            refine ta ?_
            refine eH ?_
            refine fU fun C hF hC=> ?_
            refine wR 6 ?_
            refine aY aj 2 [(0,.d)] ?_
            refine aa ?_
            refine eH ?_
            refine⟨rfl,1,by decide,?_,by simp [zY,h0],by decide⟩
            refine aH [] (.cons kR (.cons kR (.cons kR (.cons kR (.cons kR (.cons kR (.cons kR (.cons kR .nil)))))))) .nil kR kR
          · refine aY aj 2 [] ?_
            refine aa ?_
            refine eH ?_
            refine cA (t:=true) kR (fun _=> ?_) (fun h=>by cases h)
            refine nq ?_
            refine mD ?_
            refine ke ?_
            refine ke ?_
            refine mD ?_
            refine mD ?_
            refine ke ?_
            refine ke ?_
            refine mD ?_
            refine ke ?_
            exact⟨.inr rfl,fun h=>(by cases h),fun _=>by simp only [zY];rw [if_pos h0]at hil;omega⟩
        · have noY:True:=trivial
          refine aq ?_
          refine ai ?_
          refine hK _ ?_
          clear hK K
          refine cD ?_
          refine cv ?_
          refine bp fun C hF hC K hK=> ?_
          refine wR 3 ?_
          refine aY aj 2 [(0,.d)] ?_
          refine aa ?_
          refine ai ?_
          refine hK _ ?_
          clear hK K
          refine bp fun C hF hC K hK=> ?_
          refine wR 4 ?_
          refine aY aj 3 [] ?_
          refine eC (Dy b l h i h1 oM) ?_
          refine aY aj 6 [(4,.c ((0:Nat)+(5:Nat)<=(5:Nat)) oM)] ?_
          refine aa ?_
          refine ai ?_
          refine hK _ ?_
          clear hK K
          refine bp fun C hF hC K hK=> ?_
          refine wR 5 ?_
          refine aY aj 4 [(3,.g (false == true) ((0:Nat)<=(5:Nat)) (by(intro _;simp;done)))] ?_
          refine kE kR rfl ?_
          refine aY aj 2 [] ?_
          refine aa ?_
          refine ai ?_
          refine hK _ ?_
          clear hK K
          refine cA (t:=false) kR (fun h=>by cases h) (fun _=> ?_)
          refine fJ ?_
          refine ta ?_
          refine eH ?_
          refine fU fun C hF hC=> ?_
          refine wR 6 ?_
          refine aY aj 2 [(0,.d)] ?_
          refine aa ?_
          refine eH ?_
          refine⟨rfl,1,by decide,?_,by simp [zY,h0],by decide⟩
          refine aH [] (.cons kR (.cons kR (.cons kR (.cons kR (.cons kR (.cons kR (.cons kR (.cons kR .nil)))))))) .nil kR kR
      · by_cases h0:b.per.toNat<=i
        · refine aq ?_
          refine ai ?_
          refine hK _ ?_
          clear hK K
          refine cD ?_
          refine cv ?_
          refine bp fun C hF hC K hK=> ?_
          refine wR 3 ?_
          refine aY aj 2 [(0,.d)] ?_
          refine aa ?_
          refine ai ?_
          refine hK _ ?_
          clear hK K
          refine bp fun C hF hC K hK=> ?_
          refine wR 4 ?_
          refine aY aj 3 [] ?_
          refine eC (FM b l h i h1 h0) ?_
          refine aY aj 6 [(4,.c ((0:Nat)+(5:Nat)<=(5:Nat)) oM)] ?_
          refine aa ?_
          refine ai ?_
          refine hK _ ?_
          clear hK K
          refine cD (ig 4 kR rfl fun C hF hC=> ?_)
          refine aY aj 4 [(3,.g (true == true) ((0:Nat)<=(5:Nat)) (by(intro _;simp;done)))] ?_
          refine aa ?_
          refine⟨kR,kR,by kernel_rfl,⟨_,xM h1 (NZ h0),cw.refl _,trivial⟩,rfl,fun C hF hC=> ?_,fun C hF hC=> ?_⟩
          · refine aY aj 2 [] ?_
            refine aa ?_
            refine eH ?_
            refine cA (t:=false) kR (fun h=>by cases h) (fun _=> ?_)
            refine fJ ?_
            refine ta ?_
            refine eH ?_
            refine fU fun C hF hC=> ?_
            refine wR 6 ?_
            refine aY aj 2 [(0,.d)] ?_
            refine aa ?_
            refine eH ?_
            refine⟨rfl,2,by decide,?_,by simp [zY,hil,h0];omega,by decide⟩
            refine aH [] (.cons kR (.cons kR (.cons kR (.cons kR (.cons kR (.cons kR (.cons kR (.cons kR .nil)))))))) .nil kR kR
          · refine aY aj 2 [] ?_
            refine aa ?_
            refine eH ?_
            refine cA (t:=true) kR (fun _=> ?_) (fun h=>by cases h)
            refine nq ?_
            refine mD ?_
            refine ke ?_
            refine ke ?_
            refine mD ?_
            refine mD ?_
            refine ke ?_
            refine ke ?_
            refine mD ?_
            refine ke ?_
            exact⟨.inr rfl,fun h=>(by cases h),fun _=>by simp only [zY];rw [if_pos h0]at hil;omega⟩
        · have noY:True:=trivial
          refine aq ?_
          refine ai ?_
          refine hK _ ?_
          clear hK K
          refine cD ?_
          refine cv ?_
          refine bp fun C hF hC K hK=> ?_
          refine wR 3 ?_
          refine aY aj 2 [(0,.d)] ?_
          refine aa ?_
          refine ai ?_
          refine hK _ ?_
          clear hK K
          refine bp fun C hF hC K hK=> ?_
          refine wR 4 ?_
          refine aY aj 3 [] ?_
          refine eC (Dz b l h i h1 oM) ?_
          refine aY aj 6 [(4,.c ((0:Nat)+(5:Nat)<=(5:Nat)) oM)] ?_
          refine aa ?_
          refine ai ?_
          refine hK _ ?_
          clear hK K
          refine bp fun C hF hC K hK=> ?_
          refine wR 5 ?_
          refine aY aj 4 [(3,.g (false == true) ((0:Nat)<=(5:Nat)) (by(intro _;simp;done)))] ?_
          refine kE kR rfl ?_
          refine aY aj 2 [] ?_
          refine aa ?_
          refine ai ?_
          refine hK _ ?_
          clear hK K
          refine cA (t:=false) kR (fun h=>by cases h) (fun _=> ?_)
          refine fJ ?_
          refine ta ?_
          refine eH ?_
          refine fU fun C hF hC=> ?_
          refine wR 6 ?_
          refine aY aj 2 [(0,.d)] ?_
          refine aa ?_
          refine eH ?_
          refine⟨rfl,2,by decide,?_,by simp [zY,hil,h0],by decide⟩
          refine aH [] (.cons kR (.cons kR (.cons kR (.cons kR (.cons kR (.cons kR (.cons kR (.cons kR .nil)))))))) .nil kR kR
    · have h2:j=2:=by simp at c2;omega
      refine bN ?_
      refine cO ?_
      refine tc ?_
      refine jz ?_
      refine ta ?_
      refine eH ?_
      refine fU fun C hF hC=> ?_
      refine wR 3 ?_
      refine aY aj 2 [(0,.c (iR ((↑i:Int)+1)) oM)] ?_
      refine aa ?_
      refine eH ?_
      refine⟨rfl,i+1,by omega,?_,by rw [lQ,List.length_append,h2];rfl,by omega⟩
      refine aH [] (.cons kR (.cons kR (.cons kR (.cons kR (.cons kR .nil))))) .nil kR kR
  · have h1:i=l.length:=by simp at c1;omega
    rw [h1]
    refine bN ?_
    refine cO ?_
    refine tc ?_
    refine jz ?_
    refine eH ?_
    refine bp fun C hF hC K hK=> ?_
    refine wR 3 ?_
    refine aY aj 3 [(1,.c (iR ((↑(List.length l):Int)- 1)) oM)] ?_
    refine aa ?_
    refine ai ?_
    refine hK _ ?_
    clear hK K
    refine cv ?_
    refine lK (ι:=Nat) (fun y=>⟨gF [(0,.c (.func (.yield Y.l) #[] #[])),(1,.ptr [.ptr (sM b l)]),(9,.i ((y:Int)- 1))],eL [],1⟩) (fun y=>(kg b l l.length).length+(l.length- y)) (fun y=>y<=l.length/\(1<=y\/l.length=0)) (fun y=>y) l.length ⟨Nat.le_refl _,by omega⟩ ?_ (by simp) ?_
    · refine aH [] (.cons kR (.cons kR (.cons kR .nil))) .nil kR kR
    rintro y ⟨hy,hy1⟩
    refine bp fun C hF hC K hK=> ?_
    refine sK fun K hK=> ?_
    refine wR 2 ?_
    refine aY aj 2 [] ?_
    refine aa ?_
    refine ai ?_
    refine hK _ ?_
    clear hK K
    refine ax (t:=decide ((0:Int)< (↑y:Int)- 1)) kR (fun c2=> ?_) (fun c2=> ?_)
    · have h2:2<=y:=by simp at c2;omega
      have e:(y:Int)- 1=((y- 1:Nat):Int):=by omega
      have hg:=DA (b:=b) (l:=l) (m:=l.length- y) oM
      rw [show l.length- 1- (l.length- y)=y- 1 by omega]at hg
      rw [e]
      refine aq ?_
      refine ai ?_
      refine hK _ ?_
      clear hK K
      refine cD ?_
      refine cv ?_
      refine bp fun C hF hC K hK=> ?_
      refine wR 3 ?_
      refine aY aj 2 [] ?_
      refine eC (FL b l h (y- 1) oM oM) ?_
      refine aY aj 6 [(4,.c ((0:Nat)+(5:Nat)<=(5:Nat)) oM)] ?_
      refine aa ?_
      refine ai ?_
      refine hK _ ?_
      clear hK K
      refine cD (ig 4 kR rfl fun C hF hC=> ?_)
      refine aY aj 4 [(3,.g (true == true) ((0:Nat)<=(5:Nat)) (by(intro _;simp;done)))] ?_
      refine aa ?_
      refine⟨kR,kR,by kernel_rfl,⟨_,hg,cw.refl _,trivial⟩,rfl,fun C hF hC=> ?_,fun C hF hC=> ?_⟩
      · refine aY aj 2 [] ?_
        refine aa ?_
        refine eH ?_
        refine cA (t:=false) kR (fun h=>by cases h) (fun _=> ?_)
        refine fJ ?_
        refine ta ?_
        refine eH ?_
        refine fU fun C hF hC=> ?_
        refine wR 5 ?_
        refine aY aj 3 [(1,.c (iR ((↑(y- 1):Int)- 1)) oM)] ?_
        refine aa ?_
        refine eH ?_
        refine⟨rfl,y- 1,⟨by omega,by omega⟩,?_,by omega,by omega⟩
        refine aH [] (.cons kR (.cons kR (.cons kR .nil))) .nil kR kR
      · refine aY aj 2 [] ?_
        refine aa ?_
        refine eH ?_
        refine cA (t:=true) kR (fun _=> ?_) (fun h=>by cases h)
        refine nq ?_
        refine mD ?_
        refine ke ?_
        refine ke ?_
        refine mD ?_
        exact⟨.inr rfl,fun h=>(by cases h),fun _=>by omega⟩
    · have h2:y<=1:=by simp at c2;omega
      refine bN ?_
      refine cO ?_
      refine tc ?_
      refine jz ?_
      exact⟨.inl rfl,fun _=>by omega,fun h=>by cases h⟩
end Go.Proofs.YtjmbpjlojjgggaaGreatDoor
