/-
  Several texts in one: A region in whatever order its edges allow, for values without addresses. Condition: operations that may stand in either order touch different objects. .. Calls, and small operations, for values without addresses. No condition but those that the step names.
-/
import Derived.OrdersIn
import Derived.DeepKeys
import Derived.ChangeKeysEq
import Derived.RangeFuncLeaves
import Derived.Test.YtjmbpjlojjgggaaGreatDoorMA
namespace Go.Ab
open Go.RowKit Go.Dw
def NH:Value->V
 | .agg cs=>if cs.toList.all (·.oneCell')then .agg (cs.toList.map A9)else .c (.agg cs)
 |v=>A9 v
def ev(tm:Nat->V):Operand->V
 | .tmp t=>tm t
 | .const v=>NH v
 | .global g=>jn g
 | .func f=> .fn (.func f) [] []
theorem R.NH(w:World)(L:Nat->Prop)(ρ:Nat->Option Value)(v:Value):R w L ρ (NH v) v:=by
 unfold Ab.NH;split
 ·split;·exact .lZ (m0 _ _ _ _ (by assumption))
  ·exact .c _ _
 ·exact R.A9 _ _ _ _
def TM(tm:Nat->V)(a:Act)(w:World)(L:Nat->Prop)(ρ:Nat->Option Value):Prop:=∀t,R w L ρ (tm t) (a.tmps.getD t undef)
theorem TM.eval{tm:Nat->V}{a:Act}{w:World}{L:Nat->Prop}{ρ:Nat->Option Value}(h:TM tm a w L ρ)(hg:∀g,R w L ρ0 (jn g) (ql g))(x:Operand):R w L ρ (ev tm x) (a.eval x):=by
 cases x with
 |tmp t=>exact h t
 |const v=>exact R.NH _ _ _ _
 |global g=>exact(hg g).Mv
 |func f=>exact .fn' .nil .nil
def eR(tm:Nat->V)(d:Option Tmp)(v:V):Nat->V:=match d with |some d=>bL tm d v |none=>tm
theorem TM.put{tm:Nat->V}{a:Act}{w:World}{L:Nat->Prop}{ρ:Nat->Option Value}(h:TM tm a w L ρ){d:Option Tmp}(hd:∀t,d=some t->t< a.tmps.size){v:V}{x:Value}(hv:R w L ρ v x):TM (eR tm d v) (a.put d x) w L ρ:=by
 cases d with
 |none=>exact h
 |some d=>
  intro t;have hd:=hd d rfl;by_cases ht:t=d;·subst ht;simp only [eR,ak,Act.put];simpa [hd]using hv
  ·simp only [eR,ah _ _ ht,Act.put];have:=h t;simpa [Array.getElem?_setIfInBounds,Ne.symm ht]using this
theorem TM.ext{tm:Nat->V}{a:Act}{w w':World}{L L':Nat->Prop}{ρ ρ':Nat->Option Value}(h:TM tm a w L ρ)(e:Ext w L ρ w' L' ρ'):TM tm a w' L' ρ':=fun t=>(h t).ext e
def dJ(ops:Array Oper)(tm:Nat->V)(o:Oper):Option Bool:=
 match o.guard with
  |none=>some true
  |some (j,b)=>match (ops[j]?).bind (·.dst)with
   |some d=>match tm d with
    | .c (.bool x)=>some (x == b)
    | .gd g (.c (.bool x))=>some (g && (x == b))
    |_=>none
   |none=>none
theorem oa{ops:Array Oper}{tm:Nat->V}{a:Act}{w:World}{L:Nat->Prop}{ρ:Nat->Option Value}{o:Oper}{b:Bool}(h:TM tm a w L ρ)(hw:dJ ops tm o=some b):Region.wanted o (yielded ops a.tmps)=b:=by
 unfold dJ at hw;unfold Region.wanted;split at hw;·rename_i hg;injection hw with hw;rw [hg];exact hw
 ·rename_i j b' hg;rw [hg];split at hw
  ·rename_i d hd;split at hw
   ·rename_i x hx;injection hw with hw;have h1:=h d;rw [hx]at h1;have e1:=h1.aN;have e2:a.tmps[d]?=some (.bool x):=by
     cases hq:a.tmps[d]? with
     |none=>simp only [Array.getD_eq_getD_getElem?,hq]at e1;simp [undef]at e1
     |some y=>simp only [Array.getD_eq_getD_getElem?,hq,Option.getD_some]at e1;rw [e1]
    have hy:yielded ops a.tmps j=some x:=by unfold yielded;rw [hd];simp only [Option.bind_some];rw [e2]
    show(yielded ops a.tmps j == some b')=b;rw [hy];subst hw;cases x <;> cases b' <;> rfl
   ·rename_i g x hx;injection hw with hw;have h1:=h d;rw [hx]at h1;show(yielded ops a.tmps j == some b')=b;subst hw;cases g with
    |false=>
     have e1:a.tmps.getD d undef=undef:=by generalize a.tmps.getD d undef=q at h1;cases h1 with |gd _ _ _ _ h h'=>exact h' rfl
     have hy:yielded ops a.tmps j=none:=by
      unfold yielded;rw [hd];simp only [Option.bind_some];cases hq:a.tmps[d]? with
      |none=>rfl
      |some y=>simp only [Array.getD_eq_getD_getElem?,hq,Option.getD_some]at e1;rw [e1];rfl
     rw [hy];rfl
    |true=>
     have e1:a.tmps.getD d undef= .bool x:=by generalize a.tmps.getD d undef=q at h1;cases h1 with |gd _ _ _ _ h h'=>exact(h rfl).aN
     have e2:a.tmps[d]?=some (.bool x):=by
      cases hq:a.tmps[d]? with
      |none=>simp only [Array.getD_eq_getD_getElem?,hq]at e1;simp [undef]at e1
      |some y=>simp only [Array.getD_eq_getD_getElem?,hq,Option.getD_some]at e1;rw [e1]
     have hy:yielded ops a.tmps j=some x:=by unfold yielded;rw [hd];simp only [Option.bind_some];rw [e2]
     rw [hy];cases x <;> cases b' <;> rfl
   ·cases hw
  ·cases hw
structure TE where
  run:Bool
  v:V
  pre:List (Nat×Ob)
  nw:List Nat
  δ:List (Nat×Option Ob)
def dZ(l:List (Nat×Ob)):List Nat:=l.map (·.1)
def aV(l:List (Nat×Option Ob)):List Nat:=l.map (·.1)
def l6(nx:Nat)(d:Option Tmp)(nw:List Nat):Prop:=∀id∈nw,∃t,d=some t/\nx*100000<=id/\id< (nx+1)*100000/\id% 1000=t
def zG(P:Program)(W LB:Nat->Prop)(ops:Array Oper)(nx:Nat)(tm:Nat->V)(σ:Nat->Option Ob)(o:Oper)(e:TE):Prop:= dJ ops tm o=some e.run/\(e.run=true->aU P W LB o (ev tm) e.v e.pre e.nw e.δ/\(∀p∈e.pre,σ p.1=some p.2)/\l6 nx o.dst e.nw)/\(e.run=false->(∀w L ρ,R w L ρ e.v undef)/\e.nw=[]/\e.δ=[])
def Kr(P:Program)(W LB:Nat->Prop)(ops:Array Oper)(nx:Nat):List Oper->List TE->(Nat->V)->(Nat->Option Ob)->(Nat->V)->(Nat->Option Ob)->Prop
 | [],[],tm,σ,tm',σ'=>tm'=tm/\σ'=σ
 |o::os,e::tr,tm,σ,tm',σ'=>zG P W LB ops nx tm σ o e/\Kr P W LB ops nx os tr (eR tm o.dst e.v) (bG σ e.δ) tm' σ'
 |_,_,_,_,_,_=>False
structure Dp where
  tl:List Deferred
  pin:Nat->Option Value
  lo:∀id x,pin id=some x->500<=id/\id< 1000
def rD:Dp:=⟨[],fun _=>none,fun _ _ h=>by cases h⟩
structure qR(W LB:Nat->Prop)(N:Nat)(dfs:Dp)(fresh:Nat->Prop)(tm:Nat->V)(σ:Nat->Option Ob)(a:Act)(w:World)(L:Nat->Prop)(ρ:Nat->Option Value):Prop where
  g:G W LB σ w L ρ
  fr:∀id,fresh id->ρ id=none
  tm:TM tm a w L ρ
  size:a.tmps.size=N
  defers:∃Ds:List Nat,a.defers=marks Ds++dfs.tl/\Ds.Nodup/\∀D∈Ds,w.heap[D]?=some (.deferred (some []))/\W D/\¬L D
  pin:∀id x,dfs.pin id=some x->ρ id=some x
theorem wE{P:Program}{W LB:Nat->Prop}{ops:Array Oper}{N:Nat}{dfs:Dp}{tm tm0:Nat->V}{σ:Nat->Option Ob}{o:Oper}{e:TE}{i:Nat}{F:Fence}(hF:FW F){fresh fresh':Nat->Prop}{a:Act}{w:World}{L:Nat->Prop}{ρ:Nat->Option Value}{Q:Exit->Act->World->Prop}{K:Act->World->Prop} (h:qR W LB N dfs fresh tm σ a w L ρ) (hi:ops[i]?=some o) (hd:∀t,o.dst=some t->t< N) (hw:dJ ops tm o=some e.run) (hs:e.run=true->aU P W LB o (ev tm0) e.v e.pre e.nw e.δ/\(∀p∈e.pre,σ p.1=some p.2)/\(∀id∈e.nw,fresh id)) (hev:∀x∈o.op.operands,ev tm x=ev tm0 x) (hn:e.run=false->(∀w L ρ,R w L ρ e.v undef)/\e.nw=[]/\e.δ=[]) (hfr:∀id,fresh' id->fresh id/\id∉e.nw) (hK:∀a' w' L' ρ',qR W LB N dfs fresh' (eR tm o.dst e.v) (bG σ e.δ) a' w' L' ρ'->aZ W w w'->Ext w L ρ w' L' ρ'->K a' w'):wpOpIn F 0 P ops Q i K a w:=by
 have hwt:=oa h.tm hw;unfold wpOpIn;rw [hi];simp only [hwt];cases hr:e.run with
 |false=>
  obtain⟨h1,h3,h4⟩:=hn hr;simp only [Bool.false_eq_true,if_false];refine⟨fun f _=>hF.fn f,hK _ _ L ρ ⟨?_,fun id hid=>h.fr id (hfr id hid).1,?_,?_,?_,h.pin⟩ (aZ.refl _ _) (Ext.refl _ _ _)⟩;·rw [h4];exact h.g
  ·exact h.tm.put (fun t ht=>by rw [h.size];exact hd t ht) (h1 _ _ _)
  ·cases o.dst <;> simp [Act.put,h.size]
  ·cases o.dst <;> exact h.defers
 |true=>
  obtain⟨h1,h2,h3⟩:=hs hr;simp only [if_true];refine h1 σ w L ρ a.eval h.g (fun x hx=>by rw [<-hev x hx];exact h.tm.eval h.g.gl x) h2 (fun id hid=>h.fr id (h3 id hid)) F hF a _ Q (fun _ _=>rfl) ?_;rintro x w' ⟨L',ρ',hG,hv,ht,hx,hρ,hdk⟩;refine hK _ _ L' ρ' ⟨hG,fun id hid=> ?_,(h.tm.ext hx).put (fun t ht=>by rw [h.size];exact hd t ht) hv,?_,?_,fun id x hp=>hx.r id x (h.pin id x hp)⟩ ht hx;·rw [hρ id (hfr id hid).2];exact h.fr id (hfr id hid).1
  ·cases o.dst <;> simp [Act.put,h.size]
  ·obtain⟨Ds,h4,h5,h6⟩:=h.defers;refine⟨Ds,by cases o.dst <;> exact h4,h5,fun D hD=> ?_⟩;obtain⟨h7,h8,h9⟩:=h6 D hD;exact⟨(hdk D h7).1,h8,fun hL=>h9 ((hdk D h7).2 hL)⟩
def bV(nx:Nat)(id:Nat):Prop:=nx*100000<=id
theorem yV{P:Program}{W LB:Nat->Prop}{ops:Array Oper}{nx N:Nat}{dfs:Dp}{F:Fence}(hF:FW F){Q:Exit->Act->World->Prop}(hd:∀o∈ops.toList,∀t,o.dst=some t->t< N) :
    ∀(os:List Oper) (i:Nat) (tr:List TE) (tm tm':Nat->V) (σ σ':Nat->Option Ob) (a:Act) (w w0:World) (L:Nat->Prop) (ρ:Nat->Option Value) (fresh:Nat->Prop),
      (∀j,os[j]?=ops[i+j]?)->Kr P W LB ops nx os tr tm σ tm' σ'->qR W LB N dfs fresh tm σ a w L ρ->(∀o∈os,∀t,o.dst=some t->∀id,nx*100000<=id->id% 1000=t->id< (nx+1)*100000->fresh id)->(∀id,bV (nx+1) id->fresh id)->(os.filterMap (·.dst)).Nodup->aZ W w0 w->
      (∀a' w' L' ρ',qR W LB N dfs (bV (nx+1)) tm' σ' a' w' L' ρ'->aZ W w0 w'->Q .normal a' w')->wpOpsIn F 0 P ops Q (List.range' i os.length) a w:=by
  intro os
  induction os with
  |nil=>
    intro i tr tm tm' σ σ' a w w0 L ρ fresh _ hr h _ hfr _ ht hQ
    cases tr with
    |cons=>exact hr.elim
    |nil=>
      obtain⟨rfl,rfl⟩:=hr
      simp only [List.length_nil,List.range'_zero,wpOpsIn]
      exact hQ a w L ρ ⟨h.g,fun id hid=>h.fr id (hfr id hid),h.tm,h.size,h.defers,h.pin⟩ ht
  |cons o os ih=>
    intro i tr tm tm' σ σ' a w w0 L ρ fresh hj hr h hfr1 hfr hnd ht hQ
    cases tr with
    |nil=>exact hr.elim
    |cons e tr=>
      obtain⟨⟨hw,hs,hn⟩,hr⟩:=hr
      have hi:ops[i]?=some o:=by have:=hj 0;simpa using this.symm
      rw [List.length_cons,List.range'_succ,wpOpsIn_cons]
      refine wE (fresh':=fun id=>fresh id/\id∉e.nw) hF h hi (hd o (by have:=Array.mem_of_getElem? hi;simpa using this)) hw (fun he=>⟨(hs he).1,(hs he).2.1,fun id hid=>by
        obtain⟨t,h1,h2,h3,h4⟩:=(hs he).2.2 id hid
        exact hfr1 o (by simp) t h1 id h2 h4 h3⟩) (fun _ _=>rfl) hn (fun id h=>h) ?_
      intro a' w' L' ρ' h' ht' _
      have f1:∀o'∈os,∀t,o'.dst=some t->∀id,nx*100000<=id->id% 1000=t->id< (nx+1)*100000->id∉e.nw:=by
        intro o' ho' t ht id h1 h2 h3 hc
        cases hrun:e.run with
        |false=>rw [(hn hrun).2.1]at hc;simp at hc
        |true=>
          obtain⟨t',g1,g2,g3,g4⟩:=(hs hrun).2.2 id hc
          have htt:t=t':=by rw [<-h2,<-g4]
          subst htt
          simp only [List.filterMap_cons,g1,List.nodup_cons]at hnd
          exact hnd.1 (List.mem_filterMap.2 ⟨o',ho',ht⟩)
      have f2:∀id,bV (nx+1) id->id∉e.nw:=by
        intro id hid hc
        cases hrun:e.run with
        |false=>rw [(hn hrun).2.1]at hc;simp at hc
        |true=>
          obtain⟨t',g1,g2,g3,g4⟩:=(hs hrun).2.2 id hc
          unfold bV at hid
          omega
      refine ih (i+1) tr _ _ _ _ a' w' w0 L' ρ' _ (fun j=>by have:=hj (j+1);simpa [Nat.add_assoc,Nat.add_comm 1 j]using this) hr h' (fun o' ho' t ht id h1 h2 h3=>⟨hfr1 o' (by simp [ho']) t ht id h1 h2 h3,f1 o' ho' t ht id h1 h2 h3⟩) (fun id hid=>⟨hfr id hid,f2 id hid⟩) ?_ (ht.trans ht') hQ
      cases hdst:o.dst with
      |none=>simpa [List.filterMap_cons,hdst]using hnd
      |some t=>simp only [List.filterMap_cons,hdst,List.nodup_cons]at hnd;exact hnd.2
theorem jX{δ:List (Nat×Option Ob)}:∀ {σ:Nat->Option Ob}{k:Nat},k∉aV δ->bG σ δ k=σ k:=by
 induction δ with
 |nil=>intro σ k _;rfl
 |cons p δ ih=>intro σ k hk;obtain⟨j,o⟩:=p;simp only [aV,List.map_cons,List.mem_cons,not_or]at hk;rw [bG,ih (by simpa [aV]using hk.2),ah _ _ hk.1]
theorem J7{δ:List (Nat×Option Ob)}:∀ {σ τ:Nat->Option Ob}{k:Nat},k∈aV δ->bG σ δ k=bG τ δ k:=by
 induction δ with
 |nil=>intro σ τ k hk;simp [aV]at hk
 |cons p δ ih=>
  intro σ τ k hk;obtain⟨j,o⟩:=p;by_cases h:k∈aV δ;·rw [bG,bG];exact ih h
  ·simp only [aV,List.map_cons,List.mem_cons]at hk h;have hkj:k=j:=hk.resolve_right h;subst hkj;rw [bG,bG,jX (by simpa [aV]using h),jX (by simpa [aV]using h),ak,ak]
def fT(o:Oper):List Nat:=(o.after.toList.filter (Region.binds .any ·)).map (·.on)
def qP(ops:List Oper)(E:Nat->Prop):Prop:=∀i o,ops[i]?=some o->E i->∀j∈fT o,E j
def reach(ops:List Oper):Nat->List Nat->List Nat
 |0,s=>s
 |n+1,s=>reach ops n (s++s.flatMap fun j=>match ops[j]? with |some o=>fT o |none=>[]).eraseDups
theorem dH{ops:List Oper}{E:Nat->Prop}(h:qP ops E):∀(n:Nat) (s:List Nat),(∀j∈s,E j)->∀j∈reach ops n s,E j
 |0,s,hs,j,hj=>hs j hj
 |n+1,s,hs,j,hj=>by
  refine dH h n _ (fun k hk=> ?_) j hj;rw [List.mem_eraseDups,List.mem_append]at hk;rcases hk with hk |hk;·exact hs k hk
  ·rw [List.mem_flatMap]at hk;obtain⟨i,hi,hk⟩:=hk;cases ho:ops[i]? with
   |none=>rw [ho]at hk;simp at hk
   |some o=>rw [ho]at hk;exact h i o ho (hs i hi) k hk
def looks(ds:List (Option Tmp))(o:Oper):List Tmp:=
 (o.op.operands.toList.filterMap fun | .tmp t=>some t |_=>none)++
 (match o.guard with
  |some (g,_)=>((ds[g]?).bind id).toList
  |none=>[])
def jc(ops:List Oper)(ks:List (List Nat×List Nat)):Bool:=
 let ds:=ops.map (·.dst)
 let n:=ops.length
 decide ((ops.filterMap (·.dst)).Nodup) &&
 (List.range n).all (fun i=>match ops[i]? with
  |some o=>(fT o).all (· < i) &&
   (List.range n).all (fun j=>j == i || match (ds[j]?).bind id with
    |some t=> !(looks ds o).contains t || (fT o).contains j || (reach ops n [j]).contains i
    |none=>true) &&
   (match ks[i]? with
    |some (wi,fi)=>(wi.isEmpty && fi.isEmpty) || ((List.range n).all fun j=>match ks[j]? with
     |some (wj,fj)=>i == j || (wi.all (fun k=> !fj.contains k) && wj.all (fun k=> !fi.contains k)) || (reach ops n [i]).contains j || (reach ops n [j]).contains i
     |none=>true)
    |none=>true)
  |none=>true)
section
variable {P:Program}{W LB:Nat->Prop}{ops:List Oper}{nx:Nat}
def o8(ops:List Oper)(tr:List TE)(tm:Nat->V):Nat->Nat->V
 |0=>tm
 |i+1=>match ops[i]?,tr[i]? with
  |some o,some e=>eR (o8 ops tr tm i) o.dst e.v
  |_,_=>o8 ops tr tm i
def tB(tr:List TE)(σ:Nat->Option Ob):Nat->Nat->Option Ob
 |0=>σ
 |i+1=>match tr[i]? with
  |some e=>bG (tB tr σ i) e.δ
  |none=>tB tr σ i
theorem o9(o:Oper)(os:List Oper)(e:TE)(tr:List TE)(tm:Nat->V):∀i,o8 (o::os) (e::tr) tm (i+1)=o8 os tr (eR tm o.dst e.v) i
 |0=>by simp [o8]
 |i+1=>by rw [o8,o9 o os e tr tm i];simp [o8]
theorem pF(e:TE)(tr:List TE)(σ:Nat->Option Ob):∀i,tB (e::tr) σ (i+1)=tB tr (bG σ e.δ) i
 |0=>by simp [tB]
 |i+1=>by rw [tB,pF e tr σ i];simp [tB]
theorem Kr.at_{pops:Array Oper}:∀ {os:List Oper}{tr:List TE}{tm tm':Nat->V}{σ σ':Nat->Option Ob},Kr P W LB pops nx os tr tm σ tm' σ'-> os.length=tr.length/\(∀i o e,os[i]?=some o->tr[i]?=some e->zG P W LB pops nx (o8 os tr tm i) (tB tr σ i) o e)/\tm'=o8 os tr tm os.length/\σ'=tB tr σ os.length
 | [],[],tm,tm',σ,σ',h=>⟨rfl,fun i o e h=>by simp at h,h.1,h.2⟩
 | [],_::_,_,_,_,_,h=>h.elim
 |_::_,[],_,_,_,_,h=>h.elim
 |o::os,e::tr,tm,tm',σ,σ',h=>by
  obtain⟨h0,h1⟩:=h;obtain⟨hl,hs,ht,hσ⟩:=Kr.at_ h1;refine⟨by simp [hl],fun i o' e' ho he=> ?_,?_,?_⟩
  ·cases i with
   |zero=>simp at ho he;subst ho he;exact h0
   |succ i=>rw [o9,pF];exact hs i o' e' (by simpa using ho) (by simpa using he)
  ·rw [List.length_cons,o9];exact ht
  ·rw [List.length_cons,pF];exact hσ
def IT(ops:List Oper)(tr:List TE)(tm0:Nat->V)(E:Nat->Prop)(tm:Nat->V):Prop:= (∀t,(∀j o,ops[j]?=some o->E j->o.dst≠some t)->tm t=tm0 t)/\∀j o e t,ops[j]?=some o->tr[j]?=some e->E j->o.dst=some t->tm t=e.v
def IS(tr:List TE)(σ0:Nat->Option Ob)(E:Nat->Prop)(σ:Nat->Option Ob):Prop:=
 (∀k,(∀(j:Nat) e,tr[j]?=some e->E j->k∉aV e.δ)->σ k=σ0 k)/\
 ∀(j:Nat) e k,tr[j]?=some e->E j->k∈aV e.δ->(∀(l:Nat) e',tr[l]?=some e'->E l->j< l->k∉aV e'.δ)->σ k=bG (fun _=>none) e.δ k
theorem IT.same{tr:List TE}{tm0 tm tm':Nat->V}{E:Nat->Prop}(hl:ops.length=tr.length)(h:IT ops tr tm0 E tm)(h':IT ops tr tm0 E tm'):tm=tm':=by
 funext t;by_cases hw:∃j o,ops[j]?=some o/\E j/\o.dst=some t
 ·obtain⟨j,o,ho,hE,hd⟩:=hw;have hj:j< tr.length:=by rw [<-hl];exact(List.getElem?_eq_some_iff.1 ho).1
  rw [h.2 j o tr[j] t ho (List.getElem?_eq_getElem hj) hE hd,h'.2 j o tr[j] t ho (List.getElem?_eq_getElem hj) hE hd]
 ·have:∀j o,ops[j]?=some o->E j->o.dst≠some t:=fun j o ho hE hd=>hw ⟨j,o,ho,hE,hd⟩;rw [h.1 t this,h'.1 t this]
theorem B0{tr:List TE}{E:Nat->Prop}{k:Nat}:∀(n:Nat),n<=tr.length->(∀(j:Nat) e,tr[j]?=some e->E j->k∈aV e.δ->j< n)->(∃(j:Nat) (e:TE),tr[j]?=some e/\E j/\k∈aV e.δ)-> ∃(j:Nat) (e:TE),tr[j]?=some e/\E j/\k∈aV e.δ/\∀(l:Nat) e',tr[l]?=some e'->E l->j< l->k∉aV e'.δ:=by
 intro n;induction n with
 |zero=>rintro _ hb ⟨j,e,h1,h2,h3⟩;exact absurd (hb j e h1 h2 h3) oM
 |succ n ih=>
  intro hn hb hex;have hlt:n< tr.length:=by omega
  by_cases hc:E n/\k∈aV tr[n].δ;·exact⟨n,tr[n],List.getElem?_eq_getElem hlt,hc.1,hc.2,fun l e' hl hE hjl hk=>by have:=hb l e' hl hE hk;omega⟩
  ·refine ih oM (fun j e h1 h2 h3=> ?_) hex;have:=hb j e h1 h2 h3;rcases Nat.lt_succ_iff_lt_or_eq.1 this with h |rfl;·exact h
   ·rw [List.getElem?_eq_getElem hlt]at h1;injection h1 with h1;subst h1;exact absurd ⟨h2,h3⟩ hc
theorem IS.same{tr:List TE}{σ0 σ σ':Nat->Option Ob}{E:Nat->Prop}(h:IS tr σ0 E σ)(h':IS tr σ0 E σ'):σ=σ':=by
 funext k;by_cases hw:∃(j:Nat) (e:TE),tr[j]?=some e/\E j/\k∈aV e.δ;·obtain⟨j,e,h1,h2,h3,h4⟩:=B0 tr.length (Nat.le_refl _) (fun j e h _ _=>(List.getElem?_eq_some_iff.1 h).1) hw;rw [h.2 j e k h1 h2 h3 h4,h'.2 j e k h1 h2 h3 h4]
 ·have:∀(j:Nat) e,tr[j]?=some e->E j->k∉aV e.δ:=fun j e ho hE hd=>hw ⟨j,e,ho,hE,hd⟩;rw [h.1 k this,h'.1 k this]
theorem IT.step{tr:List TE}{tm0 tm:Nat->V}{E:Nat->Prop}{i:Nat}{o:Oper}{e:TE}(hu:∀(i j:Nat) (o o':Oper) (t:Tmp),ops[i]?=some o->ops[j]?=some o'->o.dst=some t->o'.dst=some t->i=j)(h:IT ops tr tm0 E tm)(ho:ops[i]?=some o)(he:tr[i]?=some e) :
    IT ops tr tm0 (fun j=>E j\/j=i) (eR tm o.dst e.v):=by
  refine⟨fun t ht=> ?_,fun j o' e' t ho' he' hE hd=> ?_⟩
  · have h1:=ht i o ho (.inr rfl)
    have h2:=h.1 t fun j o' ho' hE=>ht j o' ho' (.inl hE)
    cases hd:o.dst with
    |none=>exact h2
    |some d=>rw [eR,ah _ _ (fun hc=>h1 (by rw [hd,hc])),h2]
  · rcases hE with hE |rfl
    · by_cases hji:j=i
      · subst hji
        rw [ho]at ho';injection ho' with ho';subst ho'
        rw [he]at he';injection he' with he';subst he'
        rw [hd,eR,ak]
      · have h2:=h.2 j o' e' t ho' he' hE hd
        cases hd':o.dst with
        |none=>exact h2
        |some d=>rw [eR,ah _ _ (fun hc=>hji (hu j i o' o t ho' ho hd (by rw [hd',hc]))),h2]
    · rw [ho]at ho';injection ho' with ho';subst ho'
      rw [he]at he';injection he' with he';subst he'
      rw [hd,eR,ak]
theorem IS.step{tr:List TE}{σ0 σ:Nat->Option Ob}{E:Nat->Prop}{i:Nat}{e:TE}(h:IS tr σ0 E σ)(he:tr[i]?=some e)(hE:¬E i)(hlater:∀k∈aV e.δ,∀(j:Nat) e',tr[j]?=some e'->E j->k∈aV e'.δ->j< i) :
    IS tr σ0 (fun j=>E j\/j=i) (bG σ e.δ):=by
  refine⟨fun k hk=> ?_,fun j e' k he' hj hk hlast=> ?_⟩
  · rw [jX (hk i e he (.inr rfl)),h.1 k fun j e' he' hE=>hk j e' he' (.inl hE)]
  · by_cases hji:j=i
    · subst hji
      rw [he]at he';injection he' with he';subst he'
      exact J7 hk
    · have hEj:E j:=hj.resolve_right hji
      have hni:k∉aV e.δ:=fun hc=>by
        have h1:=hlater k hc j e' he' hEj hk
        exact hlast i e he (.inr rfl) h1 hc
      rw [jX hni]
      exact h.2 j e' k he' hEj hk fun l e'' hl hEl hjl=>hlast l e'' hl (.inl hEl) hjl
end
section
variable {P:Program}{W LB:Nat->Prop}{ops:List Oper}{nx:Nat}
theorem uI:∀ {l:List Oper},(l.filterMap (·.dst)).Nodup->∀(i j:Nat) (o o':Oper) (t:Tmp),l[i]?=some o->l[j]?=some o'->o.dst=some t->o'.dst=some t->i=j
 | [],_,i,j,o,o',t,h,_,_,_=>by simp at h
 |x::l,hn,i,j,o,o',t,hi,hj,h1,h2=>by
  have hn':(l.filterMap (·.dst)).Nodup:=by
   cases hx:x.dst with
   |none=>simpa [List.filterMap_cons,hx]using hn
   |some d=>simp only [List.filterMap_cons,hx,List.nodup_cons]at hn;exact hn.2
  have key:∀(k:Nat) (p:Oper),l[k]?=some p->p.dst=some t->x.dst≠some t:=by intro k p hk hp hx;simp only [List.filterMap_cons,hx,List.nodup_cons]at hn;exact hn.1 (List.mem_filterMap.2 ⟨p,List.mem_of_getElem? hk,hp⟩)
  cases i with
  |zero=>
   simp at hi;subst hi;cases j with
   |zero=>rfl
   |succ j=>exact absurd h1 (key j o' (by simpa using hj) h2)
  |succ i=>
   cases j with
   |zero=>simp at hj;subst hj;exact absurd h2 (key i o (by simpa using hi) h1)
   |succ j=>rw [uI hn' i j o o' t (by simpa using hi) (by simpa using hj) h1 h2]
theorem IT.congr{tr:List TE}{tm0 tm:Nat->V}{E E':Nat->Prop}(h:IT ops tr tm0 E tm)(he:∀j,j< ops.length->(E j<->E' j)):IT ops tr tm0 E' tm:= ⟨fun t ht=>h.1 t fun j o ho hE=>ht j o ho ((he j (List.getElem?_eq_some_iff.1 ho).1).1 hE),fun j o e t ho he' hE hd=>h.2 j o e t ho he' ((he j (List.getElem?_eq_some_iff.1 ho).1).2 hE) hd⟩
theorem IS.congr{tr:List TE}{σ0 σ:Nat->Option Ob}{E E':Nat->Prop}(h:IS tr σ0 E σ)(he:∀j,j< tr.length->(E j<->E' j)):IS tr σ0 E' σ:=
  ⟨fun k hk=>h.1 k fun j e hj hE=>hk j e hj ((he j (List.getElem?_eq_some_iff.1 hj).1).1 hE),
   fun j e k hj hE hk hl=>h.2 j e k hj ((he j (List.getElem?_eq_some_iff.1 hj).1).2 hE) hk fun l e' hl' hEl hjl=>hl l e' hl' ((he l (List.getElem?_eq_some_iff.1 hl').1).1 hEl) hjl⟩
theorem IT.at_{tr:List TE}{tm0:Nat->V}(hl:ops.length=tr.length)(hu:∀(i j:Nat) (o o':Oper) (t:Tmp),ops[i]?=some o->ops[j]?=some o'->o.dst=some t->o'.dst=some t->i=j):∀i,i<=ops.length->IT ops tr tm0 (· < i) (o8 ops tr tm0 i)
 |0,_=>⟨fun t _=>rfl,fun j o e t _ _ h=>absurd h (Nat.not_lt_zero _)⟩
 |i+1,hi=>by
  have ih:=IT.at_ (tm0:=tm0) hl hu i oM;have h1:i< tr.length:=by omega
  have h2:i< ops.length:=by omega
  have:=ih.step hu (List.getElem?_eq_getElem h2) (List.getElem?_eq_getElem h1);rw [o8,List.getElem?_eq_getElem h2,List.getElem?_eq_getElem h1];exact this.congr fun j _=>by omega
theorem IS.at_{tr:List TE}{σ0:Nat->Option Ob}:∀i,i<=tr.length->IS tr σ0 (· < i) (tB tr σ0 i)
 |0,_=>⟨fun t _=>rfl,fun j e k _ h=>absurd h (Nat.not_lt_zero _)⟩
 |i+1,hi=>by
  have ih:=IS.at_ (tr:=tr) (σ0:=σ0) i oM;have h1:i< tr.length:=by omega
  have:=ih.step (List.getElem?_eq_getElem h1) oM fun k _ j e' _ hE _=>hE;rw [tB,List.getElem?_eq_getElem h1];exact this.congr fun j _=>by omega
theorem IS.key{tr:List TE}{σ0 σ σ':Nat->Option Ob}{E E':Nat->Prop}(h:IS tr σ0 E σ)(h':IS tr σ0 E' σ'){k:Nat}(he:∀(j:Nat) e,tr[j]?=some e->k∈aV e.δ->(E j<->E' j)):σ k=σ' k:=by
 by_cases hw:∃(j:Nat) (e:TE),tr[j]?=some e/\E j/\k∈aV e.δ;·obtain⟨j,e,h1,h2,h3,h4⟩:=B0 tr.length (Nat.le_refl _) (fun j e h _ _=>(List.getElem?_eq_some_iff.1 h).1) hw;rw [h.2 j e k h1 h2 h3 h4,h'.2 j e k h1 ((he j e h1 h3).1 h2) h3 fun l e' hl hE hjl hk=>h4 l e' hl ((he l e' hl hk).2 hE) hjl hk]
 ·have h1:∀(j:Nat) e,tr[j]?=some e->E j->k∉aV e.δ:=fun j e ho hE hd=>hw ⟨j,e,ho,hE,hd⟩;rw [h.1 k h1,h'.1 k fun j e ho hE hd=>h1 j e ho ((he j e ho hd).2 hE) hd]
theorem IT.key{tr:List TE}{tm0 tm tm':Nat->V}{E E':Nat->Prop}(hl:ops.length=tr.length)(h:IT ops tr tm0 E tm)(h':IT ops tr tm0 E' tm'){t:Tmp}(he:∀(j:Nat) o,ops[j]?=some o->o.dst=some t->(E j<->E' j)):tm t=tm' t:=by
 by_cases hw:∃j o,ops[j]?=some o/\E j/\o.dst=some t
 ·obtain⟨j,o,ho,hE,hd⟩:=hw;have hj:j< tr.length:=by rw [<-hl];exact(List.getElem?_eq_some_iff.1 ho).1
  rw [h.2 j o tr[j] t ho (List.getElem?_eq_getElem hj) hE hd,h'.2 j o tr[j] t ho (List.getElem?_eq_getElem hj) ((he j o ho hd).1 hE) hd]
 ·have h1:∀j o,ops[j]?=some o->E j->o.dst≠some t:=fun j o ho hE hd=>hw ⟨j,o,ho,hE,hd⟩;rw [h.1 t h1,h'.1 t fun j o ho hE hd=>h1 j o ho ((he j o ho hd).2 hE) hd]
def lE(tr:List TE):List (List Nat×List Nat):=tr.map fun e=>(aV e.δ,dZ e.pre++aV e.δ)
structure Qp(ops:List Oper)(tr:List TE):Prop where
  uniq:∀(i j:Nat) (o o':Oper) (t:Tmp),ops[i]?=some o->ops[j]?=some o'->o.dst=some t->o'.dst=some t->i=j
  after:∀(i:Nat) o,ops[i]?=some o->∀j∈fT o,j< i
  data:∀(i:Nat) o,ops[i]?=some o->∀(j:Nat) o' t,ops[j]?=some o'->o'.dst=some t->t∈looks (ops.map (·.dst)) o->j=i\/j∈fT o\/i∈reach ops ops.length [j]
  conf:∀(i:Nat) e,tr[i]?=some e->∀(j:Nat) e',tr[j]?=some e'->i≠j->∀k,k∈dZ e.pre++aV e.δ->k∈aV e'.δ->j∈reach ops ops.length [i]\/i∈reach ops ops.length [j]
theorem yx{tr:List TE}(hl:ops.length=tr.length)(h:jc ops (lE tr)=true):Qp ops tr:=by
 unfold jc at h;simp only [Bool.and_eq_true,decide_eq_true_eq,List.all_eq_true,List.mem_range]at h;obtain⟨hn,h⟩:=h;refine⟨uI hn,fun i o ho j hj=> ?_,fun i o ho j o' t ho' hd ht=> ?_,fun i e he j e' he' hij k hk hk'=> ?_⟩;·have:=h i (List.getElem?_eq_some_iff.1 ho).1;rw [ho]at this;simp only [Bool.and_eq_true,List.all_eq_true,decide_eq_true_eq]at this;exact this.1.1 j hj
 ·have:=h i (List.getElem?_eq_some_iff.1 ho).1;rw [ho]at this;simp only [Bool.and_eq_true,List.all_eq_true,decide_eq_true_eq,List.mem_range]at this;have h2:=this.1.2 j (List.getElem?_eq_some_iff.1 ho').1;have e1:((ops.map (·.dst))[j]?).bind id=some t:=by rw [List.getElem?_map,ho'];simp [hd]
  rw [e1]at h2;simp only [Bool.or_eq_true,beq_iff_eq,Bool.not_eq_true',List.contains_eq_mem,decide_eq_false_iff_not,decide_eq_true_eq]at h2;rcases h2 with h2 | (h2 |h2) |h2;·exact .inl h2
  ·exact absurd ht h2
  ·exact .inr (.inl h2)
  ·exact .inr (.inr h2)
 ·have hi:i< ops.length:=by rw [hl];exact(List.getElem?_eq_some_iff.1 he).1
  have hj:j< ops.length:=by rw [hl];exact(List.getElem?_eq_some_iff.1 he').1
  have:=h i hi;rw [List.getElem?_eq_getElem hi]at this;simp only [Bool.and_eq_true,List.all_eq_true,decide_eq_true_eq,List.mem_range]at this;have h2:=this.2;have e1:(lE tr)[i]?=some (aV e.δ,dZ e.pre++aV e.δ):=by rw [lE,List.getElem?_map,he];rfl
  have e2:(lE tr)[j]?=some (aV e'.δ,dZ e'.pre++aV e'.δ):=by rw [lE,List.getElem?_map,he'];rfl
  rw [e1]at h2;simp only [Bool.or_eq_true,Bool.and_eq_true,List.all_eq_true,List.mem_range,List.isEmpty_iff]at h2;rcases h2 with h2 |h2;·rw [h2.2]at hk;simp at hk
  ·have h3:=h2 j hj;rw [e2]at h3;simp only [Bool.or_eq_true,Bool.and_eq_true,List.all_eq_true,beq_iff_eq,Bool.not_eq_true',List.contains_eq_mem,decide_eq_false_iff_not,decide_eq_true_eq]at h3;rcases h3 with((h3 |h3) |h3) |h3;·exact absurd h3 hij
   ·exact absurd hk (h3.2 k hk')
   ·exact .inl h3
   ·exact .inr h3
theorem t9{pops:Array Oper}{tm tm':Nat->V}{o:Oper}(h:∀t∈looks (pops.toList.map (·.dst)) o,tm t=tm' t):dJ pops tm o=dJ pops tm' o:=by
 unfold dJ;cases hg:o.guard with
 |none=>rfl
 |some p=>
  obtain⟨j,b⟩:=p;simp only;cases hd:(pops[j]?).bind (·.dst)with
  |none=>rfl
  |some d=>
   have:d∈looks (pops.toList.map (·.dst)) o:=by
    unfold looks;rw [hg];refine List.mem_append_right _ ?_;simp only [List.getElem?_map,Array.getElem?_toList];cases hp:pops[j]? with
    |none=>rw [hp]at hd;cases hd
    |some q=>rw [hp]at hd;simpa using hd
   simp only [h d this]
theorem JV{pops:Array Oper}(hpo:pops=ops.toArray){N:Nat}{dfs:Dp}{F:Fence}(hF:FW F){Q:Exit->Act->World->Prop}{tr:List TE}{tm0 tm':Nat->V}{σ0 σ':Nat->Option Ob}{w0:World}(hd:∀o∈ops,∀t,o.dst=some t->t< N)
    (hr:Kr P W LB pops nx ops tr tm0 σ0 tm' σ') (hok:Qp ops tr) (hQ:∀a' w' L' ρ',qR W LB N dfs (bV (nx+1)) tm' σ' a' w' L' ρ'->aZ W w0 w'->Q .normal a' w') :
    ∀(fuel:Nat) (listed:Array Bool) (a:Act) (w:World) (L:Nat->Prop) (ρ:Nat->Option Value) (tm:Nat->V) (σ:Nat->Option Ob) (fresh:Nat->Prop),listed.size=ops.length->listed.toList.count false=fuel->
      qP ops (fun j=>listed.getD j false=true)->IT ops tr tm0 (fun j=>listed.getD j false=true) tm->IS tr σ0 (fun j=>listed.getD j false=true) σ->qR W LB N dfs fresh tm σ a w L ρ->
      (∀(i:Nat) o,ops[i]?=some o->listed.getD i false=false->∀t,o.dst=some t->∀id,nx*100000<=id->id% 1000=t->id< (nx+1)*100000->fresh id)->(∀id,bV (nx+1) id->fresh id)->aZ W w0 w->
      wpAnyIn F 0 P .any pops Q fuel listed a w:=by
  obtain⟨hl,hs,htm,hσ⟩:=hr.at_
  have hall:∀(listed:Array Bool) (a:Act) (w:World) (L:Nat->Prop) (ρ:Nat->Option Value) (tm:Nat->V) (σ:Nat->Option Ob) (fresh:Nat->Prop),listed.size=ops.length->listed.toList.count false=0->
      IT ops tr tm0 (fun j=>listed.getD j false=true) tm->IS tr σ0 (fun j=>listed.getD j false=true) σ->qR W LB N dfs fresh tm σ a w L ρ->(∀id,bV (nx+1) id->fresh id)->aZ W w0 w->Q .normal a w:=by
    intro listed a w L ρ tm σ fresh hsz hc hIT hIS h hfr ht
    have hE:∀j,j< ops.length->(listed.getD j false=true<->j< ops.length):=by
      intro j hj
      refine⟨fun _=>hj,fun _=> ?_⟩
      have hj':j< listed.size:=by omega
      have:=List.count_eq_zero.1 hc
      simp only [Array.getD_eq_getD_getElem?,Array.getElem?_eq_getElem hj',Option.getD_some]
      cases hb:listed[j]with
      |true=>rfl
      |false=>exact absurd (by rw [<-hb];simp) this
    have e1:tm=tm':=by rw [htm];exact(hIT.congr hE).same hl (IT.at_ hl hok.uniq _ (Nat.le_refl _))
    have e2:σ=σ':=by rw [hσ];exact(hIS.congr fun j hj=>hE j oM).same (by rw [hl];exact IS.at_ _ (Nat.le_refl _))
    subst e1 e2
    exact hQ a w L ρ ⟨h.g,fun id hid=>h.fr id (hfr id hid),h.tm,h.size,h.defers,h.pin⟩ ht
  have hmem:∀(listed:Array Bool),listed.size=ops.length->∀i,i∈Region.ready .any pops listed<->(∃o,ops[i]?=some o/\listed.getD i false=false/\∀j∈fT o,listed.getD j false=true):=by
    intro listed hsz i
    subst hpo
    simp only [Region.ready,List.mem_filter,List.mem_range,List.size_toArray,Bool.and_eq_true,Bool.not_eq_true',List.getElem?_toArray]
    constructor
    · rintro⟨hi,h1,h2⟩
      have hi':i< listed.size:=by omega
      rw [List.getElem?_eq_getElem hi]at h2
      refine⟨ops[i],List.getElem?_eq_getElem hi,?_,fun j hj=> ?_⟩
      · simp only [Array.getD_eq_getD_getElem?,Array.getElem?_eq_getElem hi',Option.getD_some]at h1 ⊢;exact h1
      · simp only [Option.map_some,Option.getD_some,Array.all_eq_true_iff_forall_mem]at h2
        simp only [fT,List.mem_map,List.mem_filter]at hj
        obtain⟨e,⟨he,hb⟩,rfl⟩:=hj
        have:=h2 e (by simpa using he)
        rw [hb]at this
        simpa using this
    · rintro⟨o,ho,h1,h2⟩
      have hi:=(List.getElem?_eq_some_iff.1 ho).1
      have hi':i< listed.size:=by omega
      refine⟨hi,?_,?_⟩
      · simp only [Array.getD_eq_getD_getElem?,Array.getElem?_eq_getElem hi',Option.getD_some]at h1 ⊢;exact h1
      · rw [ho]
        simp only [Option.map_some,Option.getD_some,Array.all_eq_true_iff_forall_mem]
        intro e he
        cases hb:Region.binds .any e with
        |false=>simp
        |true=>
          simp only [Bool.not_true,Bool.false_or]
          exact h2 e.on (List.mem_map.2 ⟨e,List.mem_filter.2 ⟨by simpa using he,hb⟩,rfl⟩)
  intro fuel
  induction fuel with
  |zero=>
    intro listed a w L ρ tm σ fresh hsz hc hcl hIT hIS h hfr1 hfr ht
    refine⟨?_,hall listed a w L ρ tm σ fresh hsz hc hIT hIS h hfr ht⟩
    refine List.eq_nil_iff_forall_not_mem.2 fun i hi=> ?_
    obtain⟨o,ho,h1,_⟩:=(hmem listed hsz i).1 hi
    have hi':i< listed.size:=by rw [hsz];exact(List.getElem?_eq_some_iff.1 ho).1
    simp only [Array.getD_eq_getD_getElem?,Array.getElem?_eq_getElem hi',Option.getD_some]at h1
    exact List.count_eq_zero.1 hc (by rw [<-h1];simp)
  |succ fuel ih=>
    intro listed a w L ρ tm σ fresh hsz hc hcl hIT hIS h hfr1 hfr ht
    refine⟨fun hnil=> ?_,fun i hi=> ?_⟩
    · exfalso
      -- the first one that is not listed is ready
      have hex:∃i,i< ops.length/\listed.getD i false=false:=by
        have:false∈listed.toList:=List.count_pos_iff.1 oM
        obtain⟨i,hi,he⟩:=List.getElem_of_mem this
        have hi':i< listed.size:=by simpa using hi
        exact⟨i,by omega,by simp only [Array.getD_eq_getD_getElem?,Array.getElem?_eq_getElem hi',Option.getD_some];simpa using he⟩
      have key:∀m,∀i,i< m->i< ops.length->listed.getD i false=false->False:=by
        intro m
        induction m with
        |zero=>intro i h;omega
        |succ m ihm=>
          intro i him hil hf
          have:i∈Region.ready .any pops listed:=(hmem listed hsz i).2 ⟨ops[i],List.getElem?_eq_getElem hil,hf,fun j hj=>by
            have hji:=hok.after i _ (List.getElem?_eq_getElem hil) j hj
            cases hb:listed.getD j false with
            |true=>rfl
            |false=>exact(ihm j oM oM hb).elim⟩
          rw [hnil]at this
          simp at this
      obtain⟨i,hi,hf⟩:=hex
      exact key (i+1) i oM hi hf
    · obtain⟨o,ho,hf,haf⟩:=(hmem listed hsz i).1 hi
      have hil:=(List.getElem?_eq_some_iff.1 ho).1
      have hil':i< listed.size:=by omega
      have hit:i< tr.length:=by omega
      have hte:=List.getElem?_eq_getElem hit
      have hst:=hs i o tr[i] ho hte
      have hnE:¬listed.getD i false=true:=by rw [hf];simp
      -- writers of a temporary that is looked at
      have hlook:∀t∈looks (ops.map (·.dst)) o,tm t=o8 ops tr tm0 i t:=by
        intro t ht'
        refine hIT.key hl (IT.at_ hl hok.uniq i oM) fun j o' ho' hd'=> ?_
        rcases hok.data i o ho j o' t ho' hd' ht' with rfl |hj |hc1
        · exact⟨fun h=>absurd h hnE,fun h=>absurd h oM⟩
        · exact⟨fun _=>hok.after i o ho j hj,fun _=>haf j hj⟩
        · have hle:qP ops (fun l=>l<=j):=by
            intro l ol hol hE m hm
            have:=hok.after l ol hol m hm
            omega
          have h2:=dH hle ops.length [j] (by simp) i hc1
          exact⟨fun hE=>absurd (dH hcl ops.length [j] (by simpa using hE) i hc1) hnE,fun h=>by omega⟩
      -- writers of an object that is touched
      have hkey:∀k∈dZ tr[i].pre++aV tr[i].δ,∀(j:Nat) e',tr[j]?=some e'->j≠i->k∈aV e'.δ->(listed.getD j false=true<->j< i):=by
        intro k hk j e' he' hji hk'
        have hcl2:qP ops (fun l=>listed.getD l false=true\/l=i):=by
          intro l ol hol hE m hm
          rcases hE with hE |rfl
          · exact .inl (hcl l ol hol hE m hm)
          · rw [ho]at hol;injection hol with hol;subst hol;exact .inl (haf m hm)
        have hle:∀q,qP ops (fun l=>l<=q):=by
          intro q l ol hol hE m hm
          have:=hok.after l ol hol m hm
          omega
        rcases hok.conf i _ hte j e' he' (fun e=>hji e.symm) k hk hk' with hc1 |hc1
        · have h1:=dH hcl2 ops.length [i] (by simp) j hc1
          have h2:=dH (hle i) ops.length [i] (by simp) j hc1
          have h1':=h1.resolve_right hji
          exact⟨fun _=>by omega,fun _=>h1'⟩
        · have h2:=dH (hle j) ops.length [j] (by simp) i hc1
          refine⟨fun hE=> ?_,fun h=>by omega⟩
          exact absurd (dH hcl ops.length [j] (by simpa using hE) i hc1) hnE
      have hlt:listed.setIfInBounds i true=listed.set i true hil':=by simp [Array.setIfInBounds,hil']
      have hgd:∀j,(listed.setIfInBounds i true).getD j false=true<->(listed.getD j false=true\/j=i):=by
        intro j
        by_cases hji:j=i
        · subst hji;simp [hil']
        · simp [Ne.symm hji,hji]
      have hpi:pops[i]?=some o:=by subst hpo;simpa using ho
      refine wE (tm0:=o8 ops tr tm0 i) (fresh':=fun id=>fresh id/\id∉tr[i].nw) hF h hpi (hd o (List.mem_of_getElem? ho)) (e:=tr[i]) ?_ (fun he=>⟨(hst.2.1 he).1,fun p hp=> ?_,fun id hid=> ?_⟩) (fun x hx=> ?_) hst.2.2 (fun id h=>h) ?_
      · rw [<-hst.1]
        exact t9 (by subst hpo;simpa using hlook)
      · rw [<-(hst.2.1 he).2.1 p hp]
        refine hIS.key (IS.at_ i oM) fun j e' he' hk'=> ?_
        by_cases hji:j=i
        · subst hji
          exact⟨fun h=>absurd h hnE,fun h=>absurd h oM⟩
        · exact hkey p.1 (List.mem_append_left _ (List.mem_map.2 ⟨p,hp,rfl⟩)) j e' he' hji hk'
      · obtain⟨t,g1,g2,g3,g4⟩:=(hst.2.1 he).2.2 id hid
        exact hfr1 i o ho hf t g1 id g2 g4 g3
      · cases x with
        |tmp t=>exact hlook t (List.mem_append_left _ (List.mem_filterMap.2 ⟨.tmp t,by simpa using hx,rfl⟩))
        |const v=>rfl
        |global g=>rfl
        |func f=>rfl
      · intro a' w' L' ρ' h' ht' _
        refine ih (listed.setIfInBounds i true) a' w' L' ρ' _ _ _ (by simpa using hsz) ?_ ?_ ?_ ?_ h' ?_ ?_ (ht.trans ht')
        · rw [Array.toList_setIfInBounds,List.count_set (by simpa using hil')]
          have e1:listed.toList[i]'(by simpa using hil')=false:=by
            simp only [Array.getD_eq_getD_getElem?,Array.getElem?_eq_getElem hil',Option.getD_some]at hf
            simpa using hf
          rw [e1,hc];simp
        · intro l ol hol hE m hm
          rw [hgd]at hE ⊢
          rcases hE with hE |rfl
          · exact .inl (hcl l ol hol hE m hm)
          · rw [ho]at hol;injection hol with hol;subst hol;exact .inl (haf m hm)
        · exact(hIT.step hok.uniq ho hte).congr fun j _=>(hgd j).symm
        · refine(hIS.step hte hnE fun k hk j e' he' hE hk'=> ?_).congr fun j _=>(hgd j).symm
          have hji:j≠i:=by rintro rfl;exact hnE hE
          exact(hkey k (List.mem_append_right _ hk) j e' he' hji hk').1 hE
        · intro j o' ho' hf' t ht2 id h1 h2 h3
          have hE:=(hgd j)
          rw [hf']at hE
          simp only [Bool.false_eq_true,false_iff,not_or]at hE
          refine⟨hfr1 j o' ho' (by cases hb:listed.getD j false with |false=>rfl |true=>exact absurd hb hE.1) t ht2 id h1 h2 h3,fun hc=> ?_⟩
          cases hrun:tr[i].run with
          |false=>rw [(hst.2.2 hrun).2.1]at hc;simp at hc
          |true=>
            obtain⟨t',g1,g2,g3,g4⟩:=(hst.2.1 hrun).2.2 id hc
            have htt:t=t':=by rw [<-h2,<-g4]
            subst htt
            exact hE.2 (hok.uniq j i o' o t ho' ho ht2 g1)
        · intro id hid
          refine⟨hfr id hid,fun hc=> ?_⟩
          cases hrun:tr[i].run with
          |false=>rw [(hst.2.2 hrun).2.1]at hc;simp at hc
          |true=>
            obtain⟨t',g1,g2,g3,g4⟩:=(hst.2.1 hrun).2.2 id hc
            unfold bV at hid
            omega
end
structure S where
  tm:Nat->V
  σ:Nat->Option Ob
  nx:Nat
structure Cx(P:Program)(N:Nat) where
  W:Nat->Prop
  LB:Nat->Prop
  wl:∀b,W b->LB b
  dfs:Dp
  mx:P.follows .mixedOrders=true
  F:Fence
  hF:FW F
def Gm{P:Program}{N:Nat}(C:Cx P N)(s:S)(a:Act)(w:World):Prop:=∃L ρ,qR C.W C.LB N C.dfs (bV s.nx) s.tm s.σ a w L ρ
def AW{P:Program}{N:Nat}(C:Cx P N)(c:Code)(Q:Exit->S->Prop)(s:S):Prop:= ∀a w,Gm C s a w->c.wpIn C.F 0 P (fun e a' w'=>∃s',Q e s'/\Gm C s' a' w'/\aZ C.W w w') a w
def dS(next:S->Prop)(Q:Exit->S->Prop):Exit->S->Prop
 | .normal,s=>next s
 |e,s=>Q e s
def kD(id:Nat)(Q:Exit->S->Prop):Exit->S->Prop
 | .exit id',s=>if id'=id then Q .normal s else Q (.exit id') s
 |e,s=>Q e s
def Le(s s':S):Prop:=∀ {P:Program}{N:Nat}(C:Cx P N) a w,Gm C s a w->Gm C s' a w
theorem Le.refl(s:S):Le s s:=fun _ _ _ h=>h
theorem Le.trans{s s' s'':S}(h:Le s s')(k:Le s' s''):Le s s'':=fun C a w g=>k C a w (h C a w g)
section
variable {P:Program}{N:Nat}{C:Cx P N}{Q:Exit->S->Prop}{s:S}
theorem pJ{c:Code}{s':S}(h:Le s s')(k:AW C c Q s'):AW C c Q s:=fun a w g=>k a w (h C a w g)
theorem BF{c:Code}{Q':Exit->S->Prop}(h:AW C c Q s)(hq:∀e s',Q e s'->Q' e s'):AW C c Q' s:= fun a w g=>wpIn_mono (h a w g) fun e _ _ ⟨s',q,g',t⟩=>⟨s',hq e s' q,g',t⟩
theorem aq(h:Q .normal s):AW C .skip Q s:=fun _ _ g=>wpIn_skip ⟨s,h,g,aZ.refl _ _⟩
theorem xo{l:Nat}(h:Q .normal s):AW C (.label l) Q s:=fun _ _ g=>wpIn_label ⟨s,h,g,aZ.refl _ _⟩
theorem bN{id:Nat}(h:Q (.exit id) s):AW C (.exit id) Q s:=fun _ _ g=>wpIn_exit ⟨s,h,g,aZ.refl _ _⟩
theorem av(h:Q .ret s):AW C .ret Q s:=fun _ _ g=>wpIn_ret ⟨s,h,g,aZ.refl _ _⟩
theorem zS{x y:Code}(h:AW C x (dS (fun s'=>AW C y Q s') Q) s):AW C (.seq x y) Q s:=by
 intro a w g;refine wpIn_seq (wpIn_mono (h a w g) ?_);rintro e a' w' ⟨s',q,g',t⟩;cases e with
 |normal=>refine wpIn_mono (q a' w' g') ?_;rintro e a'' w'' ⟨s'',q',g'',t'⟩;exact⟨s'',q',g'',t.trans t'⟩
 |_=>exact⟨s',q,g',t⟩
theorem qY{x y:Code}(h:∀K:S->Prop,(∀s',AW C y Q s'->K s')->AW C x (dS K Q) s):AW C (.seq x y) Q s:=zS (h _ fun _ h=>h)
theorem nk{c:Operand}{x y:Code}{t:Bool}(hc:ev s.tm c= .b t)(h1:t=true->AW C x Q s)(h2:t=false->AW C y Q s):AW C (.cond c x y) Q s:=by
 intro a w g;obtain⟨L,ρ,g'⟩:=g;have:=g'.tm.eval g'.g.gl c;rw [hc]at this;refine wpIn_cond this.aN ?_;cases t with
 |true=>exact h1 rfl a w ⟨L,ρ,g'⟩
 |false=>exact h2 rfl a w ⟨L,ρ,g'⟩
theorem az{id:Nat}{c:Code}(h:AW C c (kD id Q) s):AW C (.block id c) Q s:=by
 intro a w g;refine wpIn_block (wpIn_mono (h a w g) ?_);rintro e a' w' ⟨s',q,g',t⟩;cases e with
 |exit id'=>
  simp only [Exit.inBlock,kD]at q ⊢;split at q;·rename_i h;rw [if_pos h];exact⟨s',q,g',t⟩
  ·rename_i h;rw [if_neg h];exact⟨s',q,g',t⟩
 |_=>exact⟨s',q,g',t⟩
theorem least(p:Nat->Prop)(h:∃n,p n):∃n,p n/\∀m,p m->n<=m:=by
 obtain⟨n,hn⟩:=h;induction n using Nat.strongRecOn with
 |_ n ih=>
  by_cases h:∃m,m< n/\p m;·obtain⟨m,hm,hp⟩:=h;exact ih m hm hp
  ·exact⟨n,hn,fun m hm=>Nat.le_of_not_lt fun hlt=>h ⟨m,hlt,hm⟩⟩
open Classical in
theorem II{ι:Type}{c:Code}(I:ι->S)(ok:ι->Prop)(μ:ι->Nat)(x0:ι)(hx:ok x0)(h0:Le s (I x0))(round:∀x,ok x->AW C c (dS (fun s'=>∃y,ok y/\Le s' (I y)/\μ y< μ x) Q) (I x)):AW C (.loop c) Q s:=by
 intro a w g;have pr:∃q:Act->World->Nat->Prop,q=fun a' w' n=>∃x,ok x/\μ x=n/\Gm C (I x) a' w'/\aZ C.W w w':=⟨_,rfl⟩;obtain⟨q,hq⟩:=pr;have hqi:∀a' w' n,q a' w' n<->∃x,ok x/\μ x=n/\Gm C (I x) a' w'/\aZ C.W w w':=fun a' w' n=>by rw [hq]
 refine wpIn_loop (fun a' w'=>∃n,q a' w' n) (fun a' w'=>if h:∃n,q a' w' n then(least _ h).choose else 0) ⟨μ x0,(hqi _ _ _).2 ⟨x0,hx,rfl,h0 C a w g,aZ.refl _ _⟩⟩ ?_;rintro a' w' hex;have hl:=(least _ hex).choose_spec;obtain⟨x,hok,hμ,g',t'⟩:=(hqi _ _ _).1 hl.1;refine wpIn_mono (round x hok a' w' g') ?_;rintro e a'' w'' ⟨s'',r,g'',t''⟩;cases e with
 |normal=>obtain⟨y,hy,hle,hlt⟩:=r;have hqy:q a'' w'' (μ y):=(hqi _ _ _).2 ⟨y,hy,rfl,hle C _ _ g'',t'.trans t''⟩;refine⟨⟨μ y,hqy⟩,?_⟩;rw [dif_pos ⟨μ y,hqy⟩,dif_pos hex];have h1:=(least _ ⟨μ y,hqy⟩).choose_spec.2 (μ y) hqy;omega
 |_=>exact⟨s'',r,g'',t'.trans t''⟩
end
def bF{P:Program}{N:Nat}(C:Cx P N)(ops:Array Oper)(nx:Nat):List Oper->(Nat->V)->(Nat->Option Ob)->List (List Nat×List Nat)->((Nat->V)->(Nat->Option Ob)->List (List Nat×List Nat)->Prop)->Prop
 | [],tm,σ,ks,K=>K tm σ ks
 |o::os,tm,σ,ks,K=>∃e:TE,zG P C.W C.LB ops nx tm σ o e/\bF C ops nx os (eR tm o.dst e.v) (bG σ e.δ) (ks++[(aV e.δ,dZ e.pre++aV e.δ)]) K
theorem bF.run{P:Program}{N:Nat}{C:Cx P N}{ops:Array Oper}{nx:Nat}:∀ {os:List Oper}{tm:Nat->V}{σ:Nat->Option Ob}{ks:List (List Nat×List Nat)}{K},bF C ops nx os tm σ ks K->∃tr tm' σ',Kr P C.W C.LB ops nx os tr tm σ tm' σ'/\K tm' σ' (ks++lE tr)
 | [],tm,σ,ks,K,h=>⟨[],tm,σ,⟨rfl,rfl⟩,by simpa [lE,bF]using h⟩
 |o::os,tm,σ,ks,K,h=>by obtain⟨e,h1,h2⟩:=h;obtain⟨tr,tm',σ',h3,h4⟩:=bF.run h2;exact⟨e::tr,tm',σ',⟨h1,h3⟩,by simpa [lE]using h4⟩
def gM(N:Nat)(ops:List Oper):Bool:=ops.all (fun o=>match o.dst with |some t=>decide (t< N) && decide (t< 1000) |none=>true) && decide ((ops.filterMap (·.dst)).Nodup)
theorem jR{N:Nat}{ops:List Oper}(h:gM N ops=true):(∀o∈ops,∀t,o.dst=some t->t< N)/\(ops.filterMap (·.dst)).Nodup:=by simp only [gM,Bool.and_eq_true,List.all_eq_true,decide_eq_true_eq]at h;refine⟨fun o ho t ht=> ?_,h.2⟩;have:=h.1 o ho;rw [ht]at this;simp at this;exact this.1
theorem iK{nx id:Nat}(h:bV (nx+1) id):bV nx id:=by unfold bV at*;rw [Nat.add_mul]at h;exact Nat.le_trans (Nat.le_add_right _ _) h
theorem ov{P:Program}{N:Nat}{C:Cx P N}{Q:Exit->S->Prop}{s:S}{id:Nat}{ops:List Oper}(hok:gM N ops=true)(h:bF C ops.toArray s.nx ops s.tm s.σ [] fun tm' σ' _=>Q .normal ⟨tm',σ',s.nx+1⟩):AW C (.region id ops.toArray false) Q s:=by intro a w ⟨L,ρ,g⟩;obtain⟨h1,h2⟩:=jR hok;obtain⟨tr,tm',σ',h3,h4⟩:=h.run;refine wpIn_region ?_;rw [List.range_eq_range'];have:=yV (P:=P) (W:=C.W) (LB:=C.LB) (ops:=ops.toArray) (nx:=s.nx) (N:=N) (dfs:=C.dfs) C.hF (Q:=fun e a' w'=>∃s',Q e s'/\Gm C s' a' w'/\aZ C.W w w') (by simpa using h1) ops 0 tr s.tm tm' s.σ σ' a w w L ρ (bV s.nx) (by simp) h3 g (fun o ho t ht id h5 h6 h7=>h5) (fun id hid=>iK hid) h2 (aZ.refl _ _) (fun a' w' L' ρ' g' t'=>⟨⟨tm',σ',s.nx+1⟩,h4,⟨L',ρ',g'⟩,t'⟩);simpa using this
theorem mL{P:Program}{N:Nat}{C:Cx P N}{Q:Exit->S->Prop}{s:S}{id:Nat}{ops:List Oper}(hok:gM N ops=true)(h:bF C ops.toArray s.nx ops s.tm s.σ [] fun tm' σ' ks=>jc ops ks=true/\Q .normal ⟨tm',σ',s.nx+1⟩):AW C (.region id ops.toArray true) Q s:=by
 intro a w ⟨L,ρ,g⟩;obtain⟨h1,h2⟩:=jR hok;obtain⟨tr,tm',σ',h3,hk,h4⟩:=h.run;refine wpIn_region_any C.mx ?_;rw [List.nil_append]at hk;have hb:Below w.heap.size w {w with drawn:=w.drawn+1}:=⟨rfl,rfl,rfl,Nat.le_refl _,fun _ _=>rfl⟩;have hq:=g.g.quiet hb (L':=L) (fun _ h=>h) (fun _ h=> .inl h);have hsz:(ops.toArray).size=ops.length:=by simp
 have hall:∀j,¬(Array.replicate (ops.toArray).size false).getD j false=true:=by intro j;simp only [Array.getD_eq_getD_getElem?,Array.getElem?_replicate];split <;> simp
 refine JV (P:=P) (W:=C.W) (LB:=C.LB) (nx:=s.nx) (N:=N) (dfs:=C.dfs) rfl C.hF h1 h3 (yx h3.at_.1 hk) (w0:=w) (fun a' w' L' ρ' g' t'=>⟨⟨tm',σ',s.nx+1⟩,h4,⟨L',ρ',g'⟩,t'⟩) _ _ a _ L ρ s.tm s.σ (bV s.nx) (by simp) (by simp) (fun i o ho hE=>absurd hE (hall i))
  ⟨fun t _=>rfl,fun j o e t _ _ hE=>absurd hE (hall j)⟩ ⟨fun k _=>rfl,fun j e k _ hE=>absurd hE (hall j)⟩ ⟨hq.1,g.fr,g.tm.ext hq.2,g.size,g.defers,g.pin⟩ (fun i o ho _ t ht id h5 h6 h7=>h5) (fun id hid=>iK hid) (aZ.jQ hb)
section
variable {P:Program}{N:Nat}{C:Cx P N}{ops:Array Oper}{nx:Nat}{o:Oper}{os:List Oper}{tm:Nat->V}{σ:Nat->Option Ob}{ks:List (List Nat×List Nat)}{K:(Nat->V)->(Nat->Option Ob)->List (List Nat×List Nat)->Prop}
theorem aa(h:K tm σ ks):bF C ops nx [] tm σ ks K:=h
theorem CI{v:V}(hg:o.guard=none)(h:aD P o (ev tm) v)(hk:bF C ops nx os (eR tm o.dst v) σ (ks++[([],[])]) K):bF C ops nx (o::os) tm σ ks K:= ⟨⟨true,v,[],[],[]⟩,⟨by simp [dJ,hg],fun _=>⟨h.step,by simp,by simp [l6]⟩,by simp⟩,hk⟩
theorem eI{v:V}{pre:List (Nat×Ob)}{nw:List Nat}{δ:List (Nat×Option Ob)}(hg:o.guard=none)(h:aU P C.W C.LB o (ev tm) v pre nw δ)(hp:∀p∈pre,σ p.1=some p.2)(hn:l6 nx o.dst nw)
 (hk:bF C ops nx os (eR tm o.dst v) (bG σ δ) (ks++[(aV δ,dZ pre++aV δ)]) K):bF C ops nx (o::os) tm σ ks K:=
 ⟨⟨true,v,pre,nw,δ⟩,⟨by simp [dJ,hg],fun _=>⟨h,hp,hn⟩,by simp⟩,hk⟩
end
mutual
def V.bD(g:Nat->Nat):V->V
 | .agg cs=> .agg (V.aS g cs)
 | .tup cs=> .tup (V.aS g cs)
 | .fn f a b=> .fn f (V.aS g a) (V.aS g b)
 | .ifc t v=> .ifc t (v.bD g)
 | .gd q v=> .gd q (v.bD g)
 | .alt q v u=> .alt q (v.bD g) (u.bD g)
 | .own i=> .own (g i)
 | .ref i o=> .ref (g i) o
 | .oel i a b q=> .oel (g i) a b q
 | .osl i a b q=> .osl (g i) a b q
 | .fset a b=> .fset a b
 | .any=> .any
 | .c v=> .c v
 | .nil=> .nil
 | .emp=> .emp
 | .sl a b q=> .sl a b q
 | .ptr cs=> .ptr cs
def V.aS(g:Nat->Nat):List V->List V
 | []=>[]
 |v::l=>v.bD g::V.aS g l
end
theorem V.cx(g:Nat->Nat):∀(l:List V) (i:Nat),(V.aS g l)[i]?=(l[i]?).map (V.bD g)
 | [],i=>by simp [V.aS]
 |v::l,0=>by simp [V.aS]
 |v::l,i+1=>by simp only [V.aS,List.getElem?_cons_succ];exact V.cx g l i
theorem V.cY(g:Nat->Nat):∀l:List V,(V.aS g l).length=l.length
 | []=>rfl
 |v::l=>by simp [V.aS,V.cY g l]
theorem V.qb(g:Nat->Nat):∀l m:List V,V.aS g (l++m)=V.aS g l++V.aS g m
 | [],m=>rfl
 |v::l,m=>by simp [V.aS,V.qb g l m]
mutual
theorem kC{w:World}{L:Nat->Prop}{ρ:Nat->Option Value}(g:Nat->Nat):∀(v:V) (x:Value),R w L ρ (v.bD g) x->R w L (fun i=>ρ (g i)) v x
 | .agg cs,x,h=>by rw [V.bD]at h;obtain⟨xs,rfl,hl⟩:=h.eU;exact .lZ ⟨by rw [<-hl.1,V.cY],fun i u x hu hx=>by have:=hl.2 i (u.bD g) x (by rw [V.cx,hu];rfl) hx;exact⟨mF g cs i u x hu this.1,this.2⟩⟩
 | .tup cs,x,h=>by rw [V.bD]at h;obtain⟨xs,rfl,hl⟩:=h.lX;exact .wK ⟨by rw [<-hl.1,V.cY],fun i u x hu hx=>mF g cs i u x hu (hl.2 i (u.bD g) x (by rw [V.cx,hu];rfl) hx)⟩
 | .fn f a b,x,h=>by
  rw [V.bD]at h;obtain⟨xs,ys,rfl,hl,hm⟩:=h.kP;exact .fn' ⟨by rw [<-hl.1,V.cY],fun i u x hu hx=>mF g a i u x hu (hl.2 i (u.bD g) x (by rw [V.cx,hu];rfl) hx)⟩
   ⟨by rw [<-hm.1,V.cY],fun i u x hu hx=>mF g b i u x hu (hm.2 i (u.bD g) x (by rw [V.cx,hu];rfl) hx)⟩
 | .ifc t v,x,h=>by
  rw [V.bD]at h;cases h with
  |ifc _ _ _ y h=>exact .ifc _ _ _ _ (kC g v y h)
 | .gd q v,x,h=>by
  rw [V.bD]at h;cases h with
  |gd _ _ _ _ h h'=>exact .gd _ _ _ _ (fun hq=>kC g v x (h hq)) h'
 | .alt q v u,x,h=>by
  rw [V.bD]at h;cases h with
  |alt _ _ _ _ _ h h'=>exact .alt _ _ _ _ _ (fun hq=>kC g v x (h hq)) fun hq=>kC g u x (h' hq)
 | .own i,x,h=>by
  rw [V.bD]at h;cases h with
  |own _ _ _ h h1=>exact .own _ _ _ h h1
 | .ref i o,x,h=>by
  rw [V.bD]at h;cases h with
  |ref _ _ _ b h=>exact .ref _ _ _ _ h
 | .oel i a b c,x,h=>by
  rw [V.bD]at h;cases h with
  |oel _ _ _ _ _ b n c h=>exact .oel _ _ _ _ _ _ n c h
 | .osl i a b c,x,h=>by
  rw [V.bD]at h;cases h with
  |osl _ _ _ _ _ b m c c2 A h hn hA=>exact .osl _ _ _ _ _ _ m c _ _ h hn hA
 | .fset a b,x,h=>by
  rw [V.bD]at h;cases h with
  |fset _ _ _ b es cl hb hh hk hf=>exact .fset _ _ _ b es cl hb hh hk hf
 | .any,x,h=> .any _ _
 | .c v,x,h=>by rw [V.bD]at h;cases h;exact .c _ _
 | .nil,x,h=>by rw [V.bD]at h;cases h;exact .nil _
 | .emp,x,h=>by rw [V.bD]at h;cases h;exact .emp _ _
 | .sl a b c,x,h=>by rw [V.bD]at h;exact h.free rfl _
 | .ptr cs,x,h=>by rw [V.bD]at h;exact h.free rfl _
theorem mF{w:World}{L:Nat->Prop}{ρ:Nat->Option Value}(g:Nat->Nat):∀(l:List V) (i:Nat) (u:V) (x:Value),l[i]?=some u->R w L ρ (u.bD g) x->R w L (fun i=>ρ (g i)) u x
 | [],i,u,x,h,_=>by simp at h
 |v::l,0,u,x,h,k=>by simp at h;exact h ▸ kC g v x (h ▸ k)
 |v::l,i+1,u,x,h,k=>mF g l i u x (by simpa using h) k
end
theorem EI{w:World}{L:Nat->Prop}{ρ:Nat->Option Value}(g:Nat->Nat){us:List V}{xs:List Value}(h:RL w L ρ (V.aS g us) xs):RL w L (fun i=>ρ (g i)) us xs:= ⟨by rw [<-h.1,V.cY],fun i u x hu hx=>by have:=h.2 i (u.bD g) x (by rw [V.cx,hu];rfl) hx;exact⟨mF g us i u x hu this.1,this.2⟩⟩
def V.LV(v0:V)(i o:Nat):V:=match v0 with
 | .ptr cs=> .ptr (cs.drop o)
 |_=> .ref i o
theorem Ln{w:World}{L:Nat->Prop}{ρ:Nat->Option Value}{id:Nat}{v0:V}(h0:∀y,ρ id=some y->R w L ρ v0 y){o:Nat}{x:Value}(h:R w L ρ (.ref id o) x):R w L ρ (V.LV v0 id o) x:=by
 unfold V.LV;split;·rename_i cs;obtain⟨b,rfl,hb⟩:=h.iS;obtain⟨b',o',e,hL,hc⟩:=(h0 _ hb).gU;injection e with e;injection e with e;injection e with e1 e2 e3;subst e1 e2;refine .ptr' hL fun j u hu=> ?_;rw [List.getElem?_drop]at hu;obtain⟨y,h1,h2,h3⟩:=hc _ u hu;exact⟨y,by simpa using h1,h2,h3⟩
 ·exact h
mutual
def V.fz(id:Nat)(v0:V):V->V
 | .agg cs=> .agg (V.og id v0 cs)
 | .tup cs=> .tup (V.og id v0 cs)
 | .fn f a b=> .fn f (V.og id v0 a) (V.og id v0 b)
 | .ifc t v=> .ifc t (V.fz id v0 v)
 | .gd q v=> .gd q (V.fz id v0 v)
 | .alt q v u=> .alt q (V.fz id v0 v) (V.fz id v0 u)
 | .own i=>if i=id then v0 else .own i
 | .ref i o=>if i=id then V.LV v0 i o else .ref i o
 | .oel i a b q=> .oel i a b q
 | .osl i a b q=> .osl i a b q
 | .fset a b=> .fset a b
 | .any=> .any
 | .c v=> .c v
 | .nil=> .nil
 | .emp=> .emp
 | .sl a b q=> .sl a b q
 | .ptr cs=> .ptr cs
def V.og(id:Nat)(v0:V):List V->List V
 | []=>[]
 |v::l=>V.fz id v0 v::V.og id v0 l
end
theorem V.gR(id:Nat)(v0:V):∀(l:List V) (i:Nat),(V.og id v0 l)[i]?=(l[i]?).map (V.fz id v0)
 | [],i=>by simp [V.og]
 |v::l,0=>by simp [V.og]
 |v::l,i+1=>by simp only [V.og,List.getElem?_cons_succ];exact V.gR id v0 l i
theorem V.fB(id:Nat)(v0:V):∀l:List V,(V.og id v0 l).length=l.length
 | []=>rfl
 |v::l=>by simp [V.og,V.fB id v0 l]
mutual
theorem nc{w:World}{L:Nat->Prop}{ρ:Nat->Option Value}{id:Nat}{v0:V}(h0:∀y,ρ id=some y->R w L ρ v0 y):∀(v:V) (x:Value),R w L ρ v x->R w L ρ (V.fz id v0 v) x
 | .agg cs,x,h=>by
  obtain⟨xs,rfl,hl⟩:=h.eU;rw [V.fz];exact .lZ ⟨by rw [<-hl.1,V.fB],fun i u x hu hx=>by
   rw [V.gR]at hu;cases hc:cs[i]? with
   |none=>rw [hc]at hu;cases hu
   |some c=>rw [hc]at hu;have:=hl.2 i c x hc hx;simp only [Option.map_some,Option.some.injEq]at hu;subst hu;exact⟨w5 h0 cs i c x hc this.1,this.2⟩⟩
 | .tup cs,x,h=>by
  obtain⟨xs,rfl,hl⟩:=h.lX;rw [V.fz];exact .wK ⟨by rw [<-hl.1,V.fB],fun i u x hu hx=>by
   rw [V.gR]at hu;cases hc:cs[i]? with
   |none=>rw [hc]at hu;cases hu
   |some c=>rw [hc]at hu;simp only [Option.map_some,Option.some.injEq]at hu;subst hu;exact w5 h0 cs i c x hc (hl.2 i c x hc hx)⟩
 | .fn f a b,x,h=>by
  obtain⟨xs,ys,rfl,hl,hm⟩:=h.kP;rw [V.fz];refine .fn' ⟨by rw [<-hl.1,V.fB],fun i u x hu hx=> ?_⟩ ⟨by rw [<-hm.1,V.fB],fun i u x hu hx=> ?_⟩
  ·rw [V.gR]at hu;cases hc:a[i]? with
   |none=>rw [hc]at hu;cases hu
   |some c=>rw [hc]at hu;simp only [Option.map_some,Option.some.injEq]at hu;subst hu;exact w5 h0 a i c x hc (hl.2 i c x hc hx)
  ·rw [V.gR]at hu;cases hc:b[i]? with
   |none=>rw [hc]at hu;cases hu
   |some c=>rw [hc]at hu;simp only [Option.map_some,Option.some.injEq]at hu;subst hu;exact w5 h0 b i c x hc (hm.2 i c x hc hx)
 | .ifc t v,x,h=>by
  rw [V.fz];cases h with
  |ifc _ _ _ y h=>exact .ifc _ _ _ _ (nc h0 v y h)
 | .gd q v,x,h=>by
  rw [V.fz];cases h with
  |gd _ _ _ _ h h'=>exact .gd _ _ _ _ (fun hq=>nc h0 v x (h hq)) h'
 | .alt q v u,x,h=>by
  rw [V.fz];cases h with
  |alt _ _ _ _ _ h h'=>exact .alt _ _ _ _ _ (fun hq=>nc h0 v x (h hq)) fun hq=>nc h0 u x (h' hq)
 | .own i,x,h=>by
  rw [V.fz];split;·rename_i e;subst e;exact h0 x h.cX
  ·exact h
 | .ref i o,x,h=>by
  rw [V.fz];split;·rename_i e;subst e;exact Ln h0 h
  ·exact h
 | .oel i a b c,x,h=>by rw [V.fz];exact h
 | .osl i a b c,x,h=>by rw [V.fz];exact h
 | .fset a b,x,h=>by rw [V.fz];exact h
 | .any,x,h=> .any _ _
 | .c v,x,h=>by rw [V.fz];exact h
 | .nil,x,h=>by rw [V.fz];exact h
 | .emp,x,h=>by rw [V.fz];exact h
 | .sl a b c,x,h=>by rw [V.fz];exact h
 | .ptr cs,x,h=>by rw [V.fz];exact h
theorem w5{w:World}{L:Nat->Prop}{ρ:Nat->Option Value}{id:Nat}{v0:V}(h0:∀y,ρ id=some y->R w L ρ v0 y):∀(l:List V) (i:Nat) (u:V) (x:Value),l[i]?=some u->R w L ρ u x->R w L ρ (V.fz id v0 u) x
 | [],i,u,x,h,_=>by simp at h
 |v::l,0,u,x,h,k=>by simp at h;exact h ▸ nc h0 v x (h ▸ k)
 |v::l,i+1,u,x,h,k=>w5 h0 l i u x (by simpa using h) k
end
theorem V.Ht(g:Nat->Nat)(v:Value):V.bD g (.c v)= .c v:=by rw [V.bD]
def Ob.bD(g:Nat->Nat):Ob->Ob
 | .box t cs=> .box t (V.aS g cs)
 | .row e sz n q=> .row e sz n fun i=>V.aS g (q i)
 | .mp str f=> .mp str (f.map (V.bD g))
theorem nW(g:Nat->Nat):∀rows:List (List V),V.aS g rows.flatten=(rows.map (V.aS g)).flatten
 | []=>rfl
 |r::rows=>by rw [List.flatten_cons,V.qb,List.map_cons,List.flatten_cons,nW g rows]
theorem sR(g:Nat->Nat)(n:Nat)(row:Nat->List V):(aE n fun i=>V.aS g (row i)).flatten=V.aS g (aE n row).flatten:=by rw [nW];simp [aE,Function.comp_def]
theorem Real.bD{W L:Nat->Prop}{w:World}{ρ:Nat->Option Value}{g:Nat->Nat}{id:Nat}{o:Ob}(h:Real W w L ρ (g id) (o.bD g)):Real W w L (fun i=>ρ (g i)) id o:=by
 cases o with
 |box t cs=>obtain⟨b,xs,h1,h2,h3,h4,h5⟩:=h;exact⟨b,xs,h1,h2,h3,h4,EI g h5⟩
 |row e sz n row=>obtain⟨v,xs,h1,h2,h3,h4,h5⟩:=h;refine⟨v,xs,h1,h2,fun i hi=> ?_,EI g (by rw [<-sR];exact h4),h5⟩;have:=h3 i hi;rwa [V.cY]at this
 |mp str f=>
  obtain⟨b,es,cl,h1,h2,h3,h4,h5⟩:=h;refine⟨b,es,cl,h1,h2,h3,h4,h5.1,fun k x hk hx=> ?_,fun k hk hx=> ?_,h5.2.2.2⟩
  ·obtain⟨u,hu,hr⟩:=h5.2.1 k x hk hx;have hu:(f.look k).map (V.bD g)=some u:=by rw [<-MF.nH (fun v=>V.Ht g v)];exact hu
   cases hf:f.look k with
   |none=>rw [hf]at hu;cases hu
   |some u'=>rw [hf]at hu;simp only [Option.map_some,Option.some.injEq]at hu;subst hu;exact⟨u',rfl,kC g u' x hr⟩
  ·have:=h5.2.2.1 k hk hx;rw [MF.nH (fun v=>V.Ht g v)]at this;simpa using this
def fH:Ob->Ob->Prop
 | .box t cs,.box t' cs'=>t=t'/\cs=cs'
 | .row e sz n row,.row e' sz' n' row'=>e=e'/\sz=sz'/\n=n'/\∀i,i< n->row i=row' i
 | .mp s f,.mp s' f'=>s=s'/\∀k,f.look k=f'.look k
 |_,_=>False
theorem Real.eq{W L:Nat->Prop}{w:World}{ρ:Nat->Option Value}{id:Nat}{o o':Ob}(h:Real W w L ρ id o)(e:fH o o'):Real W w L ρ id o':=by
 cases o with
 |box t cs=>
  cases o' with
  |box t' cs'=>obtain⟨rfl,rfl⟩:=e;exact h
  |row=>exact e.elim
  |mp=>exact e.elim
 |row t sz n row=>
  cases o' with
  |box=>exact e.elim
  |row t' sz' n' row'=>
   obtain⟨rfl,rfl,rfl,e⟩:=e;obtain⟨v,xs,h1,h2,h3,h4,h5⟩:=h;have:aE n row=aE n row':=by unfold aE;exact List.map_congr_left fun i hi=>e i (by simpa using hi)
   exact⟨v,xs,h1,h2,fun i hi=>by rw [<-e i hi];exact h3 i hi,by rw [<-this];exact h4,h5⟩
  |mp=>exact e.elim
 |mp str f=>
  cases o' with
  |box=>exact e.elim
  |row=>exact e.elim
  |mp str' f'=>obtain⟨rfl,e⟩:=e;obtain⟨b,es,cl,h1,h2,h3,h4,h5⟩:=h;have e:f.look=f'.look:=funext e;exact⟨b,es,cl,h1,h2,h3,h4,by rw [<-e];exact h5⟩
def aO(l:List (Nat×Nat))(nx:Nat)(i:Nat):Nat:=match l.find? (·.1 == i)with |some p=>p.2 |none=>if 500<=i/\i< 1000 then i else nx*100000+i
theorem qR.bD{P:Program}{N:Nat}{C:Cx P N}{a:Act}{w:World}{s:S}(tl:List (Nat×V))(sl:List (Nat×Ob))(gl:List (Nat×Nat)) (htm:∀p∈tl,s.tm p.1=p.2.bD (aO gl s.nx)) (hσ:∀p∈sl,∃ob,s.σ (aO gl s.nx p.1)=some ob/\fH ob (p.2.bD (aO gl s.nx))) (hinj:(sl.map fun p=>aO gl s.nx p.1).Nodup) (hid:∀p∈gl,p.1< 1000) (hpin:∀p∈gl,C.dfs.pin p.1=none){L:Nat->Prop}{ρ:Nat->Option Value}(h:qR C.W C.LB N C.dfs (bV s.nx) s.tm s.σ a w L ρ) : qR C.W C.LB N C.dfs (bV 1) (tl.foldr (fun p f=>bL f p.1 p.2) (fun _=> .any)) (sl.foldr (fun p f=>bL f p.1 (some p.2)) (fun _=>none)) a w L (fun i=>ρ (aO gl s.nx i)):=by
 refine⟨⟨h.g.ll,h.g.new,fun id o ho=> ?_,?_,h.g.gl⟩,fun id hid'=> ?_,fun t=> ?_,h.size,h.defers,fun id x hp=> ?_⟩
 ·have key:∀(sl:List (Nat×Ob)),(∀p∈sl,∃ob,s.σ (aO gl s.nx p.1)=some ob/\fH ob (p.2.bD (aO gl s.nx)))->sl.foldr (fun p f=>bL f p.1 (some p.2)) (fun _=>none) id=some o->∃ob,s.σ (aO gl s.nx id)=some ob/\fH ob (o.bD (aO gl s.nx)):=by
   intro sl;induction sl with
   |nil=>intro _ ho;cases ho
   |cons p sl ih=>
    intro hp ho;rw [List.foldr_cons]at ho;by_cases he:id=p.1
    ·subst he;rw [ak]at ho;injection ho with ho;subst ho
     exact hp p (by simp)
    ·rw [ah _ _ he]at ho;exact ih (fun q hq=>hp q (by simp [hq])) ho
  obtain⟨ob,h1,h2⟩:=key sl hσ ho;exact((h.g.ob _ _ h1).eq h2).bD
 ·intro i j x y k hij hi hj hx hy hk hky;have mem:∀(sl:List (Nat×Ob)) (i:Nat),sl.foldr (fun p f=>bL f p.1 (some p.2)) (fun _=>none) i≠none->∃p∈sl,p.1=i:=by
   intro sl i;induction sl with
   |nil=>intro h;exact absurd rfl h
   |cons p sl ih=>
    intro h;by_cases he:i=p.1;·exact⟨p,by simp,he.symm⟩
    ·rw [List.foldr_cons,ah _ _ he]at h;obtain⟨q,hq,he⟩:=ih h;exact⟨q,by simp [hq],he⟩
  obtain⟨p,hp,rfl⟩:=mem sl i hi;obtain⟨q,hq,rfl⟩:=mem sl j hj;have hne:aO gl s.nx p.1≠aO gl s.nx q.1:=by
   intro he;have inj:∀(l:List (Nat×Ob)),(l.map fun p=>aO gl s.nx p.1).Nodup->∀p∈l,∀q∈l,aO gl s.nx p.1=aO gl s.nx q.1->p=q:=by
    intro l;induction l with
    |nil=>intro _ p hp;simp at hp
    |cons x l ih=>
     intro hn p hp q hq he;rw [List.map_cons,List.nodup_cons]at hn;rcases List.mem_cons.1 hp with rfl |hp'
     ·rcases List.mem_cons.1 hq with rfl |hq';·rfl
      ·exact absurd (List.mem_map.2 ⟨q,hq',he.symm⟩) hn.1
     ·rcases List.mem_cons.1 hq with rfl |hq';·exact absurd (List.mem_map.2 ⟨p,hp',he⟩) hn.1
      ·exact ih hn.2 p hp' q hq' he
   exact hij (by rw [inj sl hinj p hp q hq he])
  exact h.g.sep _ _ x y k hne (by obtain⟨ob,h1,_⟩:=hσ p hp;rw [h1];simp) (by obtain⟨ob,h1,_⟩:=hσ q hq;rw [h1];simp) hx hy hk hky
 ·have hf:gl.find? (·.1 == id)=none:=by rw [List.find?_eq_none];intro p hp hc;have:=hid p hp;simp at hc;have hid2:1*100000<=id:=hid';omega
  show ρ (aO gl s.nx id)=none;have hid2:1*100000<=id:=hid';have e:aO gl s.nx id=s.nx*100000+id:=by unfold aO;rw [hf];simp only;rw [if_neg oM]
  rw [e];exact h.fr _ (by unfold bV;simp)
 ·have key:∀(tl:List (Nat×V)),(∀p∈tl,s.tm p.1=p.2.bD (aO gl s.nx))->R w L (fun i=>ρ (aO gl s.nx i)) (tl.foldr (fun p f=>bL f p.1 p.2) (fun _=> .any) t) (a.tmps.getD t undef):=by
   intro tl;induction tl with
   |nil=>intro _;exact .any _ _
   |cons p tl ih=>
    intro hp;rw [List.foldr_cons];by_cases he:t=p.1;·subst he;rw [ak];have:=h.tm p.1;rw [hp p (by simp)]at this;exact kC _ _ _ this
    ·rw [ah _ _ he];exact ih fun q hq=>hp q (by simp [hq])
  exact key tl htm
 ·have hl:=C.dfs.lo id x hp;have hf:gl.find? (·.1 == id)=none:=by rw [List.find?_eq_none];intro p hq hc;have h1:=hpin p hq;simp at hc;rw [hc,hp]at h1;cases h1
  have e:aO gl s.nx id=id:=by unfold aO;rw [hf];simp only;rw [if_pos hl]
  show ρ (aO gl s.nx id)=some x;rw [e];exact h.pin id x hp
theorem Le.bD{s:S}(tl:List (Nat×V))(sl:List (Nat×Ob))(gl:List (Nat×Nat)) (htm:∀p∈tl,s.tm p.1=p.2.bD (aO gl s.nx)) (hσ:∀p∈sl,∃ob,s.σ (aO gl s.nx p.1)=some ob/\fH ob (p.2.bD (aO gl s.nx))) (hinj:(sl.map fun p=>aO gl s.nx p.1).Nodup) (hid:∀p∈gl,p.1< 500) : Le s ⟨tl.foldr (fun p f=>bL f p.1 p.2) (fun _=> .any),sl.foldr (fun p f=>bL f p.1 (some p.2)) (fun _=>none),1⟩:=by
 intro P N C a w ⟨L,ρ,h⟩;refine⟨L,_,qR.bD tl sl gl htm hσ hinj (fun p hp=>Nat.lt_trans (hid p hp) (by decide)) (fun p hp=> ?_) h⟩;cases hc:C.dfs.pin p.1 with
 |none=>rfl
 |some x=>have h1:=C.dfs.lo _ _ hc;have h2:=hid p hp;omega
theorem Le.freeze{s:S}(id:Nat){e sz n:Nat}{row:Nat->List V}(hσ:s.σ id=some (.row e sz n row))(hi:∀i,i< n->V.bA (row i)=true) :
    Le s ⟨fun t=>V.fz id (.sl sz n row) (s.tm t),bL s.σ id none,s.nx⟩:=by
  intro P N C a w ⟨L,ρ,h⟩
  obtain⟨v,xs,hv,hown,hsz,hl,hb⟩:=h.g.ob id _ hσ
  have hlt:=(h.g.ob id _ hσ).lt
  obtain⟨v',hv',hlt⟩:=hlt
  rw [hv]at hv';injection hv' with hv';subst hv'
  have ex:Ext w L ρ w (fun b=>L b\/blk v=some b) ρ:=⟨fun b hb=>⟨.inl hb,rfl⟩,fun _ _ h=>h⟩
  refine⟨fun b=>L b\/blk v=some b,ρ,⟨⟨fun b hbl=> ?_,h.g.new,fun id' o (ho:bL s.σ id none id'=some o)=> ?_,?_,h.g.tN ex⟩,h.fr,fun t=> ?_,h.size,?_,h.pin⟩⟩
  · rcases hbl with hbl |hbl
    · exact h.g.ll b hbl
    · exact⟨(hlt b hbl).1,C.wl b (hlt b hbl).2.1⟩
  · by_cases he:id'=id
    · subst he;rw [ak]at ho;cases ho
    · rw [ah _ _ he]at ho
      refine(h.g.ob id' o ho).keep ex fun x k hx hk=>⟨rfl,?_⟩
      rintro(hL |hL)
      · obtain⟨y,hy,hy2⟩:=(h.g.ob id' o ho).lt
        rw [hx]at hy;injection hy with hy;subst hy
        exact(hy2 k hk).2.2 hL
      · exact h.g.sep id' id x v k he (by rw [ho];simp) (by rw [hσ];simp) hx hv hk hL
  · intro i j x y k hij hi' hj hx hy hk
    refine h.g.sep i j x y k hij (fun hc=>hi' ?_) (fun hc=>hj ?_) hx hy hk
    · show bL s.σ id none i=none
      by_cases he:i=id
      · subst he;exact ak _ _ _
      · rw [ah _ _ he];exact hc
    · show bL s.σ id none j=none
      by_cases he:j=id
      · subst he;exact ak _ _ _
      · rw [ah _ _ he];exact hc
  rotate_left
  · obtain⟨Ds,h4,h5,h6⟩:=h.defers
    refine⟨Ds,h4,h5,fun D hD=> ?_⟩
    obtain⟨h7,h8,h9⟩:=h6 D hD
    refine⟨h7,h8,?_⟩
    rintro(hL |hL)
    · exact h9 hL
    · rcases hown.2 with⟨h,_⟩ | ⟨g',cap,cur,h,_,hh,_⟩
      · rw [h]at hL;simp [blk]at hL
      · rw [h]at hL;simp [blk]at hL;subst hL;rw [hh]at h7;cases h7
  · refine nc (fun y hy=> ?_) _ _ ((h.tm t).ext ex)
    rw [hv]at hy;injection hy with hy;subst hy
    obtain⟨A,c,hA⟩:∃A c,v= .slice A n c:=by
      rcases hown.2 with⟨h1,h2⟩ | ⟨g',cap,cur,h1,_⟩
      · exact⟨_,_,by rw [h1,h2]⟩
      · exact⟨_,_,h1⟩
    have hcap:n<=c:=by
      rcases hown.2 with⟨h1,h2⟩ | ⟨g',cap,cur,h1,_,_,h3,_⟩
      · omega
      · rw [h1]at hA;injection hA with _ _ hA3;omega
    rw [hA]
    refine .HE hcap fun hpos=> ?_
    rcases hown.2 with⟨_,h2⟩ | ⟨g',cap,cur,h1,_,hh,hc1,hc2,hc3,hc4⟩
    · omega
    · rw [h1]at hA
      injection hA with hA1 hA2 hA3
      refine⟨g',0,hA1.symm,.inr (by rw [<-hA1];rfl),fun i hi=> ?_,fun i j u hil hu=> ?_⟩
      · exact hsz i hi
      · have hj:j< sz:=by rw [<-hsz i hil];exact(List.getElem?_eq_some_iff.1 hu).1
        have hfl:(aE n row).flatten[i*sz+j]?=some u:=by rw [flat_get (cq hsz) (bK hil) hj,hu]
        obtain⟨y,hy,hry,hone⟩:=hl.get hfl
        refine⟨y,?_,hone,(hry.free (V.dW (hi i hil) hu) ρ0).ext ⟨fun b hb=>⟨.inl hb,rfl⟩,fun _ _ h=>h⟩⟩
        rw [cell_of_row w g' _ cur e (0,0) hh,Nat.zero_add]
        rw [<-hc4,List.getElem?_take]at hy
        split at hy
        · simpa using hy
        · cases hy
theorem Le.DE{s:S}(id:Nat){t0:Nat}{cs:List V}(hσ:s.σ id=some (.box t0 cs))(hi:V.bA cs=true) :
    Le s ⟨fun t=>V.fz id (.ptr cs) (s.tm t),bL s.σ id none,s.nx⟩:=by
  intro P N C a w ⟨L,ρ,h⟩
  obtain⟨B,xs,hv,hBW,hBL,hh,hl⟩:=h.g.ob id _ hσ
  generalize hvv:Value.pointer (some ⟨B,0,none⟩)=v at hv
  have hlt:=(h.g.ob id _ hσ).lt
  obtain⟨v',hv',hlt⟩:=hlt
  rw [hv]at hv';injection hv' with hv';subst hv'
  have ex:Ext w L ρ w (fun b=>L b\/blk v=some b) ρ:=⟨fun b hb=>⟨.inl hb,rfl⟩,fun _ _ h=>h⟩
  refine⟨fun b=>L b\/blk v=some b,ρ,⟨⟨fun b hbl=> ?_,h.g.new,fun id' o (ho:bL s.σ id none id'=some o)=> ?_,?_,h.g.tN ex⟩,h.fr,fun t=> ?_,h.size,?_,h.pin⟩⟩
  · rcases hbl with hbl |hbl
    · exact h.g.ll b hbl
    · exact⟨(hlt b hbl).1,C.wl b (hlt b hbl).2.1⟩
  · by_cases he:id'=id
    · subst he;rw [ak]at ho;cases ho
    · rw [ah _ _ he]at ho
      refine(h.g.ob id' o ho).keep ex fun x k hx hk=>⟨rfl,?_⟩
      rintro(hL |hL)
      · obtain⟨y,hy,hy2⟩:=(h.g.ob id' o ho).lt
        rw [hx]at hy;injection hy with hy;subst hy
        exact(hy2 k hk).2.2 hL
      · exact h.g.sep id' id x v k he (by rw [ho];simp) (by rw [hσ];simp) hx hv hk hL
  · intro i j x y k hij hi' hj hx hy hk
    refine h.g.sep i j x y k hij (fun hc=>hi' ?_) (fun hc=>hj ?_) hx hy hk
    · show bL s.σ id none i=none
      by_cases he:i=id
      · subst he;exact ak _ _ _
      · rw [ah _ _ he];exact hc
    · show bL s.σ id none j=none
      by_cases he:j=id
      · subst he;exact ak _ _ _
      · rw [ah _ _ he];exact hc
  rotate_left
  · obtain⟨Ds,h4,h5,h6⟩:=h.defers
    refine⟨Ds,h4,h5,fun D hD=> ?_⟩
    obtain⟨h7,h8,h9⟩:=h6 D hD
    refine⟨h7,h8,?_⟩
    rintro(hL |hL)
    · exact h9 hL
    · subst hvv
      simp [blk]at hL;subst hL;rw [hh]at h7;cases h7
  · refine nc (fun y hy=> ?_) _ _ ((h.tm t).ext ex)
    rw [hv]at hy;injection hy with hy;subst hy
    subst hvv
    refine .ptr' (.inr rfl) fun j u hu=> ?_
    obtain⟨y,hy,hry,hone⟩:=hl.get hu
    refine⟨y,?_,hone,(hry.free (V.dW hi hu) ρ0).ext ⟨fun b hb=>⟨.inl hb,rfl⟩,fun _ _ h=>h⟩⟩
    rw [cell_of_row w B _ xs t0 (0,0) hh,Nat.zero_add]
    simpa using hy
end Go.Ab

namespace Go.Ab
open Go.RowKit Go.Dw
def qh:List Value->List Value->Bool
 | [],[]=>true
 | .int _ a::l,.int _ b::m=>(a == b) && qh l m
 | .bool a::l,.bool b::m=>(a == b) && qh l m
 |_,_=>false
def nh:List Bool->List Value->List Value->Prop
 | [],[],[]=>True
 |false::s,.int k _::l,.int k' _::m=>k=k'/\nh s l m
 |true::s,.bool _::l,.bool _::m=>nh s l m
 |_,_,_=>False
theorem nh.len:∀ {s:List Bool}{cs ds:List Value},nh s cs ds->cs.length=s.length/\ds.length=s.length
 | [],[],[],_=>⟨rfl,rfl⟩
 |false::s,.int _ _::l,.int _ _::m,h=>by have:=nh.len h.2;simp [this]
 |true::s,.bool _::l,.bool _::m,h=>by have:=nh.len (s:=s) (cs:=l) (ds:=m) h;simp [this]
theorem nh.nil{cs ds:List Value}(h:nh [] cs ds):cs=[]/\ds=[]:=by have:=h.len;exact⟨List.length_eq_zero_iff.1 this.1,List.length_eq_zero_iff.1 this.2⟩
theorem nh.PW:∀ {cs ds:List Value},nh [false] cs ds->∃k a b,cs=[.int k a]/\ds=[.int k b]
 | .int k a::l,.int k' b::m,h=>by obtain⟨rfl,h⟩:=h;obtain⟨rfl,rfl⟩:=nh.nil h;exact⟨k,a,b,rfl,rfl⟩
theorem nh.PV:∀ {cs ds:List Value},nh [true] cs ds->∃a b,cs=[.bool a]/\ds=[.bool b]
 | .bool a::l,.bool b::m,h=>by obtain⟨rfl,rfl⟩:=nh.nil (cs:=l) (ds:=m) h;exact⟨a,b,rfl,rfl⟩
theorem nh.split:∀ {s r:List Bool}{cs ds:List Value},nh (s++r) cs ds->nh s (cs.take s.length) (ds.take s.length)/\nh r (cs.drop s.length) (ds.drop s.length)/\qh cs ds=(qh (cs.take s.length) (ds.take s.length) && qh (cs.drop s.length) (ds.drop s.length))
 | [],r,cs,ds,h=>by simpa [nh,qh]using h
 |false::s,r,.int k a::l,.int k' b::m,h=>by obtain⟨h1,h2,h3⟩:=nh.split (s:=s) (r:=r) h.2;exact⟨⟨h.1,h1⟩,h2,by simp only [qh,h3,List.length_cons,List.take_succ_cons,List.drop_succ_cons,Bool.and_assoc]⟩
 |true::s,r,.bool a::l,.bool b::m,h=>by obtain⟨h1,h2,h3⟩:=nh.split (s:=s) (r:=r) (cs:=l) (ds:=m) h;exact⟨h1,h2,by simp only [qh,h3,List.length_cons,List.take_succ_cons,List.drop_succ_cons,Bool.and_assoc]⟩
section
variable (P:Program)
def FR(r:Nat->Option (List Bool)):List Field->Nat->Option (List Bool)
 | [],_=>some []
 |f::fs,off=>if(f.name != "_" && f.offset == off)=true then match r f.type with
  |some s=>if P.cellsOf f.type=s.length/\(P.info? f.type).isSome=true then(match FR r fs (off+s.length)with |some q=>some (s++q) |none=>none)else none
  |none=>none
  else none
def fA:Nat->Nat->Option (List Bool)
 |0,_=>none
 |d+1,t=>match P.underlying t with
  |some (.int _)=>some [false]
  |some .bool=>some [true]
  |some (.struct fs)=>if P.stoodInHeld t=true then none else FR P (fA d) fs.toList 0
  |some (.array n e)=>match fA d e with
   |some s=>if P.cellsOf e=s.length/\(P.info? e).isSome=true then some (List.replicate n s).flatten else none
   |none=>none
  |_=>none
def ko(t:Nat)(cs:List Value):Value:=match P.underlying t with
 |some (.int _)=>cs.headD .nilFunc
 |some .bool=>cs.headD .nilFunc
 |_=> .agg cs.toArray
end
section
variable {P:Program}
theorem lU{d t off:Nat}{s:List Bool}{cs:List Value}(h:fA P d t=some s)(hc:P.cellsOf t=s.length)(hi:(P.info? t).isSome=true)(hl:off+s.length<=cs.length)(w:World) : (part t cs.toArray off).run P w= .ok (ko P t ((cs.drop off).take s.length)) w:=by
 cases d with
 |zero=>simp [fA]at h
 |succ d=>
  simp only [fA]at h;cases hu:P.underlying t with
  |none=>simp [hu]at h
  |some kd=>
   cases kd <;> simp only [hu]at h <;> try (cases h;done)
   case int k=>
    injection h with h
    subst h
    simp only [List.length_cons,List.length_nil]at hl ⊢
    have hx:cs.toArray[off]?=some cs[off]:=by simp [List.getElem?_eq_getElem (show off< cs.length by omega)]
    rw [run_part_plain (w:=w) (by simp [Program.plainKey,hu]) hx]
    simp only [ko,hu]
    rw [List.drop_eq_getElem_cons oM]
    rfl
   case bool=>
    injection h with h
    subst h
    simp only [List.length_cons,List.length_nil]at hl ⊢
    have hx:cs.toArray[off]?=some cs[off]:=by simp [List.getElem?_eq_getElem (show off< cs.length by omega)]
    rw [run_part_plain (w:=w) (by simp [Program.plainKey,hu]) hx]
    simp only [ko,hu]
    rw [List.drop_eq_getElem_cons oM]
    rfl
   case struct fs=>
    obtain⟨i,hi⟩:=Option.isSome_iff_exists.1 hi
    simp only [ko,hu]
    simp [part,isAgg,run_underlying hu,run_sizeOf w hi,hc]
   case array n e=>
    obtain⟨i,hi⟩:=Option.isSome_iff_exists.1 hi
    simp only [ko,hu]
    simp [part,isAgg,run_underlying hu,run_sizeOf w hi,hc]
theorem nt{d k:Nat}(ih:∀t s,fA P d t=some s->∀(cs ds:List Value) (w:World),nh s cs ds->(Op.equalIn (k+d) t (ko P t cs) (ko P t ds)).run P w= .ok (qh cs ds) w) : ∀(fs:List Field) (off:Nat) (s:List Bool),FR P (fA P d) fs off=some s->∀(cs ds:List Value) (w:World),nh s (cs.drop off) (ds.drop off)->off+s.length<=cs.length->off+s.length<=ds.length->(Op.eqFields (k+d) cs.toArray ds.toArray fs).run P w= .ok (qh (cs.drop off) (ds.drop off)) w
 | [],off,s,h,cs,ds,w,hi,hl,hl'=>by simp only [FR,Option.some.injEq]at h;subst h;have:=hi.len;rw [List.length_eq_zero_iff.1 this.1,List.length_eq_zero_iff.1 this.2];simp [Op.eqFields,qh]
 |f::fs,off,s,h,cs,ds,w,hi,hl,hl'=>by
  simp only [FR]at h;split at h;case isFalse=>cases h
  rename_i hn;simp only [Bool.and_eq_true,bne_iff_ne,ne_eq,beq_iff_eq]at hn;split at h;case h_2=>cases h
  rename_i m hm;split at h;case isFalse=>cases h
  rename_i hs;split at h;case h_2=>cases h
  rename_i q hq;injection h with h;subst h;rw [List.length_append]at hl hl';have p1:=lU hm hs.1 hs.2 (off:=off) (cs:=cs) oM w;have p2:=lU hm hs.1 hs.2 (off:=off) (cs:=ds) oM w;obtain⟨i1,i2,i3⟩:=hi.split;have e1:=ih f.type m hm _ _ w i1;have e2:=nt ih fs (off+m.length) q hq cs ds w (by rwa [List.drop_drop,List.drop_drop]at i2) oM oM;rw [Op.eqFields,if_pos hn.1];simp only [hn.2,Sem.run_bind,p1,p2,e1,Result.andThen_ok];rw [i3,List.drop_drop,List.drop_drop];cases qh ((cs.drop off).take m.length) ((ds.drop off).take m.length);·simp
  ·simpa using e2
theorem pQ{d k e:Nat}{s:List Bool}(hs:fA P d e=some s)(hc:P.cellsOf e=s.length)(hi:(P.info? e).isSome=true)
    (ih:∀(cs ds:List Value) (w:World),nh s cs ds->(Op.equalIn (k+d) e (ko P e cs) (ko P e ds)).run P w= .ok (qh cs ds) w) :
    ∀(n j:Nat) (cs ds:List Value) (w:World),nh (List.replicate n s).flatten (cs.drop (j*s.length)) (ds.drop (j*s.length))->j*s.length+n*s.length<=cs.length->j*s.length+n*s.length<=ds.length->
      (Op.eqItems (k+d) e s.length cs.toArray ds.toArray (List.range' j n)).run P w= .ok (qh (cs.drop (j*s.length)) (ds.drop (j*s.length))) w
  |0,j,cs,ds,w,h,_,_=>by
    have:=(show nh [] (cs.drop (j*s.length)) (ds.drop (j*s.length))from h).len
    rw [List.length_eq_zero_iff.1 this.1,List.length_eq_zero_iff.1 this.2]
    simp [Op.eqItems,qh]
  |n+1,j,cs,ds,w,h,hl,hl'=>by
    rw [Nat.add_mul]at hl hl'
    have p1:=lU hs hc hi (off:=j*s.length) (cs:=cs) oM w
    have p2:=lU hs hc hi (off:=j*s.length) (cs:=ds) oM w
    rw [List.replicate_succ,List.flatten_cons]at h
    obtain⟨i1,i2,i3⟩:=h.split
    have e1:=ih _ _ w i1
    have ej:j*s.length+s.length=(j+1)*s.length:=by rw [Nat.add_mul,Nat.one_mul]
    have e2:=pQ hs hc hi ih n (j+1) cs ds w (by rwa [List.drop_drop,List.drop_drop,ej]at i2) oM oM
    rw [List.range'_succ]
    simp only [Op.eqItems,Sem.run_bind,p1,p2,e1,Result.andThen_ok]
    rw [i3,List.drop_drop,List.drop_drop,ej]
    cases qh ((cs.drop (j*s.length)).take s.length) ((ds.drop (j*s.length)).take s.length)
    · simp
    · simpa using e2
theorem mT{k:Nat}:∀(d t:Nat) (s:List Bool),fA P d t=some s->∀(cs ds:List Value) (w:World),nh s cs ds->(Op.equalIn (k+d) t (ko P t cs) (ko P t ds)).run P w= .ok (qh cs ds) w
 |0,t,s,h,cs,ds,w,hi=>by simp [fA]at h
 |d+1,t,s,h,cs,ds,w,hi=>by
  simp only [fA]at h;cases hu:P.underlying t with
  |none=>simp [hu]at h
  |some kd=>
   cases kd <;> simp only [hu]at h <;> try (cases h;done)
   case int q=>
    injection h with h
    subst h
    obtain⟨k',a,b,rfl,rfl⟩:=hi.PW
    ·simp only [ko,hu,List.headD_cons];rw [show k+(d+1)=(k+d)+1 from rfl,run_equalIn_int w (k+d) t k' q a b hu];simp [qh]
   case bool=>
    injection h with h
    subst h
    obtain⟨a,b,rfl,rfl⟩:=hi.PV
    ·simp only [ko,hu,List.headD_cons];rw [show k+(d+1)=(k+d)+1 from rfl,run_equalIn_bool w (k+d) t a b hu];simp [qh]
   case struct fs=>
    split at h
    ·cases h
    ·rename_i hp;simp only [ko,hu];have hf:P.fieldsOf t=fs:=by simp [Program.fieldsOf,hu]
     rw [show k+(d+1)=(k+d)+1 from rfl,run_equalIn_struct w (k+d) t _ _ (by rw [hf];exact hu) (by simpa using hp),hf];have hl:=hi.len;have:=nt (k:=k) (mT d) fs.toList 0 s h cs ds w (by simpa using hi) oM oM;simpa using this
   case array n e=>
    split at h
    case h_2=>cases h
    rename_i s' hs
    split at h
    case isFalse=>cases h
    rename_i hh
    injection h with h
    subst h
    obtain⟨i,hi'⟩:=Option.isSome_iff_exists.1 hh.2
    have hl:=hi.len
    rw [List.length_flatten,List.map_replicate,List.sum_replicate_nat]at hl
    simp only [ko,hu]
    rw [show k+(d+1)=(k+d)+1 from rfl,run_equalIn_array (w:=w) (k+d) _ _ hu hi',hh.1,List.range_eq_range']
    have:=pQ (k:=k) hs hh.1 hh.2 (mT d e s' hs) n 0 cs ds w (by simpa using hi) oM oM
    simpa using this
def Oo(P:Program)(t:Nat):Option (List Bool):=match P.underlying t with
 |some (.struct _)=>if P.eqGuardType P.depth t=true then none else fA P 8 t
 |some (.array _ _)=>if P.eqGuardType P.depth t=true then none else fA P 8 t
 |_=>none
theorem J2{t:Nat}{s:List Bool}(h:Oo P t=some s){x y:Operand}{xs ys:Array Value}(hi:nh s xs.toList ys.toList)(w:World) : (eqGuard .eql t x y (.agg xs) (.agg ys)).run P w= .ok () w/\(binOp .eql t (.agg xs) (.agg ys)).run P w= .ok (.bool (qh xs.toList ys.toList)) w/\ (eqGuard .neq t x y (.agg xs) (.agg ys)).run P w= .ok () w/\(binOp .neq t (.agg xs) (.agg ys)).run P w= .ok (.bool (!qh xs.toList ys.toList)) w:=by
 have key0:P.eqGuardType P.depth t=false/\fA P 8 t=some s/\(∀cs,ko P t cs= .agg cs.toArray):=by
  unfold Oo at h;split at h
  ·rename_i fs hu;split at h;·cases h
   ·rename_i hg;exact⟨by simpa using hg,h,fun cs=>by simp only [ko,hu]⟩
  ·rename_i n e hu;split at h;·cases h
   ·rename_i hg;exact⟨by simpa using hg,h,fun cs=>by simp only [ko,hu]⟩
  ·cases h
 obtain⟨hg,h,hv⟩:=key0;have key:=mT (P:=P) (k:=9992) 8 t s h xs.toList ys.toList w hi;rw [hv,hv]at key;have key':(Op.equalIn 10000 t (.agg xs) (.agg ys)).run P w= .ok (qh xs.toList ys.toList) w:=by simpa using key
 refine⟨run_eqGuard_agg w _ _ _ _ _ _ hg,?_,run_eqGuard_agg w _ _ _ _ _ _ hg,?_⟩;·rw [run_eql_struct,key'];rfl
 ·rw [run_neq_struct,key'];rfl
end
def iC:List Bool->Nat
 | []=>1
 |b::l=>2*iC l+(if b then 1 else 0)
theorem jV:∀l,1<=iC l
 | []=>Nat.le_refl _
 |b::l=>by have:=jV l;rw [iC];omega
theorem sO:∀ {l m:List Bool},iC l=iC m->l=m
 | [],[],_=>rfl
 | [],b::m,h=>by have:=jV m;simp only [iC]at h;omega
 |b::l,[],h=>by have:=jV l;simp only [iC]at h;omega
 |b::l,c::m,h=>by
  simp only [iC]at h;have e:iC l=iC m:=by cases b <;> cases c <;> simp at h <;> omega
  have e2:b=c:=by cases b <;> cases c <;> simp at h ⊢ <;> omega
  rw [sO e,e2]
def mX(l:List Bool):Nat:=2000000+iC l
structure TI where
  fI:List (Option Nat)
  pl:Option (List (Nat×Nat))
  agg:Option Bool
  size:Option Nat
  bytes:Option Nat
  elem:Option Nat
  arr:Option (Nat×Nat)
  kind:Option IntKind
  zero:Option (List V)
  some':Bool
  tC:Option Nat:=none
def J3(P:Program)(t:Nat):TI:= {fI:=match uV P t with |some pl=>(List.range pl.length).map (y8 P t) |none=>[],pl:=uV P t,agg:=lB P t,size:=cc P t,bytes:=jh P t,elem:=dw P t,arr:=wG P t,kind:=uW P t,zero:=gN P t,some':=(P.underlying t).isSome}
def bE:TI:=⟨[],none,none,none,none,none,none,none,none,false,none⟩
def TI.xF(x:TI):TI:=⟨x.fI,x.pl,x.agg,x.size,x.bytes,x.elem,x.arr,x.kind,x.zero,x.some',none⟩
def Ex(P:Program)(t:Nat):Bool:=match P.info? t with
 |some i=>match i.zero,lB P t with
  |some (.agg _),some true=>true
  |some (.agg _),_=>false
  |some _,some false=>true
  |_,_=>false
 |none=>false
def Cy(P:Program)(kt et:Nat):Option Nat:=match P.underlying kt with
 |some .string=>if et< 400000/\Ex P et=true then some (1000010+2*et)else none
 |some (.int .i64)=>if et< 400000/\Ex P et=true then some (1000011+2*et)else none
 |_=>none
theorem o6{P:Program}{kt et n:Nat}(h:Cy P kt et=some n):(n=1000010+2*et/\et< 400000/\P.underlying kt=some .string/\Ex P et=true)\/(n=1000011+2*et/\et< 400000/\P.underlying kt=some (.int .i64)/\Ex P et=true):=by
 unfold Cy at h;split at h
 ·split at h;·rename_i hu hh;injection h with h;exact .inl ⟨h.symm,hh.1,hu,hh.2⟩
  ·cases h
 ·split at h;·rename_i hu hh;injection h with h;exact .inr ⟨h.symm,hh.1,hu,hh.2⟩
  ·cases h
 ·cases h
def J1(P:Program)(t:Nat):Option Nat:=match P.underlying t with
 |some .bool=>some 1000000
 |some .string=>some 1000001
 |some (.pointer _)=>some 1000002
 |some (.map kt et)=>Cy P kt et
 |_=>match Oo P t with |some s=>some (mX s) |none=>none
def aK(T:List TI)(P:Program):Prop:=(∃mask:List Nat,T.map TI.xF=(List.range T.length).map fun t=>if mask.contains t then bE else J3 P t)/\(T.zipIdx.all fun p=>match p.1.tC with |none=>true |some n=>J1 P p.2 == some n)=true
theorem aK.at_{T:List TI}{P:Program}(h:aK T P)(t:Nat):(T.getD t bE).xF=J3 P t\/(T.getD t bE).xF=bE:=by
 obtain⟨⟨mask,h⟩,_⟩:=h;by_cases ht:t< T.length
 ·have h1:(T.map TI.xF)[t]?=some (if mask.contains t then bE else J3 P t):=by rw [h];simp [ht]
  have h2:(T.map TI.xF)[t]?=some (T.getD t bE).xF:=by simp [List.getD_eq_getElem?_getD,List.getElem?_eq_getElem ht]
  rw [h2]at h1;injection h1 with h1;rw [h1];split;·exact .inr rfl
  ·exact .inl rfl
 ·right;simp [List.getD_eq_getElem?_getD,List.getElem?_eq_none (Nat.le_of_not_lt ht),TI.xF,bE]
theorem aK.NR{T:List TI}{P:Program}(h:aK T P){t n:Nat}(k:(T.getD t bE).tC=some n):J1 P t=some n:=by
 by_cases ht:t< T.length;·have h2:=List.all_eq_true.1 h.2 (T[t],t) (by rw [List.mem_zipIdx_iff_getElem?];simp [List.getElem?_eq_getElem ht]);simp only [List.getD_eq_getElem?_getD,List.getElem?_eq_getElem ht,Option.getD_some]at k;simp only [k]at h2;simpa using h2
 ·simp [List.getD_eq_getElem?_getD,List.getElem?_eq_none (Nat.le_of_not_lt ht),bE]at k
theorem lC{P:Program}{t n:Nat}(k:J1 P t=some n):(n=1000000/\P.underlying t=some .bool)\/(n=1000001/\P.underlying t=some .string)\/(∃s,n=mX s/\Oo P t=some s)\/(n=1000002/\∃e,P.underlying t=some (.pointer e))\/(∃kt et,Cy P kt et=some n/\1000010<=n/\n< 2000000/\P.underlying t=some (.map kt et)):=by
 unfold J1 at k;split at k;·injection k with k;exact .inl ⟨k.symm,by assumption⟩
 ·injection k with k;exact .inr (.inl ⟨k.symm,by assumption⟩)
 ·injection k with k;exact .inr (.inr (.inr (.inl ⟨k.symm,_,by assumption⟩)))
 ·exact .inr (.inr (.inr (.inr ⟨_,_,k,by rcases o6 k with⟨h,_⟩ | ⟨h,_⟩ <;> omega,by rcases o6 k with⟨h,h2,_⟩ | ⟨h,h2,_⟩ <;> omega,by assumption⟩)))
 ·split at k;·rename_i s hs;injection k with k;exact .inr (.inr (.inl ⟨s,k.symm,hs⟩))
  ·cases k
theorem jw(s:List Bool):2000000< mX s:=by have:=jV s;unfold mX;omega
theorem aK.tC{T:List TI}{P:Program}(h:aK T P){t:Nat}{s:List Bool}(k:(T.getD t bE).tC=some (mX s)):Oo P t=some s:=by
 have hg:=jw s;rcases lC (h.NR k)with⟨e,_⟩ | ⟨e,_⟩ | ⟨s',e,h'⟩ | ⟨e,_⟩ | ⟨_,_,_,_,e,_⟩;·omega
 ·omega
 ·have:s=s':=sO (by unfold mX at e;omega);rw [this];exact h'
 ·omega
 ·omega
theorem aK.FQ{T:List TI}{P:Program}(h:aK T P){t:Nat}(k:(T.getD t bE).tC=some 1000000):P.underlying t=some .bool:=by
 rcases lC (h.NR k)with⟨_,e⟩ | ⟨e,_⟩ | ⟨s,e,_⟩ | ⟨e,_⟩ | ⟨_,_,_,q1,q2,_⟩;·exact e
 ·omega
 ·have:=jw s;omega
 ·omega
 ·omega
theorem aK.nu{T:List TI}{P:Program}(h:aK T P){t:Nat}(k:(T.getD t bE).tC=some 1000001):P.underlying t=some .string:=by
 rcases lC (h.NR k)with⟨e,_⟩ | ⟨_,e⟩ | ⟨s,e,_⟩ | ⟨e,_⟩ | ⟨_,_,_,q1,q2,_⟩;·omega
 ·exact e
 ·have:=jw s;omega
 ·omega
 ·omega
theorem aK.KG{T:List TI}{P:Program}(h:aK T P){t:Nat}(k:(T.getD t bE).tC=some 1000002):∃e,P.underlying t=some (.pointer e):=by
 rcases lC (h.NR k)with⟨e,_⟩ | ⟨e,_⟩ | ⟨s,e,_⟩ | ⟨_,e⟩ | ⟨_,_,_,q1,q2,_⟩;·omega
 ·omega
 ·have:=jw s;omega
 ·exact e
 ·omega
section
variable {T:List TI}{P:Program}(h:aK T P){t:Nat}
include h
theorem aK.fI{f off:Nat}(k:((T.getD t bE).fI[f]?).join=some off):y8 P t f=some off:=by
  replace k:((T.getD t bE).xF.fI[f]?).join=some off:=k
  rcases h.at_ t with e |e
  · rw [e]at k
    simp only [J3]at k
    split at k
    · rename_i pl hpl
      simp only [List.getElem?_map]at k
      cases hf:(List.range pl.length)[f]? with
      |none=>rw [hf]at k;cases k
      |some f'=>
        rw [hf]at k
        have:f'=f:=by
          have:=List.getElem?_eq_some_iff.1 hf
          obtain⟨h1,h2⟩:=this
          simpa using h2.symm
        subst this
        simpa using k
    · simp at k
  · rw [e]at k;simp [bE]at k
theorem aK.pl{x:List (Nat×Nat)}(k:(T.getD t bE).pl=some x):uV P t=some x:=by
 replace k:(T.getD t bE).xF.pl=some x:=k;rcases h.at_ t with e |e <;> rw [e]at k
 ·exact k
 ·cases k
theorem aK.agg{x:Bool}(k:(T.getD t bE).agg=some x):lB P t=some x:=by
 replace k:(T.getD t bE).xF.agg=some x:=k;rcases h.at_ t with e |e <;> rw [e]at k
 ·exact k
 ·cases k
theorem aK.size{x:Nat}(k:(T.getD t bE).size=some x):cc P t=some x:=by
 replace k:(T.getD t bE).xF.size=some x:=k;rcases h.at_ t with e |e <;> rw [e]at k
 ·exact k
 ·cases k
theorem aK.bytes{x:Nat}(k:(T.getD t bE).bytes=some x):jh P t=some x:=by
 replace k:(T.getD t bE).xF.bytes=some x:=k;rcases h.at_ t with e |e <;> rw [e]at k
 ·exact k
 ·cases k
theorem aK.elem{x:Nat}(k:(T.getD t bE).elem=some x):dw P t=some x:=by
 replace k:(T.getD t bE).xF.elem=some x:=k;rcases h.at_ t with e |e <;> rw [e]at k
 ·exact k
 ·cases k
theorem aK.arr{x:Nat×Nat}(k:(T.getD t bE).arr=some x):wG P t=some x:=by
 replace k:(T.getD t bE).xF.arr=some x:=k;rcases h.at_ t with e |e <;> rw [e]at k
 ·exact k
 ·cases k
theorem aK.kind{x:IntKind}(k:(T.getD t bE).kind=some x):uW P t=some x:=by
 replace k:(T.getD t bE).xF.kind=some x:=k;rcases h.at_ t with e |e <;> rw [e]at k
 ·exact k
 ·cases k
theorem aK.zero{x:List V}(k:(T.getD t bE).zero=some x):gN P t=some x:=by
 replace k:(T.getD t bE).xF.zero=some x:=k;rcases h.at_ t with e |e <;> rw [e]at k
 ·exact k
 ·cases k
theorem aK.isSome(k:(T.getD t bE).some'=true):(P.underlying t).isSome=true:=by
 replace k:(T.getD t bE).xF.some'=true:=k;rcases h.at_ t with e |e <;> rw [e]at k
 ·exact k
 ·cases k
end
def mV(obs:List Ob)(i:Nat):Option Ob:=obs[i]?
def AC(P:Program)(f:FuncId)(args:List V)(v:V)(obs:List Ob):Prop:=
  (∀(args:Array Value) (w:World),(callFunc f args).run P w= .ok (.enter f args) w)/\
  ∀(L:Nat->Prop) (w:World) (vs:Array Value),(∀b,L b->b< w.heap.size)->(∀g,R w L ρ0 (jn g) (ql g))->RV w L ρ0 args vs.toList->
    Calls P f vs w fun e w'=>∃x,e= .returned x/\Below w.heap.size w w'/\∃L' ρ',G (fun b=>w.heap.size<=b) (fun b=>L b\/w.heap.size<=b) (mV obs) w' L' ρ'/\(∀b,L b->L' b)/\R w' L' ρ' v x/\∀j,obs.length<=j->ρ' j=none
def gK(n nx i:Nat):Nat:=if i< n then i else nx*100000+i
def iM(T:List TI)(t:Nat)(cs:List V):Option V:=
 match (T.getD t bE).agg with
  |some false=>cs[0]?
  |some true=>match (T.getD t bE).size with
   |some n=>if n<=cs.length then some (.agg (cs.take n))else none
   |none=>none
  |none=>none
def Cm(T:List TI)(s:S):ResultVar->Option V
 | .tmp t=>some (s.tm t)
 | .cell a t=>match s.tm a with
  | .ptr cs=>iM T t cs
  | .ref id o=>match s.σ id with
   |some (.box _ cs)=>iM T t (cs.drop o)
   |_=>none
  |_=>none
def uP(T:List TI)(s:S):List ResultVar->Option (List V)
 | []=>some []
 |r::rs=>match Cm T s r,uP T s rs with
  |some v,some vs=>some (v::vs)
  |_,_=>none
def qt(T:List TI)(s:S)(rs:List ResultVar):Option V:=match uP T s rs with
 |some [v]=>some v
 |some vs=>some (.tup vs)
 |none=>none
def gO(T:List TI)(fn:Func)(v:V)(obs:List Ob):Exit->S->Prop:=fun e s=>(e= .normal\/e= .ret)/\∃s',Le s s'/\qt T s' fn.results.toList=some v/\(∀i ob,obs[i]?=some ob->s'.σ i=some ob)/\v.bD (gK obs.length s'.nx)=v/\(∀ob∈obs,ob.bD (gK obs.length s'.nx)=ob)
section
variable {T:List TI}{P:Program}
theorem uD(hT:aK T P){t b o:Nat}{cs:List V}{v:V}{w:World}{L:Nat->Prop}{ρ:Nat->Option Value}(h:iM T t cs=some v)(hc:∀(j:Nat) u,cs[j]?=some u->∃y,w.cell? ⟨b,o+j,none⟩=some y/\y.oneCell'=true/\R w L ρ u y) : ∃x,(loadVar t ⟨b,o,none⟩).run P w= .ok x w/\R w L ρ v x:=by
 unfold iM at h;split at h;·rename_i ha;obtain⟨y,h1,h2,h3⟩:=hc 0 v h;exact⟨y,gV (hT.agg ha) (by simpa using h1),h3⟩
 ·rename_i ha;split at h
  ·rename_i n hn;split at h
   ·rename_i hle;injection h with h;subst h;obtain⟨xs,h1,h2⟩:=jG (cs.take n) fun j u hu=>hc j u (by
     rw [List.getElem?_take]at hu;split at hu;·exact hu
     ·cases hu)
    exact⟨.agg xs.toArray,gW (hT.agg ha) (hT.size hn) (by rw [<-h1.1];simp;omega) h2,.lZ (by simpa using h1)⟩
   ·cases h
  ·cases h
 ·cases h
def rM(tmps:Array Value):ResultVar->Sem Value
 | .tmp t=>pure (tmps.getD t undef)
 | .cell a t=>do loadVar t (<-asAddr (tmps.getD a undef))
theorem AV(fn:Func)(tmps:Array Value):results fn tmps=(do let vs <-fn.results.mapM (rM tmps);pure (if h:vs.size=1 then vs[0]else .tuple vs)):=by unfold results;congr 2
theorem D8(hT:aK T P){W LB:Nat->Prop}{s:S}{a:Act}{w:World}{L:Nat->Prop}{ρ:Nat->Option Value}(g:G W LB s.σ w L ρ)(tm:TM s.tm a w L ρ)(r:ResultVar){v:V}(h:Cm T s r=some v) : ∃x,(rM a.tmps r).run P w= .ok x w/\R w L ρ v x:=by
 cases r with
 |tmp t=>simp only [Cm,Option.some.injEq]at h;subst h;exact⟨_,rfl,tm t⟩
 |cell x t=>
  have hx:=tm x;simp only [Cm]at h;split at h
  ·rename_i cs hcs;rw [hcs]at hx;obtain⟨b,o,e,hb,hc⟩:=hx.gU;obtain⟨y,hy,hr⟩:=uD (ρ:=ρ) hT h fun j u hu=>by obtain⟨y,h1,h2,h3⟩:=hc j u hu;exact⟨y,h1,h2,h3.Mv⟩
   exact⟨y,by simp only [rM,e];simp [asAddr,hy],hr⟩
  ·rename_i id o hid;rw [hid]at hx;split at h
   ·rename_i t' cs hσ;obtain⟨b,xs,e,hρ,hW,hL,hh,hl⟩:=vw g hx hσ;obtain⟨y,hy,hr⟩:=uD (ρ:=ρ) hT (o:=o) (b:=b) h fun j u hu=>by rw [List.getElem?_drop]at hu;obtain⟨y,h1,h2,h3⟩:=hl.get hu;exact⟨y,by rw [cell_of_row w b _ xs t' (0,0) hh];simpa using h1,h3,h2⟩
    exact⟨y,by simp only [rM,e];simp [asAddr,hy],hr⟩
   ·cases h
  ·cases h
theorem nX(hT:aK T P){W LB:Nat->Prop}{s:S}{a:Act}{w:World}{L:Nat->Prop}{ρ:Nat->Option Value}(g:G W LB s.σ w L ρ)(tm:TM s.tm a w L ρ)(fn:Func){v:V}(h:qt T s fn.results.toList=some v) : ∃x,(results fn a.tmps).run P w= .ok x w/\R w L ρ v x:=by
 have key:∀(rs:List ResultVar) (vs:List V),uP T s rs=some vs->∃xs,(rs.mapM (rM a.tmps)).run P w= .ok xs w/\RV w L ρ vs xs:=by
  intro rs;induction rs with
  |nil=>intro vs h;simp [uP]at h;subst h;exact⟨[],rfl,.nil⟩
  |cons r rs ih=>
   intro vs h;simp only [uP]at h;split at h;·rename_i v' vs' h1 h2;injection h with h;subst h;obtain⟨x,hx,hr⟩:=D8 hT g tm r h1;obtain⟨xs,hxs,hrs⟩:=ih vs' h2;refine⟨x::xs,?_,.cons hr hrs⟩;rw [List.mapM_cons];simp [hx,hxs]
   ·cases h
 have fin:∀vs,uP T s fn.results.toList=some vs->∃xs,(results fn a.tmps).run P w= .ok (if h:xs.length=1 then xs[0]else .tuple xs.toArray) w/\RV w L ρ vs xs:=by intro vs hvs;obtain⟨xs,h1,h2⟩:=key _ _ hvs;refine⟨xs,?_,h2⟩;rw [AV,Array.mapM_eq_mapM_toList];simp [h1]
 unfold qt at h;split at h
 ·rename_i v' hv;injection h with h;subst h;obtain⟨xs,h1,h2⟩:=fin _ hv;have hl:xs.length=1:=by rw [<-h2.1];rfl
  rw [dif_pos hl]at h1;exact⟨_,h1,h2.2 0 v' _ rfl (by rw [List.getElem?_eq_getElem oM])⟩
 ·rename_i vs hne hv;injection h with h;subst h;obtain⟨xs,h1,h2⟩:=fin _ hv;have hl:¬xs.length=1:=by intro hl;rw [<-h2.1]at hl;obtain⟨y,hy⟩:=List.length_eq_one_iff.1 hl;exact hne y hy
  rw [dif_neg hl]at h1;exact⟨_,h1,.wK (by simpa using h2)⟩
 ·cases h
structure qQ(P:Program)(f:FuncId)(fn:Func)(c:Code)(N:Nat):Prop where
  hf:P.funcs[f]?=some fn
  hb:fn.body=some c
  hn:fn.ntmps=N
  hname:(fn.name == "runtime.NumGoroutine")=false
theorem qQ.call{f:FuncId}{fn:Func}{c:Code}{N:Nat}(h:qQ P f fn c N)(args:Array Value)(w:World):(callFunc f args).run P w= .ok (.enter f args) w:=by
 have hn:¬fn.name= "runtime.NumGoroutine" :=by simpa using h.hname
 simp [callFunc,h.hf,hn,h.hb]
theorem i6{P:Program}{fn:Func}{tmps:Array Value}{R:Ending->World->Prop}{n:Nat}:∀(Ds:List Nat) (w:World),Ds.Nodup->(∀D∈Ds,w.heap[D]?=some (.deferred (some [])))-> (∀w',aZ (· ∈Ds) w w'->∃v,(results fn tmps).run P w'= .ok v w'/\R (.returned v) w')->LeavesInM Fence.wide n P fn tmps R (marks Ds) .returning w
 | [],w,_,_,hR=>hR w (aZ.refl _ _)
 |D::Ds,w,hn,hD,hR=>by
  refine⟨by simp,.inl ⟨D,w.putObj D (.deferred none),rfl,run_takeDeferred (hD D (by simp)),?_⟩⟩;have hn':=List.nodup_cons.1 hn;refine i6 Ds _ hn'.2 (fun E hE=> ?_) (fun w' ht=>hR w' ?_);·exact(World.putObj_heap_other (by rintro rfl;exact hn'.1 hE)).trans (hD E (by simp [hE]))
  ·exact(((aZ.refl _ w).putObj _ fun _=>by simp).trans (ht.mono fun k _ h=>by simp [h]))
theorem jJ{P:Program}{fn:Func}{R:Ending->World->Prop}{e:Exit}{a:Act}{w:World}(Ds:List Nat)(he:e= .normal\/e= .ret)(hd:a.defers=marks Ds) (hn:Ds.Nodup) (hD:∀D∈Ds,w.heap[D]?=some (.deferred (some []))) (hR:∀w',aZ (· ∈Ds) w w'->∃v,(results fn a.tmps).run P w'= .ok v w'/\R (.returned v) w') : bodyPostM Fence.wide 0 P fn R e a w:=by
 rcases he with rfl |rfl;·show LeavesInM _ _ _ _ _ _ a.defers _ _;rw [hd];exact i6 Ds w hn hD hR
 ·show LeavesInM _ _ _ _ _ _ a.defers _ _;rw [hd];exact i6 Ds w hn hD hR
theorem G.marks{W LB:Nat->Prop}{σ:Nat->Option Ob}{w w2:World}{L:Nat->Prop}{ρ:Nat->Option Value}{Ds:List Nat}(g:G W LB σ w L ρ)(ht:aZ (· ∈Ds) w w2) (hD:∀D∈Ds,w.heap[D]?=some (.deferred (some []))/\W D/\¬L D):G W LB σ w2 L ρ/\Ext w L ρ w2 L ρ:=by
 have hE:∀b,L b->w2.heap[b]?=w.heap[b]?:=fun b hb=>ht.block b (g.ll b hb).1 fun hc=>(hD b hc).2.2 hb;have he:Ext w L ρ w2 L ρ:=⟨fun b hb=>⟨hb,hE b hb⟩,fun _ _ h=>h⟩;refine⟨⟨fun b hb=>⟨Nat.lt_of_lt_of_le (g.ll b hb).1 ht.size,(g.ll b hb).2⟩,fun b hb=>g.new b (Nat.le_trans ht.size hb),fun id o ho=> ?_,g.sep,g.tN he⟩,he⟩;have hr:=g.ob id o ho;obtain⟨y,hy,hy2⟩:=hr.lt;refine hr.keep he fun x k hx hk=> ?_;rw [hx]at hy;injection hy with hy;subst hy
 refine⟨ht.block k (hy2 k hk).1 fun hc=> ?_,(hy2 k hk).2.2⟩;have h7:=(hD k hc).1;cases o with
 |box t cs=>
  obtain⟨b,xs,q1,_,_,q4,_⟩:=hr;rw [hx]at q1;injection q1 with q1;rw [q1]at hk;simp [blk]at hk;subst hk
  rw [q4]at h7;cases h7
 |row e sz n row=>
  obtain⟨v,xs,q1,q2,_⟩:=hr;rw [hx]at q1;injection q1 with q1;subst q1
  rcases q2.2 with⟨h,_⟩ | ⟨g',cap,cur,h,_,hh,_⟩;·rw [h]at hk;simp [blk]at hk
  ·rw [h]at hk;simp [blk]at hk;subst hk;rw [hh]at h7;cases h7
 |mp str f=>
  obtain⟨b,es,cl,q1,_,_,q4,_⟩:=hr;rw [hx]at q1;injection q1 with q1;rw [q1]at hk;simp [blk]at hk;subst hk
  rw [q4]at h7;cases h7
theorem EM(hT:aK T P)(hmx:P.follows .mixedOrders=true){f:FuncId}{fn:Func}{c:Code}{N:Nat}(hk:qQ P f fn c N){args:List V}{v:V}{obs:List Ob}(hargs:args.length<=N)
    (h:∀C:Cx P N,C.dfs=rD->C.F=Fence.wide->AW C c (gO T fn v obs) ⟨fun t=>args.getD t .any,fun _=>none,1⟩):AC P f args v obs:=by
  refine⟨hk.call,fun L w vs hL hgl hvs=> ?_⟩
  have hC:∃C:Cx P N,C.W=(fun b=>w.heap.size<=b)/\C.LB=(fun b=>L b\/w.heap.size<=b)/\C.dfs=rD/\C.F=Fence.wide:=⟨⟨fun b=>w.heap.size<=b,fun b=>L b\/w.heap.size<=b,fun b h=> .inr h,rD,hmx,Fence.wide,.inl rfl⟩,rfl,rfl,rfl,rfl⟩
  obtain⟨C,hW,hLB,hd,hFw⟩:=hC
  have hvl:vs.size=args.length:=by have:=hvs.1;simpa using this.symm
  refine callsIn_wide.1 (callsIn_of_wp_marks (n:=0) hk.hf hk.hb trivial ?_ rfl)
  have hw:=h C hd hFw
  unfold AW at hw
  rw [hFw]at hw
  refine wpIn_mono (hw _ w ⟨L,ρ0,⟨⟨fun b hb=>⟨hL b hb,by rw [hLB];exact .inl hb⟩,fun b hb=>⟨by rw [hW];exact hb,by rw [hLB];exact .inr hb⟩,(fun id o ho=>by cases ho),fun i j x y k _ hi=>absurd rfl hi,hgl⟩,fun _ _=>rfl,fun t=> ?_,?_,?_,fun id x hp=>by rw [hd]at hp;cases hp⟩⟩) ?_
  · by_cases ht:t< args.length
    · have h1:args[t]?=some args[t]:=List.getElem?_eq_getElem ht
      obtain⟨x,hx,hr⟩:=hvs.get h1
      have e1:args.getD t .any=args[t]:=by simp [List.getD_eq_getElem?_getD,h1]
      have e2:(vs++Array.replicate (fn.ntmps- vs.size) undef).getD t undef=x:=by
        rw [Array.getD_eq_getD_getElem?,Array.getElem?_append_left oM]
        have:vs[t]?=some x:=by simpa using hx
        rw [this];rfl
      show R w L ρ0 (args.getD t .any) _
      rw [e1,e2];exact hr
    · have e1:args.getD t .any= .any:=by simp [List.getD_eq_getElem?_getD,List.getElem?_eq_none (Nat.le_of_not_lt ht)]
      show R w L ρ0 (args.getD t .any) _
      rw [e1];exact .any _ _
  · rw [<-hk.hn]at hargs ⊢
    simp;omega
  · exact⟨[],by rw [hd];rfl,by simp,by simp⟩
  · rintro e a' w' ⟨s',⟨he,s'',hle,hres,hob,hcv,hco⟩,g',t⟩
    obtain⟨L',ρ',g''⟩:=hle C a' w' g'
    have hbel:Below w.heap.size w w':=by
      rw [hW]at t
      exact t.below (Nat.le_refl _) fun k hk=>by omega
    obtain⟨Ds,d1,d2,d3⟩:=g''.defers
    rw [hd,show rD.tl=[]from rfl,List.append_nil]at d1
    refine jJ Ds he d1 d2 (fun D hD=>(d3 D hD).1) fun w2 ht2=> ?_
    obtain⟨g2,e2⟩:=g''.g.marks ht2 d3
    obtain⟨x,hx,hr⟩:=nX hT g2 (fun t=>(g''.tm t).ext e2) fn hres
    refine⟨x,hx,x,rfl,?_⟩
    have hWD:∀D∈Ds,w.heap.size<=D:=fun D hD=>by have:=(d3 D hD).2.1;rw [hW]at this;exact this
    have hb2:Below w.heap.size w w2:=⟨ht2.os.trans hbel.os,ht2.tape.trans hbel.tape,ht2.output.trans hbel.output,Nat.le_trans hbel.size ht2.size,fun k hk=>(ht2.block k (Nat.lt_of_lt_of_le hk hbel.size) fun hc=>by have:=hWD k hc;omega).trans (hbel.block k hk)⟩
    have hr2:R w2 L' (fun i=>ρ' (gK obs.length s''.nx i)) v x:=kC _ _ _ (by rw [hcv];exact hr)
    have hlt:∀i ob,obs[i]?=some ob->gK obs.length s''.nx i=i:=fun i ob hi=>by
      unfold gK;rw [if_pos (List.getElem?_eq_some_iff.1 hi).1]
    have hcl:∀i,mV obs i≠none->gK obs.length s''.nx i=i:=fun i hi=>by
      cases ho:obs[i]? with
      |none=>exact absurd ho hi
      |some o=>exact hlt i o ho
    have hE2:Ext w2 L' (fun i=>ρ' (gK obs.length s''.nx i)) w2 (fun b=>L' b\/L b) (fun i=>ρ' (gK obs.length s''.nx i)):=⟨fun b hb=>⟨.inl hb,rfl⟩,fun _ _ h=>h⟩
    refine⟨hb2,fun b=>L' b\/L b,fun i=>ρ' (gK obs.length s''.nx i),⟨fun b hb=> ?_,fun b hb=> ?_,fun id o ho=> ?_,fun i j x y k hij hi hj=> ?_,g2.Pa hE2.l⟩,fun b hb=> .inr hb,hr2.ext hE2,fun j hj=> ?_⟩
    · rcases hb with hb |hb
      · have:=g2.ll b hb
        rw [hLB]at this
        exact⟨this.1,this.2⟩
      · exact⟨Nat.lt_of_lt_of_le (hL b hb) hb2.size,.inl hb⟩
    · exact⟨Nat.le_trans hb2.size hb,.inr (Nat.le_trans hb2.size hb)⟩
    · have hr0:=g2.ob id o (hob id o ho)
      rw [hW]at hr0
      have hr:Real (fun b=>w.heap.size<=b) w2 L' (fun i=>ρ' (gK obs.length s''.nx i)) id o:=Real.bD (by rw [hlt id o ho,hco o (List.mem_of_getElem? ho)];exact hr0)
      obtain⟨y,hy,hy2⟩:=hr.lt
      refine hr.keep hE2 fun x k hx hk=> ?_
      rw [hx]at hy;injection hy with hy;subst hy
      refine⟨rfl,?_⟩
      rintro(h1 |h1)
      · exact(hy2 k hk).2.2 h1
      · have:=hL k h1
        have:=(hy2 k hk).2.1
        omega
    · simp only [hcl i hi,hcl j hj]
      refine g2.sep i j x y k hij ?_ ?_
      · cases ho:mV obs i with
        |none=>exact absurd ho hi
        |some o=>rw [hob i o ho];simp
      · cases ho:mV obs j with
        |none=>exact absurd ho hj
        |some o=>rw [hob j o ho];simp
    · have e3:gK obs.length s''.nx j=s''.nx*100000+j:=if_neg oM
      show ρ' (gK obs.length s''.nx j)=none
      rw [e3]
      exact g''.fr _ (by unfold bV;omega)
end
def ay(nx:Nat)(d:Option Tmp)(j:Nat):Nat:=nx*100000+1000*j+d.getD 0
def cj(g:Nat->Nat):Nat->List Ob->List (Nat×Option Ob)
 |_,[]=>[]
 |j,ob::obs=>(g j,some (ob.bD g))::cj g (j+1) obs
theorem ng{w:World}{L:Nat->Prop}{ρ ρ':Nat->Option Value}(g:Nat->Nat)(hg:∀j y,ρ j=some y->ρ' (g j)=some y){v:V}{x:Value}(h:R w L ρ v x):R w L ρ' (v.bD g) x:=by
 have h2:R w L ρ (v.bD id) x\/True:= .inr trivial;clear h2;induction h generalizing ρ' with
 |any=>rw [V.bD];exact .any _ _
 |c=>rw [V.bD];exact .c _ _
 |agg ρ cs xs f hl hf hr ih=>
  rw [V.bD];refine .agg _ _ _ f (by rw [V.cY];exact hl) (fun i u hu=> ?_) fun i u hu=> ?_
  ·rw [V.cx]at hu;cases hc:cs[i]? with
   |none=>rw [hc]at hu;cases hu
   |some c=>exact hf i c hc
  ·rw [V.cx]at hu;cases hc:cs[i]? with
   |none=>rw [hc]at hu;cases hu
   |some c=>rw [hc]at hu;simp only [Option.map_some,Option.some.injEq]at hu;subst hu;exact ih i c hc hg
 |tup ρ cs xs f hl hf hr ih=>
  rw [V.bD];refine .tup _ _ _ f (by rw [V.cY];exact hl) (fun i u hu=> ?_) fun i u hu=> ?_
  ·rw [V.cx]at hu;cases hc:cs[i]? with
   |none=>rw [hc]at hu;cases hu
   |some c=>exact hf i c hc
  ·rw [V.cx]at hu;cases hc:cs[i]? with
   |none=>rw [hc]at hu;cases hu
   |some c=>rw [hc]at hu;simp only [Option.map_some,Option.some.injEq]at hu;subst hu;exact ih i c hc hg
 |nil=>rw [V.bD];exact .nil _
 |emp=>rw [V.bD];exact .emp _ _
 |sl0=>rw [V.bD];exact .sl0 _ _ _ _ _
 |sl ρ sz n row b o c f hb hcap hlen hf hr ih=>rw [V.bD];exact .sl _ _ _ _ _ _ _ f hb hcap hlen hf hr
 |ptr ρ cs b o f hb hf hr ih=>rw [V.bD];exact .ptr _ _ _ _ f hb hf hr
 |own ρ id x h h1=>rw [V.bD];exact .own _ _ _ (hg _ _ h) h1
 |ref ρ id off b h=>rw [V.bD];exact .ref _ _ _ _ (hg _ _ h)
 |oel ρ id sz i off b n c h=>rw [V.bD];exact .oel _ _ _ _ _ _ n c (hg _ _ h)
 |osl ρ id sz off n b m c c2 A h hn hA=>rw [V.bD];exact .osl _ _ _ _ _ _ m c _ _ (hg _ _ h) hn hA
 |fset ρ str has b es cl hb hh hk hf=>rw [V.bD];exact .fset _ _ _ b es cl hb hh hk hf
 |fn ρ f fs cs xs ys p q hl hm hp hq hr hs ih1 ih2=>
  rw [V.bD];refine .fn _ _ _ _ _ _ p q (by rw [V.cY];exact hl) (by rw [V.cY];exact hm) (fun i u hu=> ?_) (fun i u hu=> ?_) (fun i u hu=> ?_) fun i u hu=> ?_
  ·rw [V.cx]at hu;cases hc:fs[i]? with
   |none=>rw [hc]at hu;cases hu
   |some c=>exact hp i c hc
  ·rw [V.cx]at hu;cases hc:cs[i]? with
   |none=>rw [hc]at hu;cases hu
   |some c=>exact hq i c hc
  ·rw [V.cx]at hu;cases hc:fs[i]? with
   |none=>rw [hc]at hu;cases hu
   |some c=>rw [hc]at hu;simp only [Option.map_some,Option.some.injEq]at hu;subst hu;exact ih1 i c hc hg
  ·rw [V.cx]at hu;cases hc:cs[i]? with
   |none=>rw [hc]at hu;cases hu
   |some c=>rw [hc]at hu;simp only [Option.map_some,Option.some.injEq]at hu;subst hu;exact ih2 i c hc hg
 |ifc ρ t u x h ih=>rw [V.bD];exact .ifc _ _ _ _ (ih hg)
 |gd ρ q u x h h' ih=>rw [V.bD];exact .gd _ _ _ _ (fun hq=>ih hq hg) h'
 |alt ρ q u v x h h' ih ih'=>rw [V.bD];exact .alt _ _ _ _ _ (fun hq=>ih hq hg) fun hq=>ih' hq hg
theorem wZ{w:World}{L:Nat->Prop}{ρ ρ':Nat->Option Value}(g:Nat->Nat)(hg:∀j y,ρ j=some y->ρ' (g j)=some y){us:List V}{xs:List Value}(h:RL w L ρ us xs):RL w L ρ' (V.aS g us) xs:=
  ⟨by rw [V.cY];exact h.1,fun i u x hu hx=>by
    rw [V.cx]at hu
    cases hc:us[i]? with
    |none=>rw [hc]at hu;cases hu
    |some c=>
      rw [hc]at hu
      simp only [Option.map_some,Option.some.injEq]at hu
      subst hu
      exact⟨ng g hg (h.2 i c x hc hx).1,(h.2 i c x hc hx).2⟩⟩
theorem Real.KY{W W':Nat->Prop}{w:World}{L:Nat->Prop}{ρ ρ':Nat->Option Value}(g:Nat->Nat)(hg:∀j y,ρ j=some y->ρ' (g j)=some y)(hW:∀b,W b->W' b){j:Nat}{o:Ob}(h:Real W w L ρ j o):Real W' w L ρ' (g j) (o.bD g):=by
 cases o with
 |box t cs=>obtain⟨b,xs,h1,h2,h3,h4,h5⟩:=h;exact⟨b,xs,hg _ _ h1,hW _ h2,h3,h4,wZ g hg h5⟩
 |row e sz n row=>obtain⟨v,xs,h1,h2,h3,h4,h5⟩:=h;refine⟨v,xs,hg _ _ h1,h2,fun i hi=> ?_,by rw [sR];exact wZ g hg h4,fun k hk=>⟨hW _ (h5 k hk).1,(h5 k hk).2⟩⟩;rw [V.cY];exact h3 i hi
 |mp str f=>obtain⟨b,es,cl,h1,h2,h3,h4,h5⟩:=h;exact⟨b,es,cl,hg _ _ h1,hW _ h2,h3,h4,h5.N9 (fun v=>V.Ht g v) fun i u x _ hr=>ng g hg hr⟩
theorem kL(g:Nat->Nat)(hg:∀i j,g i=g j->i=j):∀(obs:List Ob) (j0:Nat) (σ:Nat->Option Ob) (id:Nat) (o:Ob),bG σ (cj g j0 obs) id=some o->(∃j ob,obs[j]?=some ob/\id=g (j0+j)/\o=ob.bD g)\/(σ id=some o/\∀j,j< obs.length->id≠g (j0+j))
  | [],j0,σ,id,o,h=> .inr ⟨h,fun j hj=>by simp at hj⟩
  |ob::obs,j0,σ,id,o,h=>by
    rw [cj,bG]at h
    rcases kL g hg obs (j0+1) _ id o h with⟨j,ob',h1,h2,h3⟩ | ⟨h1,h2⟩
    · exact .inl ⟨j+1,ob',by simpa using h1,by rw [h2];congr 1;omega,h3⟩
    · by_cases he:id=g j0
      · subst he
        rw [ak]at h1;injection h1 with h1
        exact .inl ⟨0,ob,rfl,rfl,h1.symm⟩
      · rw [ah _ _ he]at h1
        refine .inr ⟨h1,fun j hj=> ?_⟩
        cases j with
        |zero=>exact he
        |succ j=>have:=h2 j (by simpa using hj);rwa [show j0+(j+1)=j0+1+j by omega]
section
variable {P:Program}{W LB:Nat->Prop}{d:Option Tmp}{ty:TypeId}{pos:String}{af:Array Edge}{gd:Option (Nat×Bool)}{ev:Operand->V}
theorem vi{fo:Operand}{ar:Array Operand}{ats:Array TypeId}{f:FuncId}{first caps args:List V}{v:V}{obs:List Ob}(hc:AC P f args v obs)(hf:ev fo= .fn (.func f) first caps)(hargs:first++ar.toList.map ev++caps=args)(hidf:V.bA args=true) (nx:Nat) (hd:d.all (fun t=>decide (t< 1000))=true) (hobs:obs.length<=90) : aU P W LB ⟨d,.call {callee:= .value fo,args:=ar,argTypes:=ats},ty,pos,af,gd⟩ ev (v.bD (ay nx d)) [] ((List.range obs.length).map (ay nx d)) (cj (ay nx d) 0 obs):=by
 intro σ w L ρ g hG hr _ hnew;have h1:=hr fo (by simp [Op.operands,Call.operands]);rw [hf]at h1;obtain⟨xs,ys,e1,hx,hy⟩:=h1.kP;have hz:RV w L ρ (ar.toList.map ev) (ar.map g).toList:=by refine⟨by simp,fun i u x hu hx=> ?_⟩;simp only [List.getElem?_map,Option.map_eq_some_iff,Array.toList_map]at hu hx;obtain⟨p,hp,rfl⟩:=hu;obtain⟨q,hq,rfl⟩:=hx;rw [hp]at hq;injection hq with hq;subst hq;exact hr p (by simp only [Op.operands,Call.operands];have:=List.mem_of_getElem? hp;simp at this ⊢;exact .inr this)
 have hrv:RV w L ρ0 args (xs++ar.map g++ys).toList:=by have:=(hx.append hz).append hy;rw [hargs]at this;exact(by simpa using this.free (ρ':=ρ0) hidf)
 have hrun:(execOp g ⟨d,.call {callee:= .value fo,args:=ar,argTypes:=ats},ty,pos,af,gd⟩).run P w= .ok (.enter f (xs++ar.map g++ys)) w:=by simp [execOp,resolve,Deferred.ofValue,invoke,e1,hc.1]
 refine bk.enter rfl hrun ((hc.2 L w _ (fun b hb=>(hG.ll b hb).1) hG.gl hrv).mono ?_);rintro e w' ⟨x,rfl,hb,L',ρ',hG',hL',hv,hn⟩;obtain⟨D,hD,hd'⟩:∃D:Nat,d.getD 0=D/\D< 1000:=⟨_,rfl,by cases d with |none=>decide |some t=>simpa using hd⟩;have ginj:∀i j,ay nx d i=ay nx d j->i=j:=fun i j h=>by unfold ay at h;rw [hD]at h;omega
 obtain⟨ρ2,hρ2⟩:∃ρ2:Nat->Option Value,ρ2=fun id=>if id∈(List.range obs.length).map (ay nx d)then ρ' ((id- nx*100000) / 1000)else ρ id:=⟨_,rfl⟩
 have hgi:∀j,j< obs.length->ρ2 (ay nx d j)=ρ' j:=by
  intro j hj;have:(ay nx d j- nx*100000) / 1000=j:=by unfold ay;rw [hD];omega
  rw [hρ2];simp only;rw [if_pos (List.mem_map.2 ⟨j,by simpa using hj,rfl⟩),this]
 have hon:∀j y,ρ' j=some y->ρ2 (ay nx d j)=some y:=by
  intro j y hy;by_cases hj:j< obs.length;·rw [hgi j hj];exact hy
  ·rw [hn j oM]at hy;cases hy
 have hout:∀id,id∉(List.range obs.length).map (ay nx d)->ρ2 id=ρ id:=by intro id hid;rw [hρ2];simp only;rw [if_neg hid]
 have hb2:∀b,L b->L' b/\w'.heap[b]?=w.heap[b]?:=fun b hbL=>⟨hL' b hbL,hb.block b (hG.ll b hbL).1⟩;have ex:Ext w L ρ w' L' ρ2:=by refine⟨hb2,fun id y hy=> ?_⟩;rw [hout id (fun hc=>by rw [hnew id hc]at hy;cases hy)];exact hy
 refine⟨x,rfl,L',ρ2,⟨fun b hbl=> ?_,fun b hbs=>hG.new b (Nat.le_trans hb.size hbs),fun id o ho=> ?_,?_,hG.tN ex⟩,ng _ hon hv,aZ.gw hb fun k _ hk=>(hG.new k hk).1,ex,fun id hid=>hout id hid,dM.below hb fun b hbl=>(hG'.ll b hbl).2⟩;·have:=hG'.ll b hbl;exact⟨this.1,this.2.elim (fun h=>(hG.ll b h).2) fun h=>(hG.new b h).2⟩
 ·rcases kL _ ginj obs 0 σ id o ho with⟨j,ob,h1,h2,h3⟩ | ⟨h1,h2⟩;·subst h2 h3;rw [Nat.zero_add];exact(hG'.ob j ob h1).KY _ hon fun b hbs=>(hG.new b hbs).1
  ·have hk:=hG.ob id o h1;refine hk.keep ex fun y k hy hk2=> ?_;obtain⟨y',hy',hlt⟩:=hk.lt;rw [hy]at hy';injection hy' with hy';subst hy'
   obtain⟨l1,l2,l3⟩:=hlt k hk2;refine⟨hb.block k l1,fun hc=> ?_⟩;rcases(hG'.ll k hc).2 with h |h;·exact l3 h
   ·omega
 ·intro i j y z k hij hi hj hyi hzj hk hkz;have cases':∀i,bG σ (cj (ay nx d) 0 obs) i≠none->(∃q ob,obs[q]?=some ob/\i=ay nx d q)\/(σ i≠none/\∀q,q< obs.length->i≠ay nx d q):=by
   intro i hi;cases ho:bG σ (cj (ay nx d) 0 obs) i with
   |none=>exact absurd ho hi
   |some o=>
    rcases kL _ ginj obs 0 σ i o ho with⟨q,ob,h1,h2,h3⟩ | ⟨h1,h2⟩;·exact .inl ⟨q,ob,h1,by rw [h2,Nat.zero_add]⟩
    ·exact .inr ⟨by rw [h1];simp,fun q hq=>by have:=h2 q hq;rwa [Nat.zero_add]at this⟩
  have notin:∀i,(∀q,q< obs.length->i≠ay nx d q)->i∉(List.range obs.length).map (ay nx d):=by intro i h hc;obtain⟨q,hq,rfl⟩:=List.mem_map.1 hc;exact h q (by simpa using hq) rfl
  have oldb:∀i y k,σ i≠none->(∀q,q< obs.length->i≠ay nx d q)->ρ2 i=some y->blk y=some k->k< w.heap.size:=by
   intro i y k hs hq hy hk;rw [hout i (notin i hq)]at hy;cases ho:σ i with
   |none=>exact absurd ho hs
   |some o=>
    obtain⟨y',hy',hlt⟩:=(hG.ob i o ho).lt;rw [hy]at hy';injection hy' with hy';subst hy'
    exact(hlt k hk).1
  have newb:∀q ob y k,obs[q]?=some ob->ρ2 (ay nx d q)=some y->blk y=some k->w.heap.size<=k:=by
   intro q ob y k ho hy hk;rw [hgi q (List.getElem?_eq_some_iff.1 ho).1]at hy;obtain⟨y',hy',hlt⟩:=(hG'.ob q ob ho).lt;rw [hy]at hy';injection hy' with hy';subst hy'
   exact(hlt k hk).2.1
  rcases cases' i hi with⟨q,ob,h1,rfl⟩ | ⟨h1,h2⟩
  ·rcases cases' j hj with⟨q',ob',h1',rfl⟩ | ⟨h1',h2'⟩;·rw [hgi q (List.getElem?_eq_some_iff.1 h1).1]at hyi;rw [hgi q' (List.getElem?_eq_some_iff.1 h1').1]at hzj;exact hG'.sep q q' y z k (fun e=>hij (by rw [e])) (by simp [mV,h1]) (by simp [mV,h1']) hyi hzj hk hkz
   ·have a1:=newb q ob y k h1 hyi hk;have a2:=oldb j z k h1' h2' hzj hkz;omega
  ·rcases cases' j hj with⟨q',ob',h1',rfl⟩ | ⟨h1',h2'⟩;·have a1:=newb q' ob' z k h1' hzj hkz;have a2:=oldb i y k h1 h2 hyi hk;omega
   ·rw [hout i (notin i h2)]at hyi;rw [hout j (notin j h2')]at hzj;exact hG.sep i j y z k hij h1 h1' hyi hzj hk hkz
theorem Nz{fn:Fn}{first caps:Array Operand}:aD P ⟨d,.makeFunc fn first caps,ty,pos,af,gd⟩ ev (.fn fn (first.toList.map ev) (caps.toList.map ev)):= aD.same rfl fun w L ρ g hr=>by
 have key:∀xs:Array Operand,(∀x∈xs,R w L ρ (ev x) (g x))->RV w L ρ (xs.toList.map ev) (xs.map g).toList:=by intro xs h;refine⟨by simp,fun i u x hu hx=> ?_⟩;simp only [List.getElem?_map,Option.map_eq_some_iff,Array.toList_map]at hu hx;obtain⟨p,hp,rfl⟩:=hu;obtain⟨q,hq,rfl⟩:=hx;rw [hp]at hq;injection hq with hq;subst hq;exact h p (by have:=List.mem_of_getElem? hp;simpa using this)
 exact⟨.func fn (first.map g) (caps.map g),by simp [execOp,Instr.makeFunc],.fn' (key first fun x hx=>hr x (by simp [Op.operands,hx])) (key caps fun x hx=>hr x (by simp [Op.operands,hx]))⟩
theorem Iy(ats:Array TypeId)(x y:Operand){k:IntKind}{a b:Int}(hx:ev x= .c (.int k a))(hy:ev y= .c (.int k b)):aD P ⟨d,.call {callee:= .builtin .max,args:= #[x,y],argTypes:=ats},ty,pos,af,gd⟩ ev (.c (.int k (max a b))):= aD.same rfl fun w L ρ g hr=>by have e1:=(hx ▸ hr x (by simp [Op.operands,Call.operands])).aN;have e2:=(hy ▸ hr y (by simp [Op.operands,Call.operands])).aN;exact⟨_,by simp [execOp,resolve,invoke,builtin,e1,e2,GK],.c _ _⟩
theorem IB(ats:Array TypeId)(x y:Operand){k:IntKind}{a b:Int}(hx:ev x= .c (.int k a))(hy:ev y= .c (.int k b)):aD P ⟨d,.call {callee:= .builtin .min,args:= #[x,y],argTypes:=ats},ty,pos,af,gd⟩ ev (.c (.int k (min a b))):= aD.same rfl fun w L ρ g hr=>by have e1:=(hx ▸ hr x (by simp [Op.operands,Call.operands])).aN;have e2:=(hy ▸ hr y (by simp [Op.operands,Call.operands])).aN;exact⟨_,by simp [execOp,resolve,invoke,builtin,e1,e2,GZ],.c _ _⟩
theorem Iz(ats:Array TypeId)(x y z:Operand){k:IntKind}{a b c:Int}(hx:ev x= .c (.int k a))(hy:ev y= .c (.int k b))(hz:ev z= .c (.int k c)):aD P ⟨d,.call {callee:= .builtin .max,args:= #[x,y,z],argTypes:=ats},ty,pos,af,gd⟩ ev (.c (.int k (max (max a b) c))):= aD.same rfl fun w L ρ g hr=>by have e1:=(hx ▸ hr x (by simp [Op.operands,Call.operands])).aN;have e2:=(hy ▸ hr y (by simp [Op.operands,Call.operands])).aN;have e3:=(hz ▸ hr z (by simp [Op.operands,Call.operands])).aN;exact⟨_,by simp [execOp,resolve,invoke,builtin,e1,e2,e3,GL],.c _ _⟩
theorem IA(ats:Array TypeId)(x y z u:Operand){k:IntKind}{a b c e:Int}(hx:ev x= .c (.int k a))(hy:ev y= .c (.int k b))(hz:ev z= .c (.int k c))(hu:ev u= .c (.int k e)):aD P ⟨d,.call {callee:= .builtin .max,args:= #[x,y,z,u],argTypes:=ats},ty,pos,af,gd⟩ ev (.c (.int k (max (max (max a b) c) e))):= aD.same rfl fun w L ρ g hr=>by have e1:=(hx ▸ hr x (by simp [Op.operands,Call.operands])).aN;have e2:=(hy ▸ hr y (by simp [Op.operands,Call.operands])).aN;have e3:=(hz ▸ hr z (by simp [Op.operands,Call.operands])).aN;have e4:=(hu ▸ hr u (by simp [Op.operands,Call.operands])).aN;exact⟨_,by simp [execOp,resolve,invoke,builtin,e1,e2,e3,e4,GM],.c _ _⟩
end
end Go.Ab
