/-
  Several texts in one: The walk of an iterator's body, which calls the yield of a loop. Conditions: told in each theorem. .. A row of pointers, of which one is known by name; sets of numbers: a number is taken out. No condition but those told in each theorem.
-/
import Derived.Test.YtjmbpjlojjgggaaGreatDoorX00
import Derived.Test.YtjmbpjlojjgggaaGreatDoorMD
namespace Go.Ab
open Go.RowKit Go.Dw Go.Shelf
structure YE(P:Program)(es:List (List V)) where
  l:Nat
  J:Nat->Bool->World->Prop
  L0:Nat->Prop
  w0:World
  R0:Nat->Prop
  B:Nat
  U:Nat->Prop
  hY:∀k x W1,k< es.length->PA es (fun b=>L0 b\/U b) w0 l k x W1->B<=W1.heap.size->J k true W1->YieldAt Fence.wide 0 P l x W1 fun e W2=>∃b:Bool,e= .returned (.bool b)/\aS (fun i=>R0 i\/i=l) W1 W2/\(b=true->J (k+1) true W2)/\(b=false->J k false W2)
  hJ:∀k g W1 W2,J k g W1->mG U B W1 W2->J k g W2
  hB:w0.heap.size<=B
  hl:w0.heap.size<=l/\l< B
  hR:∀b,R0 b->b< w0.heap.size/\¬L0 b
  hL:∀b,L0 b->b< w0.heap.size
  hU:∀b,U b->b< w0.heap.size/\¬L0 b/\¬R0 b
structure YC{P:Program}{N:Nat}{es:List (List V)}(C:Cx P N)(Y:YE P es):Prop where
  F:C.F=Fence.wide
  W:∀b,C.W b->Y.B<=b\/Y.U b
  LB:∀b,C.LB b->(Y.L0 b\/Y.U b)\/Y.B<=b
def oF{P:Program}{N:Nat}{es:List (List V)}(C:Cx P N)(Y:YE P es)(c:Code)(Q:Exit->S->Nat->Bool->Prop)(s:S)(k:Nat)(g:Bool):Prop:= ∀a w,Gm C s a w->Y.J k g w->Y.B<=w.heap.size->c.wpIn Fence.wide 0 P (fun e a' w'=>∃s' k' g',Q e s' k' g'/\Gm C s' a' w'/\Y.J k' g' w'/\Y.B<=w'.heap.size) a w
def iw(next:S->Nat->Bool->Prop)(Q:Exit->S->Nat->Bool->Prop):Exit->S->Nat->Bool->Prop
 | .normal,s,k,g=>next s k g
 |e,s,k,g=>Q e s k g
def fD(id:Nat)(Q:Exit->S->Nat->Bool->Prop):Exit->S->Nat->Bool->Prop
 | .exit id',s,k,g=>if id'=id then Q .normal s k g else Q (.exit id') s k g
 |e,s,k,g=>Q e s k g
section
variable {P:Program}{N:Nat}{es:List (List V)}{C:Cx P N}{Y:YE P es}{Q:Exit->S->Nat->Bool->Prop}{s:S}{k:Nat}{g:Bool}
theorem vL(hC:YC C Y){c:Code}(h:AW C c (fun e s'=>Q e s' k g) s):oF C Y c Q s k g:=by intro a w gm hj hb;have:=h a w gm;rw [hC.F]at this;refine wpIn_mono this ?_;rintro e a' w' ⟨s',q,gm',t⟩;exact⟨s',k,g,q,gm',Y.hJ _ _ _ _ hj (t.De hb fun j hj hW=>(hC.W j hW).resolve_left oM),Nat.le_trans hb t.size⟩
theorem rj{x y:Code}(h:oF C Y x (iw (fun s' k' g'=>oF C Y y Q s' k' g') Q) s k g):oF C Y (.seq x y) Q s k g:=by
 intro a w gm hj hb;refine wpIn_seq (wpIn_mono (h a w gm hj hb) ?_);rintro e a' w' ⟨s',k',g',q,gm',hj',hb'⟩;cases e with
 |normal=>exact q a' w' gm' hj' hb'
 |_=>exact⟨s',k',g',q,gm',hj',hb'⟩
theorem lN(hC:YC C Y){x y:Code}(h:∀K:S->Prop,(∀s',oF C Y y Q s' k g->K s')->AW C x (dS K (fun e s'=>Q e s' k g)) s):oF C Y (.seq x y) Q s k g:=by refine rj (vL hC (vJ (h _ fun _ h=>h) ?_));intro e s' q;cases e <;> exact q
theorem oV{id:Nat}{c:Code}(h:oF C Y c (fD id Q) s k g):oF C Y (.block id c) Q s k g:=by
 intro a w gm hj hb;refine wpIn_block (wpIn_mono (h a w gm hj hb) ?_);rintro e a' w' ⟨s',k',g',q,gm',hj',hb'⟩;cases e with
 |exit id'=>
  simp only [Exit.inBlock,fD]at q ⊢;split at q;·rename_i h;rw [if_pos h];exact⟨s',k',g',q,gm',hj',hb'⟩
  ·rename_i h;rw [if_neg h];exact⟨s',k',g',q,gm',hj',hb'⟩
 |_=>exact⟨s',k',g',q,gm',hj',hb'⟩
theorem nC{c:Operand}{x y:Code}{t:Bool}(hc:ev s.tm c= .b t)(h1:t=true->oF C Y x Q s k g)(h2:t=false->oF C Y y Q s k g):oF C Y (.cond c x y) Q s k g:=by
 intro a w gm hj hb;obtain⟨L,ρ,g'⟩:=gm;have:=g'.tm.eval g'.g.gl c;rw [hc]at this;refine wpIn_cond this.aO ?_;cases t with
 |true=>exact h1 rfl a w ⟨L,ρ,g'⟩ hj hb
 |false=>exact h2 rfl a w ⟨L,ρ,g'⟩ hj hb
theorem BH(h:Q .ret s k g):oF C Y .ret Q s k g:=fun _ _ gm hj hb=>wpIn_ret ⟨s,k,g,h,gm,hj,hb⟩
theorem Fm{id:Nat}(h:Q (.exit id) s k g):oF C Y (.exit id) Q s k g:=fun _ _ gm hj hb=>wpIn_exit ⟨s,k,g,h,gm,hj,hb⟩
theorem xC(h:Q .normal s k g):oF C Y .skip Q s k g:=fun _ _ gm hj hb=>wpIn_skip ⟨s,k,g,h,gm,hj,hb⟩
open Classical in
theorem Fo{ι:Type}{c:Code}(I:ι->S)(kk:ι->Nat)(ok:ι->Prop)(μ:ι->Nat)(x0:ι)(hx:ok x0)(h0:Le s (I x0))(hk:kk x0=k) (round:∀x,ok x->oF C Y c (iw (fun s' k' g'=>g'=true/\∃y,ok y/\Le s' (I y)/\kk y=k'/\μ y< μ x) Q) (I x) (kk x) true):oF C Y (.loop c) Q s k true:=by
 intro a w gm hj hb;have pr:∃q:Act->World->Nat->Prop,q=fun a' w' n=>∃x,ok x/\μ x=n/\Gm C (I x) a' w'/\Y.J (kk x) true w'/\Y.B<=w'.heap.size:=⟨_,rfl⟩;obtain⟨q,hq⟩:=pr;have hqi:∀a' w' n,q a' w' n<->∃x,ok x/\μ x=n/\Gm C (I x) a' w'/\Y.J (kk x) true w'/\Y.B<=w'.heap.size:=fun a' w' n=>by rw [hq]
 refine wpIn_loop (fun a' w'=>∃n,q a' w' n) (fun a' w'=>if h:∃n,q a' w' n then(least _ h).choose else 0) ⟨μ x0,(hqi _ _ _).2 ⟨x0,hx,rfl,h0 C a w gm,by rw [hk];exact hj,hb⟩⟩ ?_;rintro a' w' hex;have hl:=(least _ hex).choose_spec;obtain⟨x,hok,hμ,g',hj',hb'⟩:=(hqi _ _ _).1 hl.1;refine wpIn_mono (round x hok a' w' g' hj' hb') ?_;rintro e a'' w'' ⟨s'',k'',g'',r,gm'',hj'',hb''⟩;cases e with
 |normal=>obtain⟨rfl,y,hy,hle,hky,hlt⟩:=r;have hqy:q a'' w'' (μ y):=(hqi _ _ _).2 ⟨y,hy,rfl,hle C _ _ gm'',by rw [hky];exact hj'',hb''⟩;refine⟨⟨μ y,hqy⟩,?_⟩;rw [dif_pos ⟨μ y,hqy⟩,dif_pos hex];have h1:=(least _ ⟨μ y,hqy⟩).choose_spec.2 (μ y) hqy;omega
 |_=>exact⟨s'',k'',g'',r,gm'',hj'',hb''⟩
end
section
variable {next:S->Nat->Bool->Prop}{Q:Exit->S->Nat->Bool->Prop}{s:S}{k:Nat}{g:Bool}{id id':Nat}
theorem qJ(h:next s k g):iw next Q .normal s k g:=h
theorem LS(h:Q .ret s k g):iw next Q .ret s k g:=h
theorem zi(h:Q (.exit id) s k g):iw next Q (.exit id) s k g:=h
theorem LQ(h:Q .normal s k g):fD id Q .normal s k g:=h
theorem LR(h:Q .ret s k g):fD id Q .ret s k g:=h
theorem oy(h:Q .normal s k g):fD id Q (.exit id) s k g:=by simpa [fD]using h
theorem NG(hne:(id' == id)=false)(h:Q (.exit id') s k g):fD id Q (.exit id') s k g:=by
 have:¬id'=id:=by simpa using hne
 simpa [fD,this]using h
end
theorem rH{P:Program}{W LB:Nat->Prop}{ops:Array Oper}{nx N:Nat}{dfs:Dp}{F:Fence}(hF:FW F){Q:Exit->Act->World->Prop}(hd:∀o∈ops.toList,∀t,o.dst=some t->t< N)(rest:List Oper) :
    ∀(os:List Oper) (i:Nat) (tr:List TE) (tm tm':Nat->V) (σ σ':Nat->Option Ob) (a:Act) (w w0:World) (L:Nat->Prop) (ρ:Nat->Option Value) (fresh:Nat->Prop),
      (∀j,(os++rest)[j]?=ops[i+j]?)->K3 P W LB ops nx os tr tm σ tm' σ'->qK W LB N dfs fresh tm σ a w L ρ->(∀o∈os++rest,∀t,o.dst=some t->∀id,nx*100000<=id->id% 1000=t->id< (nx+1)*100000->fresh id)->(∀id,bR (nx+1) id->fresh id)->((os++rest).filterMap (·.dst)).Nodup->aS W w0 w->
      (∀a' w' L' ρ' fresh',qK W LB N dfs fresh' tm' σ' a' w' L' ρ'->(∀o∈rest,∀t,o.dst=some t->∀id,nx*100000<=id->id% 1000=t->id< (nx+1)*100000->fresh' id)->(∀id,bR (nx+1) id->fresh' id)->aS W w0 w'->wpOpsIn F 0 P ops Q (List.range' (i+os.length) rest.length) a' w')->
      wpOpsIn F 0 P ops Q (List.range' i (os.length+rest.length)) a w:=by
  intro os
  induction os with
  |nil=>
    intro i tr tm tm' σ σ' a w w0 L ρ fresh _ hr h hfr1 hfr _ ht hQ
    cases tr with
    |cons=>exact hr.elim
    |nil=>
      obtain⟨rfl,rfl⟩:=hr
      have:=hQ a w L ρ fresh h (fun o ho=>hfr1 o (by simpa using ho)) hfr ht
      simpa using this
  |cons o os ih=>
    intro i tr tm tm' σ σ' a w w0 L ρ fresh hj hr h hfr1 hfr hnd ht hQ
    cases tr with
    |nil=>exact hr.elim
    |cons e tr=>
      obtain⟨⟨hw,hs,hn⟩,hr⟩:=hr
      have hi:ops[i]?=some o:=by have:=hj 0;simpa using this.symm
      rw [List.length_cons,Nat.add_right_comm,List.range'_succ,wpOpsIn_cons]
      refine wL (fresh':=fun id=>fresh id/\id∉e.nw) hF h hi (hd o (by have:=Array.mem_of_getElem? hi;simpa using this)) hw (fun he=>⟨(hs he).1,(hs he).2.1,fun id hid=>by
        obtain⟨t,h1,h2,h3,h4⟩:=(hs he).2.2 id hid
        exact hfr1 o (by simp) t h1 id h2 h4 h3⟩) (fun _ _=>rfl) hn (fun id h=>h) ?_
      intro a' w' L' ρ' h' ht' _
      have f1:∀o'∈os++rest,∀t,o'.dst=some t->∀id,nx*100000<=id->id% 1000=t->id< (nx+1)*100000->id∉e.nw:=by
        intro o' ho' t ht id h1 h2 h3 hc
        cases hrun:e.run with
        |false=>rw [(hn hrun).2.1]at hc;simp at hc
        |true=>
          obtain⟨t',g1,g2,g3,g4⟩:=(hs hrun).2.2 id hc
          have htt:t=t':=by rw [<-h2,<-g4]
          subst htt
          rw [List.cons_append]at hnd
          simp only [List.filterMap_cons,g1,List.nodup_cons]at hnd
          exact hnd.1 (List.mem_filterMap.2 ⟨o',ho',ht⟩)
      have f2:∀id,bR (nx+1) id->id∉e.nw:=by
        intro id hid hc
        cases hrun:e.run with
        |false=>rw [(hn hrun).2.1]at hc;simp at hc
        |true=>
          obtain⟨t',g1,g2,g3,g4⟩:=(hs hrun).2.2 id hc
          unfold bR at hid
          omega
      refine ih (i+1) tr _ _ _ _ a' w' w0 L' ρ' _ (fun j=>by have:=hj (j+1);simpa [Nat.add_assoc,Nat.add_comm 1 j]using this) hr h' (fun o' ho' t ht id h1 h2 h3=>⟨hfr1 o' (by rw [List.cons_append];exact List.mem_cons_of_mem _ ho') t ht id h1 h2 h3,f1 o' ho' t ht id h1 h2 h3⟩) (fun id hid=>⟨hfr id hid,f2 id hid⟩) ?_ (ht.trans ht') (fun a2 w2 L2 ρ2 fr2 g2 q1 q2 q3=> ?_)
      · rw [List.cons_append]at hnd
        cases hdst:o.dst with
        |none=>simpa [List.filterMap_cons,hdst]using hnd
        |some t=>simp only [List.filterMap_cons,hdst,List.nodup_cons]at hnd;exact hnd.2
      · have:=hQ a2 w2 L2 ρ2 fr2 g2 q1 q2 q3
        rwa [show i+1+os.length=i+(o::os).length by simp;omega]
structure YS{P:Program}{N:Nat}{es:List (List V)}(C:Cx P N)(Y:YE P es)(ops:Array Oper)(nx:Nat)(os:List Oper)(fo:Operand)(ar:Array Operand)(d:Nat)(Q:Exit->S->Nat->Bool->Prop)(k:Nat)(tm:Nat->V)(σ:Nat->Option Ob):Prop where
  hf:ev tm fo= .c (.func (.yield Y.l) #[] #[])
  hv:∃v,es[k]?=some v/\A2 (ar.toList.map (ev tm)) v
  cj:V.bp (ar.toList.map (ev tm))=true
  t:bC C ops nx os (bO tm d (.b true)) σ [] fun tm' σ' _=>Q .normal ⟨tm',σ',nx+1⟩ (k+1) true
  f:bC C ops nx os (bO tm d (.b false)) σ [] fun tm' σ' _=>Q .normal ⟨tm',σ',nx+1⟩ k false
theorem uE{P:Program}{N:Nat}{es:List (List V)}{C:Cx P N}{Y:YE P es}{Q:Exit->S->Nat->Bool->Prop}(hC:YC C Y){id nx k:Nat}{ol:List Oper}{tm:Nat->V}{σ:Nat->Option Ob}(n:Nat){fo:Operand}{ar:Array Operand}{ats:Array TypeId}{d:Nat}{ty:TypeId}{pos:String}{af:Array Edge} (hok:gS N ol=true) (hy:ol[n]?=some ⟨some d,.call {callee:= .value fo,args:=ar,argTypes:=ats},ty,pos,af,none⟩) (h:bC C ol.toArray nx (ol.take n) tm σ [] fun tm1 σ1 _=>YS C Y ol.toArray nx (ol.drop (n+1)) fo ar d Q k tm1 σ1):oF C Y (.region id ol.toArray false) Q ⟨tm,σ,nx⟩ k true:=by
 intro a w ⟨L,ρ,g⟩ hj hb;obtain⟨h1,h2⟩:=fZ hok;obtain⟨tr,tm1,σ1,h3,ys⟩:=h.run;have hn:n< ol.length:=(List.getElem?_eq_some_iff.1 hy).1;obtain⟨y,hyd⟩:∃y:Oper,y=⟨some d,.call {callee:= .value fo,args:=ar,argTypes:=ats},ty,pos,af,none⟩:=⟨_,rfl⟩;have hsp:ol=ol.take n++y::ol.drop (n+1):=by rw [hyd];have e1:ol.drop n=ol[n]::ol.drop (n+1):=List.drop_eq_getElem_cons hn;have e2:ol[n]=_:=(List.getElem?_eq_some_iff.1 hy).2;rw [<-e2,<-e1,List.take_append_drop]
 refine wpIn_region ?_;have hsz:ol.toArray.size=(ol.take n).length+(y::ol.drop (n+1)).length:=by simp;omega
 rw [List.range_eq_range',hsz];have hmem:∀o∈ol.take n++y::ol.drop (n+1),o∈ol:=fun o ho=>by rwa [<-hsp]at ho
 refine rH (P:=P) (W:=C.W) (LB:=C.LB) (ops:=ol.toArray) (nx:=nx) (N:=N) (dfs:=C.dfs) (.inl rfl) (by simpa using h1) (y::ol.drop (n+1)) (ol.take n) 0 tr tm tm1 σ σ1 a w w L ρ (bR nx) (fun j=>by rw [<-hsp];simp) h3 g (fun o ho t ht id h5 h6 h7=>h5) (fun id hid=>fk hid) (by rw [<-hsp];exact h2) (aS.refl _ _) ?_;intro a1 W1 L1 ρ1 fr1 g1 q1 q2 t1;rw [Nat.zero_add,List.length_take,Nat.min_eq_left (Nat.le_of_lt hn),List.length_cons,List.range'_succ,wpOpsIn_cons];have hj1:Y.J k true W1:=Y.hJ _ _ _ _ hj (t1.De hb fun j hj hW=>(hC.W j hW).resolve_left oM);have hb1:Y.B<=W1.heap.size:=Nat.le_trans hb t1.size;obtain⟨v,hv,ha⟩:=ys.hv;have hk:k< es.length:=(List.getElem?_eq_some_iff.1 hv).1;have hargs:RV W1 L1 ρ0 v (ar.map a1.eval).toList:=by refine ha.rv (RV.free (ρ:=ρ1) ⟨by simp,fun i u x hu hx=> ?_⟩ ys.cj);simp only [List.getElem?_map,Option.map_eq_some_iff,Array.toList_map]at hu hx;obtain⟨p,hp,rfl⟩:=hu;obtain⟨q,hq,rfl⟩:=hx;rw [hp]at hq;injection hq with hq;subst hq;exact g1.tm.eval g1.g.gl p
 have hLl:∀b,L1 b->(Y.L0 b\/Y.U b)\/Y.B<=b:=fun b hb=>hC.LB b (g1.g.ll b hb).2;obtain⟨fn,tmps,assign,body,hyr,hR⟩:=Y.hY k (ar.map a1.eval) W1 hk ⟨v,hv,L1,fun b hbl=>by
  rcases hLl b hbl with h |h;·exact .inl h
  ·exact .inr ⟨Nat.le_trans Y.hB h,(g1.g.ll b hbl).1,by have:=Y.hl.2;omega⟩,hargs⟩ hb1 hj1
 have hfe:a1.eval fo= .func (.yield Y.l) #[] #[]:=by have:=g1.tm.eval g1.g.gl fo;rw [ys.hf]at this;exact this.aO
 have ho:ol.toArray[n]?=some y:=by simp [hy,hyd]
 unfold wpOpIn;rw [ho];simp only;have hwt:Region.wanted y (yielded ol.toArray a1.tmps)=true:=by rw [hyd];rfl
 rw [if_pos hwt];refine⟨fun f _=>trivial,?_⟩;have hrun:(y.semAt Fence.wide.round a1.eval).run P W1= .ok (.round Y.l fn tmps assign body) W1:=by rw [Oper.semAt_eq _ _ _ (fun c e=>by rw [hyd]at e;cases e),hyd];simp [execOp,resolve,Deferred.ofValue,invoke,hfe,hyr]
 rw [hrun,Oper.uponIn_round];refine⟨fun e=>by simp [Fence.wide]at e,hR.mono ?_⟩;rintro e W2 ⟨b,rfl,ht2,j1,j2⟩;have hyd2:y.dst=some d:=by rw [hyd]
 have hdN:d< N:=h1 y (hmem y (by simp)) d hyd2;have nL:∀j,L1 j->¬(Y.R0 j\/j=Y.l):=by
  rintro j hjl (h |rfl)
  ·have q:=Y.hR j h;rcases hLl j hjl with(h' |h') |h';·exact q.2 h'
   ·exact(Y.hU j h').2.2 h
   ·have:=Y.hB;omega
  ·rcases hLl _ hjl with(h' |h') |h';·have:=Y.hL _ h';have:=Y.hl.1;omega
   ·have:=(Y.hU _ h').1;have:=Y.hl.1;omega
   ·have:=Y.hl.2;omega
 have nW:∀j,C.W j->¬(Y.R0 j\/j=Y.l):=by
  rintro j hjw (h |rfl)
  ·rcases hC.W j hjw with hw |hw;·have q:=Y.hR j h;have:=Y.hB;omega
   ·exact(Y.hU j hw).2.2 h
  ·rcases hC.W _ hjw with hw |hw;·have:=Y.hl.2;omega
   ·have:=(Y.hU _ hw).1;have:=Y.hl.1;omega
 have ex:Ext W1 L1 ρ1 W2 L1 ρ1:=⟨fun b hb=>⟨hb,ht2.block b (g1.g.ll b hb).1 (nL b hb)⟩,fun _ _ h=>h⟩;have gb:∀z:Bool,z=b->qK C.W C.LB N C.dfs fr1 (bO tm1 d (.b z)) σ1 (a1.put y.dst (.bool b)) W2 L1 ρ1:=by
  rintro z rfl;rw [hyd2];refine⟨⟨fun b hb=>⟨Nat.lt_of_lt_of_le (g1.g.ll b hb).1 ht2.size,(g1.g.ll b hb).2⟩,fun b hb=>g1.g.new b (Nat.le_trans ht2.size hb),fun id o ho=> ?_,g1.g.sep,g1.g.qO ex⟩,g1.fr,(show TM (eJ tm1 (some d) (V.b z)) _ _ _ _ from(g1.tm.ext ex).put (fun t ht=>by injection ht with ht;rw [<-ht,g1.size];exact hdN) (.c _ _)),by simp [Act.put,g1.size],?_,g1.pin⟩
  ·have hr1:=g1.g.ob id o ho;obtain⟨u,hu,hu2⟩:=hr1.lt;refine hr1.keep ex fun x j hx hj=> ?_;rw [hx]at hu;injection hu with hu;subst hu
   exact⟨ht2.block j (hu2 j hj).1 (nW j (hu2 j hj).2.1),(hu2 j hj).2.2⟩
  ·obtain⟨Es,p1,p2,p3⟩:=g1.defers;exact⟨Es,p1,p2,fun D hD=>⟨(ht2.block D (Array.getElem?_eq_some_iff.1 (p3 D hD).1).1 (nW D (p3 D hD).2.1)).trans (p3 D hD).1,(p3 D hD).2⟩⟩
 have hb2:Y.B<=W2.heap.size:=Nat.le_trans hb1 ht2.size;have hnd:((ol.drop (n+1)).filterMap (·.dst)).Nodup:=by rw [hsp,List.filterMap_append,List.filterMap_cons,hyd2]at h2;exact(List.nodup_cons.1 (List.nodup_append.1 h2).2.1).2
 have tail:∀(z:Bool) (k':Nat),z=b->Y.J k' z W2->bC C ol.toArray nx (ol.drop (n+1)) (bO tm1 d (.b z)) σ1 [] (fun tm' σ' _=>Q .normal ⟨tm',σ',nx+1⟩ k' z)->
  wpOpsIn Fence.wide 0 P ol.toArray (fun e a' w'=>∃s' k' g',Q e s' k' g'/\Gm C s' a' w'/\Y.J k' g' w'/\Y.B<=w'.heap.size) (List.range' (n+1) (ol.drop (n+1)).length) (a1.put y.dst (.bool b)) W2:=by
  intro z k' hz hj' hA
  obtain⟨tr2,tm2,σ2,h4,hq⟩:=hA.run
  exact oo (P:=P) (W:=C.W) (LB:=C.LB) (ops:=ol.toArray) (nx:=nx) (N:=N) (dfs:=C.dfs) (.inl rfl) (by simpa using h1) (ol.drop (n+1)) (n+1) tr2 _ tm2 _ σ2 _ W2 W2 L1 ρ1 fr1 (fun j=>by simp) h4 (gb z hz) (fun o ho=>q1 o (by simp [ho])) q2 hnd (aS.refl _ _) fun a' w' L' ρ' g' t'=>
   ⟨⟨tm2,σ2,nx+1⟩,k',z,hq,⟨L',ρ',g'⟩,Y.hJ _ _ _ _ hj' (t'.De hb2 fun j hj hW=>(hC.W j hW).resolve_left oM),Nat.le_trans hb2 t'.size⟩
 cases b with
 |true=>exact tail true (k+1) rfl (j1 rfl) ys.t
 |false=>exact tail false k rfl (j2 rfl) ys.f
def pZ(n:Nat)(e:Exit)(_:S)(k:Nat)(g:Bool):Prop:=(e= .normal\/e= .ret)/\(g=true->k=n)/\(g=false->k< n)
theorem Real.wider{W W' L:Nat->Prop}{w:World}{ρ:Nat->Option Value}{id:Nat}{o:Ob}(h:Real W w L ρ id o)(k:∀b,W b->W' b):Real W' w L ρ id o:=by
 cases o with
 |box t cs=>obtain⟨b,xs,h1,h2,h3⟩:=h;exact⟨b,xs,h1,k b h2,h3⟩
 |row e sz n row=>obtain⟨v,xs,h1,h2,h3,h4,h5⟩:=h;exact⟨v,xs,h1,h2,h3,h4,fun j hj=>⟨k j (h5 j hj).1,(h5 j hj).2⟩⟩
 |mp str f=>obtain⟨b,es,cl,h1,h2,h3⟩:=h;exact⟨b,es,cl,h1,k b h2,h3⟩
theorem w6.no{P:Program}{gf:FuncId}{caps:List V}{es:List (List V)}(h:w6 P gf caps [] es):LU P gf caps es:=by refine⟨h.1,fun L w lb hL hg hv R hR=> ?_⟩;have:=h.2 L (fun _=>False) w ρ0 lb hL (fun b hb=>hb.elim) hg (fun i o h=>by simp at h) (fun i j x y k _ hx=>by cases hx) (fun _ _=>rfl) hv R fun b hb=>⟨(hR b hb).1,(hR b hb).2,fun h=>h⟩;exact fun l J Jx W hT hl hlW hJ hJx hY h0=>this l J Jx W hT hl hlW (fun k W1 W2 hj hb=>hJ k W1 W2 hj (hb.no fun _ h=>h)) (fun k W1 W2 hj hb=>hJx k W1 W2 hj (hb.no fun _ h=>h)) (fun k x W1 hk hE=>hY k x W1 hk (by obtain⟨v,hv,L1,h1,h2⟩:=hE;exact⟨v,hv,L1,fun b hb=>(h1 b hb).imp (fun h=>h.elim id False.elim) id,h2⟩)) h0
theorem rW{T:List TI}{P:Program}(hT:aN T P)(hmx:P.follows .mixedOrders=true){f:FuncId}{fn:Func}{c:Code}{N:Nat}(hk:oI P f fn c N)(hres:fn.results= #[]){caps:List V}{ins:List Ob}{es:List (List V)}(hargs:caps.length+1<=N)
    (h:∀(C:Cx P N) (Y:YE P es),YC C Y->oF C Y c (pZ es.length) ⟨fun t=>((V.c (.func (.yield Y.l) #[] #[]))::caps).getD t .any,eD ins,1⟩ 0 true) (hn:ins.length<=400):w6 P f caps ins es:=by
  refine⟨hk.call,fun L U w ρ lb hL hU hgl hobs hsep hnone hlb R hR=> ?_⟩
  intro l J Jx W hT0 hl hlW hJ hJx hY h0
  obtain⟨C,cW,cLB,cd,cF⟩:∃C:Cx P N,C.W=(fun b=>W.heap.size<=b\/U b)/\C.LB=(fun b=>(L b\/U b)\/W.heap.size<=b)/\C.dfs=oB/\C.F=Fence.wide:=⟨⟨fun b=>W.heap.size<=b\/U b,fun b=>(L b\/U b)\/W.heap.size<=b,fun b h=>h.elim .inr fun h=> .inl (.inr h),oB,hmx,Fence.wide,.inl rfl⟩,rfl,rfl,rfl,rfl⟩
  obtain⟨Y,yl,yJ,yL,yw,yR,yB,yU⟩:∃Y:YE P es,Y.l=l/\Y.J=(fun k g w=>(g=true->J k w)/\(g=false->k< es.length/\Jx k w))/\Y.L0=L/\Y.w0=w/\Y.R0=R/\Y.B=W.heap.size/\Y.U=U:=by
    refine⟨⟨l,fun k g w=>(g=true->J k w)/\(g=false->k< es.length/\Jx k w),L,w,R,W.heap.size,U,fun k x W1 hk hE hs hj=> ?_,fun k g W1 W2 hj hb=>⟨fun e=>hJ k _ _ (hj.1 e) hb,fun e=>⟨(hj.2 e).1,hJx k _ _ (hj.2 e).2 hb⟩⟩,hT0.size,⟨hl,hlW⟩,fun b hb=>⟨(hR b hb).1,(hR b hb).2.1⟩,hL,fun b hb=>⟨(hU b hb).1,(hU b hb).2,fun h=>(hR b h).2.2 hb⟩⟩,rfl,rfl,rfl,rfl,rfl,rfl,rfl⟩
    obtain⟨fn',tmps,assign,body,h1,h2⟩:=hY k x W1 hk hE hs (hj.1 rfl)
    refine⟨fn',tmps,assign,body,h1,h2.mono ?_⟩
    rintro e W2 ⟨b,rfl,t,q1,q2⟩
    exact⟨b,rfl,t,fun e=>⟨fun _=>q1 e,fun e'=>by cases e'⟩,fun e=>⟨fun e'=>(by cases e'),fun _=>⟨hk,q2 e⟩⟩⟩
  have hC:YC C Y:=⟨cF,fun b hb=>by rw [yB,yU];rw [cW]at hb;exact hb,fun b hb=>by rw [cLB]at hb;rw [yL,yB,yU];exact hb⟩
  have eW:∀b,L b->W.heap[b]?=w.heap[b]?:=fun b hb=>hT0.block b (hL b hb) fun hc=>(hR b hc).2.1 hb
  have ew:Ext w L ρ W L ρ:=⟨fun b hb=>⟨hb,eW b hb⟩,fun _ _ h=>h⟩
  have hvs:RV W L ρ ((V.c (.func (.yield Y.l) #[] #[]))::caps) (#[Value.func (.yield l) #[] #[]]++lb).toList:=by
    have e1:(#[Value.func (.yield l) #[] #[]]++lb).toList=Value.func (.yield l) #[] #[]::lb.toList:=by simp
    rw [e1,yl]
    exact .cons (.c _ _) ⟨hlb.1,fun i u x hu hx=>(hlb.2 i u x hu hx).ext ew⟩
  generalize hargsL:((V.c (.func (.yield Y.l) #[] #[]))::caps)=args at hvs
  generalize (#[Value.func (.yield l) #[] #[]]++lb)=vs at hvs
  have hal:args.length=caps.length+1:=by rw [<-hargsL];simp
  have hvl:vs.size=args.length:=by have:=hvs.1;simpa using this.symm
  refine callsIn_of_wp_marks (n:=0) hk.hf hk.hb trivial ?_ rfl
  have hw:=h C Y hC
  rw [hargsL]at hw
  have hobj:∀id o,eD ins id=some o->500<=id/\id< 500+ins.length/\ins[id- 500]?=some o:=fun id o ho=>by
    unfold eD at ho
    split at ho
    · have:=(List.getElem?_eq_some_iff.1 ho).1
      exact⟨by omega,by omega,ho⟩
    · cases ho
  have hfrs:∀id,bR 1 id->ρ id=none:=fun id hid=>hnone id (by unfold bR at hid;omega)
  refine wpIn_mono (hw _ W ⟨L,ρ,⟨⟨fun b hb=>⟨Nat.lt_of_lt_of_le (hL b hb) hT0.size,by rw [cLB];exact .inl (.inl hb)⟩,fun b hb=>⟨by rw [cW];exact .inl hb,by rw [cLB];exact .inr hb⟩,fun id o ho=> ?_,fun i j x y k hij _ _=>hsep i j x y k hij,fun g=>(hgl g).mono (fun b hb=>⟨hb,eW b hb⟩) fun _ _ h=>h⟩,hfrs,fun t=> ?_,?_,?_,fun id x hp=>by rw [cd]at hp;cases hp⟩⟩ ?_ ?_) ?_
  · obtain⟨h1,h2,h3⟩:=hobj id o ho
    have h4:=hobs _ _ h3
    rw [show 500+(id- 500)=id by omega]at h4
    have h5:Real C.W w L ρ id o:=h4.wider fun b hb=>by rw [cW];exact .inr hb
    refine h5.keep ew fun x k hx hk=> ?_
    obtain⟨y,hy,hb⟩:=h4.lt
    rw [hx]at hy;injection hy with hy;subst hy
    obtain⟨q1,q2,q3⟩:=hb k hk
    exact⟨hT0.block k q1 fun hc=>(hR k hc).2.2 q2,q3⟩
  · by_cases ht:t< args.length
    · have h1:args[t]?=some args[t]:=List.getElem?_eq_getElem ht
      obtain⟨x,hx,hr⟩:=hvs.get h1
      have e1:args.getD t .any=args[t]:=by simp [List.getD_eq_getElem?_getD,h1]
      have e2:(vs++Array.replicate (fn.ntmps- vs.size) undef).getD t undef=x:=by
        rw [Array.getD_eq_getD_getElem?,Array.getElem?_append_left oM]
        have:vs[t]?=some x:=by simpa using hx
        rw [this];rfl
      show Go.Ab.R W L ρ (args.getD t .any) _
      rw [e1,e2];exact hr
    · have e1:args.getD t .any= .any:=by simp [List.getD_eq_getElem?_getD,List.getElem?_eq_none (Nat.le_of_not_lt ht)]
      show Go.Ab.R W L ρ (args.getD t .any) _
      rw [e1];exact .any _ _
  · have:=hk.hn
    simp;omega
  · exact⟨[],by rw [cd];rfl,by simp,by simp⟩
  · rw [yJ];exact⟨fun _=>h0,fun e=>by cases e⟩
  · rw [yB];exact Nat.le_refl _
  · rintro e a' w' ⟨s',k,g,⟨he,hg1,hg2⟩,⟨L',ρ',g'⟩,hj,hb⟩
    obtain⟨Ds,d1,d2,d3⟩:=g'.defers
    rw [cd,show oB.tl=[]from rfl,List.append_nil]at d1
    refine iz Ds he d1 d2 (fun D hD=>(d3 D hD).1) fun w2 ht2=> ?_
    obtain⟨g2,e2⟩:=g'.g.marks ht2 d3
    obtain⟨x,hx,_⟩:=lg hT g2 (fun t=>(g'.tm t).ext e2) fn (v:= .tup []) (by rw [hres];rfl)
    have hj2:=Y.hJ k g _ _ hj (ht2.De (B:=Y.B) hb fun j hj hD=>(hC.W j (d3 j hD).2.1).resolve_left oM)
    rw [yJ]at hj2
    refine⟨x,hx,⟨x,rfl⟩,?_⟩
    cases g with
    |true=>
      have:=hg1 rfl;subst this
      exact .inl (hj2.1 rfl)
    |false=>exact .inr ⟨k,hj2.2 rfl⟩
theorem CB{T:List TI}{P:Program}(hT:aN T P)(hmx:P.follows .mixedOrders=true){f:FuncId}{fn:Func}{c:Code}{N:Nat}(hk:oI P f fn c N)(hres:fn.results= #[]){caps:List V}{es:List (List V)}(hargs:caps.length+1<=N) (h:∀(C:Cx P N) (Y:YE P es),YC C Y->oF C Y c (pZ es.length) ⟨fun t=>((V.c (.func (.yield Y.l) #[] #[]))::caps).getD t .any,fun _=>none,1⟩ 0 true):LU P f caps es:=by have:=rW (ins:=[]) hT hmx hk hres hargs (fun C Y hC=>by rw [show eD []=fun _=>none from funext fun i=>by unfold eD;split <;> simp];exact h C Y hC) (Nat.zero_le _);exact this.no
theorem KX.it{P:Program}{gf:FuncId}{caps:List V}{es:List (List V)}(h:KX P gf caps es):LU P gf caps es:=by
 refine⟨h.1,fun L w lb hL _ hlb R hR=> ?_⟩;obtain⟨xs,h1,h2,h3⟩:=h.2 L w lb hL hlb;intro l J Jx W hT hl hlW hJ hJx hY h0;have e0:∀b,L b->W.heap[b]?=w.heap[b]?:=fun b hb=>hT.block b (hL b hb) fun hc=>(hR b hc).2 hb;have:=h3 R hR l (fun k W1=>J k W1/\∀b,L b->W1.heap[b]?=w.heap[b]?) Jx W hT hl hlW (fun k W1 W2 hj hb=>⟨hJ k _ _ hj.1 hb,fun b hbL=>(hb.block b (Nat.lt_of_lt_of_le (hL b hbL) hT.size)).trans (hj.2 b hbL)⟩) hJx (fun k x W1 hx hs hj=> ?_) ⟨h0,e0⟩
 ·rw [h1]at this;refine this.mono ?_;rintro e W' ⟨hv,hj |hj⟩;·exact⟨hv,.inl hj.1⟩
  ·exact⟨hv,.inr hj⟩
 ·have hk:k< es.length:=by have:=(List.getElem?_eq_some_iff.1 hx).1;omega
  have hv:es[k]?=some es[k]:=List.getElem?_eq_getElem hk;have hxr:=h2 k _ x hv hx;obtain⟨fn',tmps,assign,body,q1,q2⟩:=hY k x W1 hk ⟨_,hv,L,fun b hb=> .inl hb,hxr.1,fun i u y hu hy=>(hxr.2 i u y hu hy).ext ⟨fun b hb=>⟨hb,hj.2 b hb⟩,fun _ _ h=>h⟩⟩ hs hj.1;refine⟨fn',tmps,assign,body,q1,q2.mono ?_⟩;rintro e W2 ⟨b,rfl,ht,a1,a2⟩;refine⟨b,rfl,ht,fun e=>⟨a1 e,fun c hc=> ?_⟩,a2⟩;refine(ht.block c ?_ ?_).trans (hj.2 c hc);·exact Nat.lt_of_lt_of_le (Nat.lt_of_lt_of_le (hL c hc) hT.size) hs
  ·rintro(h |h);·exact(hR c h).2 hc
   ·have:=hL c hc;omega
theorem Real.weak{W W':Nat->Prop}{w:World}{L:Nat->Prop}{ρ ρ':Nat->Option Value}{id:Nat}{o:Ob}(h:Real W w L ρ id o)(hW:∀b,W b->W' b)(hρ:∀j y,ρ j=some y->ρ' j=some y):Real W' w L ρ' id o:=by
 have e:Ext w L ρ w L ρ':=⟨fun _ hb=>⟨hb,rfl⟩,hρ⟩;cases o with
 |box t cs=>obtain⟨b,xs,h1,h2,h3,h4,h5⟩:=h;exact⟨b,xs,hρ _ _ h1,hW _ h2,h3,h4,h5.ext e⟩
 |row t sz n row=>obtain⟨v,xs,h1,h2,h3,h4,h5⟩:=h;exact⟨v,xs,hρ _ _ h1,h2,h3,h4.ext e,fun k hk=>⟨hW _ (h5 k hk).1,(h5 k hk).2⟩⟩
 |mp str f=>obtain⟨b,es,cl,h1,h2,h3,h4,h5⟩:=h;exact⟨b,es,cl,hρ _ _ h1,hW _ h2,h3,h4,h5.imp fun _ _ _ _ h=>h.ext e⟩
theorem AC.row{P:Program}{f:FuncId}{args args':List V}{v:V}{obs:List Ob}(h:AC P f args' v obs)(e:TypeId){sz n n':Nat}{row row':Nat->List V}(ha:V.oC 500 (.sl sz n row) args=args')(hi:V.bp args'=true)(ho:obs.length<=90)(hn:n'=n)(hr:∀i,i< n'->row' i=row i)(hi2:∀i,V.bp (row i)=true) : AM P f args [.row e sz n' row'] v [none] obs:=by
 subst hn;refine⟨h.1,fun W LB L w ρ vs hwl hWL hG hρ hvs=> ?_⟩;have hσ:eD [.row e sz n' row'] 500=some (.row e sz n' row'):=rfl;have hre:Real W w L ρ 500 (.row e sz n' row):=(hG.ob 500 _ hσ).eq ⟨rfl,rfl,rfl,hr⟩;obtain⟨v0,hv0,hlt,hs⟩:=hre.slice fun i _=>hi2 i;have ex:Ext w L ρ w (fun b=>L b\/blk v0=some b) ρ:=⟨fun b hb=>⟨.inl hb,rfl⟩,fun _ _ h=>h⟩;have hrv:RV w (fun b=>L b\/blk v0=some b) ρ0 args' vs.toList:=by
  refine RV.free (ρ:=ρ) ?_ hi;rw [<-ha];refine⟨by rw [V.fH];exact hvs.1,fun i u x hu hx=> ?_⟩;rw [V.gX]at hu;cases hc:args[i]? with
  |none=>rw [hc]at hu;cases hu
  |some a=>rw [hc]at hu;simp only [Option.map_some,Option.some.injEq]at hu;subst hu;refine ni (fun y hy=> ?_) _ _ ((hvs.2 i a x hc hx).ext ex);rw [hv0]at hy;injection hy with hy;subst hy;exact hs
 refine(h.2 (fun b=>L b\/blk v0=some b) w vs (fun b hb=> ?_) (hG.qO ex) hrv).mono ?_
 ·rcases hb with hb |hb;·exact(hG.ll b hb).1
  ·exact(hlt b hb).1
 rintro ee w' ⟨x,rfl,hbel,L',ρ',hG',hL',hv,hnn⟩;obtain⟨ρ2,hρ2⟩:∃ρ2:Nat->Option Value,∀id,ρ2 id=if id< obs.length then ρ' id else ρ id:=⟨_,fun _=>rfl⟩
 have hon:∀j y,ρ' j=some y->ρ2 j=some y:=fun j y hy=>by
  rw [hρ2];by_cases hj:j< obs.length;·rw [if_pos hj];exact hy
  ·rw [hnn j oM]at hy;cases hy
 have ex2:Ext w' L' ρ' w' L' ρ2:=⟨fun _ hb=>⟨hb,rfl⟩,hon⟩;refine⟨x,rfl,aS.gK hbel fun k _ hk=>(hG.new k hk).1,L',ρ2,⟨fun b hb=> ?_,fun b hb=>hG.new b (Nat.le_trans hbel.size hb),fun id o hio=> ?_,fun i j y z k hij hi hj hy hz=> ?_,hG.NV fun b hb=>⟨hL' b (.inl hb),hbel.block b (hG.ll b hb).1⟩⟩,⟨fun b hb=>⟨hL' b (.inl hb),hbel.block b (hG.ll b hb).1⟩,fun id y hy=> ?_⟩,hv.ext ex2,fun j hj hj5=> ?_⟩
 ·have:=hG'.ll b hb;refine⟨this.1,?_⟩;rcases this.2 with(h1 |h1) |h1;·exact(hG.ll b h1).2
  ·exact hwl b (hlt b h1).2.1
  ·exact(hG.new b h1).2
 ·have hob:mX obs id=some o:=by
   unfold gL at hio;split at hio
   ·cases hq:([none]:List (Option Ob))[id- 500]? with
    |none=>rw [hq]at hio;cases hio
    |some q=>
     rw [hq]at hio;have:q=none:=by have:=List.mem_of_getElem? hq;simpa using this
     rw [this]at hio;cases hio
   ·exact hio
  exact(hG'.ob id o hob).weak (fun b hb=>(hG.new b hb).1) hon
 ·have key:∀i,gL [none] obs i≠none->mX obs i≠none/\i< obs.length:=fun i hi=>by
   unfold gL at hi;split at hi
   ·exfalso;apply hi;cases hq:([none]:List (Option Ob))[i- 500]? with
    |none=>rfl
    |some q=>
     have:q=none:=by have:=List.mem_of_getElem? hq;simpa using this
     rw [this];rfl
   ·refine⟨hi,?_⟩;cases hq:obs[i]? with
    |none=>exact absurd hq hi
    |some q=>exact(List.getElem?_eq_some_iff.1 hq).1
  rw [hρ2,if_pos (key i hi).2]at hy;rw [hρ2,if_pos (key j hj).2]at hz;exact hG'.sep i j y z k hij (key i hi).1 (key j hj).1 hy hz
 ·rw [hρ2];by_cases hid:id< obs.length;·rw [hρ id (.inl oM)]at hy;cases hy
  ·rw [if_neg hid];exact hy
 ·rw [hρ2,if_neg oM];exact hρ j hj5
theorem CY{k:Nat}{F G H:Nat->List V}{r:Nat->Nat}(h1:∀i,i< k->F i=V.aV r (H i))(h2:G 0=V.aV r (H k)):∀i,i< k+1->aP k F G i=V.aV r (H i):=by
 intro i hi;by_cases h:i< k;·rw [aP,if_pos h];exact h1 i h
 ·obtain rfl:i=k:=by omega
  rw [aP,if_neg h,Nat.sub_self];exact h2
theorem Fe{k:Nat}{f g:Nat->Int}{G:Nat->List V}{r:Nat->Nat}{n m:Int}(h2:G 0=[V.i n,V.i m])(h:n=f k)(h':m=g k):∀i,i< k+1->aP k (fun k=>[V.i (f k),V.i (g k)]) G i=V.aV r ((fun k=>[V.i (f k),V.i (g k)]) i):= CY (fun _ _=>rfl) (by rw [h2,h,h'];rfl)
theorem Real.ptr{W:Nat->Prop}{w:World}{L:Nat->Prop}{ρ:Nat->Option Value}{id t:Nat}{cs:List V}(h:Real W w L ρ id (.box t cs))(hi:V.bp cs=true) : ∃v,ρ id=some v/\(∀k,blk v=some k->k< w.heap.size/\W k/\¬L k)/\R w (fun b=>L b\/blk v=some b) ρ (.ptr cs) v:=by
 obtain⟨v',hv',hlt⟩:=h.lt;obtain⟨b,xs,h1,h2,h3,h4,h5⟩:=h;rw [h1]at hv';injection hv' with hv';subst hv'
 refine⟨_,h1,hlt,?_⟩;refine .ptr _ _ _ _ (fun j=>xs.toList.getD j undef) (.inr rfl) (fun j u hu=> ?_) fun j u hu=> ?_
 ·obtain⟨y,hy,hr,hone⟩:=h5.get hu;have hg:xs.toList.getD j undef=y:=by simp [List.getD_eq_getElem?_getD,hy]
  rw [hg];refine⟨?_,hone⟩;rw [Nat.zero_add];rw [cell_of_row w b j xs t (0,0) h4];simpa using hy
 ·obtain⟨y,hy,hr,hone⟩:=h5.get hu;have hg:xs.toList.getD j undef=y:=by simp [List.getD_eq_getElem?_getD,hy]
  rw [hg];exact(hr.free (V.ec hi hu) ρ0).ext ⟨fun b hb=>⟨.inl hb,rfl⟩,fun _ _ h=>h⟩
def V.sA:V->Bool
 | .tup cs=>V.gz cs
 |v=>v.flat
theorem R.sA{w w':World}{L L':Nat->Prop}{ρ ρ':Nat->Option Value}{u:V}{x:Value}(h:R w L ρ u x)(hf:u.sA=true):R w' L' ρ' u x:=by
 cases u with
 |tup cs=>obtain⟨xs,rfl,hx⟩:=h.lZ;exact .wQ ⟨hx.1,fun i v y hv hy=>(hx.2 i v y hv hy).flat (V.lO hf hv)⟩
 |_=>exact h.flat hf
theorem AC.box{P:Program}{f:FuncId}{args args':List V}{v:V}(h:AC P f args' v [])(t:TypeId){cs:List V}(ha:V.oC 500 (.ptr cs) args=args')(hi:V.bp args'=true)(hi2:V.bp cs=true)(hv:v.sA=true) : AM P f args [.box t cs] v [some (.box t cs)] []:=by
 refine⟨h.1,fun W LB L w ρ vs hwl hWL hG hρ hvs=> ?_⟩;have hσ:eD [.box t cs] 500=some (.box t cs):=rfl;obtain⟨v0,hv0,hlt,hs⟩:=(hG.ob 500 _ hσ).ptr hi2;have ex:Ext w L ρ w (fun b=>L b\/blk v0=some b) ρ:=⟨fun b hb=>⟨.inl hb,rfl⟩,fun _ _ h=>h⟩;have hrv:RV w (fun b=>L b\/blk v0=some b) ρ0 args' vs.toList:=by
  refine RV.free (ρ:=ρ) ?_ hi;rw [<-ha];refine⟨by rw [V.fH];exact hvs.1,fun i u x hu hx=> ?_⟩;rw [V.gX]at hu;cases hc:args[i]? with
  |none=>rw [hc]at hu;cases hu
  |some a=>rw [hc]at hu;simp only [Option.map_some,Option.some.injEq]at hu;subst hu;refine ni (fun y hy=> ?_) _ _ ((hvs.2 i a x hc hx).ext ex);rw [hv0]at hy;injection hy with hy;subst hy;exact hs
 refine(h.2 (fun b=>L b\/blk v0=some b) w vs (fun b hb=> ?_) (hG.qO ex) hrv).mono ?_
 ·rcases hb with hb |hb;·exact(hG.ll b hb).1
  ·exact(hlt b hb).1
 rintro ee w' ⟨x,rfl,hbel,L',ρ',hG',hL',hx,hnn⟩;obtain⟨hG2,ex2⟩:=hG.quiet hbel (L':=L) (fun _ h=>h) (fun _ h=> .inl h);have e:gL [some (.box t cs)] []=eD [.box t cs]:=by
  funext id;unfold gL eD;by_cases h5:500<=id
  ·rw [if_pos h5,if_pos h5];cases hk:id- 500 with
   |zero=>rfl
   |succ n=>simp
  ·rw [if_neg h5,if_neg h5];simp
 refine⟨x,rfl,aS.gK hbel fun k _ hk=>(hG.new k hk).1,L,ρ,?_,ex2,hx.sA hv,fun j _ hj=>hρ j hj⟩;rw [e];exact hG2
def V.sy(pn:List Nat):V->Bool
 | .tup cs=>V.dH pn cs
 |v=>v.cg pn
theorem R.sy{pn:List Nat}{w w':World}{L L':Nat->Prop}{ρ ρ':Nat->Option Value}{u:V}{x:Value}(h:R w L ρ u x)(hf:u.sy pn=true)(hρ:∀id∈pn,∀v,ρ id=some v->ρ' id=some v):R w' L' ρ' u x:=by
 cases u with
 |tup cs=>obtain⟨xs,rfl,hx⟩:=h.lZ;exact .wQ ⟨hx.1,fun i v y hv hy=>(hx.2 i v y hv hy).cg (V.jO hf hv) hρ⟩
 |_=>exact h.cg hf hρ
def Ob.BQ:Ob->Prop
 | .row _ _ n r=>∀i,i< n->∀u∈r i,u.BQ=true
 |_=>False
section
variable {P:Program}{N:Nat}{C:Cx P N}{ops:Array Oper}{nx:Nat}{os:List Oper}{tm:Nat->V}{σ:Nat->Option Ob}{ks:List (List Nat×List Nat)}{K:(Nat->V)->(Nat->Option Ob)->List (List Nat×List Nat)->Prop}{ty:TypeId}{pos:String}{af:Array Edge}
end
def vq(σ:Nat->Option Ob)(ρ:Nat->Option Value)(b:Nat):Prop:=∃id x,σ id≠none/\ρ id=some x/\blk x=some b
inductive Fz(σ:Nat->Option Ob):V->V->Prop
  |cj (v:V) (h:v.cj=true):Fz σ v v
  |any (v:V):Fz σ v .any
  |agg (cs cs':List V) (hl:cs'.length=cs.length) (h:∀(i:Nat) u u',cs[i]?=some u->cs'[i]?=some u'->Fz σ u u'):Fz σ (.agg cs) (.agg cs')
  |tup (cs cs':List V) (hl:cs'.length=cs.length) (h:∀(i:Nat) u u',cs[i]?=some u->cs'[i]?=some u'->Fz σ u u'):Fz σ (.tup cs) (.tup cs')
  |ref (id off:Nat) (t:TypeId) (cs cs':List V) (hσ:σ id=some (.box t cs)) (hl:cs'.length<=(cs.drop off).length) (h:∀(i:Nat) u u',(cs.drop off)[i]?=some u->cs'[i]?=some u'->Fz σ u u'):Fz σ (.ref id off) (.ptr cs')
  |own (id:Nat) (e:TypeId) (sz n:Nat) (r r':Nat->List V) (hσ:σ id=some (.row e sz n r)) (hl:∀i,i< n->(r' i).length=(r i).length) (h:∀(i j:Nat) u u',i< n->(r i)[j]?=some u->(r' i)[j]?=some u'->Fz σ u u'):Fz σ (.own id) (.sl sz n r')
  |alt (b:Bool) (u v u' v':V) (h:Fz σ u u') (k:Fz σ v v'):Fz σ (.alt b u v) (.alt b u' v')
  |mp (id n:Nat) (s:Bool) (f:MF) (has:MK->Bool) (hσ:σ id=some (.mp (s,n) f)) (h:∀k:MK,k.str=s->(f.look k).isSome=has k/\∀u,f.look k=some u->u= .agg []\/u= .c (.agg #[])):Fz σ (.own id) (.fset s has)
theorem Fz.mono{σ σ':Nat->Option Ob}(h:∀id o,σ id=some o->σ' id=some o){u u':V}(k:Fz σ u u'):Fz σ' u u':=by
 induction k with
 |cj v h=>exact .cj v h
 |any v=>exact .any v
 |agg cs cs' hl _ ih=>exact .agg cs cs' hl ih
 |tup cs cs' hl _ ih=>exact .tup cs cs' hl ih
 |ref id off t cs cs' hσ hl _ ih=>exact .ref id off t cs cs' (h _ _ hσ) hl ih
 |own id e sz n r r' hσ hl _ ih=>exact .own id e sz n r r' (h _ _ hσ) hl ih
 |alt b u v u' v' _ _ ih ih'=>exact .alt b u v u' v' ih ih'
 |mp id n s f has hσ hk=>exact .mp id n s f has (h _ _ hσ) hk
theorem R.QN{W LB L:Nat->Prop}{σ:Nat->Option Ob}{w:World}{ρ:Nat->Option Value}(hG:G W LB σ w L ρ){u u':V}(k:Fz σ u u'):∀x,R w L ρ u x->R w (fun b=>L b\/vq σ ρ b) ρ0 u' x:=by
 induction k with
 |cj v hi=>exact fun x h=>(h.free hi ρ0).mono (fun b hb=>⟨.inl hb,rfl⟩) fun _ _ h=>h
 |any v=>exact fun x _=> .any _ _
 |agg cs cs' hl _ ih=>
  intro x h;obtain⟨xs,rfl,hx⟩:=h.eY;refine .l7 ⟨by rw [hl];exact hx.1,fun i v y hv hy=> ?_⟩;have hi:i< cs.length:=by rw [<-hl];exact(List.getElem?_eq_some_iff.1 hv).1
  exact⟨ih i _ v (List.getElem?_eq_getElem hi) hv y (hx.2 i _ y (List.getElem?_eq_getElem hi) hy).1,(hx.2 i _ y (List.getElem?_eq_getElem hi) hy).2⟩
 |tup cs cs' hl _ ih=>
  intro x h;obtain⟨xs,rfl,hx⟩:=h.lZ;refine .wQ ⟨by rw [hl];exact hx.1,fun i v y hv hy=> ?_⟩;have hi:i< cs.length:=by rw [<-hl];exact(List.getElem?_eq_some_iff.1 hv).1
  exact ih i _ v (List.getElem?_eq_getElem hi) hv y (hx.2 i _ y (List.getElem?_eq_getElem hi) hy)
 |ref id off t cs cs' hσ hl _ ih=>
  intro x h;obtain⟨b,rfl,hρ⟩:=h.i4;obtain⟨b',xs,q1,q2,q3,q4,q5⟩:=hG.ob id _ hσ;rw [hρ]at q1;injection q1 with q1
  have hbb:b=b':=by injection q1 with q1;injection q1 with q1;injection q1
  subst hbb;refine .ptr' (.inr ⟨id,_,by rw [hσ];simp,hρ,rfl⟩) fun j v hv=> ?_;have hj:j< (cs.drop off).length:=Nat.lt_of_lt_of_le (List.getElem?_eq_some_iff.1 hv).1 hl;have hu:=List.getElem?_eq_getElem hj;have hu2:=hu;rw [List.getElem?_drop]at hu2;obtain⟨y,hy,hr,h1⟩:=q5.get hu2;refine⟨y,?_,h1,ih j _ v hu hv y hr⟩;rw [cell_of_row w b _ xs t (0,0) q4];simpa using hy
 |own id e sz n r r' hσ hl _ ih=>
  intro x h;have hx:=h.cY;obtain⟨v,xs,hv,hown,hsz,hrl,hb⟩:=hG.ob id _ hσ;rw [hv]at hx;injection hx with hx;subst hx
  obtain⟨A,c,hA⟩:∃A c,v= .slice A n c:=by
   rcases hown.2 with⟨h1,h2⟩ | ⟨g',cap,cur,h1,_⟩;·exact⟨_,_,by rw [h1,h2]⟩
   ·exact⟨_,_,h1⟩
  have hcap:n<=c:=by
   rcases hown.2 with⟨h1,h2⟩ | ⟨g',cap,cur,h1,_,_,h3,_⟩;·omega
   ·rw [h1]at hA;injection hA with _ _ hA3;omega
  have hbl:∀k,blk v=some k->vq σ ρ k:=fun k hk=>⟨id,v,by rw [hσ];simp,hv,hk⟩;rw [hA];refine .HI hcap fun hpos=> ?_;rcases hown.2 with⟨_,h2⟩ | ⟨g',cap,cur,h1,_,hh,hc1,hc2,hc3,hc4⟩;·omega
  ·rw [h1]at hA;injection hA with hA1 hA2 hA3;refine⟨g',0,hA1.symm,.inr (hbl _ (by rw [h1];rfl)),fun i hi=>by rw [hl i hi];exact hsz i hi,fun i j u hil hu=> ?_⟩;have hj':j< (r i).length:=by rw [<-hl i hil];exact(List.getElem?_eq_some_iff.1 hu).1
   have hj:j< sz:=by rw [<-hsz i hil];exact hj'
   have hu0:=List.getElem?_eq_getElem hj';have hfl:(aE n r).flatten[i*sz+j]?=some (r i)[j]:=by rw [flat_get (cx hsz) (bN hil) hj,hu0]
   obtain⟨y,hy,hry,hone⟩:=hrl.get hfl;refine⟨y,?_,hone,ih i j _ u hil hu0 hu y hry⟩;rw [cell_of_row w g' _ cur e (0,0) hh,Nat.zero_add];rw [<-hc4,List.getElem?_take]at hy;split at hy;·simpa using hy
   ·cases hy
 |alt b u v u' v' _ _ ih ih'=>
  intro x h;cases h with
  |alt _ _ _ _ _ h1 h2=>exact .alt _ _ _ _ _ (fun hb=>ih _ (h1 hb)) fun hb=>ih' _ (h2 hb)
 |mp id n s f has hσ hk=>
  intro x h;have hx:=h.cY;obtain⟨b,es,cl,q1,q2,q3,q4,q5⟩:=hG.ob id _ hσ;rw [q1]at hx;injection hx with hx;subst hx
  refine .fset _ _ _ b es cl (.inr ⟨id,_,by rw [hσ];simp,q1,rfl⟩) q4 q5.1 fun k hks=> ?_;rw [<-(hk k hks).1];cases hm:aU k es.toList with
  |none=>rw [q5.2.2.1 k hks hm];exact⟨rfl,fun y h=>by cases h⟩
  |some y=>
   obtain⟨u,hu,hr⟩:=q5.2.1 k y hks hm;rw [hu];refine⟨rfl,fun y' h=> ?_⟩;injection h with h;subst h;rcases(hk k hks).2 u hu with rfl |rfl;·obtain⟨xs,rfl,hx⟩:=hr.eY;have:xs.toList=[]:=List.eq_nil_of_length_eq_zero hx.1.symm;rw [show xs= #[]from by simpa using this]
   ·exact hr.aO
theorem GD{tm:Nat->V}{σ:Nat->Option Ob}{nx:Nat}{tl:List (Nat×V)}(h:lK (fun p=>Fz σ (tm p.1) p.2) tl):Le ⟨tm,σ,nx⟩ ⟨gJ tl,cO [],nx⟩:=by
 intro P N C a w ⟨L,ρ,g⟩;have ex:Ext w L ρ w (fun b=>L b\/vq σ ρ b) ρ:=⟨fun b hb=>⟨.inl hb,rfl⟩,fun _ _ h=>h⟩;have hlt:∀b,vq σ ρ b->b< w.heap.size/\C.W b/\¬L b/\w.heap[b]?≠some (.deferred (some [])):=by
  rintro b ⟨id,x,hs,hx,hb⟩;cases ho:σ id with
  |none=>exact absurd ho hs
  |some o=>
   obtain⟨y,hy,hl⟩:=(g.g.ob id o ho).lt;rw [hx]at hy;injection hy with hy;subst hy
   exact⟨(hl b hb).1,(hl b hb).2.1,(hl b hb).2.2,(g.g.ob id o ho).eH hx hb⟩
 refine⟨fun b=>L b\/vq σ ρ b,ρ,⟨⟨fun b hb=> ?_,g.g.new,fun id o ho=>(by cases ho),fun i j x y k hij hi=>absurd rfl hi,g.g.qO ex⟩,g.fr,fun t=> ?_,g.size,?_,g.pin⟩⟩
 ·rcases hb with hb |hb;·exact g.g.ll b hb
  ·exact⟨(hlt b hb).1,C.wl b (hlt b hb).2.1⟩
 ·have key:∀tl:List (Nat×V),lK (fun p=>Fz σ (tm p.1) p.2) tl->R w (fun b=>L b\/vq σ ρ b) ρ (gJ tl t) (a.tmps.getD t undef):=by
   intro tl;induction tl with
   |nil=>intro _;exact .any _ _
   |cons p tl ih=>
    intro h;show R w _ ρ (bO (gJ tl) p.1 p.2 t) _;obtain⟨h1,h2⟩:=h;by_cases ht:t=p.1;·subst ht;rw [an];exact(R.QN g.g h1 _ (g.tm p.1)).M4
    ·rw [ag _ _ ht];exact ih h2
  exact key tl h
 ·obtain⟨Ds,h4,h5,h6⟩:=g.defers;refine⟨Ds,h4,h5,fun D hD=> ?_⟩;obtain⟨h7,h8,h9⟩:=h6 D hD;refine⟨h7,h8,?_⟩;rintro(hL |hL);·exact h9 hL
  ·exact(hlt D hL).2.2.2 h7
def yQ(pre:List (Nat×Ob))(id:Nat):Option Ob:=(pre.find? (·.1 == id)).map (·.2)
theorem Hh{pre:List (Nat×Ob)}{id:Nat}{o:Ob}(h:yQ pre id=some o):(id,o)∈pre:=by
 unfold yQ at h;cases hf:pre.find? (·.1 == id)with
 |none=>rw [hf]at h;cases h
 |some p=>rw [hf]at h;injection h with h;have h1:=List.find?_some hf;have h2:=List.mem_of_find?_eq_some hf;obtain⟨a,b⟩:=p;simp only [beq_iff_eq]at h1;subst h1 h;exact h2
theorem JH(g:Nat->Nat){u:V}(h:u.BQ=true):u.bB g=u:=by cases u <;> first |rfl |simp [V.BQ]at h
theorem yT(g:Nat->Nat):∀ {l:List V},(∀u∈l,u.BQ=true)->V.aV g l=l
 | [],_=>rfl
 |u::l,h=>by rw [V.aV,JH g (h u (by simp)),yT g fun v hv=>h v (by simp [hv])]
theorem Ak(g:Nat->Nat){o:Ob}(h:o.BQ){id:Nat}{W L:Nat->Prop}{w:World}{ρ:Nat->Option Value}:Real W w L ρ id (o.bB g)<->Real W w L ρ id o:=by
 cases o with
 |row e sz n r=>have hr:∀i,i< n->V.aV g (r i)=r i:=fun i hi=>yT g (h i hi);exact⟨fun k=>k.eq ⟨rfl,rfl,rfl,hr⟩,fun k=>k.eq ⟨rfl,rfl,rfl,fun i hi=>(hr i hi).symm⟩⟩
 |_=>exact h.elim
section
variable {P:Program}{W LB:Nat->Prop}{d:Option Tmp}{ty:TypeId}{pos:String}{af:Array Edge}{gd:Option (Nat×Bool)}{ev:Operand->V}
theorem Fh{fo:Operand}{ar:Array Operand}{ats:Array TypeId}{f:FuncId}{first caps args args':List V}{v:V}{obs:List Ob}(hc:AC P f args' v obs)(hf:ev fo= .fn (.func f) first caps)(hargs:first++ar.toList.map ev++caps=args)(pre:List (Nat×Ob)) (hl:args'.length=args.length) (hfz:∀(i:Nat) u u',args[i]?=some u->args'[i]?=some u'->Fz (yQ pre) u u') (hv:v.sy (List.range obs.length)=true) (hC:∀o∈obs,o.BQ) (nx:Nat) (hd:d.all (fun t=>decide (t< 1000))=true) (hobs:obs.length<=90) : bg P W LB ⟨d,.call {callee:= .value fo,args:=ar,argTypes:=ats},ty,pos,af,gd⟩ ev (v.bB (ax nx d)) pre ((List.range obs.length).map (ax nx d)) (cn (ax nx d) 0 obs):=by
 intro σ w L ρ g hG hr hpre hnew;have h1:=hr fo (by simp [Op.operands,Call.operands]);rw [hf]at h1;obtain⟨xs,ys,e1,hx,hy⟩:=h1.jP;have hz:RV w L ρ (ar.toList.map ev) (ar.map g).toList:=by refine⟨by simp,fun i u x hu hx=> ?_⟩;simp only [List.getElem?_map,Option.map_eq_some_iff,Array.toList_map]at hu hx;obtain⟨p,hp,rfl⟩:=hu;obtain⟨q,hq,rfl⟩:=hx;rw [hp]at hq;injection hq with hq;subst hq;exact hr p (by simp only [Op.operands,Call.operands];have:=List.mem_of_getElem? hp;simp at this ⊢;exact .inr this)
 have hsub:∀id o,yQ pre id=some o->σ id=some o:=fun id o h=>hpre _ (Hh h);have hrv:RV w (fun b=>L b\/vq σ ρ b) ρ0 args' (xs++ar.map g++ys).toList:=by
  have h2:=(hx.append hz).append hy;rw [hargs]at h2;have h3:RV w L ρ args (xs++ar.map g++ys).toList:=by simpa using h2
  refine⟨by rw [hl];exact h3.1,fun i u' x hu' hx=> ?_⟩;have hi:i< args.length:=by rw [<-hl];exact(List.getElem?_eq_some_iff.1 hu').1
  have hu:=List.getElem?_eq_getElem hi;exact R.QN hG ((hfz i _ u' hu hu').mono hsub) x (h3.2 i _ x hu hx)
 have hrun:(execOp g ⟨d,.call {callee:= .value fo,args:=ar,argTypes:=ats},ty,pos,af,gd⟩).run P w= .ok (.enter f (xs++ar.map g++ys)) w:=by simp [execOp,resolve,Deferred.ofValue,invoke,e1,hc.1]
 have ex0:Ext w L ρ w (fun b=>L b\/vq σ ρ b) ρ:=⟨fun b hb=>⟨.inl hb,rfl⟩,fun _ _ h=>h⟩;refine bq.enter rfl hrun ((hc.2 (fun b=>L b\/vq σ ρ b) w _ (fun b hb=> ?_) (hG.qO ex0) hrv).mono ?_)
 ·rcases hb with hb | ⟨id,x,hs,hx,hb⟩;·exact(hG.ll b hb).1
  ·cases ho:σ id with
   |none=>exact absurd ho hs
   |some o=>
    obtain⟨y,hy,hlt⟩:=(hG.ob id o ho).lt;rw [hx]at hy;injection hy with hy;subst hy
    exact(hlt b hb).1
 rintro e w' ⟨x,rfl,hb,L',ρ',hG',hL',hv',hn⟩;obtain⟨D,hD,hd'⟩:∃D:Nat,d.getD 0=D/\D< 1000:=⟨_,rfl,by cases d with |none=>decide |some t=>simpa using hd⟩;have ginj:∀i j,ax nx d i=ax nx d j->i=j:=fun i j h=>by unfold ax at h;rw [hD]at h;omega
 obtain⟨ρ2,hρ2⟩:∃ρ2:Nat->Option Value,ρ2=fun id=>if id∈(List.range obs.length).map (ax nx d)then ρ' ((id- nx*100000) / 1000)else ρ id:=⟨_,rfl⟩
 have hgi:∀j,j< obs.length->ρ2 (ax nx d j)=ρ' j:=by
  intro j hj;have:(ax nx d j- nx*100000) / 1000=j:=by unfold ax;rw [hD];omega
  rw [hρ2];simp only;rw [if_pos (List.mem_map.2 ⟨j,by simpa using hj,rfl⟩),this]
 have hon:∀j y,ρ' j=some y->ρ2 (ax nx d j)=some y:=by
  intro j y hy;by_cases hj:j< obs.length;·rw [hgi j hj];exact hy
  ·rw [hn j oM]at hy;cases hy
 have hout:∀id,id∉(List.range obs.length).map (ax nx d)->ρ2 id=ρ id:=by intro id hid;rw [hρ2];simp only;rw [if_neg hid]
 have ex:Ext w L ρ w' L ρ2:=by refine⟨fun b hbL=>⟨hbL,hb.block b (hG.ll b hbL).1⟩,fun id y hy=> ?_⟩;rw [hout id (fun hc=>by rw [hnew id hc]at hy;cases hy)];exact hy
 have hobj:∀j ob,obs[j]?=some ob->Real W w' L ρ2 (ax nx d j) (ob.bB (ax nx d))/\∀y k,ρ2 (ax nx d j)=some y->blk y=some k->w.heap.size<=k:=by
  intro j ob ho;have hjl:=(List.getElem?_eq_some_iff.1 ho).1;have hr:=hG'.ob j ob (show mX obs j=some ob from ho);have hc:=hC ob (List.mem_of_getElem? ho);refine⟨(Ak _ hc).2 ?_,fun y k hy hk=> ?_⟩
  ·cases ob with
   |row t z m r=>
    obtain⟨y,xs,q1,q2,q3,q4,q5⟩:=hr;refine⟨y,xs,by rw [hgi j hjl];exact q1,q2,q3,q4.QW fun u hu=> ?_,fun k hk=>⟨(hG.new k (q5 k hk).1).1,fun hL=>by have:=(hG.ll k hL).1;have:=(q5 k hk).1;omega⟩⟩;obtain⟨l,hl,hul⟩:=List.mem_flatten.1 hu;obtain⟨i,hi,rfl⟩:=List.mem_iff_getElem.1 hl;have hi':i< m:=by simpa [cc]using hi
    have:=bN (row:=r) hi';rw [List.getElem?_eq_getElem hi]at this;injection this with this;rw [this]at hul;exact hc i hi' u hul
   |_=>exact hc.elim
  ·rw [hgi j hjl]at hy;obtain⟨y',hy',hlt⟩:=hr.lt;rw [hy]at hy';injection hy' with hy';subst hy'
   exact(hlt k hk).2.1
 refine⟨x,rfl,L,ρ2,⟨fun b hbl=>⟨Nat.lt_of_lt_of_le (hG.ll b hbl).1 hb.size,(hG.ll b hbl).2⟩,fun b hbs=>hG.new b (Nat.le_trans hb.size hbs),fun id o ho=> ?_,?_,hG.qO ex⟩,nj _ hon (hv'.sy hv fun _ _ _ h=>h),aS.gK hb fun k _ hk=>(hG.new k hk).1,ex,fun id hid=>hout id hid,dP.below hb fun b hbl=> .inl hbl⟩
 ·rcases kP _ ginj obs 0 σ id o ho with⟨j,ob,h1,h2,h3⟩ | ⟨h1,h2⟩;·subst h2 h3;rw [Nat.zero_add];exact(hobj j ob h1).1
  ·have hk:=hG.ob id o h1;refine hk.keep ex fun y k hy hk2=> ?_;obtain⟨y',hy',hlt⟩:=hk.lt;rw [hy]at hy';injection hy' with hy';subst hy'
   obtain⟨l1,l2,l3⟩:=hlt k hk2;exact⟨hb.block k l1,l3⟩
 ·intro i j y z k hij hi hj hyi hzj hk hkz;have cases':∀i,bI σ (cn (ax nx d) 0 obs) i≠none->(∃q ob,obs[q]?=some ob/\i=ax nx d q)\/(σ i≠none/\∀q,q< obs.length->i≠ax nx d q):=by
   intro i hi;cases ho:bI σ (cn (ax nx d) 0 obs) i with
   |none=>exact absurd ho hi
   |some o=>
    rcases kP _ ginj obs 0 σ i o ho with⟨q,ob,h1,h2,h3⟩ | ⟨h1,h2⟩;·exact .inl ⟨q,ob,h1,by rw [h2,Nat.zero_add]⟩
    ·exact .inr ⟨by rw [h1];simp,fun q hq=>by have:=h2 q hq;rwa [Nat.zero_add]at this⟩
  have notin:∀i,(∀q,q< obs.length->i≠ax nx d q)->i∉(List.range obs.length).map (ax nx d):=by intro i h hc;obtain⟨q,hq,rfl⟩:=List.mem_map.1 hc;exact h q (by simpa using hq) rfl
  have oldb:∀i y k,σ i≠none->(∀q,q< obs.length->i≠ax nx d q)->ρ2 i=some y->blk y=some k->k< w.heap.size:=by
   intro i y k hs hq hy hk;rw [hout i (notin i hq)]at hy;cases ho:σ i with
   |none=>exact absurd ho hs
   |some o=>
    obtain⟨y',hy',hlt⟩:=(hG.ob i o ho).lt;rw [hy]at hy';injection hy' with hy';subst hy'
    exact(hlt k hk).1
  rcases cases' i hi with⟨q,ob,h1,rfl⟩ | ⟨h1,h2⟩
  ·rcases cases' j hj with⟨q',ob',h1',rfl⟩ | ⟨h1',h2'⟩;·rw [hgi q (List.getElem?_eq_some_iff.1 h1).1]at hyi;rw [hgi q' (List.getElem?_eq_some_iff.1 h1').1]at hzj;exact hG'.sep q q' y z k (fun e=>hij (by rw [e])) (by simp [mX,h1]) (by simp [mX,h1']) hyi hzj hk hkz
   ·have a1:=(hobj q ob h1).2 y k hyi hk;have a2:=oldb j z k h1' h2' hzj hkz;omega
  ·rcases cases' j hj with⟨q',ob',h1',rfl⟩ | ⟨h1',h2'⟩;·have a1:=(hobj q' ob' h1').2 z k hzj hkz;have a2:=oldb i y k h1 h2 hyi hk;omega
   ·rw [hout i (notin i h2)]at hyi;rw [hout j (notin j h2')]at hzj;exact hG.sep i j y z k hij h1 h1' hyi hzj hk hkz
end
def dn(q k:Nat)(x:Nat->Value)(i:Nat):List V:=[.alt (decide (i=k)) (.ref q 0) (.c (x i))]
def qY(q k n p:Nat)(x:Nat->Value)(i:Nat):List V:=[.alt (decide (i< n)) (.alt (decide (i=k)) (.ref q 0) (.c (x i))) (.ref p 0)]
def b6(x:Nat->Value)(i:Nat):List V:=[.c (x i)]
def AY(n p:Nat)(x:Nat->Value)(i:Nat):List V:=[.alt (decide (i< n)) (.c (x i)) (.ref p 0)]
theorem R.BC{w:World}{L:Nat->Prop}{ρ:Nat->Option Value}{b:Bool}{u v:V}{x:Value}(h:R w L ρ (.alt b u v) x)(hb:b=true):R w L ρ u x:=by
 cases h with
 |alt _ _ _ _ _ h _=>exact h hb
theorem R.K4{w:World}{L:Nat->Prop}{ρ:Nat->Option Value}{b:Bool}{u v:V}{x:Value}(h:R w L ρ (.alt b u v) x)(hb:b=false):R w L ρ v x:=by
 cases h with
 |alt _ _ _ _ _ _ h=>exact h hb
theorem bg.imp{P:Program}{W LB:Nat->Prop}{o:Oper}{ev:Operand->V}{v v':V}{pre:List (Nat×Ob)}{nw:List Nat}{δ:List (Nat×Option Ob)}(h:bg P W LB o ev v pre nw δ)(hv:∀w L ρ x,R w L ρ v x->R w L ρ v' x):bg P W LB o ev v' pre nw δ:= fun σ w L ρ g hG hr hp hn=>(h σ w L ρ g hG hr hp hn).mono fun x w' ⟨L',ρ',h1,h2,h3⟩=>⟨L',ρ',h1,hv _ _ _ _ h2,h3⟩
def aT(has:Int->Bool):MF:=⟨[],fun k=>match k with | .i n=>if has n then some (.agg #[])else none | .s _=>none⟩
theorem cS(has:Int->Bool)(n:Int):(aT has).look (.i n)=if has n then some (.c (.agg #[]))else none:=by show Option.map V.c (if has n then some (Value.agg #[])else none)=_;split <;> rfl
theorem fq(has:Int->Bool)(n:Int):((aT has).look (.i n)).isSome=has n:=by rw [cS];cases has n <;> rfl
theorem Real.aT{W L:Nat->Prop}{w:World}{ρ:Nat->Option Value}{id n:Nat}{f:MF}{has:Int->Bool}(h:Real W w L ρ id (.mp (false,n) f))(hh:∀k,(f.look (.i k)).isSome=has k)(hu:∀k u,f.look k=some u->u= .agg []\/u= .c (.agg #[])) : Real W w L ρ id (.mp (false,n) (Ab.aT has)):=by
 obtain⟨b,es,cl,q1,q2,q3,q4,q5⟩:=h;refine⟨b,es,cl,q1,q2,q3,q4,q5.1,fun k x hk hx=> ?_,fun k hk hx=> ?_,q5.2.2.2⟩
 ·obtain⟨u,hu1,hr⟩:=q5.2.1 k x hk hx;obtain⟨m,rfl⟩:∃m,k= .i m:=by
   cases k with
   |i m=>exact⟨m,rfl⟩
   |s s=>cases hk
  have h1:=hh m;rw [hu1]at h1;refine⟨.c (.agg #[]),by rw [cS,<-h1];rfl,?_⟩;have hx0:x= .agg #[]:=by
   rcases hu _ u hu1 with rfl |rfl;·obtain⟨xs,rfl,hxl⟩:=hr.eY;have:=hxl.1;simp at this;rw [show xs= #[]from by simpa using this.symm]
   ·exact hr.aO
  rw [hx0];exact .c _ _
 ·obtain⟨m,rfl⟩:∃m,k= .i m:=by
   cases k with
   |i m=>exact⟨m,rfl⟩
   |s s=>cases hk
  have h1:=hh m;rw [q5.2.2.1 _ hk hx]at h1;rw [cS,<-h1];rfl
theorem Le.bO{s:S}(id:Nat){o o':Ob}(hσ:s.σ id=some o)(h:∀ {W L:Nat->Prop}{w:World}{ρ:Nat->Option Value},Real W w L ρ id o->Real W w L ρ id o'):Le s ⟨s.tm,Ab.bO s.σ id (some o'),s.nx⟩:=by
  intro P N C a w ⟨L,ρ,g⟩
  refine⟨L,ρ,⟨⟨g.g.ll,g.g.new,fun id' o1 (ho:Ab.bO s.σ id (some o') id'=some o1)=> ?_,fun i j x y k hij hi hj=>g.g.sep i j x y k hij ?_ ?_,g.g.gl⟩,g.fr,g.tm,g.size,g.defers,g.pin⟩⟩
  · by_cases he:id'=id
    · subst he
      rw [an]at ho;injection ho with ho;subst ho
      exact h (g.g.ob _ _ hσ)
    · rw [ag _ _ he]at ho;exact g.g.ob _ _ ho
  · intro hc
    refine hi ?_
    show Ab.bO s.σ id (some o') i=none
    by_cases he:i=id
    · subst he;rw [hσ]at hc;cases hc
    · rw [ag _ _ he];exact hc
  · intro hc
    refine hj ?_
    show Ab.bO s.σ id (some o') j=none
    by_cases he:j=id
    · subst he;rw [hσ]at hc;cases hc
    · rw [ag _ _ he];exact hc
theorem rD{tm:Nat->V}{σ:Nat->Option Ob}{nx:Nat}(id:Nat){n:Nat}{f:MF}{has:Int->Bool}(hσ:σ id=some (.mp (false,n) f))(hh:∀k,(f.look (.i k)).isSome=has k)(hu:∀k u,f.look k=some u->u= .agg []\/u= .c (.agg #[])) : Le ⟨tm,σ,nx⟩ ⟨tm,Ab.bO σ id (some (.mp (false,n) (aT has))),nx⟩:=Le.bO (s:=⟨tm,σ,nx⟩) id hσ fun h=>h.aT hh hu
theorem Real.Nl{W L:Nat->Prop}{w:World}{ρ:Nat->Option Value}{id:Nat}{e:TypeId}{sz n:Nat}{r:Nat->List V}(h:Real W w L ρ id (.row e sz n r)):Real W w L ρ id (.row e sz n fun _=>List.replicate sz .any):=by
 obtain⟨v,xs,q1,q2,q3,q4,q5⟩:=h;refine⟨v,xs,q1,q2,fun i _=>by simp,⟨?_,fun i u x hu hx=> ?_⟩,q5⟩
 ·rw [<-q4.1];have key:∀(l:List Nat) (f g:Nat->List V),(∀i∈l,(f i).length=(g i).length)->((l.map f).flatten).length=((l.map g).flatten).length:=by
   intro l f g;induction l with
   |nil=>intro _;rfl
   |cons a l ih=>intro h;simp only [List.map_cons,List.flatten_cons,List.length_append,h a (by simp),ih fun i hi=>h i (by simp [hi])]
  exact key _ _ _ fun i hi=>by rw [q3 i (by simpa using hi)];simp
 ·have hu2:u= .any:=by obtain⟨l,hl,hul⟩:=List.mem_flatten.1 (List.mem_of_getElem? hu);simp only [aE,List.mem_map]at hl;obtain⟨_,_,rfl⟩:=hl;exact(List.mem_replicate.1 hul).2
  subst hu2;exact⟨.any _ _,q4.one x (List.mem_of_getElem? hx)⟩
theorem ig{tm:Nat->V}{σ:Nat->Option Ob}{nx:Nat}(id:Nat){e:TypeId}{sz n:Nat}{r:Nat->List V}(hσ:σ id=some (.row e sz n r)):Le ⟨tm,σ,nx⟩ ⟨tm,Ab.bO σ id (some (.row e sz n fun _=>List.replicate sz .any)),nx⟩:=Le.bO (s:=⟨tm,σ,nx⟩) id hσ fun h=>h.Nl
theorem qw{k:MK}:∀ {es:List MapEntry}{j i:Nat}{v:Value},mpos k es j=some (i,v)->j9 k.str es->(es.map (·.key)).Nodup->∀q:MK,q.str=k.str->
    aU q (es.eraseIdx (i- j))=if q=k then none else aU q es
  | [],j,i,v,h,_,_,_,_=>by simp [mpos]at h
  |e::es,j,i,v,h,hk,hn,q,hq=>by
    obtain⟨p,hp,he⟩:=hk e (by simp)
    rw [List.map_cons,List.nodup_cons]at hn
    have hk2:j9 k.str es:=fun e' he'=>hk e' (by simp [he'])
    rw [mpos]at h
    by_cases hb:k.is e.key=true
    · rw [if_pos hb]at h
      simp at h
      obtain⟨rfl,rfl⟩:=h
      rw [Nat.sub_self,List.eraseIdx_zero,List.tail_cons,aU]
      have hkp:k=p:=by
        rw [he,MK.jd k p hp.symm]at hb
        exact of_decide_eq_true hb
      by_cases hqk:q=k
      · rw [if_pos hqk]
        subst hqk
        cases hm:aU q es with
        |none=>rfl
        |some y=>
          exfalso
          have:∀(l:List MapEntry),j9 q.str l->aU q l=some y->∃e'∈l,e'.key=q.val:=by
            intro l
            induction l with
            |nil=>intro _ h;simp [aU]at h
            |cons a l ih=>
              intro hkl h
              rw [aU]at h
              split at h
              · rename_i hi
                obtain⟨p',hp',he'⟩:=hkl a (by simp)
                rw [he',MK.jd q p' hp'.symm]at hi
                have:=of_decide_eq_true hi
                exact⟨a,by simp,by rw [he',this]⟩
              · obtain⟨e',h1,h2⟩:=ih (fun x hx=>hkl x (by simp [hx])) h
                exact⟨e',by simp [h1],h2⟩
          obtain⟨e',h1,h2⟩:=this es hk2 hm
          exact hn.1 (List.mem_map.2 ⟨e',h1,by rw [h2,he,<-hkp]⟩)
      · rw [if_neg hqk,he,MK.jd q p (by rw [hq,hp]),if_neg (by rw [<-hkp];simpa using hqk)]
    · rw [if_neg hb]at h
      obtain⟨h1,_⟩:=n8 h
      have e1:i- j=(i- (j+1))+1:=by omega
      rw [e1,List.eraseIdx_cons_succ,aU,aU,qw h hk2 hn.2 q hq]
      by_cases hqk:q=k
      · subst hqk;simp [hb]
      · simp only [if_neg hqk]
theorem jh{α β:Type}(f:α->β):∀(l:List α) (i:Nat),(l.eraseIdx i).map f=(l.map f).eraseIdx i
 | [],_=>rfl
 |a::l,0=>rfl
 |a::l,i+1=>by rw [List.eraseIdx_cons_succ,List.map_cons,List.map_cons,List.eraseIdx_cons_succ,jh f l i]
theorem k9{α:Type}{l:List α}(h:l.Nodup)(i:Nat):(l.eraseIdx i).Nodup:=h.sublist (List.eraseIdx_sublist l i)
def iG(has:Int->Bool)(k:Int)(n:Int):Bool:=has n && !decide (n=k)
section
variable {P:Program}{W LB:Nat->Prop}{d:Option Tmp}{ty:TypeId}{pos:String}{af:Array Edge}{gd:Option (Nat×Bool)}{ev:Operand->V}
theorem C0(t kt:TypeId)(m k:Operand){id n:Nat}{has:Int->Bool}{key:Int}{et:TypeId}(hm:ev m= .own id)(hk:ev k= .i key)(ht:ue P t false et) :
    bg P W LB ⟨d,.call {callee:= .builtin .delete,args:= #[m,k],argTypes:= #[t,kt]},ty,pos,af,gd⟩ ev .any [(id,.mp (false,n) (aT has))] [] [(id,some (.mp (false,if has key then n- 1 else n) (aT (iG has key))))]:=by
  intro σ w L ρ g hG hr hpre _
  have hσ:=hpre _ (List.mem_singleton.2 rfl)
  have r1:=hr m (by simp [Op.operands,Call.operands])
  have r2:=hr k (by simp [Op.operands,Call.operands])
  rw [hm]at r1
  rw [hk]at r2
  obtain⟨b,es,cl,hρ,hW,hL,hh,hrel⟩:=hG.ob id _ hσ
  have e1:=r1.cY
  rw [hρ]at e1;injection e1 with e1
  have e2:=r2.aO
  obtain⟨kt',kd,h1,h2,hd⟩:=ht
  obtain⟨v1,v2,v3⟩:=hrel.2.2.2.2
  have hks:j9 (MK.i key).str es.toList:=hrel.1
  have hfk:=run_findKey (P:=P) (w:=w) (k:= .i key) h2 hd hks
  have hck:=run_checkKey (P:=P) (w:=w) (k:= .i key) es.isEmpty h2 hd
  have hch:∀k,some b=some k->W k/\¬L k:=by rintro k hk;injection hk with hk;subst hk;exact⟨hW,hL⟩
  have hlen:es.toList.length=n:=hrel.2.2.2.1
  have hhas:(aU (.i key) es.toList).isSome=has key:=by
    rw [<-fq has key]
    cases hm:aU (.i key) es.toList with
    |none=>rw [hrel.2.2.1 (.i key) rfl hm];rfl
    |some y=>obtain⟨u',hu',_⟩:=hrel.2.1 (.i key) y rfl hm;rw [hu'];rfl
  obtain⟨es',hrun,hrel'⟩:∃es':Array MapEntry,(Builtin.delete_ #[t,kt] ty #[.map (some b),.int .i64 key]).run P w= .ok (.tuple #[]) (ChangeMaps.setBlock w b (.map es' cl))/\
      kF (R w L ρ) (false,if has key then n- 1 else n) (aT (iG has key)).look es'.toList cl:=by
    cases hp:mpos (.i key) es.toList 0 with
    |none=>
      have hf:aU (.i key) es.toList=none:=by rw [<-ij (.i key) es.toList 0,hp];rfl
      rw [hf]at hhas
      have hno:has key=false:=hhas.symm
      refine⟨es,?_,?_⟩
      · rw [hp]at hfk
        have hfk':(Instr.findKey kt' (.int .i64 key) es.toList).run P w= .ok none w:=hfk
        have hck':(Instr.checkKey es.isEmpty 10000 kt' (.int .i64 key)).run P w= .ok () w:=hck
        simp [Builtin.delete_,ay h1,MapKept.run_getObj_map hh,hck',hfk',MapKept.run_setObj_map _ hh,Result.andThen,ChangeMaps.setBlock]
      · rw [hno]
        have e:iG has key=has:=funext fun q=>by
          unfold iG
          by_cases hq:q=key
          · subst hq;rw [hno];rfl
          · simp [hq]
        rw [e];exact hrel
    |some p=>
      obtain⟨i,v⟩:=p
      obtain⟨_,e,he,_⟩:=n8 hp
      have hil:i< es.toList.length:=by rw [Nat.sub_zero]at he;exact(List.getElem?_eq_some_iff.1 he).1
      have hf:aU (.i key) es.toList=some v:=by rw [<-ij (.i key) es.toList 0,hp];rfl
      rw [hf]at hhas
      have hyes:has key=true:=hhas.symm
      have hme:=fun q hq=>qw hp hks v1 q hq
      rw [Nat.sub_zero]at hme
      have hto:(es.eraseIdxIfInBounds i).toList=es.toList.eraseIdx i:=by simp
      refine⟨es.eraseIdxIfInBounds i,?_,?_⟩
      · rw [hp]at hfk
        have hfk':(Instr.findKey kt' (.int .i64 key) es.toList).run P w= .ok (some (i,v)) w:=hfk
        have hck':(Instr.checkKey es.isEmpty 10000 kt' (.int .i64 key)).run P w= .ok () w:=hck
        simp [Builtin.delete_,ay h1,MapKept.run_getObj_map hh,hck',hfk',MapKept.run_setObj_map _ hh,Result.andThen,ChangeMaps.setBlock]
      · rw [hyes,hto]
        refine⟨fun e' he'=>hrel.1 e' (List.mem_of_mem_eraseIdx he'),fun q x hq hx=> ?_,fun q hq hx=> ?_,?_,?_,?_,fun e' he'=>v3 e' (List.mem_of_mem_eraseIdx he')⟩
        · rw [hme q hq]at hx
          by_cases hqk:q= .i key
          · rw [if_pos hqk]at hx;cases hx
          · rw [if_neg hqk]at hx
            obtain⟨u,hu,hr⟩:=hrel.2.1 q x hq hx
            refine⟨u,?_,hr⟩
            cases q with
            |s s=>cases hq
            |i m=>
              have hmk:¬m=key:=fun h=>hqk (by rw [h])
              rw [cS]at hu ⊢
              rw [show iG has key m=has m by simp [iG,hmk]]
              exact hu
        · rw [hme q hq]at hx
          cases q with
          |s s=>cases hq
          |i m=>
            rw [cS]
            by_cases hmk:m=key
            · rw [if_neg (by simp [iG,hmk])]
            · rw [if_neg (by simpa using hmk)]at hx
              have:=hrel.2.2.1 (.i m) rfl hx
              rw [cS]at this
              rw [show iG has key m=has m by simp [iG,hmk]]
              exact this
        · rw [if_pos rfl,List.length_eraseIdx_of_lt hil,hlen]
        · rw [jh];exact k9 v1 i
        · rw [jh];exact k9 v2 i
  have hgr:w.grownBy (ChangeMaps.setBlock w b (.map es' cl)) (some b):=World.mapTurned.grown ⟨es,cl,es',cl,hh,rfl⟩
  obtain⟨hG',ex⟩:=hG.put (σ1:=σ) (ρ':=ρ) hgr hch id _ (.mp (false,if has key then n- 1 else n) (aT (iG has key)))
    (fun j ob hj ho=>⟨ho,fun z hz k hk hkz=>by
      injection hk with hk;subst hk
      exact hG.sep j id z _ b hj (by rw [ho];simp) (by rw [hσ];simp) hz hρ hkz rfl⟩) (fun _ _=>rfl) hρ (.inr hρ) (fun k hk=> .inl (by simpa [blk]using hk)) (fun ex=>
        ⟨b,es',cl,hρ,hW,hL,ChangeMaps.heap_setBlock_same hh _,hrel'.imp fun _ _ _ _ h=>h.ext ex⟩)
  refine bq.value rfl (v:= .tuple #[]) (w':=ChangeMaps.setBlock w b (.map es' cl)) ?_ ⟨L,ρ,hG',.any _ _,cH hgr hch,ex,fun _ _=>rfl,fun D hD=>⟨(hgr.block D (Array.getElem?_eq_some_iff.1 hD).1 fun e=> ?_).trans hD,fun h=>h⟩⟩
  · simp only [execOp,resolve,invoke,builtin,Call.args,Array.map,e2]
    have e0:g m= .map (some b):=e1.symm
    simp [e0,e2,hrun]
  · injection e with e;subst e;rw [hh]at hD;cases hD
end
end Go.Ab
