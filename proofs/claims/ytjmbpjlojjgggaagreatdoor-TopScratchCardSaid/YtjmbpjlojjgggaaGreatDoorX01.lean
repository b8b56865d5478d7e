/-
  Several texts in one: The walk of an iterator's body, which calls the yield of a loop. Conditions: told in each theorem. .. A row of pointers, of which one is known by name; sets of numbers: a number is taken out. No condition but those told in each theorem.
-/
import Derived.Test.YtjmbpjlojjgggaaGreatDoorX00
import Derived.Test.YtjmbpjlojjgggaaGreatDoorMD
namespace Go.Ab
open Go.RowKit Go.Dw Go.Shelf
structure YE(P:Program)(es:List (List V)) where
  l:Nat
  J:Nat->Bool->World->Prop
  L0:Nat->Prop
  w0:World
  R0:Nat->Prop
  B:Nat
  U:Nat->Prop
  hY:∀k x W1,k< es.length->Pp es (fun b=>L0 b\/U b) w0 l k x W1->B<=W1.heap.size->J k true W1->YieldAt Fence.wide 0 P l x W1 fun e W2=>∃b:Bool,e= .returned (.bool b)/\aZ (fun i=>R0 i\/i=l) W1 W2/\(b=true->J (k+1) true W2)/\(b=false->J k false W2)
  hJ:∀k g W1 W2,J k g W1->tD U B W1 W2->J k g W2
  hB:w0.heap.size<=B
  hl:w0.heap.size<=l/\l< B
  hR:∀b,R0 b->b< w0.heap.size/\¬L0 b
  hL:∀b,L0 b->b< w0.heap.size
  hU:∀b,U b->b< w0.heap.size/\¬L0 b/\¬R0 b
def jD(next:S->Nat->Bool->Prop)(Q:Exit->S->Nat->Bool->Prop):Exit->S->Nat->Bool->Prop
 | .normal,s,k,g=>next s k g
 |e,s,k,g=>Q e s k g
def gP(id:Nat)(Q:Exit->S->Nat->Bool->Prop):Exit->S->Nat->Bool->Prop
 | .exit id',s,k,g=>if id'=id then Q .normal s k g else Q (.exit id') s k g
 |e,s,k,g=>Q e s k g
section
variable {P:Program}{N:Nat}{es:List (List V)}{C:Cx P N}{Y:YE P es}{Q:Exit->S->Nat->Bool->Prop}{s:S}{k:Nat}{g:Bool}
end
section
variable {next:S->Nat->Bool->Prop}{Q:Exit->S->Nat->Bool->Prop}{s:S}{k:Nat}{g:Bool}{id id':Nat}
theorem eH(h:next s k g):jD next Q .normal s k g:=h
theorem ke(h:Q .ret s k g):jD next Q .ret s k g:=h
theorem tc(h:Q (.exit id) s k g):jD next Q (.exit id) s k g:=h
theorem ta(h:Q .normal s k g):gP id Q .normal s k g:=h
theorem mD(h:Q .ret s k g):gP id Q .ret s k g:=h
theorem jz(h:Q .normal s k g):gP id Q (.exit id) s k g:=by simpa [gP]using h
theorem M7(hne:(id' == id)=false)(h:Q (.exit id') s k g):gP id Q (.exit id') s k g:=by
 have:¬id'=id:=by simpa using hne
 simpa [gP,this]using h
end
theorem Cr{P:Program}{W LB:Nat->Prop}{ops:Array Oper}{nx N:Nat}{dfs:Dp}{F:Fence}(hF:FW F){Q:Exit->Act->World->Prop}(hd:∀o∈ops.toList,∀t,o.dst=some t->t< N)(rest:List Oper) :
    ∀(os:List Oper) (i:Nat) (tr:List TE) (tm tm':Nat->V) (σ σ':Nat->Option Ob) (a:Act) (w w0:World) (L:Nat->Prop) (ρ:Nat->Option Value) (fresh:Nat->Prop),
      (∀j,(os++rest)[j]?=ops[i+j]?)->Kr P W LB ops nx os tr tm σ tm' σ'->qR W LB N dfs fresh tm σ a w L ρ->(∀o∈os++rest,∀t,o.dst=some t->∀id,nx*100000<=id->id% 1000=t->id< (nx+1)*100000->fresh id)->(∀id,bV (nx+1) id->fresh id)->((os++rest).filterMap (·.dst)).Nodup->aZ W w0 w->
      (∀a' w' L' ρ' fresh',qR W LB N dfs fresh' tm' σ' a' w' L' ρ'->(∀o∈rest,∀t,o.dst=some t->∀id,nx*100000<=id->id% 1000=t->id< (nx+1)*100000->fresh' id)->(∀id,bV (nx+1) id->fresh' id)->aZ W w0 w'->wpOpsIn F 0 P ops Q (List.range' (i+os.length) rest.length) a' w')->
      wpOpsIn F 0 P ops Q (List.range' i (os.length+rest.length)) a w:=by
  intro os
  induction os with
  |nil=>
    intro i tr tm tm' σ σ' a w w0 L ρ fresh _ hr h hfr1 hfr _ ht hQ
    cases tr with
    |cons=>exact hr.elim
    |nil=>
      obtain⟨rfl,rfl⟩:=hr
      have:=hQ a w L ρ fresh h (fun o ho=>hfr1 o (by simpa using ho)) hfr ht
      simpa using this
  |cons o os ih=>
    intro i tr tm tm' σ σ' a w w0 L ρ fresh hj hr h hfr1 hfr hnd ht hQ
    cases tr with
    |nil=>exact hr.elim
    |cons e tr=>
      obtain⟨⟨hw,hs,hn⟩,hr⟩:=hr
      have hi:ops[i]?=some o:=by have:=hj 0;simpa using this.symm
      rw [List.length_cons,Nat.add_right_comm,List.range'_succ,wpOpsIn_cons]
      refine wE (fresh':=fun id=>fresh id/\id∉e.nw) hF h hi (hd o (by have:=Array.mem_of_getElem? hi;simpa using this)) hw (fun he=>⟨(hs he).1,(hs he).2.1,fun id hid=>by
        obtain⟨t,h1,h2,h3,h4⟩:=(hs he).2.2 id hid
        exact hfr1 o (by simp) t h1 id h2 h4 h3⟩) (fun _ _=>rfl) hn (fun id h=>h) ?_
      intro a' w' L' ρ' h' ht' _
      have f1:∀o'∈os++rest,∀t,o'.dst=some t->∀id,nx*100000<=id->id% 1000=t->id< (nx+1)*100000->id∉e.nw:=by
        intro o' ho' t ht id h1 h2 h3 hc
        cases hrun:e.run with
        |false=>rw [(hn hrun).2.1]at hc;simp at hc
        |true=>
          obtain⟨t',g1,g2,g3,g4⟩:=(hs hrun).2.2 id hc
          have htt:t=t':=by rw [<-h2,<-g4]
          subst htt
          rw [List.cons_append]at hnd
          simp only [List.filterMap_cons,g1,List.nodup_cons]at hnd
          exact hnd.1 (List.mem_filterMap.2 ⟨o',ho',ht⟩)
      have f2:∀id,bV (nx+1) id->id∉e.nw:=by
        intro id hid hc
        cases hrun:e.run with
        |false=>rw [(hn hrun).2.1]at hc;simp at hc
        |true=>
          obtain⟨t',g1,g2,g3,g4⟩:=(hs hrun).2.2 id hc
          unfold bV at hid
          omega
      refine ih (i+1) tr _ _ _ _ a' w' w0 L' ρ' _ (fun j=>by have:=hj (j+1);simpa [Nat.add_assoc,Nat.add_comm 1 j]using this) hr h' (fun o' ho' t ht id h1 h2 h3=>⟨hfr1 o' (by rw [List.cons_append];exact List.mem_cons_of_mem _ ho') t ht id h1 h2 h3,f1 o' ho' t ht id h1 h2 h3⟩) (fun id hid=>⟨hfr id hid,f2 id hid⟩) ?_ (ht.trans ht') (fun a2 w2 L2 ρ2 fr2 g2 q1 q2 q3=> ?_)
      · rw [List.cons_append]at hnd
        cases hdst:o.dst with
        |none=>simpa [List.filterMap_cons,hdst]using hnd
        |some t=>simp only [List.filterMap_cons,hdst,List.nodup_cons]at hnd;exact hnd.2
      · have:=hQ a2 w2 L2 ρ2 fr2 g2 q1 q2 q3
        rwa [show i+1+os.length=i+(o::os).length by simp;omega]
def uc(n:Nat)(e:Exit)(_:S)(k:Nat)(g:Bool):Prop:=(e= .normal\/e= .ret)/\(g=true->k=n)/\(g=false->k< n)
theorem Real.wider{W W' L:Nat->Prop}{w:World}{ρ:Nat->Option Value}{id:Nat}{o:Ob}(h:Real W w L ρ id o)(k:∀b,W b->W' b):Real W' w L ρ id o:=by
 cases o with
 |box t cs=>obtain⟨b,xs,h1,h2,h3⟩:=h;exact⟨b,xs,h1,k b h2,h3⟩
 |row e sz n row=>obtain⟨v,xs,h1,h2,h3,h4,h5⟩:=h;exact⟨v,xs,h1,h2,h3,h4,fun j hj=>⟨k j (h5 j hj).1,(h5 j hj).2⟩⟩
 |mp str f=>obtain⟨b,es,cl,h1,h2,h3⟩:=h;exact⟨b,es,cl,h1,k b h2,h3⟩
theorem Ld.no{P:Program}{gf:FuncId}{caps:List V}{es:List (List V)}(h:Ld P gf caps [] es):O3 P gf caps es:=by refine⟨h.1,fun L w lb hL hg hv R hR=> ?_⟩;have:=h.2 L (fun _=>False) w ρ0 lb hL (fun b hb=>hb.elim) hg (fun i o h=>by simp at h) (fun i j x y k _ hx=>by cases hx) (fun _ _=>rfl) hv R fun b hb=>⟨(hR b hb).1,(hR b hb).2,fun h=>h⟩;exact fun l J Jx W hT hl hlW hJ hJx hY h0=>this l J Jx W hT hl hlW (fun k W1 W2 hj hb=>hJ k W1 W2 hj (hb.no fun _ h=>h)) (fun k W1 W2 hj hb=>hJx k W1 W2 hj (hb.no fun _ h=>h)) (fun k x W1 hk hE=>hY k x W1 hk (by obtain⟨v,hv,L1,h1,h2⟩:=hE;exact⟨v,hv,L1,fun b hb=>(h1 b hb).imp (fun h=>h.elim id False.elim) id,h2⟩)) h0
theorem Kk.it{P:Program}{gf:FuncId}{caps:List V}{es:List (List V)}(h:Kk P gf caps es):O3 P gf caps es:=by
 refine⟨h.1,fun L w lb hL _ hlb R hR=> ?_⟩;obtain⟨xs,h1,h2,h3⟩:=h.2 L w lb hL hlb;intro l J Jx W hT hl hlW hJ hJx hY h0;have e0:∀b,L b->W.heap[b]?=w.heap[b]?:=fun b hb=>hT.block b (hL b hb) fun hc=>(hR b hc).2 hb;have:=h3 R hR l (fun k W1=>J k W1/\∀b,L b->W1.heap[b]?=w.heap[b]?) Jx W hT hl hlW (fun k W1 W2 hj hb=>⟨hJ k _ _ hj.1 hb,fun b hbL=>(hb.block b (Nat.lt_of_lt_of_le (hL b hbL) hT.size)).trans (hj.2 b hbL)⟩) hJx (fun k x W1 hx hs hj=> ?_) ⟨h0,e0⟩
 ·rw [h1]at this;refine this.mono ?_;rintro e W' ⟨hv,hj |hj⟩;·exact⟨hv,.inl hj.1⟩
  ·exact⟨hv,.inr hj⟩
 ·have hk:k< es.length:=by have:=(List.getElem?_eq_some_iff.1 hx).1;omega
  have hv:es[k]?=some es[k]:=List.getElem?_eq_getElem hk;have hxr:=h2 k _ x hv hx;obtain⟨fn',tmps,assign,body,q1,q2⟩:=hY k x W1 hk ⟨_,hv,L,fun b hb=> .inl hb,hxr.1,fun i u y hu hy=>(hxr.2 i u y hu hy).ext ⟨fun b hb=>⟨hb,hj.2 b hb⟩,fun _ _ h=>h⟩⟩ hs hj.1;refine⟨fn',tmps,assign,body,q1,q2.mono ?_⟩;rintro e W2 ⟨b,rfl,ht,a1,a2⟩;refine⟨b,rfl,ht,fun e=>⟨a1 e,fun c hc=> ?_⟩,a2⟩;refine(ht.block c ?_ ?_).trans (hj.2 c hc);·exact Nat.lt_of_lt_of_le (Nat.lt_of_lt_of_le (hL c hc) hT.size) hs
  ·rintro(h |h);·exact(hR c h).2 hc
   ·have:=hL c hc;omega
theorem Real.weak{W W':Nat->Prop}{w:World}{L:Nat->Prop}{ρ ρ':Nat->Option Value}{id:Nat}{o:Ob}(h:Real W w L ρ id o)(hW:∀b,W b->W' b)(hρ:∀j y,ρ j=some y->ρ' j=some y):Real W' w L ρ' id o:=by
 have e:Ext w L ρ w L ρ':=⟨fun _ hb=>⟨hb,rfl⟩,hρ⟩;cases o with
 |box t cs=>obtain⟨b,xs,h1,h2,h3,h4,h5⟩:=h;exact⟨b,xs,hρ _ _ h1,hW _ h2,h3,h4,h5.ext e⟩
 |row t sz n row=>obtain⟨v,xs,h1,h2,h3,h4,h5⟩:=h;exact⟨v,xs,hρ _ _ h1,h2,h3,h4.ext e,fun k hk=>⟨hW _ (h5 k hk).1,(h5 k hk).2⟩⟩
 |mp str f=>obtain⟨b,es,cl,h1,h2,h3,h4,h5⟩:=h;exact⟨b,es,cl,hρ _ _ h1,hW _ h2,h3,h4,h5.imp fun _ _ _ _ h=>h.ext e⟩
theorem AC.row{P:Program}{f:FuncId}{args args':List V}{v:V}{obs:List Ob}(h:AC P f args' v obs)(e:TypeId){sz n n':Nat}{row row':Nat->List V}(ha:V.og 500 (.sl sz n row) args=args')(hi:V.bA args'=true)(ho:obs.length<=90)(hn:n'=n)(hr:∀i,i< n'->row' i=row i)(hi2:∀i,V.bA (row i)=true) : AM P f args [.row e sz n' row'] v [none] obs:=by
 subst hn;refine⟨h.1,fun W LB L w ρ vs hwl hWL hG hρ hvs=> ?_⟩;have hσ:fm [.row e sz n' row'] 500=some (.row e sz n' row'):=rfl;have hre:Real W w L ρ 500 (.row e sz n' row):=(hG.ob 500 _ hσ).eq ⟨rfl,rfl,rfl,hr⟩;obtain⟨v0,hv0,hlt,hs⟩:=hre.slice fun i _=>hi2 i;have ex:Ext w L ρ w (fun b=>L b\/blk v0=some b) ρ:=⟨fun b hb=>⟨.inl hb,rfl⟩,fun _ _ h=>h⟩;have hrv:RV w (fun b=>L b\/blk v0=some b) ρ0 args' vs.toList:=by
  refine RV.free (ρ:=ρ) ?_ hi;rw [<-ha];refine⟨by rw [V.fB];exact hvs.1,fun i u x hu hx=> ?_⟩;rw [V.gR]at hu;cases hc:args[i]? with
  |none=>rw [hc]at hu;cases hu
  |some a=>rw [hc]at hu;simp only [Option.map_some,Option.some.injEq]at hu;subst hu;refine nc (fun y hy=> ?_) _ _ ((hvs.2 i a x hc hx).ext ex);rw [hv0]at hy;injection hy with hy;subst hy;exact hs
 refine(h.2 (fun b=>L b\/blk v0=some b) w vs (fun b hb=> ?_) (hG.tN ex) hrv).mono ?_
 ·rcases hb with hb |hb;·exact(hG.ll b hb).1
  ·exact(hlt b hb).1
 rintro ee w' ⟨x,rfl,hbel,L',ρ',hG',hL',hv,hnn⟩;obtain⟨ρ2,hρ2⟩:∃ρ2:Nat->Option Value,∀id,ρ2 id=if id< obs.length then ρ' id else ρ id:=⟨_,fun _=>rfl⟩
 have hon:∀j y,ρ' j=some y->ρ2 j=some y:=fun j y hy=>by
  rw [hρ2];by_cases hj:j< obs.length;·rw [if_pos hj];exact hy
  ·rw [hnn j oM]at hy;cases hy
 have ex2:Ext w' L' ρ' w' L' ρ2:=⟨fun _ hb=>⟨hb,rfl⟩,hon⟩;refine⟨x,rfl,aZ.gw hbel fun k _ hk=>(hG.new k hk).1,L',ρ2,⟨fun b hb=> ?_,fun b hb=>hG.new b (Nat.le_trans hbel.size hb),fun id o hio=> ?_,fun i j y z k hij hi hj hy hz=> ?_,hG.Pa fun b hb=>⟨hL' b (.inl hb),hbel.block b (hG.ll b hb).1⟩⟩,⟨fun b hb=>⟨hL' b (.inl hb),hbel.block b (hG.ll b hb).1⟩,fun id y hy=> ?_⟩,hv.ext ex2,fun j hj hj5=> ?_⟩
 ·have:=hG'.ll b hb;refine⟨this.1,?_⟩;rcases this.2 with(h1 |h1) |h1;·exact(hG.ll b h1).2
  ·exact hwl b (hlt b h1).2.1
  ·exact(hG.new b h1).2
 ·have hob:mV obs id=some o:=by
   unfold gy at hio;split at hio
   ·cases hq:([none]:List (Option Ob))[id- 500]? with
    |none=>rw [hq]at hio;cases hio
    |some q=>
     rw [hq]at hio;have:q=none:=by have:=List.mem_of_getElem? hq;simpa using this
     rw [this]at hio;cases hio
   ·exact hio
  exact(hG'.ob id o hob).weak (fun b hb=>(hG.new b hb).1) hon
 ·have key:∀i,gy [none] obs i≠none->mV obs i≠none/\i< obs.length:=fun i hi=>by
   unfold gy at hi;split at hi
   ·exfalso;apply hi;cases hq:([none]:List (Option Ob))[i- 500]? with
    |none=>rfl
    |some q=>
     have:q=none:=by have:=List.mem_of_getElem? hq;simpa using this
     rw [this];rfl
   ·refine⟨hi,?_⟩;cases hq:obs[i]? with
    |none=>exact absurd hq hi
    |some q=>exact(List.getElem?_eq_some_iff.1 hq).1
  rw [hρ2,if_pos (key i hi).2]at hy;rw [hρ2,if_pos (key j hj).2]at hz;exact hG'.sep i j y z k hij (key i hi).1 (key j hj).1 hy hz
 ·rw [hρ2];by_cases hid:id< obs.length;·rw [hρ id (.inl oM)]at hy;cases hy
  ·rw [if_neg hid];exact hy
 ·rw [hρ2,if_neg oM];exact hρ j hj5
theorem CY{k:Nat}{F G H:Nat->List V}{r:Nat->Nat}(h1:∀i,i< k->F i=V.aS r (H i))(h2:G 0=V.aS r (H k)):∀i,i< k+1->aF k F G i=V.aS r (H i):=by
 intro i hi;by_cases h:i< k;·rw [aF,if_pos h];exact h1 i h
 ·obtain rfl:i=k:=by omega
  rw [aF,if_neg h,Nat.sub_self];exact h2
theorem Fb{k:Nat}{f g:Nat->Int}{G:Nat->List V}{r:Nat->Nat}{n m:Int}(h2:G 0=[V.i n,V.i m])(h:n=f k)(h':m=g k):∀i,i< k+1->aF k (fun k=>[V.i (f k),V.i (g k)]) G i=V.aS r ((fun k=>[V.i (f k),V.i (g k)]) i):= CY (fun _ _=>rfl) (by rw [h2,h,h'];rfl)
theorem Real.ptr{W:Nat->Prop}{w:World}{L:Nat->Prop}{ρ:Nat->Option Value}{id t:Nat}{cs:List V}(h:Real W w L ρ id (.box t cs))(hi:V.bA cs=true) : ∃v,ρ id=some v/\(∀k,blk v=some k->k< w.heap.size/\W k/\¬L k)/\R w (fun b=>L b\/blk v=some b) ρ (.ptr cs) v:=by
 obtain⟨v',hv',hlt⟩:=h.lt;obtain⟨b,xs,h1,h2,h3,h4,h5⟩:=h;rw [h1]at hv';injection hv' with hv';subst hv'
 refine⟨_,h1,hlt,?_⟩;refine .ptr _ _ _ _ (fun j=>xs.toList.getD j undef) (.inr rfl) (fun j u hu=> ?_) fun j u hu=> ?_
 ·obtain⟨y,hy,hr,hone⟩:=h5.get hu;have hg:xs.toList.getD j undef=y:=by simp [List.getD_eq_getElem?_getD,hy]
  rw [hg];refine⟨?_,hone⟩;rw [Nat.zero_add];rw [cell_of_row w b j xs t (0,0) h4];simpa using hy
 ·obtain⟨y,hy,hr,hone⟩:=h5.get hu;have hg:xs.toList.getD j undef=y:=by simp [List.getD_eq_getElem?_getD,hy]
  rw [hg];exact(hr.free (V.dW hi hu) ρ0).ext ⟨fun b hb=>⟨.inl hb,rfl⟩,fun _ _ h=>h⟩
def V.rL:V->Bool
 | .tup cs=>V.gh cs
 |v=>v.flat
theorem R.rL{w w':World}{L L':Nat->Prop}{ρ ρ':Nat->Option Value}{u:V}{x:Value}(h:R w L ρ u x)(hf:u.rL=true):R w' L' ρ' u x:=by
 cases u with
 |tup cs=>obtain⟨xs,rfl,hx⟩:=h.lX;exact .wK ⟨hx.1,fun i v y hv hy=>(hx.2 i v y hv hy).flat (V.lM hf hv)⟩
 |_=>exact h.flat hf
theorem AC.box{P:Program}{f:FuncId}{args args':List V}{v:V}(h:AC P f args' v [])(t:TypeId){cs:List V}(ha:V.og 500 (.ptr cs) args=args')(hi:V.bA args'=true)(hi2:V.bA cs=true)(hv:v.rL=true) : AM P f args [.box t cs] v [some (.box t cs)] []:=by
 refine⟨h.1,fun W LB L w ρ vs hwl hWL hG hρ hvs=> ?_⟩;have hσ:fm [.box t cs] 500=some (.box t cs):=rfl;obtain⟨v0,hv0,hlt,hs⟩:=(hG.ob 500 _ hσ).ptr hi2;have ex:Ext w L ρ w (fun b=>L b\/blk v0=some b) ρ:=⟨fun b hb=>⟨.inl hb,rfl⟩,fun _ _ h=>h⟩;have hrv:RV w (fun b=>L b\/blk v0=some b) ρ0 args' vs.toList:=by
  refine RV.free (ρ:=ρ) ?_ hi;rw [<-ha];refine⟨by rw [V.fB];exact hvs.1,fun i u x hu hx=> ?_⟩;rw [V.gR]at hu;cases hc:args[i]? with
  |none=>rw [hc]at hu;cases hu
  |some a=>rw [hc]at hu;simp only [Option.map_some,Option.some.injEq]at hu;subst hu;refine nc (fun y hy=> ?_) _ _ ((hvs.2 i a x hc hx).ext ex);rw [hv0]at hy;injection hy with hy;subst hy;exact hs
 refine(h.2 (fun b=>L b\/blk v0=some b) w vs (fun b hb=> ?_) (hG.tN ex) hrv).mono ?_
 ·rcases hb with hb |hb;·exact(hG.ll b hb).1
  ·exact(hlt b hb).1
 rintro ee w' ⟨x,rfl,hbel,L',ρ',hG',hL',hx,hnn⟩;obtain⟨hG2,ex2⟩:=hG.quiet hbel (L':=L) (fun _ h=>h) (fun _ h=> .inl h);have e:gy [some (.box t cs)] []=fm [.box t cs]:=by
  funext id;unfold gy fm;by_cases h5:500<=id
  ·rw [if_pos h5,if_pos h5];cases hk:id- 500 with
   |zero=>rfl
   |succ n=>simp
  ·rw [if_neg h5,if_neg h5];simp
 refine⟨x,rfl,aZ.gw hbel fun k _ hk=>(hG.new k hk).1,L,ρ,?_,ex2,hx.rL hv,fun j _ hj=>hρ j hj⟩;rw [e];exact hG2
def V.rK(pn:List Nat):V->Bool
 | .tup cs=>V.dF pn cs
 |v=>v.dh pn
theorem R.rK{pn:List Nat}{w w':World}{L L':Nat->Prop}{ρ ρ':Nat->Option Value}{u:V}{x:Value}(h:R w L ρ u x)(hf:u.rK pn=true)(hρ:∀id∈pn,∀v,ρ id=some v->ρ' id=some v):R w' L' ρ' u x:=by
 cases u with
 |tup cs=>obtain⟨xs,rfl,hx⟩:=h.lX;exact .wK ⟨hx.1,fun i v y hv hy=>(hx.2 i v y hv hy).dh (V.jK hf hv) hρ⟩
 |_=>exact h.dh hf hρ
def Ob.BW:Ob->Prop
 | .row _ _ n r=>∀i,i< n->∀u∈r i,u.BW=true
 |_=>False
section
variable {P:Program}{N:Nat}{C:Cx P N}{ops:Array Oper}{nx:Nat}{os:List Oper}{tm:Nat->V}{σ:Nat->Option Ob}{ks:List (List Nat×List Nat)}{K:(Nat->V)->(Nat->Option Ob)->List (List Nat×List Nat)->Prop}{ty:TypeId}{pos:String}{af:Array Edge}
end
def u9(σ:Nat->Option Ob)(ρ:Nat->Option Value)(b:Nat):Prop:=∃id x,σ id≠none/\ρ id=some x/\blk x=some b
inductive Fz(σ:Nat->Option Ob):V->V->Prop
  |ck (v:V) (h:v.ck=true):Fz σ v v
  |any (v:V):Fz σ v .any
  |agg (cs cs':List V) (hl:cs'.length=cs.length) (h:∀(i:Nat) u u',cs[i]?=some u->cs'[i]?=some u'->Fz σ u u'):Fz σ (.agg cs) (.agg cs')
  |tup (cs cs':List V) (hl:cs'.length=cs.length) (h:∀(i:Nat) u u',cs[i]?=some u->cs'[i]?=some u'->Fz σ u u'):Fz σ (.tup cs) (.tup cs')
  |ref (id off:Nat) (t:TypeId) (cs cs':List V) (hσ:σ id=some (.box t cs)) (hl:cs'.length<=(cs.drop off).length) (h:∀(i:Nat) u u',(cs.drop off)[i]?=some u->cs'[i]?=some u'->Fz σ u u'):Fz σ (.ref id off) (.ptr cs')
  |own (id:Nat) (e:TypeId) (sz n:Nat) (r r':Nat->List V) (hσ:σ id=some (.row e sz n r)) (hl:∀i,i< n->(r' i).length=(r i).length) (h:∀(i j:Nat) u u',i< n->(r i)[j]?=some u->(r' i)[j]?=some u'->Fz σ u u'):Fz σ (.own id) (.sl sz n r')
  |alt (b:Bool) (u v u' v':V) (h:Fz σ u u') (k:Fz σ v v'):Fz σ (.alt b u v) (.alt b u' v')
  |mp (id n:Nat) (s:Bool) (f:MF) (has:MK->Bool) (hσ:σ id=some (.mp (s,n) f)) (h:∀k:MK,k.str=s->(f.look k).isSome=has k/\∀u,f.look k=some u->u= .agg []\/u= .c (.agg #[])):Fz σ (.own id) (.fset s has)
theorem Fz.mono{σ σ':Nat->Option Ob}(h:∀id o,σ id=some o->σ' id=some o){u u':V}(k:Fz σ u u'):Fz σ' u u':=by
 induction k with
 |ck v h=>exact .ck v h
 |any v=>exact .any v
 |agg cs cs' hl _ ih=>exact .agg cs cs' hl ih
 |tup cs cs' hl _ ih=>exact .tup cs cs' hl ih
 |ref id off t cs cs' hσ hl _ ih=>exact .ref id off t cs cs' (h _ _ hσ) hl ih
 |own id e sz n r r' hσ hl _ ih=>exact .own id e sz n r r' (h _ _ hσ) hl ih
 |alt b u v u' v' _ _ ih ih'=>exact .alt b u v u' v' ih ih'
 |mp id n s f has hσ hk=>exact .mp id n s f has (h _ _ hσ) hk
theorem R.Qr{W LB L:Nat->Prop}{σ:Nat->Option Ob}{w:World}{ρ:Nat->Option Value}(hG:G W LB σ w L ρ){u u':V}(k:Fz σ u u'):∀x,R w L ρ u x->R w (fun b=>L b\/u9 σ ρ b) ρ0 u' x:=by
 induction k with
 |ck v hi=>exact fun x h=>(h.free hi ρ0).mono (fun b hb=>⟨.inl hb,rfl⟩) fun _ _ h=>h
 |any v=>exact fun x _=> .any _ _
 |agg cs cs' hl _ ih=>
  intro x h;obtain⟨xs,rfl,hx⟩:=h.eU;refine .lZ ⟨by rw [hl];exact hx.1,fun i v y hv hy=> ?_⟩;have hi:i< cs.length:=by rw [<-hl];exact(List.getElem?_eq_some_iff.1 hv).1
  exact⟨ih i _ v (List.getElem?_eq_getElem hi) hv y (hx.2 i _ y (List.getElem?_eq_getElem hi) hy).1,(hx.2 i _ y (List.getElem?_eq_getElem hi) hy).2⟩
 |tup cs cs' hl _ ih=>
  intro x h;obtain⟨xs,rfl,hx⟩:=h.lX;refine .wK ⟨by rw [hl];exact hx.1,fun i v y hv hy=> ?_⟩;have hi:i< cs.length:=by rw [<-hl];exact(List.getElem?_eq_some_iff.1 hv).1
  exact ih i _ v (List.getElem?_eq_getElem hi) hv y (hx.2 i _ y (List.getElem?_eq_getElem hi) hy)
 |ref id off t cs cs' hσ hl _ ih=>
  intro x h;obtain⟨b,rfl,hρ⟩:=h.iS;obtain⟨b',xs,q1,q2,q3,q4,q5⟩:=hG.ob id _ hσ;rw [hρ]at q1;injection q1 with q1
  have hbb:b=b':=by injection q1 with q1;injection q1 with q1;injection q1
  subst hbb;refine .ptr' (.inr ⟨id,_,by rw [hσ];simp,hρ,rfl⟩) fun j v hv=> ?_;have hj:j< (cs.drop off).length:=Nat.lt_of_lt_of_le (List.getElem?_eq_some_iff.1 hv).1 hl;have hu:=List.getElem?_eq_getElem hj;have hu2:=hu;rw [List.getElem?_drop]at hu2;obtain⟨y,hy,hr,h1⟩:=q5.get hu2;refine⟨y,?_,h1,ih j _ v hu hv y hr⟩;rw [cell_of_row w b _ xs t (0,0) q4];simpa using hy
 |own id e sz n r r' hσ hl _ ih=>
  intro x h;have hx:=h.cX;obtain⟨v,xs,hv,hown,hsz,hrl,hb⟩:=hG.ob id _ hσ;rw [hv]at hx;injection hx with hx;subst hx
  obtain⟨A,c,hA⟩:∃A c,v= .slice A n c:=by
   rcases hown.2 with⟨h1,h2⟩ | ⟨g',cap,cur,h1,_⟩;·exact⟨_,_,by rw [h1,h2]⟩
   ·exact⟨_,_,h1⟩
  have hcap:n<=c:=by
   rcases hown.2 with⟨h1,h2⟩ | ⟨g',cap,cur,h1,_,_,h3,_⟩;·omega
   ·rw [h1]at hA;injection hA with _ _ hA3;omega
  have hbl:∀k,blk v=some k->u9 σ ρ k:=fun k hk=>⟨id,v,by rw [hσ];simp,hv,hk⟩;rw [hA];refine .HE hcap fun hpos=> ?_;rcases hown.2 with⟨_,h2⟩ | ⟨g',cap,cur,h1,_,hh,hc1,hc2,hc3,hc4⟩;·omega
  ·rw [h1]at hA;injection hA with hA1 hA2 hA3;refine⟨g',0,hA1.symm,.inr (hbl _ (by rw [h1];rfl)),fun i hi=>by rw [hl i hi];exact hsz i hi,fun i j u hil hu=> ?_⟩;have hj':j< (r i).length:=by rw [<-hl i hil];exact(List.getElem?_eq_some_iff.1 hu).1
   have hj:j< sz:=by rw [<-hsz i hil];exact hj'
   have hu0:=List.getElem?_eq_getElem hj';have hfl:(aE n r).flatten[i*sz+j]?=some (r i)[j]:=by rw [flat_get (cq hsz) (bK hil) hj,hu0]
   obtain⟨y,hy,hry,hone⟩:=hrl.get hfl;refine⟨y,?_,hone,ih i j _ u hil hu0 hu y hry⟩;rw [cell_of_row w g' _ cur e (0,0) hh,Nat.zero_add];rw [<-hc4,List.getElem?_take]at hy;split at hy;·simpa using hy
   ·cases hy
 |alt b u v u' v' _ _ ih ih'=>
  intro x h;cases h with
  |alt _ _ _ _ _ h1 h2=>exact .alt _ _ _ _ _ (fun hb=>ih _ (h1 hb)) fun hb=>ih' _ (h2 hb)
 |mp id n s f has hσ hk=>
  intro x h;have hx:=h.cX;obtain⟨b,es,cl,q1,q2,q3,q4,q5⟩:=hG.ob id _ hσ;rw [q1]at hx;injection hx with hx;subst hx
  refine .fset _ _ _ b es cl (.inr ⟨id,_,by rw [hσ];simp,q1,rfl⟩) q4 q5.1 fun k hks=> ?_;rw [<-(hk k hks).1];cases hm:aR k es.toList with
  |none=>rw [q5.2.2.1 k hks hm];exact⟨rfl,fun y h=>by cases h⟩
  |some y=>
   obtain⟨u,hu,hr⟩:=q5.2.1 k y hks hm;rw [hu];refine⟨rfl,fun y' h=> ?_⟩;injection h with h;subst h;rcases(hk k hks).2 u hu with rfl |rfl;·obtain⟨xs,rfl,hx⟩:=hr.eU;have:xs.toList=[]:=List.eq_nil_of_length_eq_zero hx.1.symm;rw [show xs= #[]from by simpa using this]
   ·exact hr.aN
theorem GF{tm:Nat->V}{σ:Nat->Option Ob}{nx:Nat}{tl:List (Nat×V)}(h:m7 (fun p=>Fz σ (tm p.1) p.2) tl):Le ⟨tm,σ,nx⟩ ⟨gF tl,eL [],nx⟩:=by
 intro P N C a w ⟨L,ρ,g⟩;have ex:Ext w L ρ w (fun b=>L b\/u9 σ ρ b) ρ:=⟨fun b hb=>⟨.inl hb,rfl⟩,fun _ _ h=>h⟩;have hlt:∀b,u9 σ ρ b->b< w.heap.size/\C.W b/\¬L b/\w.heap[b]?≠some (.deferred (some [])):=by
  rintro b ⟨id,x,hs,hx,hb⟩;cases ho:σ id with
  |none=>exact absurd ho hs
  |some o=>
   obtain⟨y,hy,hl⟩:=(g.g.ob id o ho).lt;rw [hx]at hy;injection hy with hy;subst hy
   exact⟨(hl b hb).1,(hl b hb).2.1,(hl b hb).2.2,(g.g.ob id o ho).gv hx hb⟩
 refine⟨fun b=>L b\/u9 σ ρ b,ρ,⟨⟨fun b hb=> ?_,g.g.new,fun id o ho=>(by cases ho),fun i j x y k hij hi=>absurd rfl hi,g.g.tN ex⟩,g.fr,fun t=> ?_,g.size,?_,g.pin⟩⟩
 ·rcases hb with hb |hb;·exact g.g.ll b hb
  ·exact⟨(hlt b hb).1,C.wl b (hlt b hb).2.1⟩
 ·have key:∀tl:List (Nat×V),m7 (fun p=>Fz σ (tm p.1) p.2) tl->R w (fun b=>L b\/u9 σ ρ b) ρ (gF tl t) (a.tmps.getD t undef):=by
   intro tl;induction tl with
   |nil=>intro _;exact .any _ _
   |cons p tl ih=>
    intro h;show R w _ ρ (bL (gF tl) p.1 p.2 t) _;obtain⟨h1,h2⟩:=h;by_cases ht:t=p.1;·subst ht;rw [ak];exact(R.Qr g.g h1 _ (g.tm p.1)).Mv
    ·rw [ah _ _ ht];exact ih h2
  exact key tl h
 ·obtain⟨Ds,h4,h5,h6⟩:=g.defers;refine⟨Ds,h4,h5,fun D hD=> ?_⟩;obtain⟨h7,h8,h9⟩:=h6 D hD;refine⟨h7,h8,?_⟩;rintro(hL |hL);·exact h9 hL
  ·exact(hlt D hL).2.2.2 h7
def yI(pre:List (Nat×Ob))(id:Nat):Option Ob:=(pre.find? (·.1 == id)).map (·.2)
theorem Hh{pre:List (Nat×Ob)}{id:Nat}{o:Ob}(h:yI pre id=some o):(id,o)∈pre:=by
 unfold yI at h;cases hf:pre.find? (·.1 == id)with
 |none=>rw [hf]at h;cases h
 |some p=>rw [hf]at h;injection h with h;have h1:=List.find?_some hf;have h2:=List.mem_of_find?_eq_some hf;obtain⟨a,b⟩:=p;simp only [beq_iff_eq]at h1;subst h1 h;exact h2
theorem Jm(g:Nat->Nat){u:V}(h:u.BW=true):u.bD g=u:=by cases u <;> first |rfl |simp [V.BW]at h
theorem yO(g:Nat->Nat):∀ {l:List V},(∀u∈l,u.BW=true)->V.aS g l=l
 | [],_=>rfl
 |u::l,h=>by rw [V.aS,Jm g (h u (by simp)),yO g fun v hv=>h v (by simp [hv])]
theorem Ap(g:Nat->Nat){o:Ob}(h:o.BW){id:Nat}{W L:Nat->Prop}{w:World}{ρ:Nat->Option Value}:Real W w L ρ id (o.bD g)<->Real W w L ρ id o:=by
 cases o with
 |row e sz n r=>have hr:∀i,i< n->V.aS g (r i)=r i:=fun i hi=>yO g (h i hi);exact⟨fun k=>k.eq ⟨rfl,rfl,rfl,hr⟩,fun k=>k.eq ⟨rfl,rfl,rfl,fun i hi=>(hr i hi).symm⟩⟩
 |_=>exact h.elim
section
variable {P:Program}{W LB:Nat->Prop}{d:Option Tmp}{ty:TypeId}{pos:String}{af:Array Edge}{gd:Option (Nat×Bool)}{ev:Operand->V}
theorem Ff{fo:Operand}{ar:Array Operand}{ats:Array TypeId}{f:FuncId}{first caps args args':List V}{v:V}{obs:List Ob}(hc:AC P f args' v obs)(hf:ev fo= .fn (.func f) first caps)(hargs:first++ar.toList.map ev++caps=args)(pre:List (Nat×Ob)) (hl:args'.length=args.length) (hfz:∀(i:Nat) u u',args[i]?=some u->args'[i]?=some u'->Fz (yI pre) u u') (hv:v.rK (List.range obs.length)=true) (hC:∀o∈obs,o.BW) (nx:Nat) (hd:d.all (fun t=>decide (t< 1000))=true) (hobs:obs.length<=90) : aU P W LB ⟨d,.call {callee:= .value fo,args:=ar,argTypes:=ats},ty,pos,af,gd⟩ ev (v.bD (ay nx d)) pre ((List.range obs.length).map (ay nx d)) (cj (ay nx d) 0 obs):=by
 intro σ w L ρ g hG hr hpre hnew;have h1:=hr fo (by simp [Op.operands,Call.operands]);rw [hf]at h1;obtain⟨xs,ys,e1,hx,hy⟩:=h1.kP;have hz:RV w L ρ (ar.toList.map ev) (ar.map g).toList:=by refine⟨by simp,fun i u x hu hx=> ?_⟩;simp only [List.getElem?_map,Option.map_eq_some_iff,Array.toList_map]at hu hx;obtain⟨p,hp,rfl⟩:=hu;obtain⟨q,hq,rfl⟩:=hx;rw [hp]at hq;injection hq with hq;subst hq;exact hr p (by simp only [Op.operands,Call.operands];have:=List.mem_of_getElem? hp;simp at this ⊢;exact .inr this)
 have hsub:∀id o,yI pre id=some o->σ id=some o:=fun id o h=>hpre _ (Hh h);have hrv:RV w (fun b=>L b\/u9 σ ρ b) ρ0 args' (xs++ar.map g++ys).toList:=by
  have h2:=(hx.append hz).append hy;rw [hargs]at h2;have h3:RV w L ρ args (xs++ar.map g++ys).toList:=by simpa using h2
  refine⟨by rw [hl];exact h3.1,fun i u' x hu' hx=> ?_⟩;have hi:i< args.length:=by rw [<-hl];exact(List.getElem?_eq_some_iff.1 hu').1
  have hu:=List.getElem?_eq_getElem hi;exact R.Qr hG ((hfz i _ u' hu hu').mono hsub) x (h3.2 i _ x hu hx)
 have hrun:(execOp g ⟨d,.call {callee:= .value fo,args:=ar,argTypes:=ats},ty,pos,af,gd⟩).run P w= .ok (.enter f (xs++ar.map g++ys)) w:=by simp [execOp,resolve,Deferred.ofValue,invoke,e1,hc.1]
 have ex0:Ext w L ρ w (fun b=>L b\/u9 σ ρ b) ρ:=⟨fun b hb=>⟨.inl hb,rfl⟩,fun _ _ h=>h⟩;refine bk.enter rfl hrun ((hc.2 (fun b=>L b\/u9 σ ρ b) w _ (fun b hb=> ?_) (hG.tN ex0) hrv).mono ?_)
 ·rcases hb with hb | ⟨id,x,hs,hx,hb⟩;·exact(hG.ll b hb).1
  ·cases ho:σ id with
   |none=>exact absurd ho hs
   |some o=>
    obtain⟨y,hy,hlt⟩:=(hG.ob id o ho).lt;rw [hx]at hy;injection hy with hy;subst hy
    exact(hlt b hb).1
 rintro e w' ⟨x,rfl,hb,L',ρ',hG',hL',hv',hn⟩;obtain⟨D,hD,hd'⟩:∃D:Nat,d.getD 0=D/\D< 1000:=⟨_,rfl,by cases d with |none=>decide |some t=>simpa using hd⟩;have ginj:∀i j,ay nx d i=ay nx d j->i=j:=fun i j h=>by unfold ay at h;rw [hD]at h;omega
 obtain⟨ρ2,hρ2⟩:∃ρ2:Nat->Option Value,ρ2=fun id=>if id∈(List.range obs.length).map (ay nx d)then ρ' ((id- nx*100000) / 1000)else ρ id:=⟨_,rfl⟩
 have hgi:∀j,j< obs.length->ρ2 (ay nx d j)=ρ' j:=by
  intro j hj;have:(ay nx d j- nx*100000) / 1000=j:=by unfold ay;rw [hD];omega
  rw [hρ2];simp only;rw [if_pos (List.mem_map.2 ⟨j,by simpa using hj,rfl⟩),this]
 have hon:∀j y,ρ' j=some y->ρ2 (ay nx d j)=some y:=by
  intro j y hy;by_cases hj:j< obs.length;·rw [hgi j hj];exact hy
  ·rw [hn j oM]at hy;cases hy
 have hout:∀id,id∉(List.range obs.length).map (ay nx d)->ρ2 id=ρ id:=by intro id hid;rw [hρ2];simp only;rw [if_neg hid]
 have ex:Ext w L ρ w' L ρ2:=by refine⟨fun b hbL=>⟨hbL,hb.block b (hG.ll b hbL).1⟩,fun id y hy=> ?_⟩;rw [hout id (fun hc=>by rw [hnew id hc]at hy;cases hy)];exact hy
 have hobj:∀j ob,obs[j]?=some ob->Real W w' L ρ2 (ay nx d j) (ob.bD (ay nx d))/\∀y k,ρ2 (ay nx d j)=some y->blk y=some k->w.heap.size<=k:=by
  intro j ob ho;have hjl:=(List.getElem?_eq_some_iff.1 ho).1;have hr:=hG'.ob j ob (show mV obs j=some ob from ho);have hc:=hC ob (List.mem_of_getElem? ho);refine⟨(Ap _ hc).2 ?_,fun y k hy hk=> ?_⟩
  ·cases ob with
   |row t z m r=>
    obtain⟨y,xs,q1,q2,q3,q4,q5⟩:=hr;refine⟨y,xs,by rw [hgi j hjl];exact q1,q2,q3,q4.Qx fun u hu=> ?_,fun k hk=>⟨(hG.new k (q5 k hk).1).1,fun hL=>by have:=(hG.ll k hL).1;have:=(q5 k hk).1;omega⟩⟩;obtain⟨l,hl,hul⟩:=List.mem_flatten.1 hu;obtain⟨i,hi,rfl⟩:=List.mem_iff_getElem.1 hl;have hi':i< m:=by simpa [b8]using hi
    have:=bK (row:=r) hi';rw [List.getElem?_eq_getElem hi]at this;injection this with this;rw [this]at hul;exact hc i hi' u hul
   |_=>exact hc.elim
  ·rw [hgi j hjl]at hy;obtain⟨y',hy',hlt⟩:=hr.lt;rw [hy]at hy';injection hy' with hy';subst hy'
   exact(hlt k hk).2.1
 refine⟨x,rfl,L,ρ2,⟨fun b hbl=>⟨Nat.lt_of_lt_of_le (hG.ll b hbl).1 hb.size,(hG.ll b hbl).2⟩,fun b hbs=>hG.new b (Nat.le_trans hb.size hbs),fun id o ho=> ?_,?_,hG.tN ex⟩,ng _ hon (hv'.rK hv fun _ _ _ h=>h),aZ.gw hb fun k _ hk=>(hG.new k hk).1,ex,fun id hid=>hout id hid,dM.below hb fun b hbl=> .inl hbl⟩
 ·rcases kL _ ginj obs 0 σ id o ho with⟨j,ob,h1,h2,h3⟩ | ⟨h1,h2⟩;·subst h2 h3;rw [Nat.zero_add];exact(hobj j ob h1).1
  ·have hk:=hG.ob id o h1;refine hk.keep ex fun y k hy hk2=> ?_;obtain⟨y',hy',hlt⟩:=hk.lt;rw [hy]at hy';injection hy' with hy';subst hy'
   obtain⟨l1,l2,l3⟩:=hlt k hk2;exact⟨hb.block k l1,l3⟩
 ·intro i j y z k hij hi hj hyi hzj hk hkz;have cases':∀i,bG σ (cj (ay nx d) 0 obs) i≠none->(∃q ob,obs[q]?=some ob/\i=ay nx d q)\/(σ i≠none/\∀q,q< obs.length->i≠ay nx d q):=by
   intro i hi;cases ho:bG σ (cj (ay nx d) 0 obs) i with
   |none=>exact absurd ho hi
   |some o=>
    rcases kL _ ginj obs 0 σ i o ho with⟨q,ob,h1,h2,h3⟩ | ⟨h1,h2⟩;·exact .inl ⟨q,ob,h1,by rw [h2,Nat.zero_add]⟩
    ·exact .inr ⟨by rw [h1];simp,fun q hq=>by have:=h2 q hq;rwa [Nat.zero_add]at this⟩
  have notin:∀i,(∀q,q< obs.length->i≠ay nx d q)->i∉(List.range obs.length).map (ay nx d):=by intro i h hc;obtain⟨q,hq,rfl⟩:=List.mem_map.1 hc;exact h q (by simpa using hq) rfl
  have oldb:∀i y k,σ i≠none->(∀q,q< obs.length->i≠ay nx d q)->ρ2 i=some y->blk y=some k->k< w.heap.size:=by
   intro i y k hs hq hy hk;rw [hout i (notin i hq)]at hy;cases ho:σ i with
   |none=>exact absurd ho hs
   |some o=>
    obtain⟨y',hy',hlt⟩:=(hG.ob i o ho).lt;rw [hy]at hy';injection hy' with hy';subst hy'
    exact(hlt k hk).1
  rcases cases' i hi with⟨q,ob,h1,rfl⟩ | ⟨h1,h2⟩
  ·rcases cases' j hj with⟨q',ob',h1',rfl⟩ | ⟨h1',h2'⟩;·rw [hgi q (List.getElem?_eq_some_iff.1 h1).1]at hyi;rw [hgi q' (List.getElem?_eq_some_iff.1 h1').1]at hzj;exact hG'.sep q q' y z k (fun e=>hij (by rw [e])) (by simp [mV,h1]) (by simp [mV,h1']) hyi hzj hk hkz
   ·have a1:=(hobj q ob h1).2 y k hyi hk;have a2:=oldb j z k h1' h2' hzj hkz;omega
  ·rcases cases' j hj with⟨q',ob',h1',rfl⟩ | ⟨h1',h2'⟩;·have a1:=(hobj q' ob' h1').2 z k hzj hkz;have a2:=oldb i y k h1 h2 hyi hk;omega
   ·rw [hout i (notin i h2)]at hyi;rw [hout j (notin j h2')]at hzj;exact hG.sep i j y z k hij h1 h1' hyi hzj hk hkz
end
def dj(q k:Nat)(x:Nat->Value)(i:Nat):List V:=[.alt (decide (i=k)) (.ref q 0) (.c (x i))]
def qu(q k n p:Nat)(x:Nat->Value)(i:Nat):List V:=[.alt (decide (i< n)) (.alt (decide (i=k)) (.ref q 0) (.c (x i))) (.ref p 0)]
def bW(x:Nat->Value)(i:Nat):List V:=[.c (x i)]
def A0(n p:Nat)(x:Nat->Value)(i:Nat):List V:=[.alt (decide (i< n)) (.c (x i)) (.ref p 0)]
theorem R.BA{w:World}{L:Nat->Prop}{ρ:Nat->Option Value}{b:Bool}{u v:V}{x:Value}(h:R w L ρ (.alt b u v) x)(hb:b=true):R w L ρ u x:=by
 cases h with
 |alt _ _ _ _ _ h _=>exact h hb
theorem R.Ks{w:World}{L:Nat->Prop}{ρ:Nat->Option Value}{b:Bool}{u v:V}{x:Value}(h:R w L ρ (.alt b u v) x)(hb:b=false):R w L ρ v x:=by
 cases h with
 |alt _ _ _ _ _ _ h=>exact h hb
theorem aU.imp{P:Program}{W LB:Nat->Prop}{o:Oper}{ev:Operand->V}{v v':V}{pre:List (Nat×Ob)}{nw:List Nat}{δ:List (Nat×Option Ob)}(h:aU P W LB o ev v pre nw δ)(hv:∀w L ρ x,R w L ρ v x->R w L ρ v' x):aU P W LB o ev v' pre nw δ:= fun σ w L ρ g hG hr hp hn=>(h σ w L ρ g hG hr hp hn).mono fun x w' ⟨L',ρ',h1,h2,h3⟩=>⟨L',ρ',h1,hv _ _ _ _ h2,h3⟩
def aQ(has:Int->Bool):MF:=⟨[],fun k=>match k with | .i n=>if has n then some (.agg #[])else none | .s _=>none⟩
theorem cP(has:Int->Bool)(n:Int):(aQ has).look (.i n)=if has n then some (.c (.agg #[]))else none:=by show Option.map V.c (if has n then some (Value.agg #[])else none)=_;split <;> rfl
theorem ff(has:Int->Bool)(n:Int):((aQ has).look (.i n)).isSome=has n:=by rw [cP];cases has n <;> rfl
theorem Real.aQ{W L:Nat->Prop}{w:World}{ρ:Nat->Option Value}{id n:Nat}{f:MF}{has:Int->Bool}(h:Real W w L ρ id (.mp (false,n) f))(hh:∀k,(f.look (.i k)).isSome=has k)(hu:∀k u,f.look k=some u->u= .agg []\/u= .c (.agg #[])) : Real W w L ρ id (.mp (false,n) (Ab.aQ has)):=by
 obtain⟨b,es,cl,q1,q2,q3,q4,q5⟩:=h;refine⟨b,es,cl,q1,q2,q3,q4,q5.1,fun k x hk hx=> ?_,fun k hk hx=> ?_,q5.2.2.2⟩
 ·obtain⟨u,hu1,hr⟩:=q5.2.1 k x hk hx;obtain⟨m,rfl⟩:∃m,k= .i m:=by
   cases k with
   |i m=>exact⟨m,rfl⟩
   |s s=>cases hk
  have h1:=hh m;rw [hu1]at h1;refine⟨.c (.agg #[]),by rw [cP,<-h1];rfl,?_⟩;have hx0:x= .agg #[]:=by
   rcases hu _ u hu1 with rfl |rfl;·obtain⟨xs,rfl,hxl⟩:=hr.eU;have:=hxl.1;simp at this;rw [show xs= #[]from by simpa using this.symm]
   ·exact hr.aN
  rw [hx0];exact .c _ _
 ·obtain⟨m,rfl⟩:∃m,k= .i m:=by
   cases k with
   |i m=>exact⟨m,rfl⟩
   |s s=>cases hk
  have h1:=hh m;rw [q5.2.2.1 _ hk hx]at h1;rw [cP,<-h1];rfl
theorem Le.bL{s:S}(id:Nat){o o':Ob}(hσ:s.σ id=some o)(h:∀ {W L:Nat->Prop}{w:World}{ρ:Nat->Option Value},Real W w L ρ id o->Real W w L ρ id o'):Le s ⟨s.tm,Ab.bL s.σ id (some o'),s.nx⟩:=by
  intro P N C a w ⟨L,ρ,g⟩
  refine⟨L,ρ,⟨⟨g.g.ll,g.g.new,fun id' o1 (ho:Ab.bL s.σ id (some o') id'=some o1)=> ?_,fun i j x y k hij hi hj=>g.g.sep i j x y k hij ?_ ?_,g.g.gl⟩,g.fr,g.tm,g.size,g.defers,g.pin⟩⟩
  · by_cases he:id'=id
    · subst he
      rw [ak]at ho;injection ho with ho;subst ho
      exact h (g.g.ob _ _ hσ)
    · rw [ah _ _ he]at ho;exact g.g.ob _ _ ho
  · intro hc
    refine hi ?_
    show Ab.bL s.σ id (some o') i=none
    by_cases he:i=id
    · subst he;rw [hσ]at hc;cases hc
    · rw [ah _ _ he];exact hc
  · intro hc
    refine hj ?_
    show Ab.bL s.σ id (some o') j=none
    by_cases he:j=id
    · subst he;rw [hσ]at hc;cases hc
    · rw [ah _ _ he];exact hc
theorem qG{tm:Nat->V}{σ:Nat->Option Ob}{nx:Nat}(id:Nat){n:Nat}{f:MF}{has:Int->Bool}(hσ:σ id=some (.mp (false,n) f))(hh:∀k,(f.look (.i k)).isSome=has k)(hu:∀k u,f.look k=some u->u= .agg []\/u= .c (.agg #[])) : Le ⟨tm,σ,nx⟩ ⟨tm,Ab.bL σ id (some (.mp (false,n) (aQ has))),nx⟩:=Le.bL (s:=⟨tm,σ,nx⟩) id hσ fun h=>h.aQ hh hu
theorem Real.MJ{W L:Nat->Prop}{w:World}{ρ:Nat->Option Value}{id:Nat}{e:TypeId}{sz n:Nat}{r:Nat->List V}(h:Real W w L ρ id (.row e sz n r)):Real W w L ρ id (.row e sz n fun _=>List.replicate sz .any):=by
 obtain⟨v,xs,q1,q2,q3,q4,q5⟩:=h;refine⟨v,xs,q1,q2,fun i _=>by simp,⟨?_,fun i u x hu hx=> ?_⟩,q5⟩
 ·rw [<-q4.1];have key:∀(l:List Nat) (f g:Nat->List V),(∀i∈l,(f i).length=(g i).length)->((l.map f).flatten).length=((l.map g).flatten).length:=by
   intro l f g;induction l with
   |nil=>intro _;rfl
   |cons a l ih=>intro h;simp only [List.map_cons,List.flatten_cons,List.length_append,h a (by simp),ih fun i hi=>h i (by simp [hi])]
  exact key _ _ _ fun i hi=>by rw [q3 i (by simpa using hi)];simp
 ·have hu2:u= .any:=by obtain⟨l,hl,hul⟩:=List.mem_flatten.1 (List.mem_of_getElem? hu);simp only [aE,List.mem_map]at hl;obtain⟨_,_,rfl⟩:=hl;exact(List.mem_replicate.1 hul).2
  subst hu2;exact⟨.any _ _,q4.one x (List.mem_of_getElem? hx)⟩
theorem gZ{tm:Nat->V}{σ:Nat->Option Ob}{nx:Nat}(id:Nat){e:TypeId}{sz n:Nat}{r:Nat->List V}(hσ:σ id=some (.row e sz n r)):Le ⟨tm,σ,nx⟩ ⟨tm,Ab.bL σ id (some (.row e sz n fun _=>List.replicate sz .any)),nx⟩:=Le.bL (s:=⟨tm,σ,nx⟩) id hσ fun h=>h.MJ
theorem pX{k:MK}:∀ {es:List MapEntry}{j i:Nat}{v:Value},mpos k es j=some (i,v)->jY k.str es->(es.map (·.key)).Nodup->∀q:MK,q.str=k.str->
    aR q (es.eraseIdx (i- j))=if q=k then none else aR q es
  | [],j,i,v,h,_,_,_,_=>by simp [mpos]at h
  |e::es,j,i,v,h,hk,hn,q,hq=>by
    obtain⟨p,hp,he⟩:=hk e (by simp)
    rw [List.map_cons,List.nodup_cons]at hn
    have hk2:jY k.str es:=fun e' he'=>hk e' (by simp [he'])
    rw [mpos]at h
    by_cases hb:k.is e.key=true
    · rw [if_pos hb]at h
      simp at h
      obtain⟨rfl,rfl⟩:=h
      rw [Nat.sub_self,List.eraseIdx_zero,List.tail_cons,aR]
      have hkp:k=p:=by
        rw [he,MK.i4 k p hp.symm]at hb
        exact of_decide_eq_true hb
      by_cases hqk:q=k
      · rw [if_pos hqk]
        subst hqk
        cases hm:aR q es with
        |none=>rfl
        |some y=>
          exfalso
          have:∀(l:List MapEntry),jY q.str l->aR q l=some y->∃e'∈l,e'.key=q.val:=by
            intro l
            induction l with
            |nil=>intro _ h;simp [aR]at h
            |cons a l ih=>
              intro hkl h
              rw [aR]at h
              split at h
              · rename_i hi
                obtain⟨p',hp',he'⟩:=hkl a (by simp)
                rw [he',MK.i4 q p' hp'.symm]at hi
                have:=of_decide_eq_true hi
                exact⟨a,by simp,by rw [he',this]⟩
              · obtain⟨e',h1,h2⟩:=ih (fun x hx=>hkl x (by simp [hx])) h
                exact⟨e',by simp [h1],h2⟩
          obtain⟨e',h1,h2⟩:=this es hk2 hm
          exact hn.1 (List.mem_map.2 ⟨e',h1,by rw [h2,he,<-hkp]⟩)
      · rw [if_neg hqk,he,MK.i4 q p (by rw [hq,hp]),if_neg (by rw [<-hkp];simpa using hqk)]
    · rw [if_neg hb]at h
      obtain⟨h1,_⟩:=nP h
      have e1:i- j=(i- (j+1))+1:=by omega
      rw [e1,List.eraseIdx_cons_succ,aR,aR,pX h hk2 hn.2 q hq]
      by_cases hqk:q=k
      · subst hqk;simp [hb]
      · simp only [if_neg hqk]
theorem i7{α β:Type}(f:α->β):∀(l:List α) (i:Nat),(l.eraseIdx i).map f=(l.map f).eraseIdx i
 | [],_=>rfl
 |a::l,0=>rfl
 |a::l,i+1=>by rw [List.eraseIdx_cons_succ,List.map_cons,List.map_cons,List.eraseIdx_cons_succ,i7 f l i]
theorem k9{α:Type}{l:List α}(h:l.Nodup)(i:Nat):(l.eraseIdx i).Nodup:=h.sublist (List.eraseIdx_sublist l i)
def iA(has:Int->Bool)(k:Int)(n:Int):Bool:=has n && !decide (n=k)
section
variable {P:Program}{W LB:Nat->Prop}{d:Option Tmp}{ty:TypeId}{pos:String}{af:Array Edge}{gd:Option (Nat×Bool)}{ev:Operand->V}
theorem C0(t kt:TypeId)(m k:Operand){id n:Nat}{has:Int->Bool}{key:Int}{et:TypeId}(hm:ev m= .own id)(hk:ev k= .i key)(ht:tR P t false et) :
    aU P W LB ⟨d,.call {callee:= .builtin .delete,args:= #[m,k],argTypes:= #[t,kt]},ty,pos,af,gd⟩ ev .any [(id,.mp (false,n) (aQ has))] [] [(id,some (.mp (false,if has key then n- 1 else n) (aQ (iA has key))))]:=by
  intro σ w L ρ g hG hr hpre _
  have hσ:=hpre _ (List.mem_singleton.2 rfl)
  have r1:=hr m (by simp [Op.operands,Call.operands])
  have r2:=hr k (by simp [Op.operands,Call.operands])
  rw [hm]at r1
  rw [hk]at r2
  obtain⟨b,es,cl,hρ,hW,hL,hh,hrel⟩:=hG.ob id _ hσ
  have e1:=r1.cX
  rw [hρ]at e1;injection e1 with e1
  have e2:=r2.aN
  obtain⟨kt',kd,h1,h2,hd⟩:=ht
  obtain⟨v1,v2,v3⟩:=hrel.2.2.2.2
  have hks:jY (MK.i key).str es.toList:=hrel.1
  have hfk:=run_findKey (P:=P) (w:=w) (k:= .i key) h2 hd hks
  have hck:=run_checkKey (P:=P) (w:=w) (k:= .i key) es.isEmpty h2 hd
  have hch:∀k,some b=some k->W k/\¬L k:=by rintro k hk;injection hk with hk;subst hk;exact⟨hW,hL⟩
  have hlen:es.toList.length=n:=hrel.2.2.2.1
  have hhas:(aR (.i key) es.toList).isSome=has key:=by
    rw [<-ff has key]
    cases hm:aR (.i key) es.toList with
    |none=>rw [hrel.2.2.1 (.i key) rfl hm];rfl
    |some y=>obtain⟨u',hu',_⟩:=hrel.2.1 (.i key) y rfl hm;rw [hu'];rfl
  obtain⟨es',hrun,hrel'⟩:∃es':Array MapEntry,(Builtin.delete_ #[t,kt] ty #[.map (some b),.int .i64 key]).run P w= .ok (.tuple #[]) (ChangeMaps.setBlock w b (.map es' cl))/\
      kA (R w L ρ) (false,if has key then n- 1 else n) (aQ (iA has key)).look es'.toList cl:=by
    cases hp:mpos (.i key) es.toList 0 with
    |none=>
      have hf:aR (.i key) es.toList=none:=by rw [<-g9 (.i key) es.toList 0,hp];rfl
      rw [hf]at hhas
      have hno:has key=false:=hhas.symm
      refine⟨es,?_,?_⟩
      · rw [hp]at hfk
        have hfk':(Instr.findKey kt' (.int .i64 key) es.toList).run P w= .ok none w:=hfk
        have hck':(Instr.checkKey es.isEmpty 10000 kt' (.int .i64 key)).run P w= .ok () w:=hck
        simp [Builtin.delete_,aA h1,MapKept.run_getObj_map hh,hck',hfk',MapKept.run_setObj_map _ hh,Result.andThen,ChangeMaps.setBlock]
      · rw [hno]
        have e:iA has key=has:=funext fun q=>by
          unfold iA
          by_cases hq:q=key
          · subst hq;rw [hno];rfl
          · simp [hq]
        rw [e];exact hrel
    |some p=>
      obtain⟨i,v⟩:=p
      obtain⟨_,e,he,_⟩:=nP hp
      have hil:i< es.toList.length:=by rw [Nat.sub_zero]at he;exact(List.getElem?_eq_some_iff.1 he).1
      have hf:aR (.i key) es.toList=some v:=by rw [<-g9 (.i key) es.toList 0,hp];rfl
      rw [hf]at hhas
      have hyes:has key=true:=hhas.symm
      have hme:=fun q hq=>pX hp hks v1 q hq
      rw [Nat.sub_zero]at hme
      have hto:(es.eraseIdxIfInBounds i).toList=es.toList.eraseIdx i:=by simp
      refine⟨es.eraseIdxIfInBounds i,?_,?_⟩
      · rw [hp]at hfk
        have hfk':(Instr.findKey kt' (.int .i64 key) es.toList).run P w= .ok (some (i,v)) w:=hfk
        have hck':(Instr.checkKey es.isEmpty 10000 kt' (.int .i64 key)).run P w= .ok () w:=hck
        simp [Builtin.delete_,aA h1,MapKept.run_getObj_map hh,hck',hfk',MapKept.run_setObj_map _ hh,Result.andThen,ChangeMaps.setBlock]
      · rw [hyes,hto]
        refine⟨fun e' he'=>hrel.1 e' (List.mem_of_mem_eraseIdx he'),fun q x hq hx=> ?_,fun q hq hx=> ?_,?_,?_,?_,fun e' he'=>v3 e' (List.mem_of_mem_eraseIdx he')⟩
        · rw [hme q hq]at hx
          by_cases hqk:q= .i key
          · rw [if_pos hqk]at hx;cases hx
          · rw [if_neg hqk]at hx
            obtain⟨u,hu,hr⟩:=hrel.2.1 q x hq hx
            refine⟨u,?_,hr⟩
            cases q with
            |s s=>cases hq
            |i m=>
              have hmk:¬m=key:=fun h=>hqk (by rw [h])
              rw [cP]at hu ⊢
              rw [show iA has key m=has m by simp [iA,hmk]]
              exact hu
        · rw [hme q hq]at hx
          cases q with
          |s s=>cases hq
          |i m=>
            rw [cP]
            by_cases hmk:m=key
            · rw [if_neg (by simp [iA,hmk])]
            · rw [if_neg (by simpa using hmk)]at hx
              have:=hrel.2.2.1 (.i m) rfl hx
              rw [cP]at this
              rw [show iA has key m=has m by simp [iA,hmk]]
              exact this
        · rw [if_pos rfl,List.length_eraseIdx_of_lt hil,hlen]
        · rw [i7];exact k9 v1 i
        · rw [i7];exact k9 v2 i
  have hgr:w.grownBy (ChangeMaps.setBlock w b (.map es' cl)) (some b):=World.mapTurned.grown ⟨es,cl,es',cl,hh,rfl⟩
  obtain⟨hG',ex⟩:=hG.put (σ1:=σ) (ρ':=ρ) hgr hch id _ (.mp (false,if has key then n- 1 else n) (aQ (iA has key)))
    (fun j ob hj ho=>⟨ho,fun z hz k hk hkz=>by
      injection hk with hk;subst hk
      exact hG.sep j id z _ b hj (by rw [ho];simp) (by rw [hσ];simp) hz hρ hkz rfl⟩) (fun _ _=>rfl) hρ (.inr hρ) (fun k hk=> .inl (by simpa [blk]using hk)) (fun ex=>
        ⟨b,es',cl,hρ,hW,hL,ChangeMaps.heap_setBlock_same hh _,hrel'.imp fun _ _ _ _ h=>h.ext ex⟩)
  refine bk.value rfl (v:= .tuple #[]) (w':=ChangeMaps.setBlock w b (.map es' cl)) ?_ ⟨L,ρ,hG',.any _ _,cB hgr hch,ex,fun _ _=>rfl,fun D hD=>⟨(hgr.block D (Array.getElem?_eq_some_iff.1 hD).1 fun e=> ?_).trans hD,fun h=>h⟩⟩
  · simp only [execOp,resolve,invoke,builtin,Call.args,Array.map,e2]
    have e0:g m= .map (some b):=e1.symm
    simp [e0,e2,hrun]
  · injection e with e;subst e;rw [hh]at hD;cases hD
end
end Go.Ab
