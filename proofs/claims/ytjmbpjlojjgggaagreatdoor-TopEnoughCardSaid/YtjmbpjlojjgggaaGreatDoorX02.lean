/-
  Several texts in one: Rows of one cell each, seen otherwise. No condition but those told in each theorem. .. A contract whose row is not written any more. No condition.
-/
import Derived.Maps.RangeRun
import Derived.Sort.LoopGhostIn
import Derived.RecoverIn
import Derived.Test.YtjmbpjlojjgggaaGreatDoorX01
import Derived.Test.YtjmbpjlojjgggaaGreatDoorMD
namespace Go.Ab
open Go.RowKit Go.Dw
theorem Ex:∀(n:Nat) (r:Nat->List V),(∀i,i< n->(r i).length=1)->((aB n r).flatten).length=n:=by intro n r h;have:=cn (bW (n:=n) (row:=r) h);rw [this,bJ,Nat.mul_one]
theorem Real.fC{W L:Nat->Prop}{w:World}{ρ:Nat->Option Value}{id:Nat}{e:TypeId}{n:Nat}{r r':Nat->List V}(h:Real W w L ρ id (.row e 1 n r)) (hr:∀i,i< n->∃u u',r i=[u]/\r' i=[u']/\∀x,R w L ρ u x->R w L ρ u' x):Real W w L ρ id (.row e 1 n r'):=by
 obtain⟨v,xs,q1,q2,q3,q4,q5⟩:=h;have l':∀i,i< n->(r' i).length=1:=fun i hi=>by obtain⟨u,u',_,h2,_⟩:=hr i hi;rw [h2];rfl
 have f1:=Ex n r q3;have f2:=Ex n r' l';refine⟨v,xs,q1,q2,l',⟨by rw [f2,<-f1];exact q4.1,fun i u' x hu hx=> ?_⟩,q5⟩;have hi:i< n:=by rw [<-f2];exact(List.getElem?_eq_some_iff.1 hu).1
 obtain⟨a,a',e1,e2,e3⟩:=hr i hi;have g':=flat_get (bW l') (bA (row:=r') hi) (show 0< 1 by decide);have g:=flat_get (bW q3) (bA (row:=r) hi) (show 0< 1 by decide);rw [Nat.mul_one,Nat.add_zero]at g g';rw [g',e2]at hu;rw [e1]at g;simp at hu;subst hu;obtain⟨k1,k2⟩:=q4.2 i a x (by rw [g];rfl) hx;exact⟨e3 x k1,k2⟩
theorem AF{tm:Nat->V}{σ:Nat->Option Ob}{nx:Nat}(id:Nat){e:TypeId}{n:Nat}{r r':Nat->List V}(hσ:σ id=some (.row e 1 n r))
 (hr:∀i,i< n->∃u u',r i=[u]/\r' i=[u']/\∀w L ρ x,R w L ρ u x->R w L ρ u' x):Le ⟨tm,σ,nx⟩ ⟨tm,Ab.bw σ id (some (.row e 1 n r')),nx⟩:=
 Le.bw (s:=⟨tm,σ,nx⟩) id hσ fun h=>h.fC fun i hi=>by obtain⟨u,u',h1,h2,h3⟩:=hr i hi;exact⟨u,u',h1,h2,fun x hx=>h3 _ _ _ x hx⟩
theorem R.DC{w:World}{L:Nat->Prop}{ρ:Nat->Option Value}{b:Bool}{u v:V}{x:Value}(hb:b=true)(h:R w L ρ u x):R w L ρ (.alt b u v) x:= .alt _ _ _ _ _ (fun _=>h) fun h2=>by rw [hb]at h2;cases h2
theorem R.DD{w:World}{L:Nat->Prop}{ρ:Nat->Option Value}{b:Bool}{u v:V}{x:Value}(hb:b=false)(h:R w L ρ v x):R w L ρ (.alt b u v) x:= .alt _ _ _ _ _ (fun h2=>by rw [hb]at h2;cases h2) fun _=>h
theorem FU{n i:Nat}{c:Nat->V}{p:V}(r:Nat->List V)(h1:∀i,i< n->r i=[c i])(h2:r n=[p])(hi:i< n+1):∃u u',r i=[u]/\[V.alt (decide (i< n)) (c i) p]=[u']/\∀(w:World) (L:Nat->Prop) (ρ:Nat->Option Value) (x:Value),R w L ρ u x->R w L ρ u' x:=by
 by_cases h:i< n;·exact⟨c i,_,h1 i h,rfl,fun _ _ _ _ hx=> .DC (by simp [h]) hx⟩
 ·have e:i=n:=by omega
  subst e;exact⟨p,_,h2,rfl,fun _ _ _ _ hx=> .DD (by simp) hx⟩
theorem kL{has:Int->Bool}{n:Nat}:∀(k:MK) (u:V),(bE has).look k=some u->V.jN n u=true:=by
 intro k u h;cases k with
 |s b=>cases h
 |i m=>
  rw [eU]at h;split at h;·injection h with h;subst h;rfl
  ·cases h
theorem AM.res{P:Program}{f:FuncId}{args:List V}{ins:List Ob}{v v':V}{outs:List (Option Ob)}{obs:List Ob}(h:AM P f args ins v outs obs)(hv:∀w L ρ x,R w L ρ v x->R w L ρ v' x):AM P f args ins v' outs obs:= ⟨h.1,fun W LB L w ρ vs a b c d e=>(h.2 W LB L w ρ vs a b c d e).mono fun e' w' ⟨x,h1,h2,L',ρ',h3,h4,h5,h6⟩=>⟨x,h1,h2,L',ρ',h3,h4,hv _ _ _ _ h5,h6⟩⟩
theorem FX{has:Int->Bool}{q:Int}(k:Int):((⟨[(.i q,.agg [])],(bE has).rest⟩:MF).look (.i k)).isSome=(has k || decide (k=q)):=by
 show(gO _ _ _).isSome=_;by_cases h:k=q;·subst h;simp [gO]
 ·have h2:¬(MK.i k=MK.i q):=fun e=>h (by injection e);simp only [gO,if_neg h2];show((bE has).look (.i k)).isSome=_;rw [iC];simp [h]
theorem zJ{has:Int->Bool}{q:Int}:∀k u,(⟨[(.i q,.agg [])],(bE has).rest⟩:MF).look k=some u->u= .agg []\/u= .c (.agg #[]):=by
 intro k u h;by_cases h2:k=MK.i q
 ·have:(⟨[(.i q,.agg [])],(bE has).rest⟩:MF).look k=some (.agg []):=by show gO _ _ _=_;simp only [gO,if_pos h2]
  rw [this]at h;injection h with h;exact .inl h.symm
 ·have e:(⟨[(.i q,.agg [])],(bE has).rest⟩:MF).look k=(bE has).look k:=by show gO _ _ _=_;simp only [gO,if_neg h2];rfl
  rw [e]at h;cases k with
  |s b=>cases h
  |i m=>
   rw [eU]at h;split at h;·injection h with h;exact .inr h.symm
   ·cases h
def iQ(σ:Nat->Option Ob):List V->List V->Prop
 | [],[]=>True
 |u::us,u'::us'=>Fz σ u u'/\iQ σ us us'
 |_,_=>False
theorem iQ.get{σ:Nat->Option Ob}:∀ {l l':List V},iQ σ l l'->l'.length=l.length/\∀(i:Nat) u u',l[i]?=some u->l'[i]?=some u'->Fz σ u u'
 | [],[],_=>⟨rfl,fun i u u' h=>by simp at h⟩
 |u::us,u'::us',h=>by
  obtain⟨h1,h2⟩:=h;obtain⟨k1,k2⟩:=h2.get;refine⟨by simp [k1],fun i v v' hv hv'=> ?_⟩;cases i with
  |zero=>simp at hv hv';subst hv hv';exact h1
  |succ i=>simp at hv hv';exact k2 i v v' hv hv'
 | [],_::_,h=>h.elim
 |_::_,[],h=>h.elim
theorem Fz.refs{σ:Nat->Option Ob}{id:Nat}{t:TypeId}{cs cs':List V}(hσ:σ id=some (.box t cs))(h:iQ σ cs cs'):Fz σ (.ref id 0) (.ptr cs'):= .ref id 0 t cs cs' hσ (by rw [List.drop_zero,h.get.1];exact Nat.le_refl _) (by rw [List.drop_zero];exact h.get.2)
theorem Fz.rows{σ:Nat->Option Ob}{id:Nat}{e:TypeId}{sz n:Nat}{r r':Nat->List V}(hσ:σ id=some (.row e sz n r))(h:∀i,i< n->iQ σ (r i) (r' i)):Fz σ (.own id) (.sl sz n r'):= .own id e sz n r r' hσ (fun i hi=>(h i hi).get.1) fun i j u u' hi=>(h i hi).get.2 j u u'
theorem iQ.bM{σ:Nat->Option Ob}:∀ {l:List V},V.aP l=true->iQ σ l l
 | [],_=>trivial
 |u::us,h=>by simp only [V.aP,Bool.and_eq_true]at h;exact⟨.bM u h.1,iQ.bM h.2⟩
theorem iQ.append{σ:Nat->Option Ob}:∀ {a a' b b':List V},iQ σ a a'->iQ σ b b'->iQ σ (a++b) (a'++b')
 | [],[],_,_,_,k=>k
 |_::_,_::_,_,_,h,k=>⟨h.1,iQ.append h.2 k⟩
 | [],_::_,_,_,h,_=>h.elim
 |_::_,[],_,_,h,_=>h.elim
section
variable {P:Program}{N:Nat}{C:Cx P N}{ops:Array Oper}{nx:Nat}{os:List Oper}{tm:Nat->V}{σ:Nat->Option Ob}{ks:List (List Nat×List Nat)}{K:(Nat->V)->(Nat->Option Ob)->List (List Nat×List Nat)->Prop}{ty:TypeId}{pos:String}{af:Array Edge}
theorem bF{d:Nat}{fo:Operand}{ar:Array Operand}{ats:Array TypeId}{f:FuncId}{first caps args args':List V}{v:V}(pre:List (Nat×Ob))(hc:AC P f args' v [])(hf:ev tm fo= .fn (.func f) first caps) (hargs:first++ar.toList.map (ev tm)++caps=args) (hfz:iQ (oI pre) args args') (hd:decide (d< 1000)=true) (hv:v.om []=true) (hvr:v.aW (an nx (some d))=v) (hp:jJ (fun p=>σ p.1=some p.2) pre) (hk:aR C ops nx os (bw tm d v) σ (ks++[([],cU pre)]) K):aR C ops nx (⟨some d,.call {callee:= .value fo,args:=ar,argTypes:=ats},ty,pos,af,none⟩::os) tm σ ks K:=by obtain⟨hl,hfz⟩:=hfz.get;have h:=v5 (P:=P) (W:=C.W) (LB:=C.LB) (d:=some d) (ty:=ty) (pos:=pos) (af:=af) (gd:=none) (ats:=ats) hc hf hargs pre hl hfz hv (fun o ho=>by cases ho) nx (by simpa using hd) (by simp);rw [hvr]at h;refine cR rfl h hp.mem (fun _ h=>by cases h) ?_;rw [<-List.append_nil (cU pre)]at hk;exact hk
end
end Go.Ab

namespace Go.Dw
open Go.RowKit Go.Shelf
def IB(P:Program)(f:FuncId)(lb:Array Value)(n:Nat)(E:Nat->Array Value->World->Prop)(L:Nat->Prop)(w:World):Prop:= ∀(l:Nat) (J:Nat->Bool->(Nat->Prop)->World->Prop) (W:World),w.heap.size<=W.heap.size->(∀b,L b->W.heap[b]?=w.heap[b]?)->w.heap.size<=l->l< W.heap.size->
  (∀k g A W1 W2,J k g A W1->(∀b,A b->W.heap.size<=b/\b< W1.heap.size)->W.heap.size<=W1.heap.size->aI A W1 W2->J k g (fun b=>A b\/(W1.heap.size<=b/\b< W2.heap.size)) W2)->
  (∀k x A W1,k< n->E k x W1->(∀b,A b->W.heap.size<=b/\b< W1.heap.size)->W.heap.size<=W1.heap.size->J k true A W1->YieldAt Fence.wide 0 P l x W1 fun e W2=>∃b:Bool,e= .returned (.bool b)/\aI (fun i=>¬A i/\¬L i) W1 W2/\(b=true->J (k+1) true A W2)/\(b=false->J k false A W2))->
  J 0 true (fun _=>False) W->
  CallsIn Fence.wide 0 P f (#[.func (.yield l) #[] #[]]++lb) W fun e W'=>(∃v,e= .returned v)/\∃A:Nat->Prop,(∀b,A b->W.heap.size<=b)/\(J n true A W'\/∃k,k< n/\J k false A W')
def CW(R:Nat->Prop)(J:Nat->(Nat->Prop)->World->Prop)(Jx:Nat->Code->(Nat->Prop)->World->Prop)(k:Nat)(A:Nat->Prop)(W:World):Exit->Act->World->Prop
 | .normal,_,W'=>aI R W W'/\J (k+1) A W'
 | .ret,_,W'=>aI R W W'/\Jx k .ret A W'
 | .exit id,_,W'=>aI R W W'/\Jx k (.exit id) A W'
 | .goto t,_,W'=>aI R W W'/\Jx k (.goto t) A W'
 | .panic _,_,_=>False
 | .outgrown,_,_=>False
theorem Dd{P:Program}{g:Operand}{ps:Array Tmp}{assign body:Code}{Q:Exit->Act->World->Prop}{a:Act}{w:World}
    {gf:Nat}{lb:Array Value}(hg:a.eval g= .func (.func gf) #[] lb) (eg:∀args w,(callFunc gf args).run P w= .ok (.enter gf args) w)
    {n:Nat}{E:Nat->Array Value->World->Prop}{L:Nat->Prop}(hit:IB P gf lb n E L w) (hL:∀i,L i->i< w.heap.size) (hps:∀k x W,E k x W->x.size=ps.size)
    (J:Nat->(Nat->Prop)->World->Prop) (Jx:Nat->Code->(Nat->Prop)->World->Prop)
    (hJ:∀k A W1 W2,J k A W1->(∀b,A b->w.heap.size<=b)->aI A W1 W2->J k (fun b=>A b\/(W1.heap.size<=b/\b< W2.heap.size)) W2)
    (hJx:∀k c A W1 W2,Jx k c A W1->(∀b,A b->w.heap.size<=b)->aI A W1 W2->Jx k c (fun b=>A b\/(W1.heap.size<=b/\b< W2.heap.size)) W2) (h0:J 0 (fun _=>False) w)
    (hround:∀(l k:Nat) (x:Array Value) (A:Nat->Prop) (W:World),(w.heap.size<=l/\A l)->(∀b,A b->w.heap.size<=b/\b< W.heap.size)->k< n->E k x W->J k A W->
      assign.wpIn (Fence.wide.inRound l) 0 P (Exit.then (fun a₁ W1=>aI (fun i=>¬A i/\¬L i) W W1/\∀W2,aI (· =l) W1 W2->body.wpIn (Fence.wide.inRound l) 0 P (CW (fun i=>¬A i/\¬L i) J Jx k A W2) a₁ W2) (fun _ _ _=>False))
        {tmps:=(ps.zip x).foldl (fun t (p,v)=>t.setIfInBounds p v) a.tmps,defers:=[]} W)
    (hdone:∀(D:Nat) (A:Nat->Prop) (W:World),J n A W->(w.heap.size<=D/\A D)->(∀b,A b->w.heap.size<=b)->W.heap[D]?=some (.deferred (some []))->Q .normal {a with defers:={target:= .collected D,args:= #[]}::a.defers} W)
    (hstop:∀(D k:Nat) (c:Code) (A:Nat->Prop) (W:World),k< n->Jx k c A W->(w.heap.size<=D/\A D)->(∀b,A b->w.heap.size<=b)->W.heap[D]?=some (.deferred (some []))->c.wpIn Fence.wide 0 P Q {a with defers:={target:= .collected D,args:= #[]}::a.defers} W) :
    (Code.rangeFunc g ps assign body).wpIn Fence.wide 0 P Q a w:=by
  refine wpIn_rangeFunc ?_
  intro fn hfn
  obtain⟨rec,hrec⟩:∃rec:LoopState->Option Code->Loop,rec=fun st pe=>{state:=st,pending:=pe,fn,tmps:=a.tmps,params:=ps,assign,body,defers:=w.heap.size}:=⟨_,rfl⟩
  obtain⟨W1,hW1⟩:∃W1,(w.alloc (.deferred (some []))).alloc (.loop (rec .ready none))=W1:=⟨_,rfl⟩
  have hL1:W1.heap[w.heap.size+1]?=some (.loop (rec .ready none)):=by
    rw [<-hW1];have:=World.alloc_heap_new (w.alloc (.deferred (some []))) (.loop (rec .ready none));rwa [World.size_alloc]at this
  have hK1:W1.heap[w.heap.size]?=some (.deferred (some [])):=by
    rw [<-hW1];exact(Below.heap_alloc _ _ _ (by simp)).trans (World.alloc_heap_new w _)
  have hs1:W1.heap.size=w.heap.size+2:=by rw [<-hW1];simp
  have hb1:Below w.heap.size w W1:=by
    rw [<-hW1];exact((Below.refl _ w).alloc (Nat.le_refl _) _).alloc (by simp) _
  refine⟨w.heap.size+1,[{target:= .collected w.heap.size,args:= #[]}],W1,{target:= .fn (.func gf) lb,args:= #[.func (.yield (w.heap.size+1)) #[] #[]]},W1,gf,
    #[.func (.yield (w.heap.size+1)) #[] #[]]++lb,W1,?_,?_,fun _ _=>trivial,?_,fun h=>by simp [Fence.wide]at h,?_⟩
  · rw [<-hW1,hrec];exact run_enterLoop_outer _ _ _ _ _
  · simp only [resolve,hg]
    simp [go_sem]
  · simp [invoke,go_sem,eg]
  · -- the blocks of the loop itself count as the iterator's
    obtain⟨X,hX⟩:∃X:(Nat->Prop)->Nat->Prop,X=fun A b=>A b\/b=w.heap.size\/b=w.heap.size+1:=⟨_,rfl⟩
    have hXi:∀A b,X A b<->A b\/b=w.heap.size\/b=w.heap.size+1:=fun A b=>by rw [hX]
    have conv:∀(F:(Nat->Prop)->Prop) (A B:Nat->Prop),(∀b,A b<->B b)->F A->F B:=fun F A B h hF=>by rwa [show A=B from funext fun b=>propext (h b)]at hF
    have hJX:∀k A W1 W2,J k (X A) W1->(∀b,A b->W1.heap.size> b/\w.heap.size+2<=b)->w.heap.size+2<=W1.heap.size->aI A W1 W2->J k (X (fun b=>A b\/(W1.heap.size<=b/\b< W2.heap.size))) W2:=fun k A W1 W2 h hA hs ht=>
      conv (fun B=>J k B W2) _ _ (fun b=>by simp only [hXi];exact⟨fun h=>h.elim (fun h=>h.elim (fun a=> .inl (.inl a)) (fun e=> .inr e)) (fun n=> .inl (.inr n)),fun h=>h.elim (fun h=>h.elim (fun a=> .inl (.inl a)) (fun n=> .inr n)) (fun e=> .inl (.inr e))⟩) (hJ k (X A) W1 W2 h (fun b hb=>by rcases(hXi A b).1 hb with h |h |h;exact Nat.le_trans oM (hA b h).2;omega;omega) (ht.mono fun b _ h=>(hXi A b).2 (.inl h)))
    have hJxX:∀k c A W1 W2,Jx k c (X A) W1->(∀b,A b->W1.heap.size> b/\w.heap.size+2<=b)->w.heap.size+2<=W1.heap.size->aI A W1 W2->Jx k c (X (fun b=>A b\/(W1.heap.size<=b/\b< W2.heap.size))) W2:=fun k c A W1 W2 h hA hs ht=>
      conv (fun B=>Jx k c B W2) _ _ (fun b=>by simp only [hXi];exact⟨fun h=>h.elim (fun h=>h.elim (fun a=> .inl (.inl a)) (fun e=> .inr e)) (fun n=> .inl (.inr n)),fun h=>h.elim (fun h=>h.elim (fun a=> .inl (.inl a)) (fun n=> .inr n)) (fun e=> .inl (.inr e))⟩) (hJx k c (X A) W1 W2 h (fun b hb=>by rcases(hXi A b).1 hb with h |h |h;exact Nat.le_trans oM (hA b h).2;omega;omega) (ht.mono fun b _ h=>(hXi A b).2 (.inl h)))
    have hput:∀k A W5 o,J k (X A) W5->(∀b,A b->w.heap.size+2<=b)->J k (X A) (W5.putObj (w.heap.size+1) o):=fun k A W5 o h hA=>
      conv (fun B=>J k B _) _ _ (fun b=>⟨fun h=>h.elim id fun h=>by simp at h;omega,.inl⟩) (hJ k (X A) W5 _ h (fun b hb=>by rcases(hXi A b).1 hb with h |h |h;exact Nat.le_trans oM (hA b h);omega;omega) ((aI.refl _ _).putObj o fun _=>(hXi A _).2 (.inr (.inr rfl))))
    have hputx:∀k c A W5 o,Jx k c (X A) W5->(∀b,A b->w.heap.size+2<=b)->Jx k c (X A) (W5.putObj (w.heap.size+1) o):=fun k c A W5 o h hA=>
      conv (fun B=>Jx k c B _) _ _ (fun b=>⟨fun h=>h.elim id fun h=>by simp at h;omega,.inl⟩) (hJx k c (X A) W5 _ h (fun b hb=>by rcases(hXi A b).1 hb with h |h |h;exact Nat.le_trans oM (hA b h);omega;omega) ((aI.refl _ _).putObj o fun _=>(hXi A _).2 (.inr (.inr rfl))))
    have h01:J 0 (X fun _=>False) W1:=conv (fun B=>J 0 B W1) _ _ (fun b=>by simp only [hXi,hs1,false_or];constructor <;> (intro h;omega)) (hJ 0 (fun _=>False) w W1 h0 (fun _ h=>h.elim) (aI.gR hb1))
    refine(hit (w.heap.size+1)
      (fun k g A W=>W.heap[w.heap.size]?=some (.deferred (some []))/\(g=true->J k (X A) W/\W.heap[w.heap.size+1]?=some (.loop (rec .ready none)))/\(g=false->∃c,Jx k c (X A) W/\W.heap[w.heap.size+1]?=some (.loop (rec .done (some c)))))
      W1 oM (fun b hb=>hb1.block b (hL b hb)) oM oM
      (fun k g A B1 B2 h hA hs ht=>by
        obtain⟨q1,q2,q3⟩:=h
        have st:∀b,b< w.heap.size+2->B2.heap[b]?=B1.heap[b]?:=fun b hb=>ht.block b oM fun hc=>by have:=hA b hc;omega
        have hA':∀b,A b->B1.heap.size> b/\w.heap.size+2<=b:=fun b hb=>by have:=hA b hb;omega
        exact⟨(st _ oM).trans q1,fun e=>⟨hJX k A B1 B2 (q2 e).1 hA' oM ht,(st _ oM).trans (q2 e).2⟩,fun e=>by
          obtain⟨c,q4,q5⟩:=q3 e
          exact⟨c,hJxX k c A B1 B2 q4 hA' oM ht,(st _ oM).trans q5⟩⟩)
      ?_ ⟨hK1,fun _=>⟨h01,hL1⟩,fun e=>by cases e⟩).mono ?_
    · rintro k x A W hkn hx hA hsz ⟨hk,hg1,_⟩
      obtain⟨hi,hl⟩:=hg1 rfl
      have hlt:w.heap.size+1< W.heap.size:=(Array.getElem?_eq_some_iff.1 hl).1
      have hA2:∀b,A b->w.heap.size+2<=b:=fun b hb=>by have:=hA b hb;omega
      have hy:=run_yield (P:=P) (args:=x) hl (by rw [hrec];exact hps k x _ hx)
      rw [hrec]at hy
      have x1:X A (w.heap.size+1):=(hXi A _).2 (.inr (.inr rfl))
      have x0:X A w.heap.size:=(hXi A _).2 (.inr (.inl rfl))
      have hnR1:¬(¬X A (w.heap.size+1)/\¬L (w.heap.size+1)):=fun e=>e.1 x1
      have hnR0:¬(¬X A w.heap.size/\¬L w.heap.size):=fun e=>e.1 x0
      refine⟨fn,_,assign,body,hy,roundIn_of_wpIn hfn (wpIn_mono (hround (w.heap.size+1) k x (X A) W ⟨by omega,x1⟩ (fun b hb=>by rcases(hXi A b).1 hb with h |h |h;have:=hA b h;omega;omega;omega) hkn hx hi) ?_)⟩
      rintro e a3 W3 hp
      cases e with
      |normal=>
        obtain⟨ht3,hbody⟩:=hp
        have hl3:W3.heap[w.heap.size+1]?=some (.loop (rec .ready none)):=(ht3.block _ hlt hnR1).trans hl
        have hk3:W3.heap[w.heap.size]?=some (.deferred (some [])):=(ht3.block _ oM hnR0).trans hk
        have hlt3:w.heap.size+1< W3.heap.size:=(Array.getElem?_eq_some_iff.1 hl3).1
        refine⟨_,run_beginRound hl3 (by rw [hrec]),?_⟩
        obtain⟨W4,hW4⟩:∃W4,W3.putObj (w.heap.size+1) (.loop {rec .ready none with state:= .busy})=W4:=⟨_,rfl⟩
        have ht4:aI (· =w.heap.size+1) W3 W4:=by rw [<-hW4];exact(aI.refl _ _).putObj _ fun _=>rfl
        have hl4:W4.heap[w.heap.size+1]?=some (.loop {rec .ready none with state:= .busy}):=by rw [<-hW4];exact World.putObj_heap_same hlt3
        have hk4:W4.heap[w.heap.size]?=some (.deferred (some [])):=(ht4.block _ oM oM).trans hk3
        rw [hW4]
        refine wpIn_mono (hbody W4 ht4) ?_
        have hsz4:W4.heap.size=W3.heap.size:=by rw [<-hW4];simp
        have fin:∀(jump:Option Code) (W5:World),aI (fun i=>¬X A i/\¬L i) W4 W5->
            (Instr.endRound (w.heap.size+1) jump).run P W5= .ok (.bool jump.isNone) (W5.putObj (w.heap.size+1) (.loop (rec (if jump.isNone then .ready else .done) jump)))/\
            (W5.putObj (w.heap.size+1) (.loop (rec (if jump.isNone then .ready else .done) jump))).heap[w.heap.size+1]?=some (.loop (rec (if jump.isNone then .ready else .done) jump))/\
            (W5.putObj (w.heap.size+1) (.loop (rec (if jump.isNone then .ready else .done) jump))).heap[w.heap.size]?=some (.deferred (some []))/\
            aI (fun i=>¬A i/\¬L i) W (W5.putObj (w.heap.size+1) (.loop (rec (if jump.isNone then .ready else .done) jump))):=fun jump W5 ht5=>by
          have hl5:=(ht5.block _ (Array.getElem?_eq_some_iff.1 hl4).1 hnR1).trans hl4
          have hr:=run_endRound (P:=P) jump hl5
          rw [hrec]at hr ⊢
          refine⟨hr,World.putObj_heap_same (Array.getElem?_eq_some_iff.1 hl5).1,(World.putObj_heap_other oM).trans ((ht5.block _ oM hnR0).trans hk4),?_⟩
          have nA:¬A (w.heap.size+1)/\¬L (w.heap.size+1):=⟨fun h=>by have:=hA2 _ h;omega,fun h=>by have:=hL _ h;omega⟩
          have sub:∀i,¬X A i/\¬L i->¬A i/\¬L i:=fun i h=>⟨fun ha=>h.1 ((hXi A i).2 (.inl ha)),h.2⟩
          exact(((ht3.mono fun k _ h=>sub k h).trans (ht4.mono fun k _ h=>by subst h;exact nA)).trans (ht5.mono fun k _ h=>sub k h)).putObj _ fun _=>nA
        rintro e a5 W5 hp
        cases e with
        |normal=>
          obtain⟨ht5,hi5⟩:=hp
          obtain⟨hr,hl6,hk6,ht6⟩:=fin none W5 ht5
          exact⟨_,_,hr,_,rfl,ht6,fun _=>⟨hk6,fun _=>⟨hput _ _ _ _ hi5 hA2,hl6⟩,fun e=>by cases e⟩,fun h=>by simp at h⟩
        |ret=>
          obtain⟨ht5,hi5⟩:=hp
          obtain⟨hr,hl6,hk6,ht6⟩:=fin (some .ret) W5 ht5
          exact⟨_,_,hr,_,rfl,ht6,fun h=>by simp at h,fun _=>⟨hk6,(fun e=>by cases e),fun _=>⟨.ret,hputx _ _ _ _ _ hi5 hA2,hl6⟩⟩⟩
        |exit id=>
          obtain⟨ht5,hi5⟩:=hp
          obtain⟨hr,hl6,hk6,ht6⟩:=fin (some (.exit id)) W5 ht5
          exact⟨_,_,hr,_,rfl,ht6,fun h=>by simp at h,fun _=>⟨hk6,(fun e=>by cases e),fun _=>⟨.exit id,hputx _ _ _ _ _ hi5 hA2,hl6⟩⟩⟩
        |goto t=>
          obtain⟨ht5,hi5⟩:=hp
          obtain⟨hr,hl6,hk6,ht6⟩:=fin (some (.goto t)) W5 ht5
          exact⟨_,_,hr,_,rfl,ht6,fun h=>by simp at h,fun _=>⟨hk6,(fun e=>by cases e),fun _=>⟨.goto t,hputx _ _ _ _ _ hi5 hA2,hl6⟩⟩⟩
        |panic ch=>exact hp.elim
        |outgrown=>exact hp.elim
      |ret=>exact hp.elim
      |exit id=>exact hp.elim
      |goto t=>exact hp.elim
      |panic ch=>exact hp.elim
      |outgrown=>exact hp.elim
    · rintro e W2 ⟨⟨v,rfl⟩,A,hA,h⟩
      have hA2:∀b,A b->w.heap.size+2<=b:=fun b hb=>by have:=hA b hb;omega
      have hXw:∀b,X A b->w.heap.size<=b:=fun b hb=>by rcases(hXi A b).1 hb with h |h |h;exact Nat.le_trans oM (hA2 b h);omega;omega
      rcases h with⟨hk,hg1,_⟩ | ⟨k,hk',hk,_,hg2⟩
      · obtain⟨hi,hl⟩:=hg1 rfl
        exact⟨none,_,by have:=run_endLoop (P:=P) hl (by rw [hrec];simp);rw [hrec]at this;exact this,hdone _ (X A) _ (hput _ _ _ _ hi hA2) ⟨Nat.le_refl _,(hXi A _).2 (.inr (.inl rfl))⟩ hXw ((World.putObj_heap_other oM).trans hk)⟩
      · obtain⟨c,hi,hl⟩:=hg2 rfl
        exact⟨some c,_,by have:=run_endLoop (P:=P) hl (by rw [hrec];simp);rw [hrec]at this;exact this,hstop _ k c (X A) _ hk' (hputx _ _ _ _ _ hi hA2) ⟨Nat.le_refl _,(hXi A _).2 (.inr (.inl rfl))⟩ hXw ((World.putObj_heap_other oM).trans hk)⟩
end Go.Dw
namespace Go.Ab
open Go.RowKit Go.Dw Go.Shelf
mutual
def V.qf(pn:List Nat):V->Bool
 | .agg cs=>V.xj pn cs
 | .tup cs=>V.xj pn cs
 | .fn _ a b=>V.xj pn a && V.xj pn b
 | .ifc _ v=>v.qf pn
 | .gd _ v=>v.qf pn
 | .alt _ v u=>v.qf pn && u.qf pn
 | .own i=>pn.contains i
 | .ref i _=>pn.contains i
 | .oel i _ _ _=>pn.contains i
 | .osl i _ _ _=>pn.contains i
 |_=>true
def V.xj(pn:List Nat):List V->Bool
 | []=>true
 |v::l=>v.qf pn && V.xj pn l
end
theorem V.kE{pn:List Nat}:∀ {l:List V}(_:V.xj pn l=true){i:Nat}{u:V}(_:l[i]?=some u),u.qf pn=true
 |v::l,h,0,u,hu=>by simp at hu;subst hu;simp only [V.xj,Bool.and_eq_true]at h;exact h.1
 |v::l,h,i+1,u,hu=>by simp only [V.xj,Bool.and_eq_true]at h;exact V.kE h.2 (by simpa using hu)
theorem R.I4{pn:List Nat}{w:World}{L:Nat->Prop}{ρ:Nat->Option Value}{u:V}{x:Value}(h:R w L ρ u x):∀(_:u.qf pn=true) (ρ':Nat->Option Value),(∀id v,id∈pn->ρ id=some v->ρ' id=some v)->R w L ρ' u x:=by
 induction h with
 |any=>exact fun _ _ _=> .any _ _
 |c=>exact fun _ _ _=> .c _ _
 |agg ρ cs xs f hl hf hr ih=>intro hi ρ' hρ;simp only [V.qf]at hi;exact .agg _ _ _ f hl hf fun i u hu=>ih i u hu (V.kE hi hu) ρ' hρ
 |tup ρ cs xs f hl hf hr ih=>intro hi ρ' hρ;simp only [V.qf]at hi;exact .tup _ _ _ f hl hf fun i u hu=>ih i u hu (V.kE hi hu) ρ' hρ
 |nil=>exact fun _ _ _=> .nil _
 |emp=>exact fun _ _ _=> .emp _ _
 |sl0=>exact fun _ _ _=> .sl0 _ _ _ _ _
 |sl ρ sz n row b o c f hb hcap hlen hf hr ih=>exact fun _ ρ' _=> .sl _ _ _ _ _ _ _ f hb hcap hlen hf hr
 |ptr ρ cs b o f hb hf hr ih=>exact fun _ ρ' _=> .ptr _ _ _ _ f hb hf hr
 |fset ρ str has b es cl hb hh hk hf=>exact fun _ ρ' _=> .fset _ _ _ b es cl hb hh hk hf
 |own ρ id x h h1=>intro hi ρ' hρ;simp only [V.qf,List.contains_iff_mem]at hi;exact .own _ _ _ (hρ _ _ hi h) h1
 |ref ρ id off b h=>intro hi ρ' hρ;simp only [V.qf,List.contains_iff_mem]at hi;exact .ref _ _ _ _ (hρ _ _ hi h)
 |oel ρ id sz i off b n c h=>intro hi ρ' hρ;simp only [V.qf,List.contains_iff_mem]at hi;exact .oel _ _ _ _ _ _ n c (hρ _ _ hi h)
 |osl ρ id sz off k b m c c2 A h hn hA=>intro hi ρ' hρ;simp only [V.qf,List.contains_iff_mem]at hi;exact .osl _ _ _ _ _ _ m c _ _ (hρ _ _ hi h) hn hA
 |fn ρ f fs cs xs ys g h hl hm hg hh hr hs ih1 ih2=>intro hi ρ' hρ;simp only [V.qf,Bool.and_eq_true]at hi;exact .fn _ _ _ _ _ _ g h hl hm hg hh (fun i u hu=>ih1 i u hu (V.kE hi.1 hu) ρ' hρ) fun i u hu=>ih2 i u hu (V.kE hi.2 hu) ρ' hρ
 |ifc ρ t u x h ih=>intro hi ρ' hρ;simp only [V.qf]at hi;exact .ifc _ _ _ _ (ih hi ρ' hρ)
 |gd ρ g u x h h' ih=>intro hi ρ' hρ;simp only [V.qf]at hi;exact .gd _ _ _ _ (fun hg=>ih hg hi ρ' hρ) h'
 |alt ρ g u v x h h' ih ih'=>intro hi ρ' hρ;simp only [V.qf,Bool.and_eq_true]at hi;exact .alt _ _ _ _ _ (fun hg=>ih hg hi.1 ρ' hρ) fun hg=>ih' hg hi.2 ρ' hρ
theorem u0{pn:List Nat}:∀ {tl:List (Nat×V)}(_:tl.all (fun p=>p.2.qf pn)=true) (i:Nat),(dL tl i).qf pn=true
 | [],_,i=>rfl
 |p::tl,h,i=>by
  simp only [List.all_cons,Bool.and_eq_true]at h;show(bw (dL tl) p.1 p.2 i).qf pn=true;by_cases he:i=p.1;·subst he;rw [ai];exact h.1
  ·rw [aa _ _ he];exact u0 h.2 i
theorem Real.lT{W W' L L':Nat->Prop}{w w':World}{ρ ρ':Nat->Option Value}{id:Nat}{o:Ob}(h:Real W w L ρ id o)(e:Ext w L ρ w' L' ρ') (hb:∀x k,ρ id=some x->blk x=some k->w'.heap[k]?=w.heap[k]?/\¬L' k/\W' k):Real W' w' L' ρ' id o:=by
 cases o with
 |box t cs=>obtain⟨b,xs,h1,h2,h3,h4,h5⟩:=h;have:=hb _ b h1 rfl;exact⟨b,xs,e.r _ _ h1,this.2.2,this.2.1,this.1.trans h4,h5.ext e⟩
 |row t sz n row=>
  obtain⟨v,xs,h1,h2,h3,h4,h5⟩:=h;refine⟨v,xs,e.r _ _ h1,⟨h2.1,?_⟩,h3,h4.ext e,fun k hk=>⟨(hb _ k h1 hk).2.2,(hb _ k h1 hk).2.1⟩⟩;rcases h2.2 with hn | ⟨g,cap,cur,rfl,hg,hh,rest⟩;·exact .inl hn
  ·exact .inr ⟨g,cap,cur,rfl,hg,(hb _ g h1 rfl).1.trans hh,rest⟩
 |mp str f=>obtain⟨b,es,cl,h1,h2,h3,h4,h5⟩:=h;have:=hb _ b h1 rfl;exact⟨b,es,cl,e.r _ _ h1,this.2.2,this.2.1,this.1.trans h4,h5.imp fun _ _ _ _ h=>h.ext e⟩
def Jr(es:List (List V))(k:Nat)(x:Array Value)(W:World):Prop:= ∃v,es[k]?=some v/\V.cQ v=true/\RV W (fun _=>False) ρ0 v x.toList
def Dk(P:Program)(gf:FuncId)(caps:List V)(es:List (List V)):Prop:=
 (∀(args:Array Value) (w:World),(callFunc gf args).run P w= .ok (.enter gf args) w)/\
 ∀(L:Nat->Prop) (w:World) (lb:Array Value),(∀b,L b->b< w.heap.size)->(∀g,R w L ρ0 (iq g) (oo g))->RV w L ρ0 caps lb.toList->IB P gf lb es.length (Jr es) L w
theorem Gf{P:Program}{N:Nat}{C:Cx P N}{Q:Exit->S->Prop}{tm:Nat->V}{σ:Nat->Option Ob}{nx:Nat}{g:Operand}{ps:Array Tmp}{assign body:Code}{gf:FuncId}{caps:List V}{es:List (List V)}
    (hF:C.F=Fence.wide) (pn xn:List Nat) (gl:List (Nat×Nat)) (hd:∀id x,C.dfs.pin id=some x->id∈pn/\∀p∈gl,p.1≠id) (it:Dk P gf caps es) (hg:ev tm g= .fn (.func gf) [] caps) (hidf:V.aP caps=true) (hlen:∀x∈es,x.length=ps.size) (hps:ps.toList.all (fun p=>decide (p< N))=true)
    (tl:List (Nat×V)) (ok:Nat->Prop) (sl:Nat->List Ob) (X:Nat->Code->List Ob->Prop) (hok0:ok 0)
    (hpn:pn.all (fun p=>decide (500<=p/\p< 1000))=true) (htl:tl.all (fun p=>p.2.qf pn)=true) (hid:gl.all (fun p=>decide (p.1< 1000))=true)
    (htm:jJ (fun p=>tm p.1=p.2.aW (ax gl nx)) tl) (hσ:jJ (fun p=>∃ob,σ (ax gl nx p.1)=some ob/\dN ob (p.2.aW (ax gl nx))) ((pn++xn).zip (sl 0)))
    (hinj:decide ((((pn++xn).zip (sl 0)).map fun p=>ax gl nx p.1).Nodup)=true)
    (round:∀C':Cx P N,(∃l,C'.F=Fence.wide.inRound l)->∀k x,es[k]?=some x->ok k->AW C' assign (cv (fun s'=>AW C' body (fJ (pn++xn) ok sl X k) s') (fun _ _=>False)) ⟨iO (dL tl) ps.toList x,bK ((pn++xn).zip (sl k)),1⟩)
    (hdone:ok es.length->Q .normal ⟨dL tl,bK ((pn++xn).zip (sl es.length)),1⟩)
    (hstop:∀k c sx,k< es.length->X k c sx->AW C c Q ⟨dL tl,bK ((pn++xn).zip sx),1⟩):AW C (.rangeFunc g ps assign body) Q ⟨tm,σ,nx⟩:=by
  intro a w ⟨L,ρ',g00⟩
  have g0:=nV.aW (s:=⟨tm,σ,nx⟩) tl ((pn++xn).zip (sl 0)) gl htm.mem hσ.mem (of_decide_eq_true hinj) (by simpa using hid) (fun p hp=>by
    cases hc:C.dfs.pin p.1 with
    |none=>rfl
    |some x=>exact absurd rfl ((hd _ x hc).2 p hp)) g00
  have hfn:=g00.tm.eval g00.g.gl g
  generalize (fun i=>ρ' (ax gl nx i))=ρ at g0
  rw [hg]at hfn
  obtain⟨xs',lb,eg,hxs,hlb⟩:=hfn.iH
  have hxs0:xs'= #[]:=by have:=hxs.1;simpa using this.symm
  subst hxs0
  have hpn':∀p∈pn,500<=p/\p< 1000:=by simpa using hpn
  have hps':∀p∈ps.toList,p< N:=fun p hp=>of_decide_eq_true (List.all_eq_true.1 hps p hp)
  obtain⟨Ds,dd1,dd2,dd3⟩:=g0.defers
  obtain⟨it1,it2⟩:=it
  have hit:=it2 L w lb (fun b hb=>(g0.g.ll b hb).1) g0.g.gl (hlb.free hidf)
  have hxlen:∀k x W,Jr es k x W->x.size=ps.size:=by
    rintro k x W ⟨v,hv,_,h1⟩
    have:=h1.1
    rw [hlen v (List.mem_of_getElem? hv)]at this
    simpa using this.symm
  have hDw:∀D∈Ds,D< w.heap.size:=fun D hD=>(Array.getElem?_eq_some_iff.1 (dd3 D hD).1).1
  obtain⟨Wc,hWc⟩:∃Wc:(Nat->Prop)->Nat->Prop,∀A b,Wc A b<->C.W b/\¬A b/\¬L b/\b∉Ds:=⟨_,fun _ _=>Iff.rfl⟩
  obtain⟨Lc,hLc⟩:∃Lc:(Nat->Prop)->Nat->Prop,∀A b,Lc A b<->C.LB b/\¬A b/\b∉Ds:=⟨_,fun _ _=>Iff.rfl⟩
  -- what is known of the objects, of memory
  obtain⟨GS,hGS⟩:∃GS:(Nat->Prop)->World->List Ob->Prop,∀A W ob,GS A W ob<->(∀b,A b->w.heap.size<=b/\b< W.heap.size)/\aI (fun b=>C.W b/\¬L b/\b∉Ds) w W/\
      ∃L' ρ',(∀b,L b->L' b)/\(∀id x,id∈pn->ρ id=some x->ρ' id=some x)/\(∀id,bz 1 id->ρ' id=none)/\G (Wc A) (Lc A) (bK ((pn++xn).zip ob)) W L' ρ':=⟨_,fun _ _ _=>Iff.rfl⟩
  have frame:∀ {W1:World},aI (fun b=>C.W b/\¬L b/\b∉Ds) w W1->∀b,L b->W1.heap[b]?=w.heap[b]?:=fun ht b hb=>ht.block b (g0.g.ll b hb).1 fun hc=>hc.2.1 hb
  have frD:∀ {W1:World},aI (fun b=>C.W b/\¬L b/\b∉Ds) w W1->∀D∈Ds,W1.heap[D]?=some (.deferred (some [])):=fun ht D hD=>
    (ht.block D (hDw D hD) fun hc=>hc.2.2 hD).trans (dd3 D hD).1
  have tmU:∀ {W1:World}{L':Nat->Prop}{ρ':Nat->Option Value},aI (fun b=>C.W b/\¬L b/\b∉Ds) w W1->(∀b,L b->L' b)->(∀id x,id∈pn->ρ id=some x->ρ' id=some x)->∀i,Go.Ab.R W1 L' ρ' (dL tl i) (a.tmps.getD i undef):=fun ht hLL hρ i=>
    ((g0.tm i).I4 (u0 htl i) _ hρ).mono (fun b hb=>⟨hLL b hb,frame ht b hb⟩) fun _ _ h=>h
  have gs0:GS (fun _=>False) w (sl 0):=by
    rw [hGS]
    refine⟨fun _ h=>h.elim,aI.refl _ _,L,ρ,fun _ h=>h,fun _ _ _ h=>h,g0.fr,fun b hb=>⟨(g0.g.ll b hb).1,(hLc _ _).2 ⟨(g0.g.ll b hb).2,fun h=>h,fun hD=>(dd3 b hD).2.2 hb⟩⟩,fun b hb=>⟨(hWc _ _).2 ⟨(g0.g.new b hb).1,fun h=>h,fun hl=>by have:=(g0.g.ll b hl).1;omega,fun hD=>by have:=hDw b hD;omega⟩,(hLc _ _).2 ⟨(g0.g.new b hb).2,fun h=>h,fun hD=>by have:=hDw b hD;omega⟩⟩,fun id o ho=> ?_,g0.g.sep,g0.g.gl⟩
    have hr:=g0.g.ob id o ho
    obtain⟨y,hy,hy2⟩:=hr.lt
    refine hr.lT (Ext.refl _ _ _) fun x k hx hk=> ?_
    rw [hx]at hy;injection hy with hy;subst hy
    exact⟨rfl,(hy2 k hk).2.2,(hWc _ _).2 ⟨(hy2 k hk).2.1,fun h=>h,(hy2 k hk).2.2,fun hD=>hr.cG hx hk (dd3 k hD).1⟩⟩
  have gsJ:∀A W1 W2 ob,GS A W1 ob->aI A W1 W2->GS (fun b=>A b\/(W1.heap.size<=b/\b< W2.heap.size)) W2 ob:=by
    intro A W1 W2 ob h ht
    rw [hGS]at h ⊢
    obtain⟨hA,hT,L',ρ',l1,l2,l3,hG⟩:=h
    have hAl:∀b,L' b->¬A b:=fun b hb=>((hLc _ _).1 (hG.ll b hb).2).2.1
    have ex:Ext W1 L' ρ' W2 L' ρ':=⟨fun b hb=>⟨hb,ht.block b (hG.ll b hb).1 (hAl b hb)⟩,fun _ _ h=>h⟩
    have nA:∀b,b< W1.heap.size->¬A b->¬(A b\/(W1.heap.size<=b/\b< W2.heap.size)):=fun b hb hn h=>by
      rcases h with h |h
      · exact hn h
      · omega
    refine⟨fun b hb=> ?_,?_,L',ρ',l1,l2,l3,fun b hb=>⟨Nat.lt_of_lt_of_le (hG.ll b hb).1 ht.size,?_⟩,fun b hb=> ?_,fun id o ho=> ?_,hG.sep,hG.nh ex⟩
    · rcases hb with h |h
      · exact⟨(hA b h).1,Nat.lt_of_lt_of_le (hA b h).2 ht.size⟩
      · have:=hT.size;omega
    · refine aI.mono (R:=fun b=>(C.W b/\¬L b/\b∉Ds)\/A b) ((hT.mono fun _ _ h=> .inl h).trans (ht.mono fun _ _ h=> .inr h)) fun k hk h=> ?_
      rcases h with h |h
      · exact h
      · have:=(hA k h).1;omega
    · obtain⟨q1,q2,q3⟩:=(hLc _ _).1 (hG.ll b hb).2
      exact(hLc _ _).2 ⟨q1,nA b (hG.ll b hb).1 q2,q3⟩
    · have hb1:W1.heap.size<=b:=Nat.le_trans ht.size hb
      obtain⟨q1,q2⟩:=hG.new b hb1
      obtain⟨q1,_,q3,q4⟩:=(hWc _ _).1 q1
      obtain⟨r1,_,r3⟩:=(hLc _ _).1 q2
      have hn:¬(A b\/(W1.heap.size<=b/\b< W2.heap.size)):=fun h=>by
        rcases h with h |h
        · have:=(hA b h).2;omega
        · omega
      exact⟨(hWc _ _).2 ⟨q1,hn,q3,q4⟩,(hLc _ _).2 ⟨r1,hn,r3⟩⟩
    · have hr:=hG.ob id o ho
      obtain⟨y,hy,hy2⟩:=hr.lt
      refine hr.lT ex fun x k hx hk=> ?_
      rw [hx]at hy;injection hy with hy;subst hy
      obtain⟨q1,q2,q3⟩:=hy2 k hk
      obtain⟨r1,r2,r3,r4⟩:=(hWc _ _).1 q2
      exact⟨ht.block k q1 r2,q3,(hWc _ _).2 ⟨r1,nA k q1 r2,r3,r4⟩⟩
  have mkGam:∀(D:Nat) (A:Nat->Prop) (W1:World) (ob:List Ob),GS A W1 ob->(w.heap.size<=D/\A D)->W1.heap[D]?=some (.deferred (some []))->
      Gm C ⟨dL tl,bK ((pn++xn).zip ob),1⟩ {a with defers:={target:= .collected D,args:= #[]}::a.defers} W1:=by
    intro D A W1 ob hgs hD hDl
    rw [hGS]at hgs
    obtain⟨hA,hT,L',ρ',l1,l2,l3,hG⟩:=hgs
    refine⟨L',ρ',⟨⟨fun b hb=>⟨(hG.ll b hb).1,((hLc _ _).1 (hG.ll b hb).2).1⟩,fun b hb=>⟨((hWc _ _).1 (hG.new b hb).1).1,((hLc _ _).1 (hG.new b hb).2).1⟩,fun id o ho=> ?_,hG.sep,hG.gl⟩,l3,tmU hT l1 l2,g0.size,⟨D::Ds,?_,List.nodup_cons.2 ⟨fun hc=> ?_,dd2⟩,fun E hE=> ?_⟩,fun id x hp=>l2 id x (hd id x hp).1 (g0.pin id x hp)⟩⟩
    · have hr:=hG.ob id o ho
      obtain⟨y,hy,hy2⟩:=hr.lt
      refine hr.lT (Ext.refl _ _ _) fun x k hx hk=> ?_
      rw [hx]at hy;injection hy with hy;subst hy
      exact⟨rfl,(hy2 k hk).2.2,((hWc _ _).1 (hy2 k hk).2.1).1⟩
    · simp only [marks,List.map_cons,dd1,List.cons_append]
    · have:=hDw D hc
      omega
    · rcases List.mem_cons.1 hE with rfl |hE
      · exact⟨hDl,(g0.g.new E hD.1).1,fun hc=>((hLc _ _).1 (hG.ll E hc).2).2.1 hD.2⟩
      · exact⟨frD hT E hE,(dd3 E hE).2.1,fun hc=>((hLc _ _).1 (hG.ll E hc).2).2.2 hE⟩
  rw [hF]
  refine Dd (gf:=gf) (lb:=lb) (n:=es.length) eg it1 hit (fun b hb=>(g0.g.ll b hb).1) hxlen
    (fun k A W=>ok k/\GS A W (sl k)) (fun k c A W=>∃sx,X k c sx/\GS A W sx)
    (fun k A W1 W2 h _ ht=>⟨h.1,gsJ A W1 W2 _ h.2 ht⟩)
    (fun k c A W1 W2 h _ ht=>by obtain⟨sx,h1,h2⟩:=h;exact⟨sx,h1,gsJ A W1 W2 _ h2 ht⟩)
    ⟨hok0,gs0⟩ ?hround ?hdone ?hstop
  case hdone=>
    rintro D A W ⟨hok,hG⟩ hD _ hDl
    refine⟨_,hdone hok,mkGam D A W _ hG hD hDl,?_⟩
    rw [hGS]at hG
    exact hG.2.1.mono fun k _ h=>h.1
  case hstop=>
    rintro D k c A W hk ⟨sx,hX,hG⟩ hD _ hDl
    have hst:=hstop k c sx hk hX
    unfold AW at hst
    rw [hF]at hst
    refine wpIn_mono (hst _ W (mkGam D A W sx hG hD hDl)) ?_
    rintro e a' w' ⟨s',q,g',t⟩
    rw [hGS]at hG
    exact⟨s',q,g',(hG.2.1.mono fun k _ h=>h.1).trans t⟩
  case hround=>
    rintro l k x A W ⟨hl,hAl⟩ hAb hkl ⟨v,hv,hvf,hxr⟩ ⟨hok,hgs⟩
    rw [hGS]at hgs
    obtain⟨hA,hT,L',ρ',l1,l2,l3,hG⟩:=hgs
    obtain⟨C',e1,e2,e3,e4,e4t⟩:∃C':Cx P N,C'.W=Wc A/\C'.LB=Lc A/\C'.F=Fence.wide.inRound l/\(∀id,C'.dfs.pin id=if id∈pn then ρ id else none)/\C'.dfs.tl=[]:=
      ⟨⟨Wc A,Lc A,fun b hb=>(hLc _ _).2 ⟨C.wl b ((hWc _ _).1 hb).1,((hWc _ _).1 hb).2.1,((hWc _ _).1 hb).2.2.2⟩,
        ⟨[],fun id=>if id∈pn then ρ id else none,fun id x h=>by
          by_cases hi:id∈pn
          · exact hpn' id hi
          · rw [if_neg hi]at h;cases h⟩,C.mx,Fence.wide.inRound l,.inr ⟨l,rfl⟩⟩,rfl,rfl,rfl,fun _=>rfl,rfl⟩
    have hr:=round C' ⟨l,e3⟩ k _ hv hok
    unfold AW at hr
    rw [e3]at hr
    obtain⟨z1,z2⟩:=nJ (w:=W) (L:=L') (ρ:=ρ') ps.toList v x.toList (dL tl) a.tmps (fun p hp=>by rw [g0.size];exact hps' p hp)
      ⟨hxr.1,fun i u y hu hy=>(hxr.2 i u y hu hy).flat (V.gz hvf hu)⟩ (tmU hT l1 l2)
    have ez:((ps.toList.zip x.toList).foldl (fun t (p,v)=>t.setIfInBounds p v) a.tmps)=(ps.zip x).foldl (fun t (p,v)=>t.setIfInBounds p v) a.tmps:=by
      rw [<-Array.toList_zip,Array.foldl_toList]
    rw [ez]at z1 z2
    have gm:Gm C' ⟨iO (dL tl) ps.toList v,bK ((pn++xn).zip (sl k)),1⟩ {tmps:=(ps.zip x).foldl (fun t (p,v)=>t.setIfInBounds p v) a.tmps,defers:=[]} W:=
      ⟨L',ρ',⟨by rw [e1,e2];exact hG,l3,z2,z1.trans g0.size,⟨[],by rw [e4t];rfl,by simp,by simp⟩,fun id y hp=>by
        rw [e4]at hp
        split at hp
        · exact l2 id y (by assumption) hp
        · cases hp⟩⟩
    have sub:∀i,C'.W i->¬A i/\¬L i:=fun i hi=>by rw [e1]at hi;obtain⟨q1,q2,q3,_⟩:=(hWc _ _).1 hi;exact⟨q2,q3⟩
    have subC:∀i,C'.W i->C.W i/\¬L i/\i∉Ds:=fun i hi=>by rw [e1]at hi;obtain⟨q1,q2,q3,q4⟩:=(hWc _ _).1 hi;exact⟨q1,q3,q4⟩
    refine wpIn_mono (hr _ W gm) ?_
    rintro e a1 W1 ⟨s1,hq,gm1,t1⟩
    cases e with
    |normal=>
      refine⟨t1.mono fun j _ h=>sub j h,fun W2 ht2=> ?_⟩
      have gm2:Gm C' s1 a1 W2:=by
        obtain⟨L1,ρ1,g1⟩:=gm1
        have hnL:¬L1 l:=fun hc=>by
          have:=(g1.g.ll l hc).2
          rw [e2]at this
          exact((hLc _ _).1 this).2.1 hAl
        have hnW:¬C'.W l:=fun hc=>(sub l hc).1 hAl
        have ex:Ext W1 L1 ρ1 W2 L1 ρ1:=⟨fun b hb=>⟨hb,ht2.block b (g1.g.ll b hb).1 (by rintro rfl;exact hnL hb)⟩,fun _ _ h=>h⟩
        refine⟨L1,ρ1,⟨⟨fun b hb=>⟨Nat.lt_of_lt_of_le (g1.g.ll b hb).1 ht2.size,(g1.g.ll b hb).2⟩,fun b hb=>g1.g.new b (Nat.le_trans ht2.size hb),fun id o ho=> ?_,g1.g.sep,g1.g.nh ex⟩,g1.fr,fun t=>(g1.tm t).ext ex,g1.size,?_,g1.pin⟩⟩
        · have hr1:=g1.g.ob id o ho
          obtain⟨y,hy,hy2⟩:=hr1.lt
          refine hr1.keep ex fun x j hx hj=> ?_
          rw [hx]at hy;injection hy with hy;subst hy
          exact⟨ht2.block j (hy2 j hj).1 (by rintro rfl;exact hnW (hy2 _ hj).2.1),(hy2 j hj).2.2⟩
        · obtain⟨Es,q1,q2,q3⟩:=g1.defers
          exact⟨Es,q1,q2,fun D hD=>⟨(ht2.block D (Array.getElem?_eq_some_iff.1 (q3 D hD).1).1 (by rintro rfl;exact hnW (q3 _ hD).2.1)).trans (q3 D hD).1,(q3 D hD).2⟩⟩
      have hbw:=hq a1 W2 gm2
      have fin:∀(a5:Act) (W5:World) (s5:S) (l5:List Ob),Gm C' s5 a5 W5->aI C'.W W2 W5->Le s5 ⟨fun _=> .any,bK ((pn++xn).zip l5),1⟩->aI (fun i=>¬A i/\¬L i) W2 W5/\GS A W5 l5:=by
        intro a5 W5 s5 l5 gm5 t5 hle
        refine⟨t5.mono fun j _ h=>sub j h,?_⟩
        obtain⟨L5,ρ5,g5⟩:=hle C' a5 W5 gm5
        have hsz:W.heap.size<=W5.heap.size:=Nat.le_trans t1.size (Nat.le_trans ht2.size t5.size)
        have tw:aI (fun b=>C.W b/\¬L b/\b∉Ds) w W5:=by
          refine aI.mono (R:=fun b=>(C.W b/\¬L b/\b∉Ds)\/b=l) ((((hT.trans (t1.mono fun j _ h=>subC j h)).mono fun _ _ h=> .inl h).trans (ht2.mono fun _ _ h=> .inr h)).trans (t5.mono fun j _ h=> .inl (subC j h))) fun j hj h=> ?_
          rcases h with h |h
          · exact h
          · omega
        have gg:=g5.g
        rw [e1,e2]at gg
        rw [hGS]
        have ex:Ext W5 L5 ρ5 W5 (fun b=>L5 b\/L b) ρ5:=⟨fun b hb=>⟨.inl hb,rfl⟩,fun _ _ h=>h⟩
        refine⟨fun b hb=>⟨(hA b hb).1,Nat.lt_of_lt_of_le (hA b hb).2 hsz⟩,tw,fun b=>L5 b\/L b,ρ5,fun b hb=> .inr hb,fun id y hi hy=>g5.pin id y (by rw [e4,if_pos hi];exact hy),g5.fr,fun b hb=> ?_,gg.new,fun id o ho=> ?_,gg.sep,gg.nh ex⟩
        · rcases hb with hb |hb
          · exact gg.ll b hb
          · exact⟨Nat.lt_of_lt_of_le (g0.g.ll b hb).1 tw.size,(hLc _ _).2 ⟨(g0.g.ll b hb).2,fun h=>by have:=(hA b h).1;have:=(g0.g.ll b hb).1;omega,fun hD=>(dd3 b hD).2.2 hb⟩⟩
        · have hr5:=gg.ob id o ho
          obtain⟨y,hy,hy2⟩:=hr5.lt
          refine hr5.keep ex fun x j hx hj=>⟨rfl,?_⟩
          rw [hx]at hy;injection hy with hy;subst hy
          rintro(h |h)
          · exact(hy2 j hj).2.2 h
          · exact((hWc _ _).1 (hy2 j hj).2.1).2.2.1 h
      refine wpIn_mono hbw ?_
      rintro e5 a5 W5 ⟨s5,hp5,gm5,t5⟩
      cases e5 with
      |normal=>exact⟨(fin a5 W5 s5 _ gm5 t5 hp5.2).1,hp5.1,(fin a5 W5 s5 _ gm5 t5 hp5.2).2⟩
      |ret=>obtain⟨sx,hX,hle⟩:=hp5;exact⟨(fin a5 W5 s5 _ gm5 t5 hle).1,sx,hX,(fin a5 W5 s5 _ gm5 t5 hle).2⟩
      |exit id=>obtain⟨sx,hX,hle⟩:=hp5;exact⟨(fin a5 W5 s5 _ gm5 t5 hle).1,sx,hX,(fin a5 W5 s5 _ gm5 t5 hle).2⟩
      |goto t=>obtain⟨sx,hX,hle⟩:=hp5;exact⟨(fin a5 W5 s5 _ gm5 t5 hle).1,sx,hX,(fin a5 W5 s5 _ gm5 t5 hle).2⟩
      |panic c=>exact hp5.elim
      |outgrown=>exact hp5.elim
    |ret=>exact hq.elim
    |exit id=>exact hq.elim
    |goto t=>exact hq.elim
    |panic c=>exact hq.elim
    |outgrown=>exact hq.elim
end Go.Ab

namespace Go.Ab
open Go.RowKit Go.Dw
theorem dA{F:Fence}(hF:FW F){P:Program}{ops:Array Oper}{Q:Exit->Act->World->Prop}{i:Nat}{K:Act->World->Prop}{a:Act}{w w':World}{o:Oper}{v:Value}(hi:ops[i]?=some o)(hg:o.guard=none)(hp:jA o.op=true) (hrun:(execOp a.eval o).run P w= .ok (.value v) w') (hK:K (a.put o.dst v) w'):wpOpIn F 0 P ops Q i K a w:=by
 unfold wpOpIn;rw [hi];have hwt:Region.wanted o (yielded ops a.tmps)=true:=by unfold Region.wanted;rw [hg]
 simp only [hwt,if_true];exact(aU.value (K:=fun x w''=>x=v/\w''=w') hp hrun ⟨rfl,rfl⟩) F hF a _ Q (fun _ _=>rfl) (by rintro _ _ ⟨rfl,rfl⟩;exact hK)
def Cx.sub{P:Program}{N:Nat}(C:Cx P N)(r bm id:Nat)(x:Value)(h:500<=id/\id< 1000):Cx P N:= ⟨fun b=>C.W b/\b≠r/\b≠bm,fun b=>C.LB b/\b≠r/\b≠bm,fun b h=>⟨C.wl b h.1,h.2⟩,⟨C.dfs.tl,bw C.dfs.pin id (some x),fun j y hy=>by
 by_cases e:j=id;·subst e;exact h
 ·rw [aa _ _ e]at hy;exact C.dfs.lo j y hy⟩,C.mx,C.F,C.hF⟩
section
variable {W LB:Nat->Prop}{N:Nat}{dfs:Dp}{fresh:Nat->Prop}{tm:Nat->V}{σ:Nat->Option Ob}{a:Act}{w w':World}{L:Nat->Prop}{ρ:Nat->Option Value}
theorem nV.Nh(h:nV W LB N dfs fresh tm σ a w L ρ){r:Nat}(hs:w'.heap.size=w.heap.size)(hb:∀b,b≠r->w'.heap[b]?=w.heap[b]?)(hW:¬W r)(hL:¬LB r):nV W LB N dfs fresh tm σ a w' L ρ:=by
 have e:Ext w L ρ w' L ρ:=⟨fun b hbl=>⟨hbl,hb b fun he=>hL (by rw [<-he];exact(h.g.ll b hbl).2)⟩,fun _ _ h=>h⟩;refine⟨⟨fun b hbl=>by rw [hs];exact h.g.ll b hbl,fun b hbs=>h.g.new b (by rw [<-hs];exact hbs),fun id o ho=> ?_,h.g.sep,h.g.nh e⟩,h.fr,h.tm.ext e,h.size,?_,h.pin⟩
 ·refine(h.g.ob id o ho).keep e fun x k hx hk=> ?_;obtain⟨y,hy,hlt⟩:=(h.g.ob id o ho).lt;rw [hx]at hy;injection hy with hy;subst hy
  obtain⟨l1,l2,l3⟩:=hlt k hk;exact⟨hb k fun he=>hW (by rw [<-he];exact l2),l3⟩
 ·obtain⟨Ds,h4,h5,h6⟩:=h.defers;refine⟨Ds,h4,h5,fun D hD=> ?_⟩;obtain⟨h7,h8,h9⟩:=h6 D hD;exact⟨(hb D fun he=>hW (by rw [<-he];exact h8)).trans h7,h8,h9⟩
theorem nV.zy(h:nV W LB N dfs fresh tm σ a w L ρ){t:Nat}(ht:t< N){v:V}{x:Value}(hv:R w L ρ v x):nV W LB N dfs fresh (bw tm t v) σ (a.put (some t) x) w L ρ:= ⟨h.g,h.fr,h.tm.put (d:=some t) (fun t' e=>by injection e with e;rw [<-e,h.size];exact ht) hv,by simp [Act.put,h.size],h.defers,h.pin⟩
end
theorem tG{k:MK}:∀ {es:List MapEntry}{x:Value},bl k es=some x->∃e∈es,k.is e.key=true
 | [],_,h=>by simp [bl]at h
 |e::es,x,h=>by
  rw [bl]at h;split at h;·rename_i hk;exact⟨e,by simp,hk⟩
  ·obtain⟨e',h1,h2⟩:=tG h;exact⟨e',by simp [h1],h2⟩
theorem tF{k:MK}:∀ {es:List MapEntry}{e:MapEntry},e∈es->k.is e.key=true->(bl k es).isSome=true
 | [],_,h,_=>by simp at h
 |e'::es,e,h,hk=>by
  rw [bl];split;·rfl
  ·rename_i hne;rcases List.mem_cons.1 h with rfl |h;·exact absurd hk hne
   ·exact tF h hk
theorem Kg{n:Int}{v:Value}(h:(MK.i n).is v=true):v= .int .i64 n:=by
 unfold MK.is at h;split at h;·rename_i a b _ e;cases e;rw [of_decide_eq_true h]
 ·rename_i e;cases e
 ·cases h
theorem ja{a:Act}{t:Nat}{x:Value}(h:t< a.tmps.size):(a.put (some t) x).eval (.tmp t)=x:=by simp [Act.put,Act.eval,h]
theorem pJ{a:Act}{t t':Nat}{x:Value}(h:t'≠t):(a.put (some t) x).eval (.tmp t')=a.eval (.tmp t'):=by simp [Act.put,Act.eval,Array.getElem?_setIfInBounds,Ne.symm h]
open Classical in
theorem oD{α:Type}:∀ {l m:List α},l.Nodup->(∀x∈l,x∈m)->l.length<=m.length
 | [],_,_,_=>Nat.zero_le _
 |x::l,m,hn,h=>by rw [List.nodup_cons]at hn;have h1:=oD (m:=m.erase x) hn.2 fun y hy=>(List.mem_erase_of_ne fun e=>hn.1 (by rw [<-e];exact hy)).2 (h y (by simp [hy]));have h2:=List.length_erase_of_mem (h x (by simp));have h3:0< m.length:=List.length_pos_of_mem (h x (by simp));simp only [List.length_cons];omega
section
variable {P:Program}{N:Nat}{C:Cx P N}{Q:Exit->S->Prop}{tm:Nat->V}{σ:Nat->Option Ob}{nx:Nat}
def Di(tl:List Int->List (Nat×V))(sl:List Int->List (Nat×Ob))(ti r:Nat)(d:List Int):S:=⟨dL ((ti,.c (.pointer (some ⟨r,0,none⟩)))::tl d),bK (sl d),1⟩
abbrev NP(ti mt mm:Nat)(ty:TypeId)(p:String)(u:Array Edge):Oper:=⟨some ti,.range mt (.tmp mm),ty,p,u,none⟩
def Lh(p:Prop):Prop:=p
theorem we{rid bid b2 r1 r2:Nat}{ol:List Oper}{mt kt et mm ti tn tb te tk tf id n:Nat}{has:Int->Bool}{ty1 ty2 ty3 ty4 ty5 ty6:TypeId}{p1 p2 p3 p4 p5 p6:String}{u1 u2 u3 u4 u5 u6:Array Edge}{body:Code} (tl:List Int->List (Nat×V)) (sl:List Int->List (Nat×Ob)) (hmt:P.underlying mt=some (.map kt et)) (hid:500<=id/\id< 1000) (kk:Nat) (hy:ol[kk]?=some (NP ti mt mm ty1 p1 u1)) (hlen:ol.length=kk+1) (hok:fm N ol=true) (hslots:(decide (tn< N) && decide (tb< N) && decide (te< N) && decide (tk< N) && decide (tf< N) && decide (nx≠0))=true) (hne:(decide (tn≠ti) && decide (tb≠ti) && decide (te≠ti) && decide (tk≠ti))=true) (h:aR C ol.toArray nx (ol.take kk) tm σ [] fun tm1 σ1 _=>Lh (tm1 mm= .own id/\σ1 id=some (.mp (false,n) (bE has))/\ ∀r,Le ⟨bw tm1 ti (.c (.pointer (some ⟨r,0,none⟩))),bw σ1 id none,nx+1⟩ (Di tl sl ti r []))) (hround:∀C':Cx P N,C'.F=C.F->∀(r:Nat) (d:List Int) (f:Int),has f=true->f∉d-> AW C' body (fun e s'=>Lh (e= .normal/\Le s' (Di tl sl ti r (f::d)))) ⟨bw (bw (bw (bw (bw (Di tl sl ti r d).tm tn .any) tb .any) te .any) tk .any) tf (.i f),bK (sl d),1⟩) (hdone:∀d:List Int,d.Nodup->(∀z,z∈d<->has z=true)->d.length=n->Q .normal ⟨bw (bw (bw (dL (tl d)) ti .any) tn .any) tb .any,bK ((id,.mp (false,n) (bE has))::sl d),1⟩) : AW C (.seq (.region rid ol.toArray false) (.block bid (.loop (.seq (.region r1 #[⟨some tn,.next (.tmp ti) false,ty2,p2,u2,none⟩,⟨some tb,.extract (.tmp tn) 0,ty3,p3,u3,none⟩] false) (.seq (.cond (.tmp tb) .skip (.exit bid)) (.block b2 (.seq (.region r2 #[⟨some te,.entry (.tmp ti),ty4,p4,u4,none⟩,⟨some tk,.extract (.tmp te) 0,ty5,p5,u5,none⟩,⟨some tf,.assign (.tmp tk),ty6,p6,u6,none⟩] false) body))))))) Q ⟨tm,σ,nx⟩:=by
 have hsp:ol=ol.take kk++[NP ti mt mm ty1 p1 u1]:=by
  have hn:kk< ol.length:=by omega
  have q1:ol.drop kk=ol[kk]::ol.drop (kk+1):=List.drop_eq_getElem_cons hn;have q2:ol[kk]=_:=(List.getElem?_eq_some_iff.1 hy).2;have q3:ol.drop (kk+1)=[]:=List.drop_eq_nil_of_le oM;rw [<-q2,<-q3,<-q1,List.take_append_drop]
 clear hy hlen;revert h;generalize ol.take kk=ol0 at hsp;subst hsp;obtain⟨ol,rfl⟩:∃ol,ol=ol0:=⟨_,rfl⟩;intro h;simp only [Bool.and_eq_true,decide_eq_true_eq]at hslots hne;obtain⟨⟨⟨⟨⟨htn,htb⟩,hte⟩,htk⟩,htf⟩,hnx⟩:=hslots;obtain⟨⟨⟨n1,n2⟩,n3⟩,n4⟩:=hne;intro a w ⟨L,ρ,g⟩;obtain⟨y,hyd⟩:∃y:Oper,y=NP ti mt mm ty1 p1 u1:=⟨_,rfl⟩;rw [<-hyd]at hok h ⊢;obtain⟨h1,h2⟩:=dZ hok;obtain⟨tr,tm1,σ1,h3,hwt⟩:=h.run;obtain⟨hmm,hσ,hent⟩:tm1 mm= .own id/\σ1 id=some (.mp (false,n) (bE has))/\∀r,Le ⟨bw tm1 ti (.c (.pointer (some ⟨r,0,none⟩))),bw σ1 id none,nx+1⟩ (Di tl sl ti r []):=hwt;have hti:ti< N:=h1 y (by simp) ti (by rw [hyd]);refine wpIn_seq (wpIn_region ?_);rw [List.range_eq_range',show(ol++[y]).toArray.size=ol.length+[y].length by simp];refine nI (P:=P) (W:=C.W) (LB:=C.LB) (ops:=(ol++[y]).toArray) (nx:=nx) (N:=N) (dfs:=C.dfs) C.hF (by simpa using h1) [y] ol 0 tr tm tm1 σ σ1 a w w L ρ (bz nx) (fun j=>by simp) h3 g (fun o ho t ht id h5 h6 h7=>h5) (fun id hid=>dh hid) h2 (aI.refl _ _) ?_;intro a1 W1 L1 ρ1 fr1 g1 q1 q2 t1;rw [Nat.zero_add,List.length_singleton,List.range'_succ,wpOpsIn_cons];obtain⟨bm,es,cl,e1,e2,e3,e4,e5⟩:=g1.g.ob id _ hσ;have hmv:a1.eval (.tmp mm)= .map (some bm):=by have:=g1.tm.eval g1.g.gl (.tmp mm);rw [show ev tm1 (.tmp mm)= .own id from hmm]at this;have:=this.cy;rw [e1]at this;injection this with this;exact this.symm
 obtain⟨v1,v2,v3⟩:=e5.2.2.2.2;have hkey:∀e∈es.toList,∃z:Int,e.key= .int .i64 z:=fun e he=>by
  obtain⟨k,hk,hv⟩:=e5.1 e he;cases k with
  |i z=>exact⟨z,hv⟩
  |s b=>cases hk
 have hhas:∀z:Int,has z=true<->∃e∈es.toList,e.key= .int .i64 z:=by
  intro z;rw [<-iC has z];constructor
  ·intro hz;cases hm:bl (.i z) es.toList with
   |none=>rw [e5.2.2.1 (.i z) rfl hm]at hz;cases hz
   |some x=>obtain⟨e,he,hk⟩:=tG hm;exact⟨e,he,Kg hk⟩
  ·rintro⟨e,he,hk⟩;have:=tF (k:= .i z) he (by rw [hk];exact decide_eq_true rfl);cases hm:bl (.i z) es.toList with
   |none=>rw [hm]at this;cases this
   |some x=>obtain⟨u,hu,_⟩:=e5.2.1 (.i z) x rfl hm;rw [hu];rfl
 obtain⟨r,hr⟩:∃r,r=W1.heap.size:=⟨_,rfl⟩;refine dA C.hF (o:=y) (v:= .pointer (some ⟨r,0,none⟩)) (w':=W1.alloc (.mapIter (some bm) cl #[] cl)) (by simp) (by rw [hyd]) (by rw [hyd];rfl) ?_ ?_;·rw [hyd];simp [execOp,hmv,run_range_map W1 mt kt et bm es cl hmt e4,hr]
 rw [show y.dst=some ti by rw [hyd]];simp only [List.range'_zero,wpOpsIn,Exit.then];have hb0:Below W1.heap.size W1 (W1.alloc (.mapIter (some bm) cl #[] cl)):=bp _ _;have hbm:bm< W1.heap.size:=(Array.getElem?_eq_some_iff.1 e4).1;obtain⟨gq,eq⟩:=g1.g.quiet hb0 (L':=L1) (fun _ h=>h) (fun _ h=> .inl h);obtain⟨C',hC'⟩:∃C',C'=C.sub r bm id (.map (some bm)) hid:=⟨_,rfl⟩;have cW:C'.W=fun b=>C.W b/\b≠r/\b≠bm:=by rw [hC'];rfl
 have cL:C'.LB=fun b=>C.LB b/\b≠r/\b≠bm:=by rw [hC'];rfl
 have cF:C'.F=C.F:=by rw [hC'];rfl
 have cp:C'.dfs.pin=bw C.dfs.pin id (some (.map (some bm))):=by rw [hC'];rfl
 have ct:C'.dfs.tl=C.dfs.tl:=by rw [hC'];rfl
 have gm0:Gm C' ⟨bw tm1 ti (.c (.pointer (some ⟨r,0,none⟩))),bw σ1 id none,nx+1⟩ (a1.put (some ti) (.pointer (some ⟨r,0,none⟩))) (W1.alloc (.mapIter (some bm) cl #[] cl)):=by
  have hn':∀j o,bw σ1 id none j=some o->j≠id/\σ1 j=some o:=fun j o hj=>by
   by_cases e:j=id;·rw [e,ai]at hj;cases hj
   ·exact⟨e,by rwa [aa _ _ e]at hj⟩
  refine⟨L1,ρ1,⟨⟨fun b hb=> ?_,fun b hb=> ?_,fun j o hj=> ?_,fun i j x y k hij hi hj=>gq.sep i j x y k hij ?_ ?_,gq.gl⟩,fun j hj=>g1.fr j (q2 j hj),?_,?_,?_,?_⟩⟩;·rw [cL];have hl:=g1.g.ll b hb;exact⟨(gq.ll b hb).1,hl.2,by omega,fun e=>e3 (by rw [<-e];exact hb)⟩
  ·have h5:=hb0.size;have hs:(W1.alloc (.mapIter (some bm) cl #[] cl)).heap.size=W1.heap.size+1:=Array.size_push ..;have:=gq.new b hb;rw [cW,cL];rw [hs]at hb;exact⟨⟨this.1,by omega,by omega⟩,this.2,by omega,by omega⟩
  ·obtain⟨hne,ho⟩:=hn' j o hj;refine(g1.g.ob j o ho).lT eq fun x k hx hk=> ?_;obtain⟨y',hy',hlt⟩:=(g1.g.ob j o ho).lt;rw [hx]at hy';injection hy' with hy';subst hy'
   obtain⟨l1,l2,l3⟩:=hlt k hk;refine⟨hb0.block k l1,l3,?_⟩;rw [cW];exact⟨l2,by omega,fun e=>g1.g.sep id j _ _ bm (fun e=>hne e.symm) (by rw [hσ];simp) (by rw [ho];simp) e1 hx rfl (by rw [<-e];exact hk)⟩
  ·intro hc;apply hi;show bw σ1 id none i=none;by_cases e:i=id;·rw [e,ai]
   ·rw [aa _ _ e];exact hc
  ·intro hc;apply hj;show bw σ1 id none j=none;by_cases e:j=id;·rw [e,ai]
   ·rw [aa _ _ e];exact hc
  ·exact(g1.tm.ext eq).put (d:=some ti) (fun t e=>by injection e with e;rw [<-e,g1.size];exact hti) (.c _ _)
  ·simp [Act.put,g1.size]
  ·obtain⟨Ds,h4,h5,h6⟩:=g1.defers;refine⟨Ds,by rw [ct];exact h4,h5,fun D hD=> ?_⟩;obtain⟨h7,h8,h9⟩:=h6 D hD;have hlt:=(Array.getElem?_eq_some_iff.1 h7).1;refine⟨(hb0.block D hlt).trans h7,?_,h9⟩;rw [cW];exact⟨h8,by omega,fun e=>by rw [e,e4]at h7;cases h7⟩
  ·intro j x hj;rw [cp]at hj;by_cases e:j=id;·rw [e,ai]at hj;injection hj with hj;rw [e,<-hj];exact e1
   ·rw [aa _ _ e]at hj;exact g1.pin j x hj
 have gm1:=hent r C' _ _ gm0;have hWr:C.W r:=(g1.g.new r oM).1;have hr0:(W1.alloc (.mapIter (some bm) cl #[] cl)).heap[r]?=some (.mapIter (some bm) cl #[] cl):=by rw [hr];exact Go.heap_alloc_new _ _
 have hb00:(W1.alloc (.mapIter (some bm) cl #[] cl)).heap[bm]?=some (.map es cl):=(hb0.block bm hbm).trans e4;have ht0:aI C.W w (W1.alloc (.mapIter (some bm) cl #[] cl)):=t1.alloc _;have hrb:r≠bm:=by omega
 refine wpIn_block (wpIn_loop_ghost (fun m a' w'=>∃d seen,Gm C' (Di tl sl ti r d) a' w'/\w'.heap[r]?=some (.mapIter (some bm) cl seen cl)/\w'.heap[bm]?=some (.map es cl)/\
  (∀e∈es.toList,∀z,e.key= .int .i64 z->seen.contains e.born=decide (z∈d))/\(∀z,z∈d->has z=true)/\d.Nodup/\m=(leftOf es seen).size/\aI C.W w w') (leftOf es #[]).size
  ?_ ?_)
 ·exact⟨[],#[],gm1,hr0,hb00,fun e _ z _=>(by simp),fun z hz=>(by cases hz),List.nodup_nil,rfl,ht0⟩
 rintro m a' w' ⟨d,seen,⟨L2,ρ2,g2⟩,hr1,hb1,hs,hd,hdn,rfl,ht⟩;have hite:a'.eval (.tmp ti)= .pointer (some ⟨r,0,none⟩):=by have:=g2.tm.eval g2.g.gl (.tmp ti);rw [show ev (Di tl sl ti r d).tm (.tmp ti)= .c (.pointer (some ⟨r,0,none⟩))from ai _ _ _]at this;exact this.aG
 have hN:a'.tmps.size=N:=g2.size;refine wpIn_seq (wpIn_region ?_);show wpOpsIn _ _ _ _ _ [0,1] _ _;rw [wpOpsIn_cons];rcases run_next_at (P:=P) w' ty2 r bm cl cl seen es cl hr1 hb1 (fun x hx=>v3 x hx) (Nat.le_refl _)with⟨hz,hrun⟩ | ⟨e,he,w1,hw1,hrun⟩
 ·refine dA C.hF (o:=⟨some tn,.next (.tmp ti) false,ty2,p2,u2,none⟩) (v:= .tuple #[.bool false]) (w':=w') rfl rfl rfl (by simp [execOp,hite,hrun]) ?_;rw [wpOpsIn_cons];refine dA C.hF (o:=⟨some tb,.extract (.tmp tn) 0,ty3,p3,u3,none⟩) (v:= .bool false) (w':=w') rfl rfl rfl (by simp [execOp,Instr.extract,ja (show tn< a'.tmps.size by omega)]) ?_;simp only [wpOpsIn,Exit.then];refine wpIn_seq (wpIn_cond (ja (x:= .bool false) (by simp [Act.put];omega)) ?_);refine wpIn_exit ?_;simp only [Exit.then,Exit.inBlock,if_pos];have hdh:∀z,z∈d<->has z=true:=fun z=>⟨hd z,fun hzz=>by obtain⟨e,he,hk⟩:=(hhas z).1 hzz;have:=all_seen es seen hz e he;rw [hs e he z hk]at this;exact of_decide_eq_true this⟩;have hlen:d.length=n:=by have hl:es.toList.length=n:=e5.2.2.2.1;have k1:=oD (l:=d.map fun z=>Value.int .i64 z) (m:=es.toList.map (·.key)) (List.Pairwise.map _ (fun a b hab he=>hab (by injection he)) hdn) (fun x hx=>by obtain⟨z,hz',rfl⟩:=List.mem_map.1 hx;obtain⟨e,he,hk⟩:=(hhas z).1 (hd z hz');exact List.mem_map.2 ⟨e,he,hk⟩);have k2:=oD (l:=es.toList.map (·.key)) (m:=d.map fun z=>Value.int .i64 z) v1 (fun x hx=>by obtain⟨e,he,rfl⟩:=List.mem_map.1 hx;obtain⟨z,hz'⟩:=hkey e he;exact List.mem_map.2 ⟨z,(hdh z).2 ((hhas z).2 ⟨e,he,hz'⟩),hz'.symm⟩);simp only [List.length_map]at k1 k2;omega
  refine⟨_,hdone d hdn hdh hlen,?_,ht⟩;have g3:=(g2.zy htn (v:= .any) (x:= .tuple #[.bool false]) (.any _ _)).zy htb (v:= .any) (x:= .bool false) (.any _ _);have hρ:ρ2 id=some (.map (some bm)):=g2.pin id _ (by rw [cp,ai]);have hLb:¬L2 bm:=fun hl=>by have:=(g2.g.ll bm hl).2;rw [cL]at this;exact this.2.2 rfl
  have hup:∀j o,bK ((id,.mp (false,n) (bE has))::sl d) j=some o->(j=id/\o= .mp (false,n) (bE has))\/(j≠id/\bK (sl d) j=some o):=fun j o hj=>by
   have hj:bw (bK (sl d)) id (some (.mp (false,n) (bE has))) j=some o:=hj;by_cases e:j=id;·rw [e,ai]at hj;injection hj with hj;exact .inl ⟨e,hj.symm⟩
   ·rw [aa _ _ e]at hj;exact .inr ⟨e,hj⟩
  have hblk:∀j o x k,bK (sl d) j=some o->ρ2 j=some x->blk x=some k->k≠bm:=fun j o x k ho hx hk=>by
   obtain⟨y',hy',hlt⟩:=(g2.g.ob j o ho).lt;rw [hx]at hy';injection hy' with hy';subst hy'
   have:=(hlt k hk).2.1;rw [cW]at this;exact this.2.2
  have hnn:∀ {j:Nat},bK ((id,.mp (false,n) (bE has))::sl d) j≠none->∃o,bK ((id,.mp (false,n) (bE has))::sl d) j=some o:=fun {j} h=>by
   cases ho:bK ((id,.mp (false,n) (bE has))::sl d) j with
   |none=>exact absurd ho h
   |some o=>exact⟨o,rfl⟩
  refine⟨L2,ρ2,⟨⟨fun b hb=> ?_,fun b hb=> ?_,fun j o hj=> ?_,fun i j x y k hij hi hj hx hy hk hk'=> ?_,g2.g.gl⟩,g2.fr,fun t=> ?_,g3.size,?_,fun j x hj=> ?_⟩⟩;·have:=g2.g.ll b hb;rw [cL]at this;exact⟨this.1,this.2.1⟩
  ·have:=g2.g.new b hb;rw [cW,cL]at this;exact⟨this.1.1,this.2.1⟩
  ·rcases hup j o hj with⟨rfl,rfl⟩ | ⟨hne,ho⟩
   ·exact⟨bm,es,cl,hρ,e2,hLb,hb1,e5.imp fun i u x hu hr=>by
     cases i with
     |s b=>cases hu
     |i z=>
      rw [eU]at hu;split at hu;·injection hu with hu;subst hu;rw [hr.aG];exact .c _ _
      ·cases hu⟩
   ·exact(g2.g.ob j o ho).wider fun b hb=>by rw [cW]at hb;exact hb.1
  ·obtain⟨o1,ho1⟩:=hnn hi;obtain⟨o2,ho2⟩:=hnn hj;rcases hup i o1 ho1 with⟨rfl,_⟩ | ⟨hne,hi1⟩
   ·rcases hup j o2 ho2 with⟨rfl,_⟩ | ⟨hne2,hj1⟩;·exact hij rfl
    ·rw [hρ]at hx;injection hx with hx;subst hx
     simp [blk]at hk;exact hblk j o2 y k hj1 hy hk' hk.symm
   ·rcases hup j o2 ho2 with⟨rfl,_⟩ | ⟨hne2,hj1⟩
    ·rw [hρ]at hy;injection hy with hy;subst hy
     simp [blk]at hk';exact hblk i o1 x k hi1 hx hk hk'.symm
    ·exact g2.g.sep i j x y k hij (by rw [show(Di tl sl ti r d).σ i=some o1 from hi1];simp) (by rw [show(Di tl sl ti r d).σ j=some o2 from hj1];simp) hx hy hk hk'
  ·have h3:=g3.tm t;show R _ _ _ (bw (bw (bw (dL (tl d)) ti V.any) tn V.any) tb V.any t) _;by_cases q1:t=tb;·subst q1;rw [ai];exact .any _ _
   by_cases q2:t=tn;·subst q2;rw [aa _ _ q1,ai];exact .any _ _
   by_cases q3:t=ti;·subst q3;rw [aa _ _ q1,aa _ _ q2,ai];exact .any _ _
   rw [aa _ _ q1,aa _ _ q2]at h3;rw [aa _ _ q1,aa _ _ q2,aa _ _ q3];have:(Di tl sl ti r d).tm t=dL (tl d) t:=aa _ _ q3;rw [this]at h3;exact h3
  ·obtain⟨Ds,h4,h5,h6⟩:=g3.defers;refine⟨Ds,by rw [<-ct];exact h4,h5,fun D hD=> ?_⟩;obtain⟨h7,h8,h9⟩:=h6 D hD;rw [cW]at h8;exact⟨h7,h8.1,h9⟩
  ·refine g2.pin j x ?_;rw [cp];by_cases e:j=id;·rw [e]at hj ⊢;rw [ai];have:=g1.pin id x hj;rw [e1]at this;exact this
   ·rw [aa _ _ e];exact hj
 ·obtain⟨hem,hes⟩:=mem_left he;obtain⟨z,hz⟩:=hkey e hem;have hdz:z∉d:=fun hc=>by have:=hs e hem z hz;rw [hes,decide_eq_true hc]at this;cases this
  have hhz:has z=true:=(hhas z).2 ⟨e,hem,hz⟩;obtain⟨w2,hw2⟩:∃w2,w2=ChangeMaps.setBlock w1 r (.mapIter (some bm) cl (seen.push e.born) cl):=⟨_,rfl⟩;have hh1:w1.heap=w'.heap:=by rcases hw1 with rfl |rfl <;> rfl
  have hh2:w2.heap=w'.heap.setIfInBounds r (.mapIter (some bm) cl (seen.push e.born) cl):=by rw [hw2];show w1.heap.setIfInBounds _ _=_;rw [hh1]
  have hrl:r< w'.heap.size:=(Array.getElem?_eq_some_iff.1 hr1).1;have hr2:w2.heap[r]?=some (.mapIter (some bm) cl (seen.push e.born) cl):=by rw [hh2,Array.getElem?_setIfInBounds];simp [hrl]
  have ho2:∀b,b≠r->w2.heap[b]?=w'.heap[b]?:=fun b hb=>by rw [hh2,Array.getElem?_setIfInBounds];simp [Ne.symm hb]
  have hb2:w2.heap[bm]?=some (.map es cl):=(ho2 bm hrb.symm).trans hb1;have hs2:w2.heap.size=w'.heap.size:=by rw [hh2];simp
  have ht2:aI C.W w w2:=by
   refine ht.trans ⟨?_,?_,?_,by omega,fun k hk hn=>ho2 k fun he=>hn (by rw [he];exact hWr)⟩;·rw [hw2];rcases hw1 with rfl |rfl <;> rfl
   ·rw [hw2];rcases hw1 with rfl |rfl <;> rfl
   ·rw [hw2];rcases hw1 with rfl |rfl <;> rfl
  rw [<-hw2]at hrun;have g3:=g2.Nh (w':=w2) (r:=r) hs2 ho2 (by rw [cW];exact fun h=>h.2.1 rfl) (by rw [cL];exact fun h=>h.2.1 rfl);refine dA C.hF (o:=⟨some tn,.next (.tmp ti) false,ty2,p2,u2,none⟩) (v:= .tuple #[.bool true,e.key,e.val]) (w':=w2) rfl rfl rfl (by simp [execOp,hite,hrun]) ?_;rw [wpOpsIn_cons];refine dA C.hF (o:=⟨some tb,.extract (.tmp tn) 0,ty3,p3,u3,none⟩) (v:= .bool true) (w':=w2) rfl rfl rfl (by simp [execOp,Instr.extract,ja (show tn< a'.tmps.size by omega)]) ?_;simp only [wpOpsIn,Exit.then];have g4:=(g3.zy htn (v:= .any) (x:= .tuple #[.bool true,e.key,e.val]) (.any _ _)).zy htb (v:= .any) (x:= .bool true) (.any _ _);refine wpIn_seq (wpIn_cond (ja (x:= .bool true) (by simp [Act.put];omega)) ?_);refine wpIn_skip ?_;simp only [Exit.then];refine wpIn_block (wpIn_seq (wpIn_region ?_));show wpOpsIn _ _ _ _ _ [0,1,2] _ _;rw [wpOpsIn_cons];have hite2:((a'.put (some tn) (.tuple #[.bool true,e.key,e.val])).put (some tb) (.bool true)).eval (.tmp ti)= .pointer (some ⟨r,0,none⟩):=by rw [pJ n2.symm,pJ n1.symm,hite]
  refine dA C.hF (o:=⟨some te,.entry (.tmp ti),ty4,p4,u4,none⟩) (v:= .tuple #[e.key,e.val]) (w':=w2) rfl rfl rfl (by simp [execOp,hite2,run_entry_at w2 r bm cl seen es cl e hr2 hb2 hem v2]) ?_;rw [wpOpsIn_cons];refine dA C.hF (o:=⟨some tk,.extract (.tmp te) 0,ty5,p5,u5,none⟩) (v:=e.key) (w':=w2) rfl rfl rfl (by simp [execOp,Instr.extract,ja (show te< ((a'.put (some tn) (.tuple #[.bool true,e.key,e.val])).put (some tb) (.bool true)).tmps.size by simp [Act.put];omega)]) ?_;rw [wpOpsIn_cons];refine dA C.hF (o:=⟨some tf,.assign (.tmp tk),ty6,p6,u6,none⟩) (v:=e.key) (w':=w2) rfl rfl rfl (by simp [execOp,ja (show tk< (((a'.put (some tn) (.tuple #[.bool true,e.key,e.val])).put (some tb) (.bool true)).put (some te) (.tuple #[e.key,e.val])).tmps.size by simp [Act.put];omega)]) ?_;simp only [wpOpsIn,Exit.then];have g5:=((g4.zy hte (v:= .any) (x:= .tuple #[e.key,e.val]) (.any _ _)).zy htk (v:= .any) (x:=e.key) (.any _ _)).zy htf (v:= .i z) (x:=e.key) (by rw [hz];exact .c _ _);have hb:=hround C' cF r d z hhz hdz _ _ ⟨L2,ρ2,g5⟩;rw [cF]at hb;refine wpIn_mono hb ?_;rintro e' a'' w'' ⟨s',hwt,g',t'⟩;obtain⟨rfl,hle⟩:e'= .normal/\Le s' (Di tl sl ti r (z::d)):=hwt;simp only [Exit.inBlock,Exit.then];refine⟨_,left_shrinks es seen e he,z::d,seen.push e.born,hle C' _ _ g',?_,?_,?_,?_,List.nodup_cons.2 ⟨hdz,hdn⟩,rfl,ht2.trans (t'.mono fun k _ hk=>by rw [cW]at hk;exact hk.1)⟩;·exact(t'.block r oM (by rw [cW];exact fun h=>h.2.1 rfl)).trans hr2
  ·exact(t'.block bm (by have:=(Array.getElem?_eq_some_iff.1 hb2).1;exact this) (by rw [cW];exact fun h=>h.2.2 rfl)).trans hb2
  ·intro e2 he2 z2 hz2;rw [contains_push,hs e2 he2 z2 hz2];have hsp:decide (z2∈z::d)=(decide (z2∈d) || decide (z2=z)):=by simp [List.mem_cons,or_comm,Bool.or_comm]
   rw [hsp];by_cases hq:z2=z
   ·have:e2=e:=by
     have hk2:e2.key=e.key:=by rw [hz2,hz,hq]
     have key:∀(l:List MapEntry),(l.map (·.key)).Nodup->e2∈l->e∈l->e2=e:=by
      intro l;induction l with
      |nil=>intro _ h;cases h
      |cons c l ih=>
       intro hn h1 h2;rw [List.map_cons,List.nodup_cons]at hn;rcases List.mem_cons.1 h1 with g1 |g1
       ·rcases List.mem_cons.1 h2 with g2 |g2;·rw [g1,g2]
        ·exact absurd (List.mem_map.2 ⟨e,g2,by rw [<-hk2,g1]⟩) hn.1
       ·rcases List.mem_cons.1 h2 with g2 |g2;·exact absurd (List.mem_map.2 ⟨e2,g1,by rw [hk2,g2]⟩) hn.1
        ·exact ih hn.2 g1 g2
     exact key es.toList v1 he2 hem
    subst this;simp [hq]
   ·have:e2.born≠e.born:=fun hb=>hq (by have:=born_inj v2 he2 hem hb;subst this;rw [hz]at hz2;injection hz2 with _ hz2;exact hz2.symm);simp [hq,this]
  ·intro z2 hz2;rcases List.mem_cons.1 hz2 with h |h;·rw [h];exact hhz
   ·exact hd z2 h
end
def qw(nm:Nat->Nat)(n:Nat)(x:Nat->Value)(ρ:Nat->Option Value):Prop:=∀i,i< n->∃b,ρ (nm i)=some (.pointer (some ⟨b,0,none⟩))/\x i= .pointer (some ⟨b,0,none⟩)
def Aa(nm:Nat->Nat)(n:Nat)(x:Nat->Value)(o o':Ob):Prop:=∀(W L:Nat->Prop) (w:World) (ρ:Nat->Option Value) (id:Nat),qw nm n x ρ->Real W w L ρ id o->Real W w L ρ id o'
theorem Aa.refl(nm:Nat->Nat)(n:Nat)(x:Nat->Value)(o:Ob):Aa nm n x o o:=fun _ _ _ _ _ _ h=>h
inductive IA(nm:Nat->Nat)(n:Nat)(x:Nat->Value):List (Nat×Option Ob)->List (Nat×Option Ob)->Prop
  |nil:IA nm n x [] []
  |none (k:Nat){l l':List (Nat×Option Ob)}(h:IA nm n x l l'):IA nm n x ((k,none)::l) ((k,none)::l')
  |some (k:Nat){o o':Ob}{l l':List (Nat×Option Ob)}(c:Aa nm n x o o') (h:IA nm n x l l'):IA nm n x ((k,some o)::l) ((k,some o')::l')
def Jq(nm:Nat->Nat)(n:Nat)(x:Nat->Value):Option Ob->Option Ob->Prop
 |none,none=>True
 |some o,some o'=>Aa nm n x o o'
 |_,_=>False
theorem IA.bu{nm:Nat->Nat}{n:Nat}{x:Nat->Value}{l l':List (Nat×Option Ob)}(h:IA nm n x l l'):∀ {σ σ':Nat->Option Ob},(∀j,Jq nm n x (σ j) (σ' j))->∀j,Jq nm n x (Ab.bu σ l j) (Ab.bu σ' l' j):=by
 induction h with
 |nil=>intro σ σ' h;exact h
 |none k _ ih=>
  intro σ σ' h;refine ih (σ:=bw σ k Option.none) (σ':=bw σ' k Option.none) fun j=> ?_;by_cases e:j=k;·subst e;rw [ai,ai];exact trivial
  ·rw [aa _ _ e,aa _ _ e];exact h j
 | @some k o o' _ _ c _ ih=>
  intro σ σ' h;refine ih (σ:=bw σ k (.some o)) (σ':=bw σ' k (.some o')) fun j=> ?_;by_cases e:j=k;·subst e;rw [ai,ai];exact c
  ·rw [aa _ _ e,aa _ _ e];exact h j
theorem Jq.refl{nm:Nat->Nat}{n:Nat}{x:Nat->Value}(a:Option Ob):Jq nm n x a a:=by
 cases a with
 |none=>exact trivial
 |some o=>exact Aa.refl _ _ _ _
theorem Jq.some{nm:Nat->Nat}{n:Nat}{x:Nat->Value}{a:Option Ob}{o:Ob}(h:Jq nm n x a (some o)):∃o',a=some o'/\Aa nm n x o' o:=by
 cases a with
 |none=>exact h.elim
 |some o'=>exact⟨o',rfl,h⟩
theorem Aa.row{nm:Nat->Nat}{n m:Nat}{x:Nat->Value}{e:TypeId}{r r':Nat->List V}
 (h:∀i,i< m->∃u u',r i=[u]/\r' i=[u']/\∀(w:World) (L:Nat->Prop) (ρ:Nat->Option Value) (y:Value),qw nm n x ρ->R w L ρ u y->R w L ρ u' y):Aa nm n x (.row e 1 m r) (.row e 1 m r'):=
 fun _ _ w ρ _ hp hr=>hr.fC fun i hi=>by obtain⟨u,u',h1,h2,h3⟩:=h i hi;exact⟨u,u',h1,h2,fun y hy=>h3 w _ ρ y hp hy⟩
inductive fW(nm:Nat->Nat)(x:Nat->Value)(i:Nat):V->Prop
  |ref:fW nm x i (.ref (nm i) 0)
  |c:fW nm x i (.c (x i))
  |alt (k:Nat):fW nm x i (.alt (decide (i=k)) (.ref (nm k) 0) (.c (x i)))
theorem fW.of{nm:Nat->Nat}{n:Nat}{x:Nat->Value}{i:Nat}{u:V}(h:fW nm x i u)(hi:i< n){w:World}{L:Nat->Prop}{ρ:Nat->Option Value}{y:Value}(hp:qw nm n x ρ)(hr:R w L ρ u y):y=x i:=by
 obtain⟨b,h1,h2⟩:=hp i hi;have key:∀ {y:Value},R w L ρ (.ref (nm i) 0) y->y=x i:=fun {y} h=>by
  obtain⟨b',rfl,h4⟩:=h.iA;rw [h1]at h4;injection h4 with h4
  rw [h2,h4]
 cases h with
 |ref=>exact key hr
 |c=>exact hr.aG
 |alt k=>
  by_cases e:i=k;·subst e;exact key (hr.Ai (by simp))
  ·exact(hr.IG (by simp [e])).aG
theorem fW.to{nm:Nat->Nat}{n:Nat}{x:Nat->Value}{i:Nat}{u:V}(h:fW nm x i u)(hi:i< n){w:World}{L:Nat->Prop}{ρ:Nat->Option Value}(hp:qw nm n x ρ):R w L ρ u (x i):=by
 obtain⟨b,h1,h2⟩:=hp i hi;have key:R w L ρ (.ref (nm i) 0) (x i):=by rw [h2];exact .ref _ _ _ _ h1
 cases h with
 |ref=>exact key
 |c=>exact .c _ _
 |alt k=>
  by_cases e:i=k;·subst e;exact .DC (by simp) key
  ·exact .DD (by simp [e]) (.c _ _)
theorem fW.conv{nm:Nat->Nat}{n:Nat}{x:Nat->Value}{i:Nat}{u u':V}(h:fW nm x i u)(k:fW nm x i u')(hi:i< n){w:World}{L:Nat->Prop}{ρ:Nat->Option Value}{y:Value}(hp:qw nm n x ρ)(hr:R w L ρ u y):R w L ρ u' y:=by rw [h.of hi hp hr];exact k.to hi hp
theorem Aa.xM{nm:Nat->Nat}{n:Nat}{x:Nat->Value}{e:TypeId}{c c':Nat->V}(h:∀i,i< n->fW nm x i (c i))(h':∀i,i< n->fW nm x i (c' i)):Aa nm n x (.row e 1 n fun i=>[c i]) (.row e 1 n fun i=>[c' i]):= .row fun i hi=>⟨c i,c' i,rfl,rfl,fun _ _ _ _ hp hr=>(h i hi).conv (h' i hi) hi hp hr⟩
theorem Aa.F9{nm:Nat->Nat}{n:Nat}{x:Nat->Value}{e:TypeId}{c:Nat->V}{p:Nat}(h:∀i,i< n->fW nm x i (c i)):Aa nm n x (.row e 1 (n+1) fun i=>[.alt (decide (i< n)) (c i) (.ref p 0)]) (.row e 1 (n+1) fun i=>[.ref (if i< n then nm i else p) 0]):= .row fun i hi=>⟨_,_,rfl,rfl,fun _ _ _ _ hp hr=>by
 by_cases hi':i< n;·rw [if_pos hi'];exact(h i hi').conv .ref hi' hp (hr.Ai (by simp [hi']))
 ·rw [if_neg hi'];exact hr.IG (by simp [hi'])⟩
theorem aQ.const{P:Program}{W LB:Nat->Prop}{o:Oper}{ev:Operand->V}{v:V}{nw:List Nat}{id n:Nat}{e:TypeId}{nm:Nat->Nat}{rx:(Nat->Value)->Nat->V}{pre:List (Nat×Ob)}{δ:(Nat->Value)->List (Nat×Option Ob)}{δf:List (Nat×Option Ob)}
    (h:∀x,aQ P W LB o ev v ((id,.row e 1 n fun i=>[rx x i])::pre) nw (δ x)) (hne:∀p∈pre,p.1≠id) (ht:∀x i,i< n->fW nm x i (rx x i)) (hδ:∀x,IA nm n x (δ x) δf) :
    aQ P W LB o ev v ((id,.row e 1 n fun i=>[.ref (nm i) 0])::pre) nw δf:=by
  intro σ w L ρ g hG hr hpre hnew
  have hσ:=hpre (id,.row e 1 n fun i=>[.ref (nm i) 0]) (by simp)
  have hrow:=hG.ob id _ hσ
  have hp:∀i,i< n->∃b,ρ (nm i)=some (.pointer (some ⟨b,0,none⟩)):=by
    obtain⟨v',xs,q1,q2,q3,q4,q5⟩:=hrow
    intro i hi
    have g':=flat_get (bW q3) (bA (row:=fun i=>[V.ref (nm i) 0]) hi) (show 0< 1 by decide)
    rw [Nat.mul_one,Nat.add_zero]at g'
    obtain⟨y,_,hy,_⟩:=q4.get (g'.trans rfl)
    obtain⟨b,_,hb⟩:=hy.iA
    exact⟨b,hb⟩
  obtain⟨x,hx⟩:∃x:Nat->Value,x=fun i=>(ρ (nm i)).getD undef:=⟨_,rfl⟩
  have hpt:qw nm n x ρ:=fun i hi=>by obtain⟨b,hb⟩:=hp i hi;exact⟨b,hb,by rw [hx];simp only [hb,Option.getD_some]⟩
  have cin:Aa nm n x (.row e 1 n fun i=>[.ref (nm i) 0]) (.row e 1 n fun i=>[rx x i]):= .xM (fun _ _=> .ref) (ht x)
  have cout:Aa nm n x (.row e 1 n fun i=>[rx x i]) (.row e 1 n fun i=>[.ref (nm i) 0]):= .xM (ht x) (fun _ _=> .ref)
  have hG':G W LB (bw σ id (some (.row e 1 n fun i=>[rx x i]))) w L ρ:=by
    refine⟨hG.ll,hG.new,fun j ob ho=> ?_,fun i j y z k hij hi hj=>hG.sep i j y z k hij ?_ ?_,hG.gl⟩
    · by_cases ej:j=id
      · subst ej;rw [ai]at ho;injection ho with ho;subst ho
        exact cin _ _ _ _ _ hpt hrow
      · rw [aa _ _ ej]at ho;exact hG.ob j ob ho
    · by_cases ei:i=id
      · rw [ei,hσ];simp
      · rwa [aa _ _ ei]at hi
    · by_cases ej:j=id
      · rw [ej,hσ];simp
      · rwa [aa _ _ ej]at hj
  refine(h x _ w L ρ g hG' hr (fun p hp=> ?_) hnew).mono ?_
  · rcases List.mem_cons.1 hp with rfl |hp
    · exact ai _ _ _
    · rw [aa _ _ (hne p hp)];exact hpre p (by simp [hp])
  rintro xv w' ⟨L',ρ',hG2,hv,ht',hx',hρ,hk⟩
  have hpt':qw nm n x ρ':=fun i hi=>by obtain⟨b,h1,h2⟩:=hpt i hi;exact⟨b,hx'.r _ _ h1,h2⟩
  have hrel:∀j,Jq nm n x (Ab.bu (bw σ id (some (.row e 1 n fun i=>[rx x i]))) (δ x) j) (Ab.bu σ δf j):=(hδ x).bu fun j=>by
    by_cases ej:j=id
    · rw [ej,ai,hσ];exact cout
    · rw [aa _ _ ej];exact .refl _
  refine⟨L',ρ',⟨hG2.ll,hG2.new,fun j ob ho=> ?_,fun i j y z k hij hi hj=>hG2.sep i j y z k hij ?_ ?_,hG2.gl⟩,hv,ht',hx',hρ,hk⟩
  · have:=hrel j
    rw [ho]at this
    obtain⟨o',h1,h2⟩:=this.some
    exact h2 _ _ _ _ _ hpt' (hG2.ob j o' h1)
  · intro hc;have:=hrel i;rw [hc]at this
    cases ho:Ab.bu σ δf i with
    |none=>exact hi ho
    |some o=>rw [ho]at this;exact this.elim
  · intro hc;have:=hrel j;rw [hc]at this
    cases ho:Ab.bu σ δf j with
    |none=>exact hj ho
    |some o=>rw [ho]at this;exact this.elim
def Bm(s s':S):Prop:=∀(P:Program) (N:Nat) (C:Cx P N) a w,C.dfs=jY->Gm C s a w->Gm C s' a w
theorem mh{P:Program}{N:Nat}{C:Cx P N}{Q:Exit->S->Prop}{s s':S}{c:Code}(hd:C.dfs=jY)(h:Bm s s')(k:AW C c Q s'):AW C c Q s:=fun a w g=>k a w (h _ _ C a w hd g)
theorem Le.d{s s':S}(h:Le s s'):Bm s s':=fun _ _ C a w _ g=>h C a w g
theorem Bm.trans{s s' s'':S}(h:Bm s s')(k:Bm s' s''):Bm s s'':=fun _ _ C a w hd g=>k _ _ C a w hd (h _ _ C a w hd g)
theorem AE{tm:Nat->V}{σ σ':Nat->Option Ob}{nx:Nat}{tl:List (Nat×V)}(h:Nat->Nat)(hσ:∀id o,σ' id=some o->∃ob,σ (h id)=some ob/\dN ob (o.aW h)) (hinj:∀i j,σ' i≠none->σ' j≠none->h i=h j->i=j) (hfr:∀id,100000<=id->nx*100000<=h id) (htm:jJ (fun p=>tm p.1=p.2.aW h) tl):Bm ⟨tm,σ,nx⟩ ⟨dL tl,σ',1⟩:=by
 intro P N C a w hd ⟨L,ρ,g⟩;refine⟨L,fun id=>ρ (h id),⟨⟨g.g.ll,g.g.new,fun id o ho=> ?_,fun i j x y k hij hi hj hx hy hk=> ?_,g.g.gl⟩,fun id (hid:1*100000<=id)=>g.fr _ (hfr id (Nat.le_trans (Nat.le_of_eq (Nat.one_mul 100000).symm) hid)),fun t=> ?_,g.size,g.defers,fun id x hp=> ?_⟩⟩;·obtain⟨ob,h1,h2⟩:=hσ id o ho;exact((g.g.ob _ _ h1).eq h2).aW
 ·have e:∀i,σ' i≠none->σ (h i)≠none:=fun i hi=>by
   cases ho:σ' i with
   |none=>exact absurd ho hi
   |some o=>obtain⟨ob,h1,_⟩:=hσ i o ho;rw [h1];simp
  exact g.g.sep (h i) (h j) x y k (fun he=>hij (hinj i j hi hj he)) (e i hi) (e j hj) hx hy hk
 ·have key:∀tl:List (Nat×V),jJ (fun p=>tm p.1=p.2.aW h) tl->R w L (fun id=>ρ (h id)) (dL tl t) (a.tmps.getD t undef):=by
   intro tl;induction tl with
   |nil=>intro _;exact .any _ _
   |cons p tl ih=>
    rintro⟨h1,h2⟩;show R w _ _ (bw (dL tl) p.1 p.2 t) _;by_cases ht:t=p.1;·subst ht;rw [ai];have h5:R w L ρ (tm p.1) _:=g.tm p.1;rw [h1]at h5;exact j6 _ _ _ h5
    ·rw [aa _ _ ht];exact ih h2
  exact key tl htm
 ·rw [hd]at hp;cases hp
theorem aQ.xA{P:Program}{W LB:Nat->Prop}{o:Oper}{ev:Operand->V}{v:V}{pre pre':List (Nat×Ob)}{nw:List Nat}{δ:List (Nat×Option Ob)}(h:aQ P W LB o ev v pre nw δ)(hp:∀p∈pre,p∈pre'):aQ P W LB o ev v pre' nw δ:= fun σ w L ρ g hG hr hpre hn=>h σ w L ρ g hG hr (fun p hm=>hpre p (hp p hm)) hn
section
variable {next:S->Prop}{Q:Exit->S->Prop}{s:S}{ch:List PanicEntry}{id:Nat}
end
section
variable {T:List TI}{P:Program}
end
theorem ld{tm:Nat->V}{σ:Nat->Option Ob}{nx:Nat}(id j:Nat){t:TypeId}{cs:List V}(e sz:Nat)(row:Nat->List V)(h:σ id=some (.box t cs))(hj:cs[j]?=some .nil)(hid:decide (id< nx*100000)=true)(hjl:decide (j< 100000)=true) : Le ⟨tm,σ,nx⟩ ⟨tm,bw (bw σ (nx*100000+j) (some (.row e sz 0 row))) id (some (.box t (cs.set j (.own (nx*100000+j))))),nx+1⟩:=by
 intro P N C a w ⟨L,ρ,g⟩;have hjl:=of_decide_eq_true hjl;have hid:=of_decide_eq_true hid;have hn:ρ (nx*100000+j)=none:=g.fr _ (Nat.le_add_right _ _);obtain⟨hG,ex⟩:=g.g.put (w':=w) (σ1:=σ) (ρ':=bw ρ (nx*100000+j) (some (.slice none 0 0))) (World.grownBy.refl w none) (by simp) (nx*100000+j) _ (.row e sz 0 row) (fun i o hi ho=>⟨ho,by simp⟩) (fun i hi=>aa _ _ hi) (ai _ _ _) (.inl hn) (fun k hk=>by simp [blk]at hk)
  (fun ex=>⟨_,[],ai _ _ _,World.ownsRow_nil _ _ _ _,fun i hi=>by omega,by simp [aB];exact .nil,fun k hk=>by simp [blk]at hk⟩)
 obtain⟨ρ1,hρ1⟩:∃ρ1,ρ1=bw ρ (nx*100000+j) (some (.slice none 0 0)):=⟨_,rfl⟩;rw [<-hρ1]at hG ex;have hne:id≠nx*100000+j:=by omega
 have h1:bw σ (nx*100000+j) (some (.row e sz 0 row)) id=some (.box t cs):=by rw [aa _ _ hne];exact h
 obtain⟨b,xs,q1,q2,q3,q4,q5⟩:=hG.ob id _ h1;have hch:∀k,some b=some k->C.W k/\¬L k:=by rintro k hk;injection hk with hk;subst hk;exact⟨q2,q3⟩
 have hjx:j< xs.toList.length:=by rw [<-q5.1];exact(List.getElem?_eq_some_iff.1 hj).1
 have hxj:xs.toList[j]?=some (.slice none 0 0):=by have e1:xs.toList[j]?=some xs.toList[j]:=List.getElem?_eq_getElem hjx;have:=(q5.2 j _ _ hj e1).1;rw [e1];generalize xs.toList[j]=q at this;cases this;rfl
 have hset:xs.toList.set j (.slice none 0 0)=xs.toList:=by
  apply List.ext_getElem?;intro i;rw [List.getElem?_set];by_cases hij:j=i;·subst hij;rw [if_pos rfl,if_pos hjx,hxj]
  ·rw [if_neg hij]
 obtain⟨hG2,ex2⟩:=hG.put (w':=w) (σ1:=bw σ (nx*100000+j) (some (.row e sz 0 row))) (ρ':=ρ1) (World.grownBy.refl w (some b)) hch id _ (.box t (cs.set j (.own (nx*100000+j)))) (fun i o hi ho=>⟨ho,fun z hz k hk hkz=>by
   injection hk with hk;subst hk;exact hG.sep i id z _ b hi (by rw [ho];simp) (by rw [h1];simp) hz q1 hkz rfl⟩) (fun _ _=>rfl) q1 (.inr q1) (fun k hk=> .inl (by simpa [blk]using hk)) (fun ex3=>
   ⟨b,xs,q1,q2,q3,q4,by have:=(q5.ext ex3).set j (u:= .own (nx*100000+j)) (x:= .slice none 0 0) (.own _ _ _ (by rw [hρ1,ai]) rfl) rfl;rwa [hset]at this⟩)
 refine⟨L,ρ1,⟨hG2,fun i hi=> ?_,fun t'=>(g.tm t').ext ex,g.size,g.defers,fun i x hp=>ex.r i x (g.pin i x hp)⟩⟩;have hi':(nx+1)*100000<=i:=hi;rw [hρ1,aa _ _ oM];exact g.fr i (Nat.le_trans (Nat.mul_le_mul_right _ (Nat.le_succ nx)) hi')
theorem AC.A8{P:Program}{f:FuncId}{args:List V}{v v':V}{e:TypeId}{sz n n':Nat}{row row':Nat->List V}(h:AC P f args v [.row e sz n row])(hn:n=n')(hr:∀i,i< n->row i=row' i)(hi:∀i,V.aP (row' i)=true)(hv:V.fz 0 (.sl sz n' row') v=v')(hidf:v'.bM=true):AC P f args v' []:=by
 subst hn;refine⟨h.1,fun L w vs hL hgl hvs=>(h.2 L w vs hL hgl hvs).mono ?_⟩;rintro ee w' ⟨x,rfl,hb,L',ρ',hG,hL',hx,hnn⟩;have hre:Real (fun b=>w.heap.size<=b) w' L' ρ' 0 (.row e sz n row'):=(hG.ob 0 _ rfl).eq ⟨rfl,rfl,rfl,hr⟩;obtain⟨v0,hv0,hlt,hs⟩:=hre.slice fun i _=>hi i;have ex:Ext w' L' ρ' w' (fun b=>L' b\/blk v0=some b) ρ':=⟨fun b hb=>⟨.inl hb,rfl⟩,fun _ _ h=>h⟩;refine⟨x,rfl,hb,fun b=>L' b\/blk v0=some b,ρ0,⟨fun b hbl=> ?_,hG.new,(fun id o ho=>by cases ho),fun i j y z k _ hi=>absurd rfl hi,hG.nh ex⟩,fun b hbl=> .inl (hL' b hbl),?_,fun _ _=>rfl⟩
 ·rcases hbl with h1 |h1;·exact hG.ll b h1
  ·exact⟨(hlt b h1).1,.inr (hlt b h1).2.1⟩
 ·subst hv;refine(mQ (fun y hy=> ?_) v x (hx.ext ex)).free hidf ρ0;rw [hv0]at hy;injection hy with hy;subst hy;exact hs
end Go.Ab
