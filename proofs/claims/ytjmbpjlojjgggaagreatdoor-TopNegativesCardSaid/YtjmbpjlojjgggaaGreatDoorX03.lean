/-
  Several texts in one: Ranges over functions whose rounds lay new memory, and hold it; the iterator writes to memory that it laid itself, or that it holds (U); what it hands out may hold memory, which it gives up for good (F). Conditions: told in each theorem. .. Ranges over functions at numerals: the values that an iterator hands out, and the rounds. No condition.
-/
import Derived.Test.YtjmbpjlojjgggaaGreatDoorX02
import Derived.Test.YtjmbpjlojjgggaaGreatDoorX01
import Derived.Test.YtjmbpjlojjgggaaGreatDoorX00
namespace Go.Dw
open Go.RowKit Go.Shelf
def K0(P:Program)(f:FuncId)(lb:Array Value)(n:Nat)(E:Nat->(Nat->Prop)->Array Value->World->Prop)(L U:Nat->Prop)(w:World):Prop:=
  ∀(l:Nat) (J:Nat->Bool->(Nat->Prop)->(Nat->Prop)->World->Prop) (W:World),w.heap.size<=W.heap.size->(∀b,L b\/U b->W.heap[b]?=w.heap[b]?)->w.heap.size<=l->l< W.heap.size->
    (∀k g A F W1 W2,J k g A F W1->(∀b,A b\/F b->(U b\/W.heap.size<=b)/\b< W1.heap.size)->W.heap.size<=W1.heap.size->aS A W1 W2->J k g (fun b=>A b\/(W1.heap.size<=b/\b< W2.heap.size)) F W2)->
    (∀k g A F (D:Nat->Prop) W1,J k g A F W1->(∀b,A b\/F b->(U b\/W.heap.size<=b)/\b< W1.heap.size)->(∀b,D b->A b)->J k g (fun b=>A b/\¬D b) (fun b=>F b\/D b) W1)->
    (∀k x A F W1,k< n->E k F x W1->(∀b,A b\/F b->(U b\/W.heap.size<=b)/\b< W1.heap.size)->W.heap.size<=W1.heap.size->J k true A F W1->YieldAt Fence.wide 0 P l x W1 fun e W2=>∃b:Bool,e= .returned (.bool b)/\aS (fun i=>¬A i/\¬L i/\¬F i) W1 W2/\(b=true->J (k+1) true A F W2)/\(b=false->J k false A F W2))->
    J 0 true U (fun _=>False) W->
    CallsIn Fence.wide 0 P f (#[.func (.yield l) #[] #[]]++lb) W fun e W'=>(∃v,e= .returned v)/\∃A F:Nat->Prop,(∀b,A b->U b\/W.heap.size<=b)/\(J n true A F W'\/∃k,k< n/\J k false A F W')
def Eg(R:Nat->Prop)(J:Nat->(Nat->Prop)->(Nat->Prop)->World->Prop)(Jx:Nat->Code->(Nat->Prop)->(Nat->Prop)->World->Prop)(k:Nat)(A F:Nat->Prop)(W:World):Exit->Act->World->Prop
 | .normal,_,W'=>aS R W W'/\J (k+1) A F W'
 | .ret,_,W'=>aS R W W'/\Jx k .ret A F W'
 | .exit id,_,W'=>aS R W W'/\Jx k (.exit id) A F W'
 | .goto t,_,W'=>aS R W W'/\Jx k (.goto t) A F W'
 | .panic _,_,_=>False
 | .outgrown,_,_=>False
theorem EC{P:Program}{g:Operand}{ps:Array Tmp}{assign body:Code}{Q:Exit->Act->World->Prop}{a:Act}{w:World}
    {gf:Nat}{lb:Array Value}(hg:a.eval g= .func (.func gf) #[] lb) (eg:∀args w,(callFunc gf args).run P w= .ok (.enter gf args) w)
    {n:Nat}{E:Nat->(Nat->Prop)->Array Value->World->Prop}{L U:Nat->Prop}(hit:K0 P gf lb n E L U w) (hL:∀i,L i\/U i->i< w.heap.size) (hps:∀k F x W,E k F x W->x.size=ps.size)
    (J:Nat->(Nat->Prop)->(Nat->Prop)->World->Prop) (Jx:Nat->Code->(Nat->Prop)->(Nat->Prop)->World->Prop)
    (hJ:∀k A F W1 W2,J k A F W1->(∀b,A b->U b\/w.heap.size<=b)->aS A W1 W2->J k (fun b=>A b\/(W1.heap.size<=b/\b< W2.heap.size)) F W2)
    (hJx:∀k c A F W1 W2,Jx k c A F W1->(∀b,A b->U b\/w.heap.size<=b)->aS A W1 W2->Jx k c (fun b=>A b\/(W1.heap.size<=b/\b< W2.heap.size)) F W2)
    (hD:∀k A F (D:Nat->Prop) W1,J k A F W1->(∀b,D b->A b)->J k (fun b=>A b/\¬D b) (fun b=>F b\/D b) W1)
    (hDx:∀k c A F (D:Nat->Prop) W1,Jx k c A F W1->(∀b,D b->A b)->Jx k c (fun b=>A b/\¬D b) (fun b=>F b\/D b) W1) (h0:J 0 U (fun _=>False) w)
    (hround:∀(l k:Nat) (x:Array Value) (A F:Nat->Prop) (W:World),(w.heap.size<=l/\A l)->(∀b,A b\/F b->(U b\/w.heap.size<=b)/\b< W.heap.size)->k< n->E k F x W->J k A F W->
      assign.wpIn (Fence.wide.inRound l) 0 P (Exit.then (fun a₁ W1=>aS (fun i=>¬A i/\¬L i/\¬F i) W W1/\∀W2,aS (· =l) W1 W2->body.wpIn (Fence.wide.inRound l) 0 P (Eg (fun i=>¬A i/\¬L i/\¬F i) J Jx k A F W2) a₁ W2) (fun _ _ _=>False))
        {tmps:=(ps.zip x).foldl (fun t (p,v)=>t.setIfInBounds p v) a.tmps,defers:=[]} W)
    (hdone:∀(D:Nat) (A F:Nat->Prop) (W:World),J n A F W->(w.heap.size<=D/\A D)->(∀b,A b->U b\/w.heap.size<=b)->W.heap[D]?=some (.deferred (some []))->Q .normal {a with defers:={target:= .collected D,args:= #[]}::a.defers} W)
    (hstop:∀(D k:Nat) (c:Code) (A F:Nat->Prop) (W:World),k< n->Jx k c A F W->(w.heap.size<=D/\A D)->(∀b,A b->U b\/w.heap.size<=b)->W.heap[D]?=some (.deferred (some []))->c.wpIn Fence.wide 0 P Q {a with defers:={target:= .collected D,args:= #[]}::a.defers} W) :
    (Code.rangeFunc g ps assign body).wpIn Fence.wide 0 P Q a w:=by
  refine wpIn_rangeFunc ?_
  intro fn hfn
  obtain⟨rec,hrec⟩:∃rec:LoopState->Option Code->Loop,rec=fun st pe=>{state:=st,pending:=pe,fn,tmps:=a.tmps,params:=ps,assign,body,defers:=w.heap.size}:=⟨_,rfl⟩
  obtain⟨W1,hW1⟩:∃W1,(w.alloc (.deferred (some []))).alloc (.loop (rec .ready none))=W1:=⟨_,rfl⟩
  have hL1:W1.heap[w.heap.size+1]?=some (.loop (rec .ready none)):=by
    rw [<-hW1];have:=World.alloc_heap_new (w.alloc (.deferred (some []))) (.loop (rec .ready none));rwa [World.size_alloc]at this
  have hK1:W1.heap[w.heap.size]?=some (.deferred (some [])):=by
    rw [<-hW1];exact(Below.heap_alloc _ _ _ (by simp)).trans (World.alloc_heap_new w _)
  have hs1:W1.heap.size=w.heap.size+2:=by rw [<-hW1];simp
  have hb1:Below w.heap.size w W1:=by
    rw [<-hW1];exact((Below.refl _ w).alloc (Nat.le_refl _) _).alloc (by simp) _
  refine⟨w.heap.size+1,[{target:= .collected w.heap.size,args:= #[]}],W1,{target:= .fn (.func gf) lb,args:= #[.func (.yield (w.heap.size+1)) #[] #[]]},W1,gf,
    #[.func (.yield (w.heap.size+1)) #[] #[]]++lb,W1,?_,?_,fun _ _=>trivial,?_,fun h=>by simp [Fence.wide]at h,?_⟩
  · rw [<-hW1,hrec];exact run_enterLoop_outer _ _ _ _ _
  · simp only [resolve,hg]
    simp [go_sem]
  · simp [invoke,go_sem,eg]
  · -- the blocks of the loop itself count as the iterator's
    obtain⟨X,hX⟩:∃X:(Nat->Prop)->Nat->Prop,X=fun A b=>A b\/b=w.heap.size\/b=w.heap.size+1:=⟨_,rfl⟩
    have hXi:∀A b,X A b<->A b\/b=w.heap.size\/b=w.heap.size+1:=fun A b=>by rw [hX]
    have conv:∀(G:(Nat->Prop)->Prop) (A B:Nat->Prop),(∀b,A b<->B b)->G A->G B:=fun G A B h hG=>by rwa [show A=B from funext fun b=>propext (h b)]at hG
    have hUw:∀b,U b->b< w.heap.size:=fun b hb=>hL b (.inr hb)
    -- where the iterator's blocks lie
    obtain⟨RA,hRA⟩:∃RA:(Nat->Prop)->Prop,∀A,RA A<->∀b,A b->U b\/w.heap.size+2<=b:=⟨_,fun _=>Iff.rfl⟩
    have rX:∀A,RA A->∀b,X A b->U b\/w.heap.size<=b:=fun A h b hb=>by
      rcases(hXi A b).1 hb with h1 |h1 |h1
      · exact((hRA A).1 h b h1).imp id fun h=>by omega
      · exact .inr oM
      · exact .inr oM
    have rn:∀A,RA A->∀b,A b->b≠w.heap.size/\b≠w.heap.size+1:=fun A h b hb=>by
      rcases(hRA A).1 h b hb with h1 |h1
      · have:=hUw b h1;omega
      · omega
    have hJX:∀k A F W1 W2,J k (X A) F W1->RA A->w.heap.size+2<=W1.heap.size->aS A W1 W2->J k (X (fun b=>A b\/(W1.heap.size<=b/\b< W2.heap.size))) F W2:=fun k A F W1 W2 h hA hs ht=>
      conv (fun B=>J k B F W2) _ _ (fun b=>by simp only [hXi];exact⟨fun h=>h.elim (fun h=>h.elim (fun a=> .inl (.inl a)) (fun e=> .inr e)) (fun n=> .inl (.inr n)),fun h=>h.elim (fun h=>h.elim (fun a=> .inl (.inl a)) (fun n=> .inr n)) (fun e=> .inl (.inr e))⟩) (hJ k (X A) F W1 W2 h (rX A hA) (ht.mono fun b _ h=>(hXi A b).2 (.inl h)))
    have hJxX:∀k c A F W1 W2,Jx k c (X A) F W1->RA A->w.heap.size+2<=W1.heap.size->aS A W1 W2->Jx k c (X (fun b=>A b\/(W1.heap.size<=b/\b< W2.heap.size))) F W2:=fun k c A F W1 W2 h hA hs ht=>
      conv (fun B=>Jx k c B F W2) _ _ (fun b=>by simp only [hXi];exact⟨fun h=>h.elim (fun h=>h.elim (fun a=> .inl (.inl a)) (fun e=> .inr e)) (fun n=> .inl (.inr n)),fun h=>h.elim (fun h=>h.elim (fun a=> .inl (.inl a)) (fun n=> .inr n)) (fun e=> .inl (.inr e))⟩) (hJx k c (X A) F W1 W2 h (rX A hA) (ht.mono fun b _ h=>(hXi A b).2 (.inl h)))
    have dX:∀(A D:Nat->Prop),RA A->(∀b,D b->A b)->∀b,(X A b/\¬D b)<->X (fun b=>A b/\¬D b) b:=fun A D hA hD b=>by
      simp only [hXi]
      constructor
      · rintro⟨h |h,hd⟩
        · exact .inl ⟨h,hd⟩
        · exact .inr h
      · rintro(⟨h,hd⟩ |h)
        · exact⟨.inl h,hd⟩
        · exact⟨.inr h,fun hd=>by have:=rn A hA b (hD b hd);omega⟩
    have hDX:∀k A F (D:Nat->Prop) W1,J k (X A) F W1->RA A->(∀b,D b->A b)->J k (X (fun b=>A b/\¬D b)) (fun b=>F b\/D b) W1:=fun k A F D W1 h hA hd=>
      conv (fun B=>J k B (fun b=>F b\/D b) W1) _ _ (dX A D hA hd) (hD k (X A) F D W1 h fun b hb=>(hXi A b).2 (.inl (hd b hb)))
    have hDxX:∀k c A F (D:Nat->Prop) W1,Jx k c (X A) F W1->RA A->(∀b,D b->A b)->Jx k c (X (fun b=>A b/\¬D b)) (fun b=>F b\/D b) W1:=fun k c A F D W1 h hA hd=>
      conv (fun B=>Jx k c B (fun b=>F b\/D b) W1) _ _ (dX A D hA hd) (hDx k c (X A) F D W1 h fun b hb=>(hXi A b).2 (.inl (hd b hb)))
    have hput:∀k A F W5 o,J k (X A) F W5->RA A->J k (X A) F (W5.putObj (w.heap.size+1) o):=fun k A F W5 o h hA=>
      conv (fun B=>J k B F _) _ _ (fun b=>⟨fun h=>h.elim id fun h=>by simp at h;omega,.inl⟩) (hJ k (X A) F W5 _ h (rX A hA) ((aS.refl _ _).putObj o fun _=>(hXi A _).2 (.inr (.inr rfl))))
    have hputx:∀k c A F W5 o,Jx k c (X A) F W5->RA A->Jx k c (X A) F (W5.putObj (w.heap.size+1) o):=fun k c A F W5 o h hA=>
      conv (fun B=>Jx k c B F _) _ _ (fun b=>⟨fun h=>h.elim id fun h=>by simp at h;omega,.inl⟩) (hJx k c (X A) F W5 _ h (rX A hA) ((aS.refl _ _).putObj o fun _=>(hXi A _).2 (.inr (.inr rfl))))
    have h01:J 0 (X U) (fun _=>False) W1:=conv (fun B=>J 0 B _ W1) _ _ (fun b=>by simp only [hXi,hs1];constructor <;> (intro h;rcases h with h |h;exact .inl h;exact .inr oM)) (hJ 0 U _ w W1 h0 (fun _ h=> .inl h) (aS.jk hb1))
    have hRr:∀(A F:Nat->Prop) (B:World),(∀b,A b\/F b->(U b\/W1.heap.size<=b)/\b< B.heap.size)->RA A:=fun A F B h=>(hRA A).2 fun b hb=>(h b (.inl hb)).1.imp id fun h=>by omega
    refine(hit (w.heap.size+1)
      (fun k g A F W=>W.heap[w.heap.size]?=some (.deferred (some []))/\(g=true->J k (X A) F W/\W.heap[w.heap.size+1]?=some (.loop (rec .ready none)))/\(g=false->∃c,Jx k c (X A) F W/\W.heap[w.heap.size+1]?=some (.loop (rec .done (some c)))))
      W1 oM (fun b hb=>hb1.block b (hL b hb)) oM oM
      (fun k g A F B1 B2 h hA hs ht=>by
        obtain⟨q1,q2,q3⟩:=h
        have hA':=hRr A F B1 hA
        have st:∀b,b=w.heap.size\/b=w.heap.size+1->B2.heap[b]?=B1.heap[b]?:=fun b hb=>ht.block b oM fun hc=>by have:=rn A hA' b hc;omega
        exact⟨(st _ (.inl rfl)).trans q1,fun e=>⟨hJX k A F B1 B2 (q2 e).1 hA' oM ht,(st _ (.inr rfl)).trans (q2 e).2⟩,fun e=>by
          obtain⟨c,q4,q5⟩:=q3 e
          exact⟨c,hJxX k c A F B1 B2 q4 hA' oM ht,(st _ (.inr rfl)).trans q5⟩⟩)
      (fun k g A F D B1 h hA hd=>by
        obtain⟨q1,q2,q3⟩:=h
        have hA':=hRr A F B1 hA
        exact⟨q1,fun e=>⟨hDX k A F D B1 (q2 e).1 hA' hd,(q2 e).2⟩,fun e=>by
          obtain⟨c,q4,q5⟩:=q3 e
          exact⟨c,hDxX k c A F D B1 q4 hA' hd,q5⟩⟩)
      ?_ ⟨hK1,fun _=>⟨h01,hL1⟩,fun e=>by cases e⟩).mono ?_
    · rintro k x A F W hkn hx hA hsz ⟨hk,hg1,_⟩
      obtain⟨hi,hl⟩:=hg1 rfl
      have hlt:w.heap.size+1< W.heap.size:=(Array.getElem?_eq_some_iff.1 hl).1
      have hA2:=hRr A F W hA
      have hy:=run_yield (P:=P) (args:=x) hl (by rw [hrec];exact hps k _ x _ hx)
      rw [hrec]at hy
      have x1:X A (w.heap.size+1):=(hXi A _).2 (.inr (.inr rfl))
      have x0:X A w.heap.size:=(hXi A _).2 (.inr (.inl rfl))
      have hnR1:¬(¬X A (w.heap.size+1)/\¬L (w.heap.size+1)/\¬F (w.heap.size+1)):=fun e=>e.1 x1
      have hnR0:¬(¬X A w.heap.size/\¬L w.heap.size/\¬F w.heap.size):=fun e=>e.1 x0
      have xr:∀b,X A b\/F b->(U b\/w.heap.size<=b)/\b< W.heap.size:=fun b hb=>by
        rcases hb with hb |hb
        · refine⟨rX A hA2 b hb,?_⟩
          rcases(hXi A b).1 hb with h |h |h
          · exact(hA b (.inl h)).2
          · omega
          · omega
        · have:=hA b (.inr hb)
          exact⟨this.1.imp id fun h=>by omega,this.2⟩
      have nA:¬A (w.heap.size+1)/\¬L (w.heap.size+1)/\¬F (w.heap.size+1):=by
        refine⟨fun h=>(rn A hA2 _ h).2 rfl,fun h=>by have:=hL _ (.inl h);omega,fun h=> ?_⟩
        rcases(hA _ (.inr h)).1 with h1 |h1
        · have:=hUw _ h1;omega
        · omega
      refine⟨fn,_,assign,body,hy,roundIn_of_wpIn hfn (wpIn_mono (hround (w.heap.size+1) k x (X A) F W ⟨by omega,x1⟩ xr hkn hx hi) ?_)⟩
      rintro e a3 W3 hp
      cases e with
      |normal=>
        obtain⟨ht3,hbody⟩:=hp
        have hl3:W3.heap[w.heap.size+1]?=some (.loop (rec .ready none)):=(ht3.block _ hlt hnR1).trans hl
        have hk3:W3.heap[w.heap.size]?=some (.deferred (some [])):=(ht3.block _ oM hnR0).trans hk
        have hlt3:w.heap.size+1< W3.heap.size:=(Array.getElem?_eq_some_iff.1 hl3).1
        refine⟨_,run_beginRound hl3 (by rw [hrec]),?_⟩
        obtain⟨W4,hW4⟩:∃W4,W3.putObj (w.heap.size+1) (.loop {rec .ready none with state:= .busy})=W4:=⟨_,rfl⟩
        have ht4:aS (· =w.heap.size+1) W3 W4:=by rw [<-hW4];exact(aS.refl _ _).putObj _ fun _=>rfl
        have hl4:W4.heap[w.heap.size+1]?=some (.loop {rec .ready none with state:= .busy}):=by rw [<-hW4];exact World.putObj_heap_same hlt3
        have hk4:W4.heap[w.heap.size]?=some (.deferred (some [])):=(ht4.block _ oM oM).trans hk3
        rw [hW4]
        refine wpIn_mono (hbody W4 ht4) ?_
        have hsz4:W4.heap.size=W3.heap.size:=by rw [<-hW4];simp
        have fin:∀(jump:Option Code) (W5:World),aS (fun i=>¬X A i/\¬L i/\¬F i) W4 W5->
            (Instr.endRound (w.heap.size+1) jump).run P W5= .ok (.bool jump.isNone) (W5.putObj (w.heap.size+1) (.loop (rec (if jump.isNone then .ready else .done) jump)))/\
            (W5.putObj (w.heap.size+1) (.loop (rec (if jump.isNone then .ready else .done) jump))).heap[w.heap.size+1]?=some (.loop (rec (if jump.isNone then .ready else .done) jump))/\
            (W5.putObj (w.heap.size+1) (.loop (rec (if jump.isNone then .ready else .done) jump))).heap[w.heap.size]?=some (.deferred (some []))/\
            aS (fun i=>¬A i/\¬L i/\¬F i) W (W5.putObj (w.heap.size+1) (.loop (rec (if jump.isNone then .ready else .done) jump))):=fun jump W5 ht5=>by
          have hl5:=(ht5.block _ (Array.getElem?_eq_some_iff.1 hl4).1 hnR1).trans hl4
          have hr:=run_endRound (P:=P) jump hl5
          rw [hrec]at hr ⊢
          refine⟨hr,World.putObj_heap_same (Array.getElem?_eq_some_iff.1 hl5).1,(World.putObj_heap_other oM).trans ((ht5.block _ oM hnR0).trans hk4),?_⟩
          have sub:∀i,¬X A i/\¬L i/\¬F i->¬A i/\¬L i/\¬F i:=fun i h=>⟨fun ha=>h.1 ((hXi A i).2 (.inl ha)),h.2⟩
          exact(((ht3.mono fun k _ h=>sub k h).trans (ht4.mono fun k _ h=>by subst h;exact nA)).trans (ht5.mono fun k _ h=>sub k h)).putObj _ fun _=>nA
        rintro e a5 W5 hp
        cases e with
        |normal=>
          obtain⟨ht5,hi5⟩:=hp
          obtain⟨hr,hl6,hk6,ht6⟩:=fin none W5 ht5
          exact⟨_,_,hr,_,rfl,ht6,fun _=>⟨hk6,fun _=>⟨hput _ _ _ _ _ hi5 hA2,hl6⟩,fun e=>by cases e⟩,fun h=>by simp at h⟩
        |ret=>
          obtain⟨ht5,hi5⟩:=hp
          obtain⟨hr,hl6,hk6,ht6⟩:=fin (some .ret) W5 ht5
          exact⟨_,_,hr,_,rfl,ht6,fun h=>by simp at h,fun _=>⟨hk6,(fun e=>by cases e),fun _=>⟨.ret,hputx _ _ _ _ _ _ hi5 hA2,hl6⟩⟩⟩
        |exit id=>
          obtain⟨ht5,hi5⟩:=hp
          obtain⟨hr,hl6,hk6,ht6⟩:=fin (some (.exit id)) W5 ht5
          exact⟨_,_,hr,_,rfl,ht6,fun h=>by simp at h,fun _=>⟨hk6,(fun e=>by cases e),fun _=>⟨.exit id,hputx _ _ _ _ _ _ hi5 hA2,hl6⟩⟩⟩
        |goto t=>
          obtain⟨ht5,hi5⟩:=hp
          obtain⟨hr,hl6,hk6,ht6⟩:=fin (some (.goto t)) W5 ht5
          exact⟨_,_,hr,_,rfl,ht6,fun h=>by simp at h,fun _=>⟨hk6,(fun e=>by cases e),fun _=>⟨.goto t,hputx _ _ _ _ _ _ hi5 hA2,hl6⟩⟩⟩
        |panic ch=>exact hp.elim
        |outgrown=>exact hp.elim
      |ret=>exact hp.elim
      |exit id=>exact hp.elim
      |goto t=>exact hp.elim
      |panic ch=>exact hp.elim
      |outgrown=>exact hp.elim
    · rintro e W2 ⟨⟨v,rfl⟩,A,F,hA,h⟩
      have hA2:RA A:=(hRA A).2 fun b hb=>(hA b hb).imp id fun h=>by omega
      have hXw:=rX A hA2
      rcases h with⟨hk,hg1,_⟩ | ⟨k,hk',hk,_,hg2⟩
      · obtain⟨hi,hl⟩:=hg1 rfl
        exact⟨none,_,by have:=run_endLoop (P:=P) hl (by rw [hrec];simp);rw [hrec]at this;exact this,hdone _ (X A) F _ (hput _ _ _ _ _ hi hA2) ⟨Nat.le_refl _,(hXi A _).2 (.inr (.inl rfl))⟩ hXw ((World.putObj_heap_other oM).trans hk)⟩
      · obtain⟨c,hi,hl⟩:=hg2 rfl
        exact⟨some c,_,by have:=run_endLoop (P:=P) hl (by rw [hrec];simp);rw [hrec]at this;exact this,hstop _ k c (X A) F _ hk' (hputx _ _ _ _ _ _ hi hA2) ⟨Nat.le_refl _,(hXi A _).2 (.inr (.inl rfl))⟩ hXw ((World.putObj_heap_other oM).trans hk)⟩
end Go.Dw
namespace Go.Ab
open Go.RowKit Go.Dw Go.Shelf
def LX(es:List (List V))(L:Nat->Prop)(k:Nat)(F:Nat->Prop)(x:Array Value)(W:World):Prop:= ∃v,es[k]?=some v/\RV W (fun b=>L b\/F b) ρ0 v x.toList
def LV(P:Program)(gf:FuncId)(caps:List V)(ins:List Ob)(es:List (List V)):Prop:=
  (∀(args:Array Value) (w:World),(callFunc gf args).run P w= .ok (.enter gf args) w)/\
  ∀(L U:Nat->Prop) (w:World) (ρ:Nat->Option Value) (lb:Array Value),(∀b,L b->b< w.heap.size)->(∀b,U b->b< w.heap.size/\¬L b)->(∀g,R w L ρ0 (jx g) (qP g))->
    (∀i o,ins[i]?=some o->Real U w L ρ (500+i) o)->(∀i j x y k,i≠j->ρ i=some x->ρ j=some y->blk x=some k->blk y≠some k)->(∀id,(id< 500\/500+ins.length<=id)->ρ id=none)->RV w L ρ caps lb.toList->
    K0 P gf lb es.length (LX es L) L U w
theorem H9{P:Program}{N:Nat}{C:Cx P N}{Q:Exit->S->Prop}{tm:Nat->V}{σ:Nat->Option Ob}{nx:Nat}{g:Operand}{ps:Array Tmp}{assign body:Code}{gf:FuncId}{caps:List V}{ins:List Ob}{es:List (List V)}(ns:List Nat)
    (hF:C.F=Fence.wide) (pn xn:List Nat) (gl:List (Nat×Nat)) (hd:∀id x,C.dfs.pin id=some x->id∈pn/\∀p∈gl,p.1≠id) (it:LV P gf caps ins es) (hg:ev tm g= .fn (.func gf) [] (V.aV (oa ns) caps)) (hidf:V.cQ ins.length caps=true) (hns:ns.length=ins.length) (hnd:ns.Nodup) (hins:∀(i k:Nat) (o:Ob),ns[i]?=some k->ins[i]?=some o->σ k=some o/\DI o=true) (hlen:∀x∈es,x.length=ps.size) (hps:ps.toList.all (fun p=>decide (p< N))=true)
    (tl:List (Nat×V)) (ok:Nat->Prop) (sl:Nat->List Ob) (X:Nat->Code->List Ob->Prop) (hok0:ok 0)
    (hpn:pn.all (fun p=>decide (500<=p/\p< 1000))=true) (hl0:(sl 0).length=(pn++xn).length) (htl:tl.all (fun p=>p.2.uj pn)=true) (hid:gl.all (fun p=>decide (p.1< 1000))=true)
    (htm:lK (fun p=>tm p.1=p.2.bB (aH gl nx)) tl) (hσ:lK (fun p=>∃ob,σ (aH gl nx p.1)=some ob/\fy ob (p.2.bB (aH gl nx))) ((pn++xn).zip (sl 0)))
    (hinj:decide ((((pn++xn).zip (sl 0)).map fun p=>aH gl nx p.1).Nodup)=true) (hdis:∀p∈(pn++xn).zip (sl 0),aH gl nx p.1∉ns)
    (round:∀C':Cx P N,(∃l,C'.F=Fence.wide.inRound l)->∀k x,es[k]?=some x->ok k->AW C' assign (dS (fun s'=>AW C' body (mg (pn++xn) ok sl X k) s') (fun _ _=>False)) ⟨mb (gJ tl) ps.toList x,cO ((pn++xn).zip (sl k)),1⟩)
    (hdone:ok es.length->Q .normal ⟨gJ tl,cO ((pn++xn).zip (sl es.length)),1⟩)
    (hstop:∀k c sx,k< es.length->X k c sx->AW C c Q ⟨gJ tl,cO ((pn++xn).zip sx),1⟩):AW C (.rangeFunc g ps assign body) Q ⟨tm,σ,nx⟩:=by
  intro a w ⟨L,ρ',g00⟩
  have g0:=qK.bB (s:=⟨tm,σ,nx⟩) tl ((pn++xn).zip (sl 0)) gl htm.mem hσ.mem (of_decide_eq_true hinj) (by simpa using hid) (fun p hp=>by
    cases hc:C.dfs.pin p.1 with
    |none=>rfl
    |some x=>exact absurd rfl ((hd _ x hc).2 p hp)) g00
  have hfn:=g00.tm.eval g00.g.gl g
  generalize hρe:(fun i=>ρ' (aH gl nx i))=ρ at g0
  have hρi:∀i,ρ i=ρ' (aH gl nx i):=fun i=>by rw [<-hρe]
  clear hρe
  rw [hg]at hfn
  obtain⟨xs',lb,eg,hxs,hlb⟩:=hfn.jP
  have hxs0:xs'= #[]:=by have:=hxs.1;simpa using this.symm
  subst hxs0
  have hpn':∀p∈pn,500<=p/\p< 1000:=by simpa using hpn
  have hps':∀p∈ps.toList,p< N:=fun p hp=>of_decide_eq_true (List.all_eq_true.1 hps p hp)
  obtain⟨Ds,dd1,dd2,dd3⟩:=g0.defers
  obtain⟨it1,it2⟩:=it
  have hobU:∀i,i< ins.length->∃t cs b xs,ins[i]?=some (.box t cs)/\V.bp cs=true/\ns[i]?=some (oa ns (500+i))/\σ (oa ns (500+i))=some (.box t cs)/\ρ' (oa ns (500+i))=some (.pointer (some ⟨b,0,none⟩))/\C.W b/\¬L b/\w.heap[b]?=some (.cells xs t (0,0))/\RL w L ρ' cs xs.toList:=by
    intro i hi
    have h1:ins[i]?=some ins[i]:=List.getElem?_eq_getElem hi
    have h2:ns[i]?=some ns[i]:=List.getElem?_eq_getElem oM
    have h3:oa ns (500+i)=ns[i]:=by
      unfold oa
      rw [if_pos oM,Nat.add_sub_cancel_left,List.getD_eq_getElem?_getD,h2];rfl
    obtain⟨h4,h5⟩:=hins i _ _ h2 h1
    rw [h3]
    cases ho:ins[i]with
    |box t cs=>
      rw [ho]at h1 h4 h5
      obtain⟨b,xs,q1,q2,q3,q4,q5⟩:=g00.g.ob _ _ h4
      exact⟨t,cs,b,xs,h1,h5,h2,h4,q1,q2,q3,q4,q5⟩
    |row e sz n f=>rw [ho]at h5;cases h5
    |mp str f=>rw [ho]at h5;cases h5
  obtain⟨U,hUi⟩:∃U:Nat->Prop,∀b,U b<->∃i,i< ins.length/\ρ' (oa ns (500+i))=some (.pointer (some ⟨b,0,none⟩)):=⟨_,fun _=>Iff.rfl⟩
  have hUw:∀b,U b->b< w.heap.size/\C.W b/\¬L b/\b∉Ds:=by
    intro b hb
    obtain⟨i,hi,hx⟩:=(hUi b).1 hb
    obtain⟨t,cs,b',xs,_,_,_,h4,q1,q2,q3,q4,q5⟩:=hobU i hi
    rw [hx]at q1
    simp only [Option.some.injEq,Value.pointer.injEq,Addr.mk.injEq,and_true]at q1
    subst q1
    exact⟨(Array.getElem?_eq_some_iff.1 q4).1,q2,q3,fun hD=>(g00.g.ob _ _ h4).eH hx rfl (dd3 b hD).1⟩
  obtain⟨ρu,hρu⟩:∃ρu:Nat->Option Value,∀id,ρu id=if 500<=id/\id< 500+ins.length then ρ' (oa ns id)else none:=⟨_,fun _=>rfl⟩
  have hρuS:∀id x,ρu id=some x->500<=id/\id< 500+ins.length/\ρ' (oa ns id)=some x:=by
    intro id x hx
    rw [hρu]at hx
    split at hx
    · rename_i h;exact⟨h.1,h.2,hx⟩
    · cases hx
  have hnm:∀i j,i< ins.length->j< ins.length->oa ns (500+i)=oa ns (500+j)->i=j:=by
    intro i j hi hj he
    obtain⟨_,_,_,_,_,_,h1,_⟩:=hobU i hi
    obtain⟨_,_,_,_,_,_,h2,_⟩:=hobU j hj
    rw [<-he]at h2
    exact pH hnd oM (h1.trans h2.symm)
  have hit:=it2 L U w ρu lb (fun b hb=>(g0.g.ll b hb).1) (fun b hb=>⟨(hUw b hb).1,(hUw b hb).2.2.1⟩) g0.g.gl (fun i o ho=>by
      have hi:=(List.getElem?_eq_some_iff.1 ho).1
      obtain⟨t,cs,b,xs,h1,h2,_,_,q1,q2,q3,q4,q5⟩:=hobU i hi
      rw [ho]at h1;injection h1 with h1;subst h1
      exact⟨b,xs,by rw [hρu,if_pos ⟨by omega,by omega⟩];exact q1,(hUi b).2 ⟨i,hi,q1⟩,q3,q4,q5.free h2⟩)
    (fun i j x y k hij hx hy=>by
      obtain⟨a1,a2,a3⟩:=hρuS i x hx
      obtain⟨b1,b2,b3⟩:=hρuS j y hy
      obtain⟨i',rfl⟩:∃i',i=500+i':=⟨i- 500,by omega⟩
      obtain⟨j',rfl⟩:∃j',j=500+j':=⟨j- 500,by omega⟩
      obtain⟨_,_,_,_,_,_,_,e1,_⟩:=hobU i' oM
      obtain⟨_,_,_,_,_,_,_,e2,_⟩:=hobU j' oM
      exact g00.g.sep _ _ x y k (fun he=>hij (by rw [hnm i' j' oM oM he])) (by simp only at e1 ⊢;rw [e1];simp) (by simp only at e2 ⊢;rw [e2];simp) a3 b3)
    (fun id hid=>by rw [hρu,if_neg oM]) ((zw (oa ns) hlb).uc hidf fun id v h1 h2 hv=>by rw [hρu,if_pos ⟨h1,h2⟩];exact hv)
  have hxlen:∀k F x W,LX es L k F x W->x.size=ps.size:=by
    rintro k F x W ⟨v,hv,h1⟩
    have:=h1.1
    rw [hlen v (List.mem_of_getElem? hv)]at this
    simpa using this.symm
  have hDw:∀D∈Ds,D< w.heap.size:=fun D hD=>(Array.getElem?_eq_some_iff.1 (dd3 D hD).1).1
  -- the blocks of the objects that stay are none of the iterator's
  have hblk:∀id o,cO ((pn++xn).zip (sl 0)) id=some o->∀x k,ρ id=some x->blk x=some k->¬U k:=by
    intro id o ho x k hx hk hU
    obtain⟨i,hi',hxu⟩:=(hUi k).1 hU
    obtain⟨_,_,_,_,_,_,h3,h4,_⟩:=hobU i hi'
    have hi:id∈pn++xn:=fm (by rw [ho];simp)
    obtain⟨j,hj,hjid⟩:=List.getElem_of_mem hi
    have hz:(id,(sl 0)[j]'oM)∈(pn++xn).zip (sl 0):=by
      rw [<-hjid]
      refine List.mem_of_getElem? (i:=j) ?_
      rw [List.getElem?_zip_eq_some]
      exact⟨List.getElem?_eq_getElem hj,List.getElem?_eq_getElem oM⟩
    obtain⟨ob,hob,_⟩:=hσ.mem _ hz
    have hne:=hdis _ hz
    simp only at hob hne
    rw [hρi]at hx
    exact g00.g.sep (aH gl nx id) (oa ns (500+i)) x _ k (fun he=>hne (by rw [he];exact List.mem_of_getElem? h3)) (by simp only;rw [hob];simp) (by simp only at h4 ⊢;rw [h4];simp) hx hxu hk rfl
  obtain⟨Wc,hWc⟩:∃Wc:(Nat->Prop)->(Nat->Prop)->Nat->Prop,∀A F b,Wc A F b<->C.W b/\¬A b/\¬L b/\¬F b/\b∉Ds:=⟨_,fun _ _ _=>Iff.rfl⟩
  obtain⟨Lc,hLc⟩:∃Lc:(Nat->Prop)->Nat->Prop,∀A b,Lc A b<->C.LB b/\¬A b/\b∉Ds:=⟨_,fun _ _=>Iff.rfl⟩
  -- what is known of the objects, of memory
  obtain⟨RG,hRG⟩:∃RG:(Nat->Prop)->(Nat->Prop)->World->Prop,∀A F W,RG A F W<->(∀b,A b\/F b->(U b\/w.heap.size<=b)/\b< W.heap.size)/\(∀b,F b->¬A b):=⟨_,fun _ _ _=>Iff.rfl⟩
  obtain⟨GS,hGS⟩:∃GS:(Nat->Prop)->(Nat->Prop)->World->List Ob->Prop,∀A F W ob,GS A F W ob<->RG A F W/\aS (fun b=>C.W b/\¬L b/\b∉Ds) w W/\
      ∃L' ρ',(∀b,L b\/F b->L' b)/\(∀id x,id∈pn->ρ id=some x->ρ' id=some x)/\(∀id,bR 1 id->ρ' id=none)/\G (Wc A F) (Lc A) (cO ((pn++xn).zip ob)) W L' ρ':=⟨_,fun _ _ _ _=>Iff.rfl⟩
  have frame:∀ {W1:World},aS (fun b=>C.W b/\¬L b/\b∉Ds) w W1->∀b,L b->W1.heap[b]?=w.heap[b]?:=fun ht b hb=>ht.block b (g0.g.ll b hb).1 fun hc=>hc.2.1 hb
  have frD:∀ {W1:World},aS (fun b=>C.W b/\¬L b/\b∉Ds) w W1->∀D∈Ds,W1.heap[D]?=some (.deferred (some [])):=fun ht D hD=>
    (ht.block D (hDw D hD) fun hc=>hc.2.2 hD).trans (dd3 D hD).1
  have tmU:∀ {W1:World}{L':Nat->Prop}{ρ':Nat->Option Value},aS (fun b=>C.W b/\¬L b/\b∉Ds) w W1->(∀b,L b->L' b)->(∀id x,id∈pn->ρ id=some x->ρ' id=some x)->∀i,Go.Ab.R W1 L' ρ' (gJ tl i) (a.tmps.getD i undef):=fun ht hLL hρ i=>
    ((g0.tm i).Ot (B4 htl i) _ hρ).mono (fun b hb=>⟨hLL b hb,frame ht b hb⟩) fun _ _ h=>h
  -- what the iterator holds or laid may be frozen
  have lcF:∀ {b:Nat},U b\/w.heap.size<=b->C.LB b/\b∉Ds:=fun {b} h=>by
    rcases h with h |h
    · exact⟨C.wl b (hUw b h).2.1,(hUw b h).2.2.2⟩
    · exact⟨(g0.g.new b h).2,fun hD=>by have:=hDw b hD;omega⟩
  have gs0:GS U (fun _=>False) w (sl 0):=by
    rw [hGS,hRG]
    refine⟨⟨fun b hb=> ?_,fun _ h=>h.elim⟩,aS.refl _ _,L,ρ,fun b h=>h.elim id False.elim,fun _ _ _ h=>h,g0.fr,fun b hb=>⟨(g0.g.ll b hb).1,(hLc _ _).2 ⟨(g0.g.ll b hb).2,fun h=>(hUw b h).2.2.1 hb,fun hD=>(dd3 b hD).2.2 hb⟩⟩,fun b hb=>⟨(hWc _ _ _).2 ⟨(g0.g.new b hb).1,fun h=>by have:=(hUw b h).1;omega,fun hl=>by have:=(g0.g.ll b hl).1;omega,fun h=>h,fun hD=>by have:=hDw b hD;omega⟩,(hLc _ _).2 ⟨(g0.g.new b hb).2,fun h=>by have:=(hUw b h).1;omega,fun hD=>by have:=hDw b hD;omega⟩⟩,fun id o ho=> ?_,g0.g.sep,g0.g.gl⟩
    · rcases hb with hb |hb
      · exact⟨.inl hb,(hUw b hb).1⟩
      · exact hb.elim
    · have hr:=g0.g.ob id o ho
      obtain⟨y,hy,hy2⟩:=hr.lt
      refine hr.uR (Ext.refl _ _ _) fun x k hx hk=> ?_
      have hU:=hblk id o ho x k hx hk
      rw [hx]at hy;injection hy with hy;subst hy
      exact⟨rfl,(hy2 k hk).2.2,(hWc _ _ _).2 ⟨(hy2 k hk).2.1,hU,(hy2 k hk).2.2,fun h=>h,fun hD=>hr.eH hx hk (dd3 k hD).1⟩⟩
  have gsJ:∀A F W1 W2 ob,GS A F W1 ob->aS A W1 W2->GS (fun b=>A b\/(W1.heap.size<=b/\b< W2.heap.size)) F W2 ob:=by
    intro A F W1 W2 ob h ht
    rw [hGS,hRG]at h ⊢
    obtain⟨⟨hA,hAF⟩,hT,L',ρ',l1,l2,l3,hG⟩:=h
    have hAl:∀b,L' b->¬A b:=fun b hb=>((hLc _ _).1 (hG.ll b hb).2).2.1
    have ex:Ext W1 L' ρ' W2 L' ρ':=⟨fun b hb=>⟨hb,ht.block b (hG.ll b hb).1 (hAl b hb)⟩,fun _ _ h=>h⟩
    have nA:∀b,b< W1.heap.size->¬A b->¬(A b\/(W1.heap.size<=b/\b< W2.heap.size)):=fun b hb hn h=>by
      rcases h with h |h
      · exact hn h
      · omega
    have ws:=hT.size
    refine⟨⟨fun b hb=> ?_,fun b hb=>nA b (hA b (.inr hb)).2 (hAF b hb)⟩,?_,L',ρ',l1,l2,l3,fun b hb=>⟨Nat.lt_of_lt_of_le (hG.ll b hb).1 ht.size,?_⟩,fun b hb=> ?_,fun id o ho=> ?_,hG.sep,hG.qO ex⟩
    · have:=ht.size
      rcases hb with(h |h) |h
      · exact⟨(hA b (.inl h)).1,Nat.lt_of_lt_of_le (hA b (.inl h)).2 ht.size⟩
      · exact⟨.inr oM,h.2⟩
      · exact⟨(hA b (.inr h)).1,Nat.lt_of_lt_of_le (hA b (.inr h)).2 ht.size⟩
    · refine aS.mono (R:=fun b=>(C.W b/\¬L b/\b∉Ds)\/A b) ((hT.mono fun _ _ h=> .inl h).trans (ht.mono fun _ _ h=> .inr h)) fun k hk h=> ?_
      rcases h with h |h
      · exact h
      · rcases(hA k (.inl h)).1 with h |h
        · exact⟨(hUw k h).2.1,(hUw k h).2.2⟩
        · omega
    · obtain⟨q1,q2,q3⟩:=(hLc _ _).1 (hG.ll b hb).2
      exact(hLc _ _).2 ⟨q1,nA b (hG.ll b hb).1 q2,q3⟩
    · have hb1:W1.heap.size<=b:=Nat.le_trans ht.size hb
      obtain⟨q1,q2⟩:=hG.new b hb1
      obtain⟨q1,_,q3,q4⟩:=(hWc _ _ _).1 q1
      obtain⟨r1,_,r3⟩:=(hLc _ _).1 q2
      have hn:¬(A b\/(W1.heap.size<=b/\b< W2.heap.size)):=fun h=>by
        rcases h with h |h
        · have:=(hA b (.inl h)).2;omega
        · omega
      exact⟨(hWc _ _ _).2 ⟨q1,hn,q3,q4⟩,(hLc _ _).2 ⟨r1,hn,r3⟩⟩
    · have hr:=hG.ob id o ho
      obtain⟨y,hy,hy2⟩:=hr.lt
      refine hr.uR ex fun x k hx hk=> ?_
      rw [hx]at hy;injection hy with hy;subst hy
      obtain⟨q1,q2,q3⟩:=hy2 k hk
      obtain⟨r1,r2,r3,r4⟩:=(hWc _ _ _).1 q2
      exact⟨ht.block k q1 r2,q3,(hWc _ _ _).2 ⟨r1,nA k q1 r2,r3,r4⟩⟩
  have gsD:∀A F (D:Nat->Prop) W1 ob,GS A F W1 ob->(∀b,D b->A b)->GS (fun b=>A b/\¬D b) (fun b=>F b\/D b) W1 ob:=by
    intro A F D W1 ob h hD
    rw [hGS,hRG]at h ⊢
    obtain⟨⟨hA,hAF⟩,hT,L',ρ',l1,l2,l3,hG⟩:=h
    have ex:Ext W1 L' ρ' W1 (fun b=>L' b\/D b) ρ':=⟨fun b hb=>⟨.inl hb,rfl⟩,fun _ _ h=>h⟩
    refine⟨⟨fun b hb=> ?_,fun b hb hc=> ?_⟩,hT,fun b=>L' b\/D b,ρ',fun b hb=> ?_,l2,l3,fun b hb=> ?_,fun b hb=> ?_,fun id o ho=> ?_,hG.sep,hG.qO ex⟩
    · rcases hb with h |h |h
      · exact hA b (.inl h.1)
      · exact hA b (.inr h)
      · exact hA b (.inl (hD b h))
    · rcases hb with h |h
      · exact hAF b h hc.1
      · exact hc.2 h
    · rcases hb with h |h |h
      · exact .inl (l1 b (.inl h))
      · exact .inl (l1 b (.inr h))
      · exact .inr h
    · rcases hb with h |h
      · obtain⟨q1,q2,q3⟩:=(hLc _ _).1 (hG.ll b h).2
        exact⟨(hG.ll b h).1,(hLc _ _).2 ⟨q1,fun hc=>q2 hc.1,q3⟩⟩
      · have hr:=hA b (.inl (hD b h))
        exact⟨hr.2,(hLc _ _).2 ⟨(lcF hr.1).1,fun hc=>hc.2 h,(lcF hr.1).2⟩⟩
    · obtain⟨q1,q2⟩:=hG.new b hb
      obtain⟨p1,p2,p3,p4,p5⟩:=(hWc _ _ _).1 q1
      obtain⟨r1,r2,r3⟩:=(hLc _ _).1 q2
      exact⟨(hWc _ _ _).2 ⟨p1,fun h=>p2 h.1,p3,fun h=>h.elim p4 fun h=>p2 (hD b h),p5⟩,(hLc _ _).2 ⟨r1,fun h=>r2 h.1,r3⟩⟩
    · have hr:=hG.ob id o ho
      obtain⟨y,hy,hy2⟩:=hr.lt
      refine hr.uR ex fun x k hx hk=> ?_
      rw [hx]at hy;injection hy with hy;subst hy
      obtain⟨q1,q2,q3⟩:=hy2 k hk
      obtain⟨p1,p2,p3,p4,p5⟩:=(hWc _ _ _).1 q2
      exact⟨rfl,fun h=>h.elim q3 fun h=>p2 (hD k h),(hWc _ _ _).2 ⟨p1,fun h=>p2 h.1,p3,fun h=>h.elim p4 fun h=>p2 (hD k h),p5⟩⟩
  have mkGam:∀(D:Nat) (A F:Nat->Prop) (W1:World) (ob:List Ob),GS A F W1 ob->(w.heap.size<=D/\A D)->W1.heap[D]?=some (.deferred (some []))->
      Gm C ⟨gJ tl,cO ((pn++xn).zip ob),1⟩ {a with defers:={target:= .collected D,args:= #[]}::a.defers} W1:=by
    intro D A F W1 ob hgs hD hDl
    rw [hGS,hRG]at hgs
    obtain⟨⟨hA,hAF⟩,hT,L',ρ',l1,l2,l3,hG⟩:=hgs
    refine⟨L',ρ',⟨⟨fun b hb=>⟨(hG.ll b hb).1,((hLc _ _).1 (hG.ll b hb).2).1⟩,fun b hb=>⟨((hWc _ _ _).1 (hG.new b hb).1).1,((hLc _ _).1 (hG.new b hb).2).1⟩,fun id o ho=> ?_,hG.sep,hG.gl⟩,l3,tmU hT (fun b hb=>l1 b (.inl hb)) l2,g0.size,⟨D::Ds,?_,List.nodup_cons.2 ⟨fun hc=> ?_,dd2⟩,fun E hE=> ?_⟩,fun id x hp=>l2 id x (hd id x hp).1 (g0.pin id x hp)⟩⟩
    · have hr:=hG.ob id o ho
      obtain⟨y,hy,hy2⟩:=hr.lt
      refine hr.uR (Ext.refl _ _ _) fun x k hx hk=> ?_
      rw [hx]at hy;injection hy with hy;subst hy
      exact⟨rfl,(hy2 k hk).2.2,((hWc _ _ _).1 (hy2 k hk).2.1).1⟩
    · simp only [marks,List.map_cons,dd1,List.cons_append]
    · have:=hDw D hc
      omega
    · rcases List.mem_cons.1 hE with rfl |hE
      · exact⟨hDl,(g0.g.new E hD.1).1,fun hc=>((hLc _ _).1 (hG.ll E hc).2).2.1 hD.2⟩
      · exact⟨frD hT E hE,(dd3 E hE).2.1,fun hc=>((hLc _ _).1 (hG.ll E hc).2).2.2 hE⟩
  rw [hF]
  refine EC (gf:=gf) (lb:=lb) (n:=es.length) eg it1 hit (fun b hb=>hb.elim (fun h=>(g0.g.ll b h).1) fun h=>(hUw b h).1) hxlen
    (fun k A F W=>ok k/\GS A F W (sl k)) (fun k c A F W=>∃sx,X k c sx/\GS A F W sx)
    (fun k A F W1 W2 h _ ht=>⟨h.1,gsJ A F W1 W2 _ h.2 ht⟩)
    (fun k c A F W1 W2 h _ ht=>by obtain⟨sx,h1,h2⟩:=h;exact⟨sx,h1,gsJ A F W1 W2 _ h2 ht⟩)
    (fun k A F D W1 h hD=>⟨h.1,gsD A F D W1 _ h.2 hD⟩)
    (fun k c A F D W1 h hD=>by obtain⟨sx,h1,h2⟩:=h;exact⟨sx,h1,gsD A F D W1 _ h2 hD⟩)
    ⟨hok0,gs0⟩ ?hround ?hdone ?hstop
  case hdone=>
    rintro D A F W ⟨hok,hG⟩ hD _ hDl
    refine⟨_,hdone hok,mkGam D A F W _ hG hD hDl,?_⟩
    rw [hGS]at hG
    exact hG.2.1.mono fun k _ h=>h.1
  case hstop=>
    rintro D k c A F W hk ⟨sx,hX,hG⟩ hD _ hDl
    have hst:=hstop k c sx hk hX
    unfold AW at hst
    rw [hF]at hst
    refine wpIn_mono (hst _ W (mkGam D A F W sx hG hD hDl)) ?_
    rintro e a' w' ⟨s',q,g',t⟩
    rw [hGS]at hG
    exact⟨s',q,g',(hG.2.1.mono fun k _ h=>h.1).trans t⟩
  case hround=>
    rintro l k x A F W ⟨hl,hAl⟩ hAb hkl ⟨v,hv,hxr⟩ ⟨hok,hgs⟩
    rw [hGS,hRG]at hgs
    obtain⟨⟨hA,hAF⟩,hT,L',ρ',l1,l2,l3,hG⟩:=hgs
    obtain⟨C',e1,e2,e3,e4,e4t⟩:∃C':Cx P N,C'.W=Wc A F/\C'.LB=Lc A/\C'.F=Fence.wide.inRound l/\(∀id,C'.dfs.pin id=if id∈pn then ρ id else none)/\C'.dfs.tl=[]:=
      ⟨⟨Wc A F,Lc A,fun b hb=>(hLc _ _).2 ⟨C.wl b ((hWc _ _ _).1 hb).1,((hWc _ _ _).1 hb).2.1,((hWc _ _ _).1 hb).2.2.2.2⟩,
        ⟨[],fun id=>if id∈pn then ρ id else none,fun id x h=>by
          by_cases hi:id∈pn
          · exact hpn' id hi
          · rw [if_neg hi]at h;cases h⟩,C.mx,Fence.wide.inRound l,.inr ⟨l,rfl⟩⟩,rfl,rfl,rfl,fun _=>rfl,rfl⟩
    have hr:=round C' ⟨l,e3⟩ k _ hv hok
    unfold AW at hr
    rw [e3]at hr
    obtain⟨z1,z2⟩:=tj (w:=W) (L:=L') (ρ:=ρ') ps.toList v x.toList (gJ tl) a.tmps (fun p hp=>by rw [g0.size];exact hps' p hp)
      ⟨hxr.1,fun i u y hu hy=>(hxr.2 i u y hu hy).mono (fun b hb=>⟨l1 b hb,rfl⟩) fun _ _ h=>by cases h⟩ (tmU hT (fun b hb=>l1 b (.inl hb)) l2)
    have ez:((ps.toList.zip x.toList).foldl (fun t (p,v)=>t.setIfInBounds p v) a.tmps)=(ps.zip x).foldl (fun t (p,v)=>t.setIfInBounds p v) a.tmps:=by
      rw [<-Array.toList_zip,Array.foldl_toList]
    rw [ez]at z1 z2
    have gm:Gm C' ⟨mb (gJ tl) ps.toList v,cO ((pn++xn).zip (sl k)),1⟩ {tmps:=(ps.zip x).foldl (fun t (p,v)=>t.setIfInBounds p v) a.tmps,defers:=[]} W:=
      ⟨L',ρ',⟨by rw [e1,e2];exact hG,l3,z2,z1.trans g0.size,⟨[],by rw [e4t];rfl,by simp,by simp⟩,fun id y hp=>by
        rw [e4]at hp
        split at hp
        · exact l2 id y (by assumption) hp
        · cases hp⟩⟩
    have sub:∀i,C'.W i->¬A i/\¬L i/\¬F i:=fun i hi=>by rw [e1]at hi;obtain⟨q1,q2,q3,q4,_⟩:=(hWc _ _ _).1 hi;exact⟨q2,q3,q4⟩
    have subC:∀i,C'.W i->C.W i/\¬L i/\i∉Ds:=fun i hi=>by rw [e1]at hi;obtain⟨q1,q2,q3,q4,q5⟩:=(hWc _ _ _).1 hi;exact⟨q1,q3,q5⟩
    refine wpIn_mono (hr _ W gm) ?_
    rintro e a1 W1 ⟨s1,hq,gm1,t1⟩
    cases e with
    |normal=>
      refine⟨t1.mono fun j _ h=>sub j h,fun W2 ht2=> ?_⟩
      have gm2:Gm C' s1 a1 W2:=by
        obtain⟨L1,ρ1,g1⟩:=gm1
        have hnL:¬L1 l:=fun hc=>by
          have:=(g1.g.ll l hc).2
          rw [e2]at this
          exact((hLc _ _).1 this).2.1 hAl
        have hnW:¬C'.W l:=fun hc=>(sub l hc).1 hAl
        have ex:Ext W1 L1 ρ1 W2 L1 ρ1:=⟨fun b hb=>⟨hb,ht2.block b (g1.g.ll b hb).1 (by rintro rfl;exact hnL hb)⟩,fun _ _ h=>h⟩
        refine⟨L1,ρ1,⟨⟨fun b hb=>⟨Nat.lt_of_lt_of_le (g1.g.ll b hb).1 ht2.size,(g1.g.ll b hb).2⟩,fun b hb=>g1.g.new b (Nat.le_trans ht2.size hb),fun id o ho=> ?_,g1.g.sep,g1.g.qO ex⟩,g1.fr,fun t=>(g1.tm t).ext ex,g1.size,?_,g1.pin⟩⟩
        · have hr1:=g1.g.ob id o ho
          obtain⟨y,hy,hy2⟩:=hr1.lt
          refine hr1.keep ex fun x j hx hj=> ?_
          rw [hx]at hy;injection hy with hy;subst hy
          exact⟨ht2.block j (hy2 j hj).1 (by rintro rfl;exact hnW (hy2 _ hj).2.1),(hy2 j hj).2.2⟩
        · obtain⟨Es,q1,q2,q3⟩:=g1.defers
          exact⟨Es,q1,q2,fun D hD=>⟨(ht2.block D (Array.getElem?_eq_some_iff.1 (q3 D hD).1).1 (by rintro rfl;exact hnW (q3 _ hD).2.1)).trans (q3 D hD).1,(q3 D hD).2⟩⟩
      have hbw:=hq a1 W2 gm2
      have fin:∀(a5:Act) (W5:World) (s5:S) (l5:List Ob),Gm C' s5 a5 W5->aS C'.W W2 W5->Le s5 ⟨fun _=> .any,cO ((pn++xn).zip l5),1⟩->aS (fun i=>¬A i/\¬L i/\¬F i) W2 W5/\GS A F W5 l5:=by
        intro a5 W5 s5 l5 gm5 t5 hle
        refine⟨t5.mono fun j _ h=>sub j h,?_⟩
        obtain⟨L5,ρ5,g5⟩:=hle C' a5 W5 gm5
        have hsz:W.heap.size<=W5.heap.size:=Nat.le_trans t1.size (Nat.le_trans ht2.size t5.size)
        have tw:aS (fun b=>C.W b/\¬L b/\b∉Ds) w W5:=by
          refine aS.mono (R:=fun b=>(C.W b/\¬L b/\b∉Ds)\/b=l) ((((hT.trans (t1.mono fun j _ h=>subC j h)).mono fun _ _ h=> .inl h).trans (ht2.mono fun _ _ h=> .inr h)).trans (t5.mono fun j _ h=> .inl (subC j h))) fun j hj h=> ?_
          rcases h with h |h
          · exact h
          · omega
        have gg:=g5.g
        rw [e1,e2]at gg
        rw [hGS,hRG]
        have ex:Ext W5 L5 ρ5 W5 (fun b=>L5 b\/L b\/F b) ρ5:=⟨fun b hb=>⟨.inl hb,rfl⟩,fun _ _ h=>h⟩
        refine⟨⟨fun b hb=>⟨(hA b hb).1,Nat.lt_of_lt_of_le (hA b hb).2 hsz⟩,hAF⟩,tw,fun b=>L5 b\/L b\/F b,ρ5,fun b hb=> .inr hb,fun id y hi hy=>g5.pin id y (by rw [e4,if_pos hi];exact hy),g5.fr,fun b hb=> ?_,gg.new,fun id o ho=> ?_,gg.sep,gg.qO ex⟩
        · rcases hb with hb |hb |hb
          · exact gg.ll b hb
          · refine⟨Nat.lt_of_lt_of_le (g0.g.ll b hb).1 tw.size,(hLc _ _).2 ⟨(g0.g.ll b hb).2,fun h=> ?_,fun hD=>(dd3 b hD).2.2 hb⟩⟩
            rcases(hA b (.inl h)).1 with h |h
            · exact(hUw b h).2.2.1 hb
            · have:=(g0.g.ll b hb).1;omega
          · have hr:=hA b (.inr hb)
            exact⟨Nat.lt_of_lt_of_le hr.2 hsz,(hLc _ _).2 ⟨(lcF hr.1).1,hAF b hb,(lcF hr.1).2⟩⟩
        · have hr5:=gg.ob id o ho
          obtain⟨y,hy,hy2⟩:=hr5.lt
          refine hr5.keep ex fun x j hx hj=>⟨rfl,?_⟩
          rw [hx]at hy;injection hy with hy;subst hy
          obtain⟨_,p2,p3,p4,_⟩:=(hWc _ _ _).1 (hy2 j hj).2.1
          rintro(h |h |h)
          · exact(hy2 j hj).2.2 h
          · exact p3 h
          · exact p4 h
      refine wpIn_mono hbw ?_
      rintro e5 a5 W5 ⟨s5,hp5,gm5,t5⟩
      cases e5 with
      |normal=>exact⟨(fin a5 W5 s5 _ gm5 t5 hp5.2).1,hp5.1,(fin a5 W5 s5 _ gm5 t5 hp5.2).2⟩
      |ret=>obtain⟨sx,hX,hle⟩:=hp5;exact⟨(fin a5 W5 s5 _ gm5 t5 hle).1,sx,hX,(fin a5 W5 s5 _ gm5 t5 hle).2⟩
      |exit id=>obtain⟨sx,hX,hle⟩:=hp5;exact⟨(fin a5 W5 s5 _ gm5 t5 hle).1,sx,hX,(fin a5 W5 s5 _ gm5 t5 hle).2⟩
      |goto t=>obtain⟨sx,hX,hle⟩:=hp5;exact⟨(fin a5 W5 s5 _ gm5 t5 hle).1,sx,hX,(fin a5 W5 s5 _ gm5 t5 hle).2⟩
      |panic c=>exact hp5.elim
      |outgrown=>exact hp5.elim
    |ret=>exact hq.elim
    |exit id=>exact hq.elim
    |goto t=>exact hq.elim
    |panic c=>exact hq.elim
    |outgrown=>exact hq.elim
def PN:V->Bool
 | .gd g _=>g
 |_=>true
theorem wS{v:V}(h:PN v=true):tF true v:=by cases v <;> first |exact fun _=>h |trivial
structure QL{P:Program}{N:Nat}{es:List (List V)}(C:Cx P N)(Y:YE P es)(ops:Array Oper)(nx:Nat)(os:List Oper)(fo:Operand)(ar:Array Operand)(d:Nat)(y:Oper)(Q:Exit->S->Nat->Bool->Prop)(k:Nat)(tm:Nat->V)(σ:Nat->Option Ob):Prop where
  hg:dK ops tm y=some true
  hu:((fo::ar.toList).all fun x=>PN (ev tm x))=true
  hf:ug (ev tm fo)= .c (.func (.yield Y.l) #[] #[])
  hv:∃v,es[k]?=some v/\A2 (ar.toList.map fun x=>ug (ev tm x)) v
  cj:V.bp (ar.toList.map fun x=>ug (ev tm x))=true
  t:bC C ops nx os (bO tm d (.b true)) σ [] fun tm' σ' _=>Q .normal ⟨tm',σ',nx+1⟩ (k+1) true
  f:bC C ops nx os (bO tm d (.b false)) σ [] fun tm' σ' _=>Q .normal ⟨tm',σ',nx+1⟩ k false
theorem zO{P:Program}{N:Nat}{es:List (List V)}{C:Cx P N}{Y:YE P es}{Q:Exit->S->Nat->Bool->Prop}(hC:YC C Y){id nx k:Nat}{ol:List Oper}{tm:Nat->V}{σ:Nat->Option Ob}(n:Nat){fo:Operand}{ar:Array Operand}{ats:Array TypeId}{d:Nat}{ty:TypeId}{pos:String}{af:Array Edge}{gd':Nat×Bool} (hok:gS N ol=true) (hy:ol[n]?=some ⟨some d,.call {callee:= .value fo,args:=ar,argTypes:=ats},ty,pos,af,some gd'⟩) (h:bC C ol.toArray nx (ol.take n) tm σ [] fun tm1 σ1 _=>QL C Y ol.toArray nx (ol.drop (n+1)) fo ar d ⟨some d,.call {callee:= .value fo,args:=ar,argTypes:=ats},ty,pos,af,some gd'⟩ Q k tm1 σ1):oF C Y (.region id ol.toArray false) Q ⟨tm,σ,nx⟩ k true:=by
 intro a w ⟨L,ρ,g⟩ hj hb;obtain⟨h1,h2⟩:=fZ hok;obtain⟨tr,tm1,σ1,h3,ys⟩:=h.run;have hn:n< ol.length:=(List.getElem?_eq_some_iff.1 hy).1;obtain⟨y,hyd⟩:∃y:Oper,y=⟨some d,.call {callee:= .value fo,args:=ar,argTypes:=ats},ty,pos,af,some gd'⟩:=⟨_,rfl⟩;have hsp:ol=ol.take n++y::ol.drop (n+1):=by rw [hyd];have e1:ol.drop n=ol[n]::ol.drop (n+1):=List.drop_eq_getElem_cons hn;have e2:ol[n]=_:=(List.getElem?_eq_some_iff.1 hy).2;rw [<-e2,<-e1,List.take_append_drop]
 refine wpIn_region ?_;have hsz:ol.toArray.size=(ol.take n).length+(y::ol.drop (n+1)).length:=by simp;omega
 rw [List.range_eq_range',hsz];have hmem:∀o∈ol.take n++y::ol.drop (n+1),o∈ol:=fun o ho=>by rwa [<-hsp]at ho
 refine rH (P:=P) (W:=C.W) (LB:=C.LB) (ops:=ol.toArray) (nx:=nx) (N:=N) (dfs:=C.dfs) (.inl rfl) (by simpa using h1) (y::ol.drop (n+1)) (ol.take n) 0 tr tm tm1 σ σ1 a w w L ρ (bR nx) (fun j=>by rw [<-hsp];simp) h3 g (fun o ho t ht id h5 h6 h7=>h5) (fun id hid=>fk hid) (by rw [<-hsp];exact h2) (aS.refl _ _) ?_;intro a1 W1 L1 ρ1 fr1 g1 q1 q2 t1;rw [Nat.zero_add,List.length_take,Nat.min_eq_left (Nat.le_of_lt hn),List.length_cons,List.range'_succ,wpOpsIn_cons];have hj1:Y.J k true W1:=Y.hJ _ _ _ _ hj (t1.De hb fun j hj hW=>(hC.W j hW).resolve_left oM);have hb1:Y.B<=W1.heap.size:=Nat.le_trans hb t1.size;obtain⟨v,hv,ha⟩:=ys.hv;have hk:k< es.length:=(List.getElem?_eq_some_iff.1 hv).1;have hargs:RV W1 L1 ρ0 v (ar.map a1.eval).toList:=by refine ha.rv (RV.free (ρ:=ρ1) ⟨by simp,fun i u x hu hx=> ?_⟩ ys.cj);simp only [List.getElem?_map,Option.map_eq_some_iff,Array.toList_map]at hu hx;obtain⟨p,hp,rfl⟩:=hu;obtain⟨q,hq,rfl⟩:=hx;rw [hp]at hq;injection hq with hq;subst hq;exact(g1.tm.eval g1.g.gl p).ug (wS (List.all_eq_true.1 ys.hu p (List.mem_cons_of_mem _ (List.mem_of_getElem? hp))))
 have hLl:∀b,L1 b->(Y.L0 b\/Y.U b)\/Y.B<=b:=fun b hb=>hC.LB b (g1.g.ll b hb).2;obtain⟨fn,tmps,assign,body,hyr,hR⟩:=Y.hY k (ar.map a1.eval) W1 hk ⟨v,hv,L1,fun b hbl=>by
  rcases hLl b hbl with h |h;·exact .inl h
  ·exact .inr ⟨Nat.le_trans Y.hB h,(g1.g.ll b hbl).1,by have:=Y.hl.2;omega⟩,hargs⟩ hb1 hj1
 have hfe:a1.eval fo= .func (.yield Y.l) #[] #[]:=by have:=(g1.tm.eval g1.g.gl fo).ug (wS (List.all_eq_true.1 ys.hu fo (List.mem_cons_self ..)));rw [ys.hf]at this;exact this.aO
 have ho:ol.toArray[n]?=some y:=by simp [hy,hyd]
 unfold wpOpIn;rw [ho];simp only;have hwt:Region.wanted y (yielded ol.toArray a1.tmps)=true:=by rw [hyd];exact j8 g1.tm ys.hg
 rw [if_pos hwt];refine⟨fun f _=>trivial,?_⟩;have hrun:(y.semAt Fence.wide.round a1.eval).run P W1= .ok (.round Y.l fn tmps assign body) W1:=by rw [Oper.semAt_eq _ _ _ (fun c e=>by rw [hyd]at e;cases e),hyd];simp [execOp,resolve,Deferred.ofValue,invoke,hfe,hyr]
 rw [hrun,Oper.uponIn_round];refine⟨fun e=>by simp [Fence.wide]at e,hR.mono ?_⟩;rintro e W2 ⟨b,rfl,ht2,j1,j2⟩;have hyd2:y.dst=some d:=by rw [hyd]
 have hdN:d< N:=h1 y (hmem y (by simp)) d hyd2;have nL:∀j,L1 j->¬(Y.R0 j\/j=Y.l):=by
  rintro j hjl (h |rfl)
  ·have q:=Y.hR j h;rcases hLl j hjl with(h' |h') |h';·exact q.2 h'
   ·exact(Y.hU j h').2.2 h
   ·have:=Y.hB;omega
  ·rcases hLl _ hjl with(h' |h') |h';·have:=Y.hL _ h';have:=Y.hl.1;omega
   ·have:=(Y.hU _ h').1;have:=Y.hl.1;omega
   ·have:=Y.hl.2;omega
 have nW:∀j,C.W j->¬(Y.R0 j\/j=Y.l):=by
  rintro j hjw (h |rfl)
  ·rcases hC.W j hjw with hw |hw;·have q:=Y.hR j h;have:=Y.hB;omega
   ·exact(Y.hU j hw).2.2 h
  ·rcases hC.W _ hjw with hw |hw;·have:=Y.hl.2;omega
   ·have:=(Y.hU _ hw).1;have:=Y.hl.1;omega
 have ex:Ext W1 L1 ρ1 W2 L1 ρ1:=⟨fun b hb=>⟨hb,ht2.block b (g1.g.ll b hb).1 (nL b hb)⟩,fun _ _ h=>h⟩;have gb:∀z:Bool,z=b->qK C.W C.LB N C.dfs fr1 (bO tm1 d (.b z)) σ1 (a1.put y.dst (.bool b)) W2 L1 ρ1:=by
  rintro z rfl;rw [hyd2];refine⟨⟨fun b hb=>⟨Nat.lt_of_lt_of_le (g1.g.ll b hb).1 ht2.size,(g1.g.ll b hb).2⟩,fun b hb=>g1.g.new b (Nat.le_trans ht2.size hb),fun id o ho=> ?_,g1.g.sep,g1.g.qO ex⟩,g1.fr,(show TM (eJ tm1 (some d) (V.b z)) _ _ _ _ from(g1.tm.ext ex).put (fun t ht=>by injection ht with ht;rw [<-ht,g1.size];exact hdN) (.c _ _)),by simp [Act.put,g1.size],?_,g1.pin⟩
  ·have hr1:=g1.g.ob id o ho;obtain⟨u,hu,hu2⟩:=hr1.lt;refine hr1.keep ex fun x j hx hj=> ?_;rw [hx]at hu;injection hu with hu;subst hu
   exact⟨ht2.block j (hu2 j hj).1 (nW j (hu2 j hj).2.1),(hu2 j hj).2.2⟩
  ·obtain⟨Es,p1,p2,p3⟩:=g1.defers;exact⟨Es,p1,p2,fun D hD=>⟨(ht2.block D (Array.getElem?_eq_some_iff.1 (p3 D hD).1).1 (nW D (p3 D hD).2.1)).trans (p3 D hD).1,(p3 D hD).2⟩⟩
 have hb2:Y.B<=W2.heap.size:=Nat.le_trans hb1 ht2.size;have hnd:((ol.drop (n+1)).filterMap (·.dst)).Nodup:=by rw [hsp,List.filterMap_append,List.filterMap_cons,hyd2]at h2;exact(List.nodup_cons.1 (List.nodup_append.1 h2).2.1).2
 have tail:∀(z:Bool) (k':Nat),z=b->Y.J k' z W2->bC C ol.toArray nx (ol.drop (n+1)) (bO tm1 d (.b z)) σ1 [] (fun tm' σ' _=>Q .normal ⟨tm',σ',nx+1⟩ k' z)->
  wpOpsIn Fence.wide 0 P ol.toArray (fun e a' w'=>∃s' k' g',Q e s' k' g'/\Gm C s' a' w'/\Y.J k' g' w'/\Y.B<=w'.heap.size) (List.range' (n+1) (ol.drop (n+1)).length) (a1.put y.dst (.bool b)) W2:=by
  intro z k' hz hj' hA
  obtain⟨tr2,tm2,σ2,h4,hq⟩:=hA.run
  exact oo (P:=P) (W:=C.W) (LB:=C.LB) (ops:=ol.toArray) (nx:=nx) (N:=N) (dfs:=C.dfs) (.inl rfl) (by simpa using h1) (ol.drop (n+1)) (n+1) tr2 _ tm2 _ σ2 _ W2 W2 L1 ρ1 fr1 (fun j=>by simp) h4 (gb z hz) (fun o ho=>q1 o (by simp [ho])) q2 hnd (aS.refl _ _) fun a' w' L' ρ' g' t'=>
   ⟨⟨tm2,σ2,nx+1⟩,k',z,hq,⟨L',ρ',g'⟩,Y.hJ _ _ _ _ hj' (t'.De hb2 fun j hj hW=>(hC.W j hW).resolve_left oM),Nat.le_trans hb2 t'.size⟩
 cases b with
 |true=>exact tail true (k+1) rfl (j1 rfl) ys.t
 |false=>exact tail false k rfl (j2 rfl) ys.f
structure L8(P:Program)(es:List (List V)) where
  l:Nat
  J:Nat->Bool->(Nat->Prop)->(Nat->Prop)->World->Prop
  L0:Nat->Prop
  U:Nat->Prop
  B:Nat
  hY:∀k x A F W1,k< es.length->LX es L0 k F x W1->(∀b,A b\/F b->(U b\/B<=b)/\b< W1.heap.size)->B<=W1.heap.size->J k true A F W1->YieldAt Fence.wide 0 P l x W1 fun e W2=>∃b:Bool,e= .returned (.bool b)/\aS (fun i=>¬A i/\¬L0 i/\¬F i) W1 W2/\(b=true->J (k+1) true A F W2)/\(b=false->J k false A F W2)
  hJ:∀k g A F W1 W2,J k g A F W1->(∀b,A b\/F b->(U b\/B<=b)/\b< W1.heap.size)->B<=W1.heap.size->aS A W1 W2->J k g (fun b=>A b\/(W1.heap.size<=b/\b< W2.heap.size)) F W2
  hD:∀k g A F (D:Nat->Prop) W1,J k g A F W1->(∀b,A b\/F b->(U b\/B<=b)/\b< W1.heap.size)->(∀b,D b->A b)->J k g (fun b=>A b/\¬D b) (fun b=>F b\/D b) W1
  hL:∀b,L0 b\/U b->b< B
  hUL:∀b,U b->¬L0 b
structure IB{P:Program}{N:Nat}{es:List (List V)}(C:Cx P N)(Y:L8 P es)(A F:Nat->Prop)(w:World):Prop where
  fw:C.F=Fence.wide
  d:C.dfs=oB
  W:∀b,C.W b<->A b\/w.heap.size<=b
  LB:∀b,C.LB b->Y.L0 b\/F b\/A b\/w.heap.size<=b
  A:∀b,A b\/F b->(Y.U b\/Y.B<=b)/\b< w.heap.size
  B:Y.B<=w.heap.size
def kE{P:Program}(N:Nat){es:List (List V)}(Y:L8 P es)(c:Code)(Q:Exit->S->Nat->Bool->Prop)(s:S)(k:Nat)(g:Bool):Prop:= ∀(C:Cx P N) (A F:Nat->Prop) a w,IB C Y A F w->Gm C s a w->Y.J k g A F w->c.wpIn Fence.wide 0 P (fun e a' w'=>∃(s':S) (k':Nat) (g':Bool) (C':Cx P N) (A' F':Nat->Prop),Q e s' k' g'/\IB C' Y A' F' w'/\Gm C' s' a' w'/\Y.J k' g' A' F' w') a w
section
variable {P:Program}{N:Nat}{es:List (List V)}{Y:L8 P es}{Q:Exit->S->Nat->Bool->Prop}{s:S}{k:Nat}{g:Bool}
theorem IB.later{C:Cx P N}{A F:Nat->Prop}{w w':World}(h:IB C Y A F w)(t:aS C.W w w'):IB C Y (fun b=>A b\/(w.heap.size<=b/\b< w'.heap.size)) F w'/\aS A w w':=by
 have hs:=t.size;refine⟨⟨h.fw,h.d,fun b=>(h.W b).trans ?_,fun b hb=> ?_,fun b hb=> ?_,Nat.le_trans h.B hs⟩,t.mono fun j hj hW=>by rcases(h.W j).1 hW with h |h;exact h;omega⟩
 ·constructor
  ·rintro(h |h);·exact .inl (.inl h)
   ·by_cases hb:b< w'.heap.size;·exact .inl (.inr ⟨h,hb⟩)
    ·exact .inr oM
  ·rintro((h |h) |h);·exact .inl h
   ·exact .inr h.1
   ·exact .inr oM
 ·rcases h.LB b hb with h |h |h |h;·exact .inl h
  ·exact .inr (.inl h)
  ·exact .inr (.inr (.inl (.inl h)))
  ·by_cases hb:b< w'.heap.size;·exact .inr (.inr (.inl (.inr ⟨h,hb⟩)))
   ·exact .inr (.inr (.inr oM))
 ·rcases hb with(hb |hb) |hb;·exact⟨(h.A b (.inl hb)).1,Nat.lt_of_lt_of_le (h.A b (.inl hb)).2 hs⟩
  ·exact⟨.inr (Nat.le_trans h.B hb.1),hb.2⟩
  ·exact⟨(h.A b (.inr hb)).1,Nat.lt_of_lt_of_le (h.A b (.inr hb)).2 hs⟩
theorem BG{c:Code}(h:∀C:Cx P N,C.F=Fence.wide->C.dfs=oB->AW C c (fun e s'=>Q e s' k g) s):kE N Y c Q s k g:=by intro C A F a w yc gm hj;have:=h C yc.fw yc.d a w gm;rw [yc.fw]at this;refine wpIn_mono this ?_;rintro e a' w' ⟨s',q,gm',t⟩;obtain⟨y1,y2⟩:=yc.later t;exact⟨s',k,g,C,_,_,q,y1,gm',Y.hJ _ _ _ _ _ _ hj yc.A yc.B y2⟩
theorem nB{x y:Code}(h:kE N Y x (iw (fun s' k' g'=>kE N Y y Q s' k' g') Q) s k g):kE N Y (.seq x y) Q s k g:=by
 intro C A F a w yc gm hj;refine wpIn_seq (wpIn_mono (h C A F a w yc gm hj) ?_);rintro e a' w' ⟨s',k',g',C',A',F',q,yc',gm',hj'⟩;cases e with
 |normal=>exact q C' A' F' a' w' yc' gm' hj'
 |_=>exact⟨s',k',g',C',A',F',q,yc',gm',hj'⟩
theorem zM{x y:Code}(h:∀C:Cx P N,C.F=Fence.wide->C.dfs=oB->∀K:S->Prop,(∀s',kE N Y y Q s' k g->K s')->AW C x (dS K (fun e s'=>Q e s' k g)) s):kE N Y (.seq x y) Q s k g:=by refine nB (BG fun C hF hC=>vJ (h C hF hC _ fun _ h=>h) ?_);intro e s' q;cases e <;> exact q
theorem r7{id:Nat}{c:Code}(h:kE N Y c (fD id Q) s k g):kE N Y (.block id c) Q s k g:=by
 intro C A F a w yc gm hj;refine wpIn_block (wpIn_mono (h C A F a w yc gm hj) ?_);rintro e a' w' ⟨s',k',g',C',A',F',q,r⟩;cases e with
 |exit id'=>
  simp only [Exit.inBlock,fD]at q ⊢;split at q;·rename_i h;rw [if_pos h];exact⟨s',k',g',C',A',F',q,r⟩
  ·rename_i h;rw [if_neg h];exact⟨s',k',g',C',A',F',q,r⟩
 |_=>exact⟨s',k',g',C',A',F',q,r⟩
theorem oU{c:Operand}{x y:Code}{t:Bool}(hc:ev s.tm c= .b t)(h1:t=true->kE N Y x Q s k g)(h2:t=false->kE N Y y Q s k g):kE N Y (.cond c x y) Q s k g:=by
 intro C A F a w yc gm hj;obtain⟨L,ρ,g'⟩:=gm;have:=g'.tm.eval g'.g.gl c;rw [hc]at this;refine wpIn_cond this.aO ?_;cases t with
 |true=>exact h1 rfl C A F a w yc ⟨L,ρ,g'⟩ hj
 |false=>exact h2 rfl C A F a w yc ⟨L,ρ,g'⟩ hj
theorem uD{id:Nat}(h:Q (.exit id) s k g):kE N Y (.exit id) Q s k g:=fun C A F _ _ yc gm hj=>wpIn_exit ⟨s,k,g,C,A,F,h,yc,gm,hj⟩
theorem Dc(h:Q .normal s k g):kE N Y .skip Q s k g:=fun C A F _ _ yc gm hj=>wpIn_skip ⟨s,k,g,C,A,F,h,yc,gm,hj⟩
open Classical in
theorem Db{ι:Type}{c:Code}(I:ι->S)(kk:ι->Nat)(ok:ι->Prop)(μ:ι->Nat)(x0:ι)(hx:ok x0)(h0:Le s (I x0))(hk:kk x0=k) (round:∀x,ok x->kE N Y c (iw (fun s' k' g'=>g'=true/\∃y,ok y/\Le s' (I y)/\kk y=k'/\μ y< μ x) Q) (I x) (kk x) true):kE N Y (.loop c) Q s k true:=by
 intro C A F a w yc gm hj;have pr:∃q:Act->World->Nat->Prop,q=fun a' w' n=>∃(x:ι) (C':Cx P N) (A' F':Nat->Prop),ok x/\μ x=n/\IB C' Y A' F' w'/\Gm C' (I x) a' w'/\Y.J (kk x) true A' F' w':=⟨_,rfl⟩;obtain⟨q,hq⟩:=pr;have hqi:∀a' w' n,q a' w' n<->∃(x:ι) (C':Cx P N) (A' F':Nat->Prop),ok x/\μ x=n/\IB C' Y A' F' w'/\Gm C' (I x) a' w'/\Y.J (kk x) true A' F' w':=fun a' w' n=>by rw [hq]
 refine wpIn_loop (fun a' w'=>∃n,q a' w' n) (fun a' w'=>if h:∃n,q a' w' n then(least _ h).choose else 0) ⟨μ x0,(hqi _ _ _).2 ⟨x0,C,A,F,hx,rfl,yc,h0 C a w gm,by rw [hk];exact hj⟩⟩ ?_;rintro a' w' hex;have hl:=(least _ hex).choose_spec;obtain⟨x,C',A',F',hok,hμ,yc',g',hj'⟩:=(hqi _ _ _).1 hl.1;refine wpIn_mono (round x hok C' A' F' a' w' yc' g' hj') ?_;rintro e a'' w'' ⟨s'',k'',g'',C'',A'',F'',r,yc'',gm'',hj''⟩;cases e with
 |normal=>obtain⟨rfl,y,hy,hle,hky,hlt⟩:=r;have hqy:q a'' w'' (μ y):=(hqi _ _ _).2 ⟨y,C'',A'',F'',hy,rfl,yc'',hle C'' _ _ gm'',by rw [hky];exact hj''⟩;refine⟨⟨μ y,hqy⟩,?_⟩;rw [dif_pos ⟨μ y,hqy⟩,dif_pos hex];have h1:=(least _ ⟨μ y,hqy⟩).choose_spec.2 (μ y) hqy;omega
 |_=>exact⟨s'',k'',g'',C'',A'',F'',r,yc'',gm'',hj''⟩
end
structure Q7{P:Program}(N:Nat){es:List (List V)}(Y:L8 P es)(ops:Array Oper)(nx:Nat)(os:List Oper)(fo:Operand)(ar:Array Operand)(d:Nat)(y:Oper)(Q:Exit->S->Nat->Bool->Prop)(k:Nat)(tm:Nat->V)(σ:Nat->Option Ob):Prop where
  hg:dK ops tm y=some true
  hu:((fo::ar.toList).all fun x=>PN (ev tm x))=true
  hf:ug (ev tm fo)= .c (.func (.yield Y.l) #[] #[])
  hv:∃v,es[k]?=some v/\A2 (ar.toList.map fun x=>ug (ev tm x)) v
  cj:V.bp (ar.toList.map fun x=>ug (ev tm x))=true
  t:∀C:Cx P N,C.F=Fence.wide->C.dfs=oB->bC C ops nx os (bO tm d (.b true)) σ [] fun tm' σ' _=>Q .normal ⟨tm',σ',nx+1⟩ (k+1) true
  f:∀C:Cx P N,C.F=Fence.wide->C.dfs=oB->bC C ops nx os (bO tm d (.b false)) σ [] fun tm' σ' _=>Q .normal ⟨tm',σ',nx+1⟩ k false
theorem zN{P:Program}{N:Nat}{es:List (List V)}{Y:L8 P es}{Q:Exit->S->Nat->Bool->Prop}{id nx k:Nat}{ol:List Oper}{tm:Nat->V}{σ:Nat->Option Ob}(n:Nat){fo:Operand}{ar:Array Operand}{ats:Array TypeId}{d:Nat}{ty:TypeId}{pos:String}{af:Array Edge}{gd':Option (Nat×Bool)}
    (hok:gS N ol=true) (hy:ol[n]?=some ⟨some d,.call {callee:= .value fo,args:=ar,argTypes:=ats},ty,pos,af,gd'⟩)
    (h:∀C:Cx P N,C.F=Fence.wide->C.dfs=oB->bC C ol.toArray nx (ol.take n) tm σ [] fun tm1 σ1 _=>Q7 N Y ol.toArray nx (ol.drop (n+1)) fo ar d ⟨some d,.call {callee:= .value fo,args:=ar,argTypes:=ats},ty,pos,af,gd'⟩ Q k tm1 σ1):kE N Y (.region id ol.toArray false) Q ⟨tm,σ,nx⟩ k true:=by
  intro C A F a w yc ⟨L,ρ,g⟩ hj
  obtain⟨h1,h2⟩:=fZ hok
  obtain⟨tr,tm1,σ1,h3,ys⟩:=(h C yc.fw yc.d).run
  have hn:n< ol.length:=(List.getElem?_eq_some_iff.1 hy).1
  obtain⟨y,hyd⟩:∃y:Oper,y=⟨some d,.call {callee:= .value fo,args:=ar,argTypes:=ats},ty,pos,af,gd'⟩:=⟨_,rfl⟩
  have hsp:ol=ol.take n++y::ol.drop (n+1):=by
    rw [hyd]
    have e1:ol.drop n=ol[n]::ol.drop (n+1):=List.drop_eq_getElem_cons hn
    have e2:ol[n]=_:=(List.getElem?_eq_some_iff.1 hy).2
    rw [<-e2,<-e1,List.take_append_drop]
  refine wpIn_region ?_
  have hsz:ol.toArray.size=(ol.take n).length+(y::ol.drop (n+1)).length:=by
    simp;omega
  rw [List.range_eq_range',hsz]
  have hmem:∀o∈ol.take n++y::ol.drop (n+1),o∈ol:=fun o ho=>by rwa [<-hsp]at ho
  refine rH (P:=P) (W:=C.W) (LB:=C.LB) (ops:=ol.toArray) (nx:=nx) (N:=N) (dfs:=C.dfs) (.inl rfl) (by simpa using h1) (y::ol.drop (n+1)) (ol.take n) 0 tr tm tm1 σ σ1 a w w L ρ (bR nx) (fun j=>by rw [<-hsp];simp) h3 g (fun o ho t ht id h5 h6 h7=>h5) (fun id hid=>fk hid) (by rw [<-hsp];exact h2) (aS.refl _ _) ?_
  intro a1 W1 L1 ρ1 fr1 g1 q1 q2 t1
  rw [Nat.zero_add,List.length_take,Nat.min_eq_left (Nat.le_of_lt hn),List.length_cons,List.range'_succ,wpOpsIn_cons]
  obtain⟨yc1,ta1⟩:=yc.later t1
  have hj1:=Y.hJ _ _ _ _ _ _ hj yc.A yc.B ta1
  obtain⟨A1,hA1⟩:∃A1:Nat->Prop,A1=fun b=>A b\/(w.heap.size<=b/\b< W1.heap.size):=⟨_,rfl⟩
  rw [<-hA1]at yc1 hj1
  -- all that is frozen is given up
  have hj2:=Y.hD _ _ _ _ (fun b=>A1 b/\L1 b) _ hj1 yc1.A (fun b hb=>hb.1)
  obtain⟨A2',hA2⟩:∃A2':Nat->Prop,∀b,A2' b<->A1 b/\¬(A1 b/\L1 b):=⟨_,fun _=>Iff.rfl⟩
  obtain⟨F2,hF2⟩:∃F2:Nat->Prop,∀b,F2 b<->F b\/(A1 b/\L1 b):=⟨_,fun _=>Iff.rfl⟩
  have hj2':Y.J k true A2' F2 W1:=by
    rw [show A2'=_ from funext fun b=>propext (hA2 b),show F2=_ from funext fun b=>propext (hF2 b)]
    exact hj2
  clear hj2
  have hAF2:∀b,A2' b\/F2 b->(Y.U b\/Y.B<=b)/\b< W1.heap.size:=fun b hb=>by
    rcases hb with hb |hb
    · exact yc1.A b (.inl ((hA2 b).1 hb).1)
    · rcases(hF2 b).1 hb with h |h
      · exact yc1.A b (.inr h)
      · exact yc1.A b (.inl h.1)
  obtain⟨v,hv,ha⟩:=ys.hv
  have hk:k< es.length:=(List.getElem?_eq_some_iff.1 hv).1
  have hargs:RV W1 L1 ρ0 v (ar.map a1.eval).toList:=by
    refine ha.rv (RV.free (ρ:=ρ1) ⟨by simp,fun i u x hu hx=> ?_⟩ ys.cj)
    simp only [List.getElem?_map,Option.map_eq_some_iff,Array.toList_map]at hu hx
    obtain⟨p,hp,rfl⟩:=hu
    obtain⟨q,hq,rfl⟩:=hx
    rw [hp]at hq
    injection hq with hq
    subst hq
    exact(g1.tm.eval g1.g.gl p).ug (wS (List.all_eq_true.1 ys.hu p (List.mem_cons_of_mem _ (List.mem_of_getElem? hp))))
  have hLl:∀b,L1 b->Y.L0 b\/F2 b:=fun b hb=>by
    have:=g1.g.ll b hb
    rcases yc1.LB b this.2 with h |h |h |h
    · exact .inl h
    · exact .inr ((hF2 b).2 (.inl h))
    · exact .inr ((hF2 b).2 (.inr ⟨h,hb⟩))
    · omega
  obtain⟨fn,tmps,assign,body,hyr,hR⟩:=Y.hY k (ar.map a1.eval) A2' F2 W1 hk ⟨v,hv,hargs.mono (fun b hb=>⟨hLl b hb,rfl⟩) fun _ _ h=>h⟩ hAF2 yc1.B hj2'
  have hfe:a1.eval fo= .func (.yield Y.l) #[] #[]:=by
    have:=(g1.tm.eval g1.g.gl fo).ug (wS (List.all_eq_true.1 ys.hu fo (List.mem_cons_self ..)))
    rw [ys.hf]at this
    exact this.aO
  have ho:ol.toArray[n]?=some y:=by simp [hy,hyd]
  unfold wpOpIn
  rw [ho]
  simp only
  have hwt:Region.wanted y (yielded ol.toArray a1.tmps)=true:=by rw [hyd];exact j8 g1.tm ys.hg
  rw [if_pos hwt]
  refine⟨fun f _=>trivial,?_⟩
  have hrun:(y.semAt Fence.wide.round a1.eval).run P W1= .ok (.round Y.l fn tmps assign body) W1:=by
    rw [Oper.semAt_eq _ _ _ (fun c e=>by rw [hyd]at e;cases e),hyd]
    simp [execOp,resolve,Deferred.ofValue,invoke,hfe,hyr]
  rw [hrun,Oper.uponIn_round]
  refine⟨fun e=>by simp [Fence.wide]at e,hR.mono ?_⟩
  rintro e W2 ⟨b,rfl,ht2,j1,j2⟩
  have hyd2:y.dst=some d:=by rw [hyd]
  have hdN:d< N:=h1 y (hmem y (by simp)) d hyd2
  obtain⟨C2,c1,c2,c3,c4⟩:∃C2:Cx P N,C2.W=(fun b=>A2' b\/W2.heap.size<=b)/\C2.LB=(fun b=>Y.L0 b\/F2 b\/A2' b\/W2.heap.size<=b)/\C2.dfs=C.dfs/\C2.F=Fence.wide:=
    ⟨⟨fun b=>A2' b\/W2.heap.size<=b,fun b=>Y.L0 b\/F2 b\/A2' b\/W2.heap.size<=b,fun b h=> .inr (.inr h),C.dfs,C.mx,Fence.wide,.inl rfl⟩,rfl,rfl,rfl,rfl⟩
  have yc2:IB C2 Y A2' F2 W2:=⟨c4,c3.trans yc.d,fun b=>by rw [c1],fun b hb=>by rw [c2]at hb;exact hb,fun b hb=>⟨(hAF2 b hb).1,Nat.lt_of_lt_of_le (hAF2 b hb).2 ht2.size⟩,Nat.le_trans yc1.B ht2.size⟩
  have ex:Ext W1 L1 ρ1 W2 L1 ρ1:=⟨fun b hb=>⟨hb,ht2.block b (g1.g.ll b hb).1 fun hc=>(hLl b hb).elim hc.2.1 hc.2.2⟩,fun _ _ h=>h⟩
  have inA:∀b,b< W1.heap.size->C.W b->¬L1 b->A2' b:=fun b hb hW hl=>by
    rcases(yc1.W b).1 hW with h |h
    · exact(hA2 b).2 ⟨h,fun h=>hl h.2⟩
    · omega
  have gb:∀z:Bool,z=b->qK C2.W C2.LB N C2.dfs fr1 (bO tm1 d (.b z)) σ1 (a1.put y.dst (.bool b)) W2 L1 ρ1:=by
    rintro z rfl
    rw [hyd2,c1,c2,c3]
    refine⟨⟨fun b hb=>⟨Nat.lt_of_lt_of_le (g1.g.ll b hb).1 ht2.size,?_⟩,fun b hb=>⟨.inr hb,.inr (.inr (.inr hb))⟩,fun id o ho=> ?_,g1.g.sep,g1.g.qO ex⟩,g1.fr,(show TM (eJ tm1 (some d) (V.b z)) _ _ _ _ from(g1.tm.ext ex).put (fun t ht=>by injection ht with ht;rw [<-ht,g1.size];exact hdN) (.c _ _)),by simp [Act.put,g1.size],?_,g1.pin⟩
    · rcases hLl b hb with h |h
      · exact .inl h
      · exact .inr (.inl h)
    · have hr1:=g1.g.ob id o ho
      obtain⟨u,hu,hu2⟩:=hr1.lt
      refine hr1.uR ex fun x j hx hj=> ?_
      rw [hx]at hu;injection hu with hu;subst hu
      have hA:=inA j (hu2 j hj).1 (hu2 j hj).2.1 (hu2 j hj).2.2
      exact⟨ht2.block j (hu2 j hj).1 fun hc=>hc.1 hA,(hu2 j hj).2.2,.inl hA⟩
    · obtain⟨Es,p1,p2,p3⟩:=g1.defers
      refine⟨Es,p1,p2,fun D hD=> ?_⟩
      have hlt:=(Array.getElem?_eq_some_iff.1 (p3 D hD).1).1
      have hA:=inA D hlt (p3 D hD).2.1 (p3 D hD).2.2
      exact⟨(ht2.block D hlt fun hc=>hc.1 hA).trans (p3 D hD).1,.inl hA,(p3 D hD).2.2⟩
  have hnd:((ol.drop (n+1)).filterMap (·.dst)).Nodup:=by
    rw [hsp,List.filterMap_append,List.filterMap_cons,hyd2]at h2
    exact(List.nodup_cons.1 (List.nodup_append.1 h2).2.1).2
  have tail:∀(z:Bool) (k':Nat),z=b->Y.J k' z A2' F2 W2->bC C2 ol.toArray nx (ol.drop (n+1)) (bO tm1 d (.b z)) σ1 [] (fun tm' σ' _=>Q .normal ⟨tm',σ',nx+1⟩ k' z)->
      wpOpsIn Fence.wide 0 P ol.toArray (fun e a' w'=>∃(s':S) (k':Nat) (g':Bool) (C':Cx P N) (A' F':Nat->Prop),Q e s' k' g'/\IB C' Y A' F' w'/\Gm C' s' a' w'/\Y.J k' g' A' F' w') (List.range' (n+1) (ol.drop (n+1)).length) (a1.put y.dst (.bool b)) W2:=by
    intro z k' hz hj' hA
    obtain⟨tr2,tm2,σ2,h4,hq⟩:=hA.run
    refine oo (P:=P) (W:=C2.W) (LB:=C2.LB) (ops:=ol.toArray) (nx:=nx) (N:=N) (dfs:=C2.dfs) (.inl rfl) (by simpa using h1) (ol.drop (n+1)) (n+1) tr2 _ tm2 _ σ2 _ W2 W2 L1 ρ1 fr1 (fun j=>by simp) h4 (gb z hz) (fun o ho=>q1 o (by simp [ho])) q2 hnd (aS.refl _ _) fun a' w' L' ρ' g' t'=> ?_
    obtain⟨y1,y2⟩:=yc2.later t'
    exact⟨⟨tm2,σ2,nx+1⟩,k',z,C2,_,_,hq,y1,⟨L',ρ',g'⟩,Y.hJ _ _ _ _ _ _ hj' yc2.A yc2.B y2⟩
  cases b with
  |true=>exact tail true (k+1) rfl (j1 rfl) (ys.t C2 c4 (c3.trans yc.d))
  |false=>exact tail false k rfl (j2 rfl) (ys.f C2 c4 (c3.trans yc.d))
theorem zC{T:List TI}{P:Program}(hT:aN T P)(hmx:P.follows .mixedOrders=true){f:FuncId}{fn:Func}{c:Code}{N:Nat}(hk:oI P f fn c N)(hres:fn.results= #[]){caps:List V}{ins:List Ob}{es:List (List V)}(hargs:caps.length+1<=N)
    (h:∀Y:L8 P es,kE N Y c (pZ es.length) ⟨fun t=>((V.c (.func (.yield Y.l) #[] #[]))::caps).getD t .any,eD ins,1⟩ 0 true) (hn:ins.length<=400):LV P f caps ins es:=by
  refine⟨hk.call,fun L U w ρ lb hL hU hgl hobs hsep hnone hlb=> ?_⟩
  intro l J W hsz hLW hl hlW hJ hD hY h0
  obtain⟨C,cW,cLB,cd,cF⟩:∃C:Cx P N,C.W=(fun b=>U b\/W.heap.size<=b)/\C.LB=(fun b=>L b\/False\/U b\/W.heap.size<=b)/\C.dfs=oB/\C.F=Fence.wide:=⟨⟨fun b=>U b\/W.heap.size<=b,fun b=>L b\/False\/U b\/W.heap.size<=b,fun b h=> .inr (.inr h),oB,hmx,Fence.wide,.inl rfl⟩,rfl,rfl,rfl,rfl⟩
  obtain⟨Y,yl,yJ,yL,yU,yB⟩:∃Y:L8 P es,Y.l=l/\Y.J=J/\Y.L0=L/\Y.U=U/\Y.B=W.heap.size:=
    ⟨⟨l,J,L,U,W.heap.size,hY,hJ,hD,fun b hb=>Nat.lt_of_lt_of_le (hb.elim (hL b) fun h=>(hU b h).1) hsz,fun b hb=>(hU b hb).2⟩,rfl,rfl,rfl,rfl,rfl⟩
  have yc:IB C Y U (fun _=>False) W:=⟨cF,cd,fun b=>by rw [cW],fun b hb=>by rw [cLB]at hb;rw [yL];exact hb,fun b hb=>by
    rcases hb with hb |hb
    · exact⟨.inl (by rw [yU];exact hb),Nat.lt_of_lt_of_le (hU b hb).1 hsz⟩
    · exact hb.elim,by rw [yB];exact Nat.le_refl _⟩
  have ew:Ext w L ρ W L ρ:=⟨fun b hb=>⟨hb,hLW b (.inl hb)⟩,fun _ _ h=>h⟩
  have hvs:RV W L ρ ((V.c (.func (.yield Y.l) #[] #[]))::caps) (#[Value.func (.yield l) #[] #[]]++lb).toList:=by
    have e1:(#[Value.func (.yield l) #[] #[]]++lb).toList=Value.func (.yield l) #[] #[]::lb.toList:=by simp
    rw [e1,yl]
    exact .cons (.c _ _) ⟨hlb.1,fun i u x hu hx=>(hlb.2 i u x hu hx).ext ew⟩
  generalize hargsL:((V.c (.func (.yield Y.l) #[] #[]))::caps)=args at hvs
  generalize (#[Value.func (.yield l) #[] #[]]++lb)=vs at hvs
  have hal:args.length=caps.length+1:=by rw [<-hargsL];simp
  have hvl:vs.size=args.length:=by have:=hvs.1;simpa using this.symm
  refine callsIn_of_wp_marks (n:=0) hk.hf hk.hb trivial ?_ rfl
  have hw:=h Y
  rw [hargsL]at hw
  have hobj:∀id o,eD ins id=some o->500<=id/\id< 500+ins.length/\ins[id- 500]?=some o:=fun id o ho=>by
    unfold eD at ho
    split at ho
    · have:=(List.getElem?_eq_some_iff.1 ho).1
      exact⟨by omega,by omega,ho⟩
    · cases ho
  have hfrs:∀id,bR 1 id->ρ id=none:=fun id hid=>hnone id (by unfold bR at hid;omega)
  refine wpIn_mono (hw C _ _ _ W yc ⟨L,ρ,⟨⟨fun b hb=>⟨Nat.lt_of_lt_of_le (hL b hb) hsz,by rw [cLB];exact .inl hb⟩,fun b hb=>⟨by rw [cW];exact .inr hb,by rw [cLB];exact .inr (.inr (.inr hb))⟩,(fun id o ho=> ?_),fun i j x y k hij _ _=>hsep i j x y k hij,fun g=>(hgl g).mono (fun b hb=>⟨hb,hLW b (.inl hb)⟩) fun _ _ h=>h⟩,hfrs,fun t=> ?_,?_,?_,fun id x hp=>by rw [cd]at hp;cases hp⟩⟩ ?_) ?_
  · obtain⟨h1,h2,h3⟩:=hobj id o ho
    have h4:=hobs _ _ h3
    rw [show 500+(id- 500)=id by omega]at h4
    have h5:Real C.W w L ρ id o:=h4.wider fun b hb=>by rw [cW];exact .inl hb
    refine h5.keep ew fun x k hx hk=> ?_
    obtain⟨y,hy,hb⟩:=h4.lt
    rw [hx]at hy;injection hy with hy;subst hy
    obtain⟨q1,q2,q3⟩:=hb k hk
    exact⟨hLW k (.inr q2),q3⟩
  · by_cases ht:t< args.length
    · have h1:args[t]?=some args[t]:=List.getElem?_eq_getElem ht
      obtain⟨x,hx,hr⟩:=hvs.get h1
      have e1:args.getD t .any=args[t]:=by simp [List.getD_eq_getElem?_getD,h1]
      have e2:(vs++Array.replicate (fn.ntmps- vs.size) undef).getD t undef=x:=by
        rw [Array.getD_eq_getD_getElem?,Array.getElem?_append_left oM]
        have:vs[t]?=some x:=by simpa using hx
        rw [this];rfl
      show Go.Ab.R W L ρ (args.getD t .any) _
      rw [e1,e2];exact hr
    · have e1:args.getD t .any= .any:=by simp [List.getD_eq_getElem?_getD,List.getElem?_eq_none (Nat.le_of_not_lt ht)]
      show Go.Ab.R W L ρ (args.getD t .any) _
      rw [e1];exact .any _ _
  · have:=hk.hn
    simp;omega
  · exact⟨[],by rw [cd];rfl,by simp,by simp⟩
  · rw [yJ];exact h0
  · rintro e a' w' ⟨s',k,g,C',A',F',⟨he,hg1,hg2⟩,yc',⟨L',ρ',g'⟩,hj⟩
    obtain⟨Ds,d1,d2,d3⟩:=g'.defers
    rw [yc'.d,show oB.tl=[]from rfl,List.append_nil]at d1
    refine iz Ds he d1 d2 (fun D hD=>(d3 D hD).1) fun w2 ht2=> ?_
    obtain⟨g2,e2⟩:=g'.g.marks ht2 d3
    obtain⟨x,hx,_⟩:=lg hT g2 (fun t=>(g'.tm t).ext e2) fn (v:= .tup []) (by rw [hres];rfl)
    have hj2:=Y.hJ k g A' F' _ _ hj yc'.A yc'.B (ht2.mono fun D hl hD=>by
      rcases(yc'.W D).1 (d3 D hD).2.1 with h |h
      · exact h
      · omega)
    rw [yJ]at hj2
    refine⟨x,hx,⟨x,rfl⟩,fun b=>A' b\/(w'.heap.size<=b/\b< w2.heap.size),F',fun b hb=> ?_,?_⟩
    rotate_left
    · cases g with
      |true=>
        have:=hg1 rfl;subst this
        exact .inl hj2
      |false=>exact .inr ⟨k,hg2 rfl,hj2⟩
    · rcases hb with hb |hb
      · have:=(yc'.A b (.inl hb)).1
        rw [yB,yU]at this;exact this
      · have:=yc'.B
        rw [yB]at this;exact .inr oM
def kY(v:V)(i:Nat):Option SR:=match v with
 | .tup cs=>match cs[i]? with
  |some v=>some (aI True v)
  |none=>none
 |_=>none
def JO(T:List TI)(wr:Bool)(op:BinOp)(t:Nat)(u v:V):Option SR:=match Df wr op u v with
 |some (c,v)=>some (aI c v)
 |none=>Jj T op t u v
def Rb(wr:Bool)(op:UnOp)(v:V):Option SR:=match op with
 | .not=>match v with
  | .c (.bool b)=>some (aI True (.b (!b)))
  |_=>none
 | .neg=>match v with
  | .c (.int k a)=>if wr then some (aI True (.c (.int k (k.wrap (0- a)))))else some (aI (qQ k (-a)) (.c (.int k (-a))))
  |_=>none
 |_=>none
def Ox(T:List TI)(wr:Bool)(s t:Nat)(v:V):Option SR:=match v with
 | .c (.int _ a)=>match (T.getD t bF).kind with
  |some k=>if(T.getD s bF).some'=true then(if wr then some (aI True (.c (.int k (k.wrap a))))else some (aI (qQ k a) (.c (.int k a))))else none
  |none=>none
 |_=>none
def Gv(T:List TI)(s f:Nat)(v:V):Option SR:=match ((T.getD s bF).gN[f]?).join with
 |some off=>match v with
  | .ptr cs=>some (aI True (.ptr (cs.drop off)))
  | .ref id o=>some (aI True (.ref id (o+off)))
  | .oel id sz i o=>some (aI True (.oel id sz i (o+off)))
  |_=>none
 |none=>none
def Gw(T:List TI)(t:Nat)(σ:Nat->Option Ob)(u v:V):Option SR:=match v with
 | .c (.int _ i)=>nT T t σ u i
 |_=>none
def MW(T:List TI)(M:List Nat)(nx:Nat)(d:Option Tmp)(e:Operand->V)(σ:Nat->Option Ob)(t:Nat)(x:Operand)(lo hi mx:Option Operand):Option SR:=match mx with
 |none=>rK T M nx d e σ t x lo hi
 |some _=>none
def MS(T:List TI)(nx:Nat)(d:Option Tmp)(t:Nat):Option SR:=match (T.getD t bF).zero with
 |some zs=>some ⟨True,.ref (nx*100000+d.getD 0) 0,[],[nx*100000+d.getD 0],[(nx*100000+d.getD 0,some (.box t zs))]⟩
 |none=>none
def Qh(M:List Nat)(nx:Nat)(d:Option Tmp)(t:Nat)(v:V):Option SR:=match b7 v with
 |some us=>if M.contains (d.getD 0)then some ⟨True,.ref (nx*100000+d.getD 0) 0,[],[nx*100000+d.getD 0],[(nx*100000+d.getD 0,some (.box t us))]⟩
  else if V.bp us=true then some (aI True (.ptr us))else none
 |none=>none
def MT(T:List TI)(t:Nat)(parts:List (Nat×V)):Option SR:=match (T.getD t bF).zero,(T.getD t bF).pl with
 |some zs,some pl=>match iA (pl[·]?) zs parts with
  |some us=>some (aI True (.agg us))
  |none=>none
 |_,_=>none
def JP(T:List TI)(M:List Nat)(nx:Nat)(d:Option Tmp)(t n:Nat)(parts:List (Nat×V)):Option SR:=match (T.getD t bF).elem with
 |some el=>match (T.getD el bF).zero,(T.getD el bF).size with
  |some zs,some sz=>match iA (fun i=>some (i*sz,sz)) (qW n zs) parts with
   |some cs=>if zs.length=sz/\0< sz/\n*sz<=4096/\cs.length=n*sz then(if M.contains (d.getD 0)then
    some ⟨True,.own (nx*100000+d.getD 0),[],[nx*100000+d.getD 0],[(nx*100000+d.getD 0,some (.row el sz n fun i=>(cs.drop (i*sz)).take sz))]⟩
    else if V.bp cs=true then some (aI True (.sl sz n fun i=>(cs.drop (i*sz)).take sz))else none)else none
   |none=>none
  |_,_=>none
 |none=>none
def Oy(T:List TI)(nx:Nat)(d:Option Tmp)(t:Nat)(u v:V):Option SR:=match u,v with
 | .c (.int _ l),.c (.int _ c)=>match (T.getD t bF).elem with
  |some el=>match (T.getD el bF).zero,(T.getD el bF).size with
   |some zs,some sz=>if mR T el sz zs then some ⟨0<=l/\l<=c/\c<=1099511627776,.own (nx*100000+d.getD 0),[],[nx*100000+d.getD 0],[(nx*100000+d.getD 0,some (.row el sz l.toNat fun _=>zs))]⟩else none
   |_,_=>none
  |none=>none
 |_,_=>none
def Qi(T:List TI)(σ:Nat->Option Ob)(e:Operand->V)(c:Call):Option SR:=match c.args,c.argTypes with
 | ⟨[x]⟩,⟨[t]⟩=>BZ T t σ (e x)
 |_,_=>none
def Qg(T:List TI)(nx:Nat)(d:Option Tmp)(ty:Nat)(σ:Nat->Option Ob)(e:Operand->V)(c:Call):Option SR:=match c.args,c.argTypes with
 | ⟨[s,x]⟩,⟨[t,t']⟩=>match nt T t (nx*100000+d.getD 0) σ (e s) (e x)with
  |some r=>if t'=t/\ty=t then some r else none
  |none=>none
 |_,_=>none
def Qj(e:Operand->V)(c:Call):Option SR:=match c.args with
 | ⟨[x,y]⟩=>match e x,e y with
  | .c (.int k a),.c (.int k' b)=>if k=k' then some (aI True (.c (.int k (max a b))))else none
  |_,_=>none
 | ⟨[x,y,z]⟩=>match e x,e y,e z with
  | .c (.int k a),.c (.int k' b),.c (.int k'' q)=>if k=k'/\k=k'' then some (aI True (.c (.int k (max (max a b) q))))else none
  |_,_,_=>none
 | ⟨[x,y,z,u]⟩=>match e x,e y,e z,e u with
  | .c (.int k a),.c (.int k' b),.c (.int k'' q),.c (.int k3 p)=>if k=k'/\k=k''/\k=k3 then some (aI True (.c (.int k (max (max (max a b) q) p))))else none
  |_,_,_,_=>none
 |_=>none
def Qk(e:Operand->V)(c:Call):Option SR:=match c.args with
 | ⟨[x,y]⟩=>match e x,e y with
  | .c (.int k a),.c (.int k' b)=>if k=k' then some (aI True (.c (.int k (min a b))))else none
  |_,_=>none
 |_=>none
def Ow(T:List TI)(nx:Nat)(d:Option Tmp)(ty:Nat)(σ:Nat->Option Ob)(e:Operand->V)(c:Call):Option SR:=match c.callee with
 | .builtin .len=>Qi T σ e c
 | .builtin .append=>Qg T nx d ty σ e c
 | .builtin .max=>Qj e c
 | .builtin .min=>Qk e c
 |_=>none
def An(T:List TI)(wr:Bool)(M:List Nat)(nx:Nat)(o:Oper)(e:Operand->V)(σ:Nat->Option Ob):Option SR:=
 match o.op with
  | .move x=>some (aI True (e x))
  | .assign x=>some (aI True (e x))
  | .extract x i=>kY (e x) i
  | .binOp op t x y _=>JO T wr op t (e x) (e y)
  | .unOp op _ x=>Rb wr op (e x)
  | .convert s t x=>Ox T wr s t (e x)
  | .fieldAddr s x f=>Gv T s f (e x)
  | .indexAddr t x ix=>Gw T t σ (e x) (e ix)
  | .load t x=>kZ T t σ (e x)
  | .store t x y=>i7 T t σ (e x) (e y)
  | .slice t x lo hi mx=>MW T M nx o.dst e σ t x lo hi mx
  | .alloc t=>MS T nx o.dst t
  | .box t y=>Qh M nx o.dst t (e y)
  | .build t parts=>MT T t (parts.toList.map fun p=>(p.1,e p.2))
  | .buildSlice t n parts=>JP T M nx o.dst t n (parts.toList.map fun p=>(p.1,e p.2))
  | .makeSlice t x y=>Oy T nx o.dst t (e x) (e y)
  | .makeFunc f first caps=>some (aI True (.fn f (first.toList.map e) (caps.toList.map e)))
  | .call c=>Ow T nx o.dst o.type σ e c
  |_=>none
theorem DK(T:List TI)(wr:Bool)(M:List Nat)(nx:Nat)(o:Oper)(e:Operand->V)(σ:Nat->Option Ob):An T wr M nx o e σ=BF T wr M nx o e σ:=by
 obtain⟨d,op,ty,pos,af,gd⟩:=o;cases op <;> try rfl
 case unOp op t x=>cases op <;> rfl
def Ov(T:List TI)(t:Nat)(u v:V):Option SR:=match u,v with
 | .agg cs,.c (.int _ i)=>match (T.getD t bF).arr with
  |some (n,el)=>match (T.getD el bF).size with
   |some sz=>match iV T el (cs.drop (i.toNat*sz))with
    |some v=>some (aI (0<=i/\i< n) v)
    |none=>none
   |none=>none
  |none=>none
 |_,_=>none
def JL(T:List TI)(t:Nat)(parts:List (Nat×V)):Option SR:=match (T.getD t bF).zero,(T.getD t bF).arr with
 |some zs,some (_,el)=>match (T.getD el bF).size with
  |some sz=>match iA (fun i=>some (i*sz,sz)) zs parts with
   |some us=>some (aI True (.agg us))
   |none=>none
  |none=>none
 |_,_=>none
def JN(T:List TI)(t:Nat)(v:V)(lo hi mx:Option Operand):Option SR:=match lo,hi,mx with
 |none,none,none=>match v,(T.getD t bF).arr with
  | .ptr cs,some (n,el)=>match (T.getD el bF).size with
   |some sz=>if cs.length=n*sz then some (aI True (.sl sz n fun i=>(cs.drop (i*sz)).take sz))else none
   |none=>none
  |_,_=>none
 |_,_,_=>none
def MR(T:List TI)(σ:Nat->Option Ob)(e:Operand->V)(c:Call):Option SR:=match c.args,c.argTypes with
 | ⟨[x,y]⟩,⟨[t,_]⟩=>match (T.getD t bF).elem with
  |some el=>if(T.getD el bF).size=some 1 then(match e x,e y with
   | .own id,.sl sz m row'=>match σ id with
    |some (.row e' sz' n row)=>if sz=1/\sz'=1 then some ⟨0< n/\0< m,.i ((min m n:Nat):Int),[(id,.row e' sz' n row)],[],[(id,some (.row e' sz' n fun j=>if j< min m n then row' j else row j))]⟩else none
    |_=>none
   |_,_=>none)else none
  |none=>none
 |_,_=>none
def Qe(T:List TI)(t:Nat)(u v:V):Option SR:=match u,v with
 | .c (.bool a),.c (.bool b)=>if(T.getD t bF).tV=some 1000000 then some (aI True (.b (a == b)))else none
 | .c (.string a),.c (.string b)=>some (aI True (.b (a.toList == b.toList)))
 |u,.c (.pointer none)=>match pK u with
  |some b=>if(T.getD t bF).tV=some 1000002 then some (aI True (.b b))else none
  |none=>none
 |_,_=>match (T.getD t bF).elem with
  |some _=>match DY u v with
   |some (c,b)=>some (aI c (.b (b)))
   |none=>none
  |none=>none
def Qf(T:List TI)(t:Nat)(u v:V):Option SR:=match u,v with
 | .c (.bool a),.c (.bool b)=>if(T.getD t bF).tV=some 1000000 then some (aI True (.b (!(a == b))))else none
 | .c (.string a),.c (.string b)=>some (aI True (.b (!(a.toList == b.toList))))
 |u,.c (.pointer none)=>match pK u with
  |some b=>if(T.getD t bF).tV=some 1000002 then some (aI True (.b (!b)))else none
  |none=>none
 |_,_=>match (T.getD t bF).elem with
  |some _=>match DY u v with
   |some (c,b)=>some (aI c (.b (!b)))
   |none=>none
  |none=>none
def Ou(T:List TI)(op:BinOp)(t:Nat)(u v:V):Option SR:=match op with
 | .eql=>Qe T t u v
 | .neq=>Qf T t u v
 |_=>none
def MQ(T:List TI)(σ:Nat->Option Ob)(e:Operand->V)(c:Call):Option SR:=match c.callee with
 | .builtin .copy=>MR T σ e c
 |_=>none
def qq(v:V):Option SR:=match v.uQ with
 |true=>some (aI True v)
 |false=>none
def wo(T:List TI)(o:Oper)(e:Operand->V)(σ:Nat->Option Ob):Option SR:=
 match o.op with
  | .index t x ix=>Ov T t (e x) (e ix)
  | .build t parts=>JL T t (parts.toList.map fun p=>(p.1,e p.2))
  | .slice t x lo hi mx=>JN T t (e x) lo hi mx
  | .call c=>MQ T σ e c
  | .nilCheck x=>qq (e x)
  | .binOp op t x y _=>Ou T op t (e x) (e y)
  |_=>none
theorem DL(T:List TI)(o:Oper)(e:Operand->V)(σ:Nat->Option Ob):wo T o e σ=vD T o e σ:=by
 obtain⟨d,op,ty,pos,af,gd⟩:=o;cases op <;> try rfl
 case binOp op t x y t'=>cases op <;> rfl
 case slice t x lo hi mx=>cases lo <;> cases hi <;> cases mx <;> rfl
 case nilCheck x=>
  show qq (e x)=if(e x).uQ=true then some (aI True (e x))else none
  unfold qq
  cases (e x).uQ <;> rfl
def qt(T:List TI)(wr:Bool)(M:List Nat)(nx:Nat)(o:Oper)(e:Operand->V)(σ:Nat->Option Ob):Option SR:=
 match An T wr M nx o e σ with
  |some r=>some r
  |none=>match wo T o e σ with
   |some r=>some r
   |none=>match vF T nx o e σ with
    |some r=>some r
    |none=>vH T o e
theorem GA(T:List TI)(wr:Bool)(M:List Nat)(nx:Nat)(o:Oper)(e:Operand->V)(σ:Nat->Option Ob):qt T wr M nx o e σ=kM T wr M nx o e σ:=by unfold qt kM;rw [DK,DL];rfl
def Re(wr:Bool)(op:BinOp)(k:IntKind)(a b:Int):PQ:=match op with
 | .add=>match wr with |true=> .tt |false=>wm k (a+b)
 | .sub=>match wr with |true=> .tt |false=>wm k (a- b)
 | .mul=>match wr with |true=> .tt |false=>wm k (a*b)
 | .quo=>match wr with |true=> .ne b 0 |false=> .and (.lt 0 b) (wm k a)
 | .rem=> .ne b 0
 | .shl=>match wr with |true=> .le 0 b |false=> .and (.le 0 b) (.and (.le b k.bits) (wm k (a*2 ^ b.toNat)))
 | .shr=> .le 0 b
 |_=> .tt
def Qt(wr:Bool)(op:BinOp)(u v:V):PQ:=match u,v with
 | .c (.int k a),.c (.int _ b)=>Re wr op k a b
 | .sl _ n _,.nil=> .nlt 0 n
 | .nil,.sl _ n _=> .nlt 0 n
 |_,_=> .tt
def Qv(wr:Bool)(v:V):PQ:=match v with
 | .c (.int k a)=>match wr with |true=> .tt |false=>wm k (-a)
 |_=> .tt
def OM(T:List TI)(wr:Bool)(t:Nat)(v:V):PQ:=match v with
 | .c (.int _ a)=>match (T.getD t bF).kind with
  |some k=>match wr with |true=> .tt |false=>wm k a
  |none=> .tt
 |_=> .tt
def D7(T:List TI)(t:Nat)(i:Int):PQ:=match (T.getD t bF).arr with
 |some (n,_)=>JI i n
 |none=> .tt
def J9(T:List TI)(t:Nat)(σ:Nat->Option Ob)(u v:V):PQ:=match v with
 | .c (.int _ i)=>match u with
  | .sl _ n _=>JI i n
  | .own id=>match σ id with
   |some (.row _ _ n _)=>JI i n
   |_=> .tt
  |_=>D7 T t i
 |_=> .tt
def Qu(T:List TI)(t:Nat)(u v:V):PQ:=match v with
 | .c (.int _ i)=>match u with
  | .c (.string b)=>JI i b.size
  |_=>D7 T t i
 |_=> .tt
def Cf(σ:Nat->Option Ob)(v:V):PQ:=match v with
 | .ref id o=>match σ id with
  |some (.box _ cs)=> .nle o cs.length
  |_=> .tt
 | .oel id _ i o=>match σ id with
  |some (.row _ _ n row)=> .and (.nlt i n) (.nle o (row i).length)
  |_=> .tt
 |_=> .tt
def wC(σ:Nat->Option Ob)(u v:V):PQ:=match b7 v with
 |some us=>match u with
  | .ref id o=>match σ id with
   |some (.box _ cs)=> .nle (o+us.length) cs.length
   |_=> .tt
  | .oel id _ i o=>match σ id with
   |some (.row _ _ n row)=> .and (.nlt i n) (.nle (o+us.length) (row i).length)
   |_=> .tt
  |_=> .tt
 |none=> .tt
def Nh(σ:Nat->Option Ob)(e:Operand->V)(v:V)(lo hi:Option Operand):PQ:=match v with
 | .sl _ n _=>NX e lo hi n false
 | .own id=>match σ id with
  |some (.row _ _ n _)=>NX e lo hi n true
  |_=> .tt
 | .c (.string b)=>NX e lo hi b.size false
 |_=> .tt
def OP(u v:V):PQ:=match u,v with
 | .c (.int _ l),.c (.int _ c)=> .and (.le 0 l) (.and (.le l c) (.le c 1099511627776))
 |_,_=> .tt
def Qs(σ:Nat->Option Ob)(e:Operand->V)(c:Call):PQ:=match c.args with
 | ⟨[s,x]⟩=>match e x with
  | .sl _ m _=>match e s with
   | .nil=> .nle m 1099511627776
   | .own id=>match σ id with
    |some (.row _ _ n _)=> .nle (n+m) 1099511627776
    |_=> .tt
   |_=> .tt
  | .own id1=>match σ id1 with
   |some (.row _ _ m _)=>match e s with
    | .nil=> .nle m 1099511627776
    | .own id=>match σ id with
     |some (.row _ _ n _)=> .nle (n+m) 1099511627776
     |_=> .tt
    |_=> .tt
   |_=> .tt
  |_=> .tt
 |_=> .tt
def ON(σ:Nat->Option Ob)(e:Operand->V)(c:Call):PQ:=match c.args with
 | ⟨[x,y]⟩=>match e x,e y with
  | .own id,.sl _ m _=>match σ id with
   |some (.row _ _ n _)=> .and (.nlt 0 n) (.nlt 0 m)
   |_=> .tt
  |_,_=> .tt
 |_=> .tt
def OL(σ:Nat->Option Ob)(e:Operand->V)(c:Call):PQ:=match c.callee with
 | .builtin .append=>Qs σ e c
 | .builtin .copy=>ON σ e c
 |_=> .tt
def OO(T:List TI)(t:Nat)(σ:Nat->Option Ob)(u v:V):PQ:=match qv T t,u,DT v with
 |some (_,et),.own id,some key=>match σ id with
  |some (.mp _ f)=>match H8 T et with
   |some vz=>match (T.getD et bF).kind with
    |some _=> .re (n7 f key vz)
    |none=> .tt
   |none=> .tt
  |_=> .tt
 |_,_,_=> .tt
def Cg(T:List TI)(wr:Bool)(o:Oper)(e:Operand->V)(σ:Nat->Option Ob):PQ:=
 match o.op with
  | .binOp op _ x y _=>Qt wr op (e x) (e y)
  | .unOp .neg _ x=>Qv wr (e x)
  | .convert _ t x=>OM T wr t (e x)
  | .indexAddr t x ix=>J9 T t σ (e x) (e ix)
  | .index t x ix=>Qu T t (e x) (e ix)
  | .load _ x=>Cf σ (e x)
  | .store _ x y=>wC σ (e x) (e y)
  | .slice _ x lo hi none=>Nh σ e (e x) lo hi
  | .makeSlice _ x y=>OP (e x) (e y)
  | .lookup t m k _=>OO T t σ (e m) (e k)
  | .call c=>OL σ e c
  |_=> .tt
def PB(id:Nat)(v0:V):Ob->Ob->Prop
 | .box t cs,.box t' cs'=>t=t'/\(cs'=V.oC id v0 cs\/cs'=cs)
 | .row e sz n f,.row e' sz' n' f'=>e=e'/\sz=sz'/\n=n'/\∀i,i< n->f' i=V.oC id v0 (f i)\/f' i=f i
 | .mp s f,.mp s' f'=>s=s'/\(f'=f.map (V.fz id v0)\/f'=f)
 |_,_=>False
theorem K2{w:World}{L:Nat->Prop}{ρ:Nat->Option Value}{id:Nat}{v0:V}(h0:∀y,ρ id=some y->R w L ρ v0 y){us:List V}{xs:List Value}(h:RL w L ρ us xs):RL w L ρ (V.oC id v0 us) xs:=by
 refine⟨by rw [<-h.1,V.fH],fun i u x hu hx=> ?_⟩;rw [V.gX]at hu;cases hc:us[i]? with
 |none=>rw [hc]at hu;cases hu
 |some u'=>rw [hc]at hu;injection hu with hu;subst hu;obtain⟨q1,q2⟩:=h.2 i u' x hc hx;exact⟨ni h0 _ _ q1,q2⟩
theorem Real.z{W L:Nat->Prop}{w:World}{ρ:Nat->Option Value}{id j:Nat}{v0:V}{o o':Ob}(h0:∀y,ρ id=some y->R w L ρ v0 y)(h:Real W w L ρ j o)(hz:PB id v0 o o'):Real W w L ρ j o':=by
 cases o with
 |box t cs=>
  cases o' with
  |box t' cs'=>
   obtain⟨rfl,rfl |rfl⟩:=hz;·obtain⟨b,xs,h1,h2,h3,h4,h5⟩:=h;exact⟨b,xs,h1,h2,h3,h4,K2 h0 h5⟩
   ·exact h
  |row _ _ _ _=>exact hz.elim
  |mp _ _=>exact hz.elim
 |row e sz n f=>
  cases o' with
  |row e' sz' n' f'=>
   obtain⟨rfl,rfl,rfl,hf⟩:=hz;obtain⟨v,xs,h1,h2,h3,h4,h5⟩:=h;have hlen:∀i,i< n->(f' i).length=(f i).length:=fun i hi=>by
    rcases hf i hi with e |e <;> rw [e]
    exact V.fH _ _ _
   refine⟨v,xs,h1,h2,fun i hi=>(hlen i hi).trans (h3 i hi),?_,h5⟩;have key:∀(m:Nat),m<=n->∀xs,RL w L ρ (aE m f).flatten xs->RL w L ρ (aE m f').flatten xs:=by
    intro m;induction m with
    |zero=>intro _ xs h;exact h
    |succ m ih=>
     intro hm xs h;have e1:∀g:Nat->List V,(aE (m+1) g).flatten=(aE m g).flatten++g m:=fun g=>by simp [aE,List.range_succ]
     rw [e1]at h ⊢;have hl:=h.1;rw [List.length_append]at hl;have ex:xs=xs.take (aE m f).flatten.length++xs.drop (aE m f).flatten.length:=by simp
     have ha:RL w L ρ (aE m f).flatten (xs.take (aE m f).flatten.length):=by have:=h.sub 0 (aE m f).flatten.length;simpa using this
     have hb:RL w L ρ (f m) (xs.drop (aE m f).flatten.length):=by have:=h.sub (aE m f).flatten.length (f m).length;rw [List.drop_left,List.take_length,List.take_of_length_le (by rw [List.length_drop];omega)]at this;exact this
     rw [ex];refine(ih oM _ ha).append ?_;rcases hf m oM with e |e <;> rw [e]
     ·exact K2 h0 hb
     ·exact hb
   exact key n (Nat.le_refl _) xs h4
  |box _ _=>exact hz.elim
  |mp _ _=>exact hz.elim
 |mp s f=>
  cases o' with
  |mp s' f'=>
   obtain⟨rfl,rfl |rfl⟩:=hz;·obtain⟨B,es,cl,hv',hBW,hBL,hh,hl⟩:=h;exact⟨B,es,cl,hv',hBW,hBL,hh,hl.OA (fun v=>by rw [V.fz]) fun i u x _ hr=>ni h0 _ _ hr⟩
   ·exact h
  |box _ _=>exact hz.elim
  |row _ _ _ _=>exact hz.elim
theorem Le.Q9{s:S}(id:Nat){ob:Ob}(hσ:s.σ id=some ob)(v0:V){σ':Nat->Option Ob}(hs:∀i o',σ' i=some o'->i≠id/\∃o,s.σ i=some o/\PB id v0 o o') (h0:∀(W:Nat->Prop) (w:World) (L:Nat->Prop) (ρ:Nat->Option Value),Real W w L ρ id ob->∀y,ρ id=some y->R w (fun b=>L b\/blk y=some b) ρ v0 y):Le s ⟨fun t=>V.fz id v0 (s.tm t),σ',s.nx⟩:=by
 intro P N C a w ⟨L,ρ,h⟩;have hr:=h.g.ob id _ hσ;obtain⟨v,hv,hlt⟩:=hr.lt;have ex:Ext w L ρ w (fun b=>L b\/blk v=some b) ρ:=⟨fun b hb=>⟨.inl hb,rfl⟩,fun _ _ h=>h⟩;have h0':∀y,ρ id=some y->R w (fun b=>L b\/blk v=some b) ρ v0 y:=fun y hy=>by
  have hy':=hy;rw [hv]at hy';injection hy' with hy';subst hy'
  exact h0 _ _ _ _ hr _ hy
 refine⟨fun b=>L b\/blk v=some b,ρ,⟨⟨fun b hbl=> ?_,h.g.new,fun id' o' (ho:σ' id'=some o')=> ?_,fun i j x y k hij (hi:σ' i≠none) (hj:σ' j≠none)=> ?_,h.g.qO ex⟩,h.fr,fun t=>ni h0' _ _ ((h.tm t).ext ex),h.size,?_,h.pin⟩⟩
 ·rcases hbl with hbl |hbl;·exact h.g.ll b hbl
  ·exact⟨(hlt b hbl).1,C.wl b (hlt b hbl).2.1⟩
 ·obtain⟨hne,o,ho',hz⟩:=hs id' o' ho;have k:=(h.g.ob id' o ho').keep ex fun x k hx hk=>⟨rfl,by
   rintro(hL |hL)
   ·obtain⟨y,hy,hy2⟩:=(h.g.ob id' o ho').lt;rw [hx]at hy;injection hy with hy;subst hy
    exact(hy2 k hk).2.2 hL
   ·exact h.g.sep id' id x v k hne (by rw [ho'];simp) (by rw [hσ];simp) hx hv hk hL⟩
  exact k.z h0' hz
 ·obtain⟨o1,ho1⟩:=Option.ne_none_iff_exists'.1 hi;obtain⟨o2,ho2⟩:=Option.ne_none_iff_exists'.1 hj;obtain⟨_,p1,hp1,_⟩:=hs i o1 ho1;obtain⟨_,p2,hp2,_⟩:=hs j o2 ho2;exact h.g.sep i j x y k hij (by rw [hp1];simp) (by rw [hp2];simp)
 ·obtain⟨Ds,h4,h5,h6⟩:=h.defers;refine⟨Ds,h4,h5,fun D hD=> ?_⟩;obtain⟨h7,h8,h9⟩:=h6 D hD;refine⟨h7,h8,?_⟩;rintro(hL |hL);·exact h9 hL
  ·exact hr.eH hv hL h7
theorem Fi{P:Program}{W LB:Nat->Prop}{d:Option Tmp}{ty:TypeId}{pos:String}{af:Array Edge}{gd:Option (Nat×Bool)}{ev:Operand->V}(t t':TypeId)(x y:Operand){e0 sz n id el:Nat}{row:Nat->List V}(he:dA P t=some el)(hx:ev x= .own id)(hy:ev y= .nil)(hn:0< n) : bg P W LB ⟨d,.binOp .eql t x y t',ty,pos,af,gd⟩ ev (.b false) [(id,.row e0 sz n row)] [] []/\bg P W LB ⟨d,.binOp .neq t x y t',ty,pos,af,gd⟩ ev (.b true) [(id,.row e0 sz n row)] [] []:=by
 have hu:=bS he;have run:∀w A c',(Op.equalIn Op.maxDepth t (.slice (some A) n c') (.slice none 0 0)).run P w= .ok false w:=by intro w A c';show(Op.equalIn (_+1) t _ _).run P w=_;unfold Op.equalIn;simp [ay hu]
 have key:∀ {σ:Nat->Option Ob}{w:World}{L:Nat->Prop}{ρ:Nat->Option Value}{g:Operand->Value},G W LB σ w L ρ->R w L ρ (ev x) (g x)->R w L ρ (ev y) (g y)->σ id=some (.row e0 sz n row)->∃A c',g x= .slice (some A) n c'/\g y= .slice none 0 0:=by
  intro σ w L ρ g hG h1 h2 hσ;rw [hx]at h1;rw [hy]at h2;have hρ:=h1.cY;obtain⟨v,xs,hv,hown,_⟩:=hG.ob id _ hσ;rw [hρ]at hv;injection hv with hv
  rcases hown.2 with⟨_,h0⟩ | ⟨g',cap,cur,h3,_⟩;·omega
  ·refine⟨_,_,hv.trans h3,?_⟩;generalize g y=Y at h2;cases h2;rfl
 constructor;·intro σ w L ρ g hG hr hpre _;obtain⟨A,c',e1,e2⟩:=key hG (hr x (by simp [Op.operands])) (hr y (by simp [Op.operands])) (hpre _ (List.mem_cons_self ..));exact bq.value (v:= .bool false) (w':=w) rfl (by simp [execOp,e1,e2,eqGuard,binOp,Op.equal,run w A c']) ⟨L,ρ,hG,.c _ _,aS.refl _ _,Ext.refl _ _ _,fun _ _=>rfl,dP.refl _ _⟩
 ·intro σ w L ρ g hG hr hpre _;obtain⟨A,c',e1,e2⟩:=key hG (hr x (by simp [Op.operands])) (hr y (by simp [Op.operands])) (hpre _ (List.mem_cons_self ..));exact bq.value (v:= .bool true) (w':=w) rfl (by simp [execOp,e1,e2,eqGuard,binOp,Op.equal,run w A c']) ⟨L,ρ,hG,.c _ _,aS.refl _ _,Ext.refl _ _ _,fun _ _=>rfl,dP.refl _ _⟩
theorem E8{P:Program}{d:Option Tmp}{ty:TypeId}{pos:String}{af:Array Edge}{gd:Option (Nat×Bool)}{ev:Operand->V}(t:Nat)(x:Operand)(h:lB P t=some true):aC P ⟨d,.makeInterface t x,ty,pos,af,gd⟩ ev (.ifc t (ev x)):= aC.same rfl fun w L ρ g hr=>by
 have h1:=hr x (by simp [Op.operands]);refine⟨.iface t (g x),?_,.ifc _ _ _ _ h1⟩;unfold lB at h;cases hu:P.underlying t with
 |none=>rw [hu]at h;cases h
 |some u=>
  rw [hu]at h;have hr':=fun w=>ay (w:=w) hu;cases u <;> first
   | (simp at h;done)
   |simp [execOp,Instr.makeInterface,hr']
theorem CW{P:Program}{d:Option Tmp}{ty:TypeId}{pos:String}{af:Array Edge}{gd:Option (Nat×Bool)}{ev:Operand->V}(x:Operand){t:Nat}{v:V}(hx:ev x= .ifc t v):aC P ⟨d,.nilCheck x,ty,pos,af,gd⟩ ev (.ifc t v):= aC.same rfl fun w L ρ g hr=>by
 have h1:=hr x (by simp [Op.operands]);rw [hx]at h1;have h2:∃y,g x= .iface t y:=by generalize g x=y at h1;cases h1;exact⟨_,rfl⟩
 refine⟨g x,?_,h1⟩;obtain⟨y,hy⟩:=h2;simp [execOp,hy]
def w8(P:Program)(name:String)(t:Nat)(f:FuncId):Prop:=∀(v:Value) (w:World),(method (P.types.size+Made.depth) t v name).run P w= .ok (f,v) w
def GW(P:Program)(name:String)(t:Nat):Option FuncId:=match P.info? t with
 |some i=>match i.methods.find? (·.name == name)with
  |some m=>match m.path.toList with
   | []=>match m.func with
    |some (f,false)=>match lB P t with
     |some true=>some f
     |_=>none
    |_=>none
   |_::_=>none
  |none=>none
 |none=>none
theorem GX{P:Program}{name:String}{t:Nat}{f:FuncId}(h:GW P name t=some f):w8 P name t f:=by
 intro v w;unfold GW at h;split at h
 ·rename_i i hi;split at h
  ·rename_i m hm;split at h
   ·rename_i hp;split at h
    ·rename_i f' hf;split at h
     ·rename_i ha;injection h with h;subst h;have hti:(typeInfo t).run P w= .ok i w:=by simp [typeInfo,go_sem,hi]
      unfold lB at ha;cases hu:P.underlying t with
      |none=>rw [hu]at ha;cases ha
      |some u=>
       rw [hu]at ha;have hr':=fun w=>ay (w:=w) hu;show(method ((P.types.size+99)+1) t v name).run P w=_;unfold method;cases u <;> first
        | (simp at ha;done)
        |simp [hti,hm,hp,hf,follow,receiverAt,hr',Place.get]
     ·cases h
    ·cases h
   ·cases h
  ·cases h
 ·cases h
noncomputable section
inductive TR where
  |e
  |n (v:V) (l r:TR)
def TR.get:TR->Nat->V:=TR.rec (motive:=fun _=>Nat->V) (fun _=> .any) (fun v _ _ gl gr t=>Nat.rec (motive:=fun _=>V) v (fun t' _=>Bool.rec (motive:=fun _=>V) (gr (Nat.div t' 2)) (gl (Nat.div t' 2)) (Nat.beq (Nat.mod t' 2) 0)) t)
def TR.put:Nat->TR->Nat->V->TR:=Nat.rec (motive:=fun _=>TR->Nat->V->TR) (fun tr _ _=>tr) (fun _ ih tr t v=>TR.rec (motive:=fun _=>TR)
 (Nat.rec (motive:=fun _=>TR) (.n v .e .e) (fun t' _=>Bool.rec (motive:=fun _=>TR) (.n .any .e (ih .e (Nat.div t' 2) v)) (.n .any (ih .e (Nat.div t' 2) v) .e) (Nat.beq (Nat.mod t' 2) 0)) t)
 (fun u l r _ _=>Nat.rec (motive:=fun _=>TR) (.n v l r) (fun t' _=>Bool.rec (motive:=fun _=>TR) (.n u l (ih r (Nat.div t' 2) v)) (.n u (ih l (Nat.div t' 2) v) r) (Nat.beq (Nat.mod t' 2) 0)) t) tr)
theorem TR.jw(t:Nat):TR.get .e t= .any:=rfl
theorem TR.mz(v:V)(l r:TR):TR.get (.n v l r) 0=v:=rfl
theorem vM(t:Nat):Nat.beq (Nat.mod t 2) 0=decide (t% 2=0):=by show Nat.beq (t% 2) 0=_;rcases Nat.mod_two_eq_zero_or_one t with h |h <;> rw [h] <;> rfl
theorem TR.kT(v:V)(l r:TR)(t:Nat):TR.get (.n v l r) (t+1)=if t% 2=0 then l.get (t / 2)else r.get (t / 2):=by
 show Bool.rec (motive:=fun _=>V) (r.get (Nat.div t 2)) (l.get (Nat.div t 2)) (Nat.beq (Nat.mod t 2) 0)=_;rw [vM];by_cases h:t% 2=0;·rw [if_pos h,decide_eq_true h];rfl
 ·rw [if_neg h,decide_eq_false h];rfl
theorem TR.Na(d:Nat)(v:V):TR.put (d+1) .e 0 v= .n v .e .e:=rfl
theorem TR.Nc(d:Nat)(u:V)(l r:TR)(v:V):TR.put (d+1) (.n u l r) 0 v= .n v l r:=rfl
theorem TR.Nb(d:Nat)(t:Nat)(v:V):TR.put (d+1) .e (t+1) v=if t% 2=0 then .n .any (TR.put d .e (t / 2) v) .e else .n .any .e (TR.put d .e (t / 2) v):=by
 show Bool.rec (motive:=fun _=>TR) _ _ (Nat.beq (Nat.mod t 2) 0)=_;rw [vM];by_cases h:t% 2=0;·rw [if_pos h,decide_eq_true h];rfl
 ·rw [if_neg h,decide_eq_false h];rfl
theorem TR.Nd(d:Nat)(u:V)(l r:TR)(t:Nat)(v:V):TR.put (d+1) (.n u l r) (t+1) v=if t% 2=0 then .n u (TR.put d l (t / 2) v) r else .n u l (TR.put d r (t / 2) v):=by
 show Bool.rec (motive:=fun _=>TR) _ _ (Nat.beq (Nat.mod t 2) 0)=_;rw [vM];by_cases h:t% 2=0;·rw [if_pos h,decide_eq_true h];rfl
 ·rw [if_neg h,decide_eq_false h];rfl
theorem TR.og:∀(d:Nat) (tr:TR) (t t':Nat) (v:V),t+1< 2 ^ d->(TR.put d tr t v).get t'=if t'=t then v else tr.get t'
  |0,_,t,_,_,h=>by simp at h
  |d+1,.e,0,t',v,h=>by
    rw [TR.Na]
    cases t' with
    |zero=>rw [TR.mz,if_pos rfl]
    |succ t'=>rw [TR.kT,TR.jw,TR.jw,if_neg (by omega:¬t'+1=0)];split <;> rfl
  |d+1,.n u l r,0,t',v,h=>by
    rw [TR.Nc]
    cases t' with
    |zero=>rw [TR.mz,if_pos rfl]
    |succ t'=>rw [TR.kT,TR.kT,if_neg (by omega:¬t'+1=0)]
  |d+1,.e,t+1,t',v,h=>by
    have hd:t / 2+1< 2 ^ d:=by rw [Nat.pow_succ]at h;omega
    rw [TR.Nb]
    by_cases hm:t% 2=0
    · rw [if_pos hm]
      cases t' with
      |zero=>rw [TR.mz,if_neg oM,TR.jw]
      |succ t'=>
        rw [TR.kT,TR.jw,TR.jw,TR.og d .e _ _ _ hd,TR.jw]
        by_cases he:t'=t
        · subst he;rw [if_pos hm,if_pos rfl,if_pos rfl]
        · rw [if_neg (by omega:¬t'+1=t+1)]
          split
          · rw [if_neg oM]
          · rfl
    · rw [if_neg hm]
      cases t' with
      |zero=>rw [TR.mz,if_neg oM,TR.jw]
      |succ t'=>
        rw [TR.kT,TR.jw,TR.jw,TR.og d .e _ _ _ hd,TR.jw]
        by_cases he:t'=t
        · subst he;rw [if_neg hm,if_pos rfl,if_pos rfl]
        · rw [if_neg (by omega:¬t'+1=t+1)]
          split
          · rfl
          · rw [if_neg oM]
  |d+1,.n u l r,t+1,t',v,h=>by
    have hd:t / 2+1< 2 ^ d:=by rw [Nat.pow_succ]at h;omega
    rw [TR.Nd]
    by_cases hm:t% 2=0
    · rw [if_pos hm]
      cases t' with
      |zero=>rw [TR.mz,TR.mz,if_neg oM]
      |succ t'=>
        rw [TR.kT,TR.kT,TR.og d l _ _ _ hd]
        by_cases he:t'=t
        · subst he;rw [if_pos hm,if_pos rfl,if_pos rfl]
        · rw [if_neg (by omega:¬t'+1=t+1)]
          split
          · rw [if_neg oM]
          · rfl
    · rw [if_neg hm]
      cases t' with
      |zero=>rw [TR.mz,TR.mz,if_neg oM]
      |succ t'=>
        rw [TR.kT,TR.kT,TR.og d r _ _ _ hd]
        by_cases he:t'=t
        · subst he;rw [if_neg hm,if_pos rfl,if_pos rfl]
        · rw [if_neg (by omega:¬t'+1=t+1)]
          split
          · rfl
          · rw [if_neg oM]
theorem TR.j3{tr:TR}{t:Nat}{v:V}(h:t< 1000):(TR.put 10 tr t v).get=bO tr.get t v:=by funext t';rw [TR.og 10 tr t t' v oM];rfl
def fW:List (Nat×Option Ob)->Nat->Option Ob
 | [],_=>none
 | (k,o)::l,i=>match Nat.beq i k with
  |true=>o
  |false=>fW l i
def Dq:List (Nat×Option Ob)->Nat->List (Nat×Option Ob)
 | [],_=>[]
 | (k',o')::l,k=>match Nat.beq k k' with
  |true=>Dq l k
  |false=>(k',o')::Dq l k
def HB:List (Nat×Option Ob)->Nat->Option Ob->List (Nat×Option Ob)
 | [],k,o=>[(k,o)]
 | (k',o')::l,k,o=>match Nat.beq k k' with
  |true=>(k,o)::l
  |false=>(k',o')::HB l k o
def M9(l:List (Nat×Option Ob))(k:Nat)(o:Option Ob):List (Nat×Option Ob):=match o with
 |none=>Dq l k
 |some o=>HB l k (some o)
theorem As:∀(l:List (Nat×Option Ob)) (k i:Nat),fW (Dq l k) i=if i=k then none else fW l i
 | [],k,i=>by simp only [Dq,fW];split <;> rfl
 | (k',o')::l,k,i=>by
  simp only [Dq];split
  ·rename_i h;have h:=Nat.eq_of_beq_eq_true h;subst h;rw [As l k i];simp only [fW];split;·rfl
   ·rename_i h2;split;·rename_i h3;exact absurd (Nat.eq_of_beq_eq_true h3) h2
    ·rfl
  ·rename_i h;have h:=Nat.ne_of_beq_eq_false h;simp only [fW];split;·rename_i h2;have h2:=Nat.eq_of_beq_eq_true h2;rw [if_neg oM]
   ·exact As l k i
theorem GK:∀(l:List (Nat×Option Ob)) (k:Nat) (o:Option Ob) (i:Nat),fW (HB l k o) i=if i=k then o else fW l i
 | [],k,o,i=>by
  simp only [HB,fW];split;·rename_i h;rw [if_pos (Nat.eq_of_beq_eq_true h)]
  ·rename_i h;rw [if_neg (Nat.ne_of_beq_eq_false h)]
 | (k',o')::l,k,o,i=>by
  simp only [HB];split
  ·rename_i h;have h:=Nat.eq_of_beq_eq_true h;subst h;simp only [fW];split;·rename_i h;rw [if_pos (Nat.eq_of_beq_eq_true h)]
   ·rename_i h;rw [if_neg (Nat.ne_of_beq_eq_false h)]
  ·rename_i h;have h:=Nat.ne_of_beq_eq_false h;simp only [fW];split;·rename_i h2;have h2:=Nat.eq_of_beq_eq_true h2;rw [if_neg oM]
   ·exact GK l k o i
theorem MZ(l:List (Nat×Option Ob))(k:Nat)(o:Option Ob)(i:Nat):fW (M9 l k o) i=if i=k then o else fW l i:=by
 cases o with
 |none=>exact As l k i
 |some o=>exact GK l k (some o) i
theorem JU(l:List (Nat×Option Ob))(k:Nat)(o:Option Ob):fW (M9 l k o)=bO (fW l) k o:=by funext i;exact MZ l k o i
def Ce:List (Nat×Option Ob)->List (Nat×Option Ob)->List (Nat×Option Ob)
 |l,[]=>l
 |l,(k,o)::δ=>Ce (M9 l k o) δ
theorem yo:∀(δ l:List (Nat×Option Ob)),fW (Ce l δ)=bI (fW l) δ
 | [],l=>rfl
 | (k,o)::δ,l=>by rw [Ce,yo,JU,bI]
structure CS where
  tr:TR
  sl:List (Nat×Option Ob)
  nx:Nat
def CS.den(s:CS):S:=⟨s.tr.get,fW s.sl,s.nx⟩
def OK(tr:TR)(d:Option Tmp)(v:V):TR:=match d with
 |some t=>TR.put 10 tr t v
 |none=>tr
theorem Hj{tr:TR}{d:Option Tmp}{v:V}(h:∀t,d=some t->t< 1000):(OK tr d v).get=eJ tr.get d v:=by
 cases d with
 |none=>rfl
 |some t=>exact TR.j3 (h t rfl)
inductive CT where
  |lf (l:List (CE×CE))
  |nd (a b:CT)
inductive CU where
  |lf (l:List CE)
  |nd (a b:CU)
def CT.l:CT->CU
 | .lf l=> .lf (l.map Prod.fst)
 | .nd a b=> .nd a.l b.l
def CT.r:CT->CU
 | .lf l=> .lf (l.map Prod.snd)
 | .nd a b=> .nd a.r b.r
def kz:CT->Prop
 | .lf l=>iM l
 | .nd a b=>kz a/\kz b
theorem z7:∀ {t:CT},t.l=t.r->kz t
 | .lf l,h=>by simp only [CT.l,CT.r,CU.lf.injEq]at h;exact vX h
 | .nd a b,h=>by simp only [CT.l,CT.r,CU.nd.injEq]at h;exact⟨z7 h.1,z7 h.2⟩
mutual
def V.ids:V->List Nat
 | .agg cs=>V.o8 cs
 | .tup cs=>V.o8 cs
 | .fn _ a b=>V.o8 a++V.o8 b
 | .ifc _ v=>v.ids
 | .gd _ v=>v.ids
 | .alt _ v u=>v.ids++u.ids
 | .own i=>[i]
 | .ref i _=>[i]
 | .oel i _ _ _=>[i]
 | .osl i _ _ _=>[i]
 |_=>[]
def V.o8:List V->List Nat
 | []=>[]
 |v::l=>v.ids++V.o8 l
end
def jT:List Nat->Nat->Bool
 | [],_=>false
 |k::l,i=>match Nat.beq i k with
  |true=>true
  |false=>jT l i
def MH:List (List V)->List Nat->List Nat
 | [],t=>t
 |r::l,t=>match V.bp r with
  |true=>MH l t
  |false=>V.o8 r++MH l t
def f7(σ:Nat->Option Ob):Nat->List Nat->List Nat->List Nat
 |0,_,seen=>seen
 |_+1,[],seen=>seen
 |k+1,i::todo,seen=>match jT seen i with
  |true=>f7 σ k todo seen
  |false=>match σ i with
   |some (.box _ cs)=>f7 σ k (V.o8 cs++todo) (seen++[i])
   |some (.row _ _ n f)=>f7 σ k (MH ((List.range n).map f) todo) (seen++[i])
   |_=>f7 σ k todo (seen++[i])
def yb:List Nat->Nat->Nat
 | [],_=>0
 |k::l,i=>match Nat.beq i k with
  |true=>0
  |false=>yb l i+1
def rowOf(l:List (List V))(i:Nat):List V:=l.getD i []
def zn(g:Nat->Nat):Ob->Option Ob
 | .box t cs=>some (.box t (V.aV g cs))
 | .row e sz n f=>match ((List.range n).map f).all V.bp with
  |true=>some (.row e sz n (rowOf ((List.range n).map f)))
  |false=>some (.row e sz n (rowOf (((List.range n).map f).map (V.aV g))))
 | .mp s f=>match f.l.all fun p=>p.2.cj with
  |true=>some (.mp s f)
  |false=>none
def ye(σ:Nat->Option Ob)(g:Nat->Nat):List Nat->Option (List (Ob×Ob))
 | []=>some []
 |k::ns=>match σ k with
  |some o=>match zn g o with
   |some o'=>match ye σ g ns with
    |some l=>some ((o,o')::l)
    |none=>none
   |none=>none
  |none=>none
def PD(g:Nat->Nat)(n:Nat)(f f':Nat->List V):List (CE×CE):=match ((List.range n).map f).all V.bp with
 |true=>[]
 |false=>(List.range n).map fun i=>(.vs (f i),.vs (V.aV g (f' i)))
def zR(g:Nat->Nat):Ob×Ob->List (CE×CE)
 | (.box _ cs,.box _ cs')=>[(.vs cs,.vs (V.aV g cs'))]
 | (.row _ _ n f,.row _ _ _ f')=>PD g n f f'
 |_=>[]
def e7(g:Nat->Nat):List (Ob×Ob)->List (CE×CE)
 | []=>[]
 |p::l=>zR g p++e7 g l
def MI(k:Nat):Ob×Ob->Bool
 | (_,.box _ cs)=>V.cQ k cs
 | (.row _ _ n f,.row _ _ _ f')=>match ((List.range n).map f).all V.bp with
  |true=>true
  |false=>((List.range n).map f').all (V.cQ k)
 |_=>true
def t9(n:Nat):List (Ob×Ob)->Bool
 | []=>true
 |p::l=>MI n p && t9 n l
theorem dN{g:Nat->Nat}{l:List V}(h:V.bp l=true):V.aV g l=l:=V.dN g l h
theorem ir{l:List (List V)}(h:l.all V.bp=true)(i:Nat):V.bp (rowOf l i)=true:=by
 unfold rowOf;rw [List.getD_eq_getElem?_getD];cases hi:l[i]? with
 |none=>rfl
 |some x=>exact List.all_eq_true.1 h x (List.mem_of_getElem? hi)
theorem lV{f:Nat->List V}{n i:Nat}(h:i< n):rowOf ((List.range n).map f) i=f i:=by unfold rowOf;rw [List.getD_eq_getElem?_getD,List.getElem?_map,List.getElem?_range h];rfl
theorem GY{f:MF}(h:(f.l.all fun p=>p.2.cj)=true)(g:Nat->Nat):f.map (V.bB g)=f:=by
 obtain⟨l,rest⟩:=f;show MF.mk (l.map fun p=>(p.1,V.bB g p.2)) rest=⟨l,rest⟩;congr 1
 have h':∀p∈l,p.2.cj=true:=fun p hp=>List.all_eq_true.1 h p hp;clear h;induction l with
 |nil=>rfl
 |cons p l ih=>rw [List.map_cons,ih fun q hq=>h' q (by simp [hq]),V.eZ g _ (h' p (by simp))]
theorem JW{f:MF}(h:(f.l.all fun p=>p.2.cj)=true){k:MK}{u:V}(hu:f.look k=some u):u.cj=true:=by
 obtain⟨l,rest⟩:=f;have h':∀p∈l,p.2.cj=true:=fun p hp=>List.all_eq_true.1 h p hp;have hu':iE rest k l=some u:=hu;clear h hu;induction l with
 |nil=>simp only [iE,Option.map_eq_some_iff]at hu';obtain⟨v,_,rfl⟩:=hu';rfl
 |cons p l ih=>
  simp only [iE]at hu';split at hu';·injection hu' with hu';subst hu';exact h' p (by simp)
  ·exact ih (fun q hq=>h' q (by simp [hq])) hu'
theorem pE{g gi:Nat->Nat}{o o':Ob}(h:zn gi o=some o')(he:iM (e7 g [(o,o')])):fy o (o'.bB g):=by
 have he:iM (zR g (o,o')):=fun p hp=>he p (by simp only [e7,List.append_nil];exact hp);cases o with
 |box t cs=>simp only [zn,Option.some.injEq]at h;subst h;have h1:=he.hd;injection h1 with h1;exact⟨rfl,h1⟩
 |row e sz n f=>
  simp only [zn]at h;split at h;·rename_i hi;injection h with h;subst h;refine⟨rfl,rfl,rfl,fun i hi'=> ?_⟩;show f i=V.aV g (rowOf ((List.range n).map f) i);rw [dN (ir hi i),lV hi']
  ·rename_i hi;injection h with h;subst h;refine⟨rfl,rfl,rfl,fun i hi'=> ?_⟩;simp only [zR,PD,hi]at he;have h1:=he (.vs (f i),.vs (V.aV g (rowOf (((List.range n).map f).map (V.aV gi)) i))) (List.mem_map.2 ⟨i,List.mem_range.2 hi',rfl⟩);injection h1 with h1
 |mp str f=>
  simp only [zn]at h;split at h;·rename_i hi;injection h with h;subst h;refine⟨rfl,fun k=> ?_⟩;show f.look k=(f.map (V.bB g)).look k;rw [GY hi g]
  ·cases h
theorem M0{n:Nat}{gi:Nat->Nat}{o o':Ob}(h:zn gi o=some o')(he:t9 n [(o,o')]=true):o'.ki n:=by
 have he:MI n (o,o')=true:=by simpa only [t9,Bool.and_true]using he
 cases o with
 |box t cs=>simp only [zn,Option.some.injEq]at h;subst h;exact he
 |row e sz m f=>
  simp only [zn]at h;split at h;·rename_i hi;injection h with h;subst h;exact fun i _=>gH n _ (ir hi i)
  ·rename_i hi;injection h with h;subst h;intro i hi';simp only [MI,hi]at he;exact List.all_eq_true.1 he _ (List.mem_map.2 ⟨i,List.mem_range.2 hi',rfl⟩)
 |mp str f=>
  simp only [zn]at h;split at h;·rename_i hi;injection h with h;subst h;exact fun k u hu=>lR n u (JW hi hu)
  ·cases h
def vf(g:Nat->Nat):Ob->List (CE×CE)
 | .box _ cs=>[(.vs cs,.vs (V.aV g cs))]
 | .row _ _ n f=>PD g n f f
 |_=>[]
theorem Ei{l:List (List V)}{i:Nat}(h:l.length<=i):rowOf l i=[]:=by unfold rowOf;rw [List.getD_eq_getElem?_getD,List.getElem?_eq_none h];rfl
theorem yt{g gi:Nat->Nat}{o o':Ob}(h:zn gi o=some o')(he:iM (vf g o')):o'.bB g=o':=by
 cases o with
 |box t cs=>simp only [zn,Option.some.injEq]at h;subst h;have h1:=he.hd;injection h1 with h1;rw [Ob.bB,<-h1]
 |row e sz m f=>
  simp only [zn]at h;split at h
  ·rename_i hi;injection h with h;subst h;rw [Ob.bB];congr 1
   funext i;exact dN (ir hi i)
  ·injection h with h;subst h;rw [Ob.bB];congr 1
   funext i;by_cases hlt:i< m
   ·generalize ((List.range m).map f).map (V.aV gi)=l at he;simp only [vf,PD]at he;split at he;·rename_i ha;exact dN (by have:=List.all_eq_true.1 ha _ (List.mem_map.2 ⟨i,List.mem_range.2 hlt,rfl⟩);exact this)
    ·have h1:=he (.vs (rowOf l i),.vs (V.aV g (rowOf l i))) (List.mem_map.2 ⟨i,List.mem_range.2 hlt,rfl⟩);injection h1 with h1;exact h1.symm
   ·rw [Ei (by simp;omega)];rfl
 |mp str f=>
  simp only [zn]at h;split at h;·rename_i hi;injection h with h;subst h;show Ob.mp str (f.map (V.bB g))= .mp str f;rw [GY hi g]
  ·cases h
theorem qd{g:Nat->Nat}{p:Ob×Ob}{l:List (Ob×Ob)}(h:iM (e7 g (p::l))):iM (e7 g [p])/\iM (e7 g l):= ⟨fun q hq=>h q (List.mem_append.2 (.inl (by simpa only [e7,List.append_nil]using hq))),fun q hq=>h q (List.mem_append.2 (.inr hq))⟩
theorem uP{n:Nat}{p:Ob×Ob}{l:List (Ob×Ob)}(h:t9 n (p::l)=true):t9 n [p]=true/\t9 n l=true:=by simp only [t9,Bool.and_eq_true,Bool.and_true]at h ⊢;exact h
theorem kX{σ:Nat->Option Ob}{gi:Nat->Nat}:∀ {ns:List Nat}{l:List (Ob×Ob)},ye σ gi ns=some l->l.length=ns.length/\∀(i:Nat) (p:Ob×Ob),l[i]?=some p->∃k,ns[i]?=some k/\σ k=some p.1/\zn gi p.1=some p.2
 | [],l,h=>by simp only [ye,Option.some.injEq]at h;subst h;exact⟨rfl,fun i p h=>by simp at h⟩
 |k::ns,l,h=>by
  simp only [ye]at h;split at h
  ·rename_i o ho;split at h
   ·rename_i o' ho';split at h
    ·rename_i l' hl;injection h with h;subst h;obtain⟨h1,h2⟩:=kX hl;refine⟨by simp [h1],fun i p hp=> ?_⟩;cases i with
     |zero=>simp at hp;subst hp;exact⟨k,rfl,ho,ho'⟩
     |succ i=>simpa using h2 i p (by simpa using hp)
    ·cases h
   ·cases h
  ·cases h
theorem fQ{g:Nat->Nat}:∀ {l:List (Ob×Ob)},iM (e7 g l)->∀ {i:Nat}{p:Ob×Ob},l[i]?=some p->iM (e7 g [p])
 |q::l,h,0,p,hp=>by simp at hp;subst hp;exact(qd h).1
 |q::l,h,i+1,p,hp=>fQ (qd h).2 (by simpa using hp)
theorem yd{n:Nat}:∀ {l:List (Ob×Ob)},t9 n l=true->∀ {i:Nat}{p:Ob×Ob},l[i]?=some p->t9 n [p]=true
 |q::l,h,0,p,hp=>by simp at hp;subst hp;exact(uP h).1
 |q::l,h,i+1,p,hp=>yd (uP h).2 (by simpa using hp)
structure CR where
  v:V
  outs:List (Option Ob)
  obs:List Ob
  e:CT
abbrev fP:Type:=FuncId->List V->List Ob->Option CR
def G2:Nat:=999999999
def dh(P:Program)(call:fP):Prop:=(∀f args ins r,Nat.beq f G2=false->call f args ins=some r->kz r.e->AM P f args ins r.v r.outs r.obs)/\ ∀(name:String) (t:Nat) (r:CR) (n:Int),call G2 [.fn (.method name) [] [],.i (t:Int)] []=some r->r.v= .i n->w8 P name t n.toNat
structure SX where
  v:V
  pre:List (Nat×Ob)
  δ:List (Nat×Option Ob)
  e:CT
def sU:List Nat->Bool
 | []=>true
 |k::l=>match jT l k with
  |true=>false
  |false=>sU l
def Ft(call:fP)(nx:Nat)(d:Nat)(f:FuncId)(as0:List V)(ns:List Nat)(l:List (Ob×Ob)):Option SX:=
 match decide (d< 1000) && (sU ns && (V.cQ l.length (V.aV (fun i=>500+yb ns i) as0) && (t9 l.length l && !Nat.beq f G2)))with
  |true=>match call f (V.aV (fun i=>500+yb ns i) as0) (l.map Prod.snd)with
   |some r=>match Nat.ble r.obs.length 90 && Nat.beq r.outs.length l.length with
    |true=>some ⟨r.v.bB (aK nx (some d) ns),jm ns (l.map Prod.fst),gO (aK nx (some d) ns) ns r.outs++cn (aK nx (some d) ns) 0 r.obs,
     .nd (.lf ((.vs as0,.vs (V.aV (aK nx (some d) ns) (V.aV (fun i=>500+yb ns i) as0)))::e7 (aK nx (some d) ns) l)) r.e⟩
    |false=>none
   |none=>none
  |false=>none
def xG(call:fP)(nx:Nat)(σ:Nat->Option Ob)(o:Oper)(f:FuncId)(as0:List V):Option SX:=
 match o.dst with
  |some d=>match ye σ (fun i=>500+yb (f7 σ 1000 (V.o8 as0) []) i) (f7 σ 1000 (V.o8 as0) [])with
   |some l=>Ft call nx d f as0 (f7 σ 1000 (V.o8 as0) []) l
   |none=>none
  |none=>none
def QT(M:List Nat)(tm:Nat->V)(o:Oper):List Nat:=match o.op with
 | .box _ y=>match b7 (ug (ev tm y))with
  |some us=>match V.bp us with
   |true=>M
   |false=>[o.dst.getD 0]
  |none=>M
 | .buildSlice _ n parts=>match n with
  |0=>[o.dst.getD 0]
  |_+1=>match V.bp (parts.toList.map fun p=>ug (ev tm p.2))with
   |true=>M
   |false=>[o.dst.getD 0]
 |_=>M
def uH(o:Oper):Bool:=match o.dst with
 |some t=>Nat.ble t 999
 |none=>match o.op with
  | .store _ _ _=>true
  | .insert _ _ _ _=>true
  | .mapUpdate _ _ _ _=>true
  |_=>false
theorem Fv{o:Oper}(h:uH o=true):ke o=true:=by
 unfold uH at h;unfold ke;split at h;·rename_i t ht;have:=Nat.le_of_ble_eq_true h;simp only [ht];exact decide_eq_true (Nat.lt_succ_of_le this)
 ·rename_i ht;simp only [ht];exact h
def P7(T:List TI)(M:List Nat)(nx:Nat)(tm:Nat->V)(σ:Nat->Option Ob)(o:Oper):Option SX:=
 match o.op with
  | .pick x a b=>match ev tm x with
   | .c (.bool t)=>match mY t (ug (ev tm a)) (ug (ev tm b))with
    |some v=>match iX o with
     |true=>some ⟨v,[],[],.lf (Hi (Ga (t == true) (ev tm a)++Ga (t == false) (ev tm b)))⟩
     |false=>none
    |none=>none
   |_=>none
  |_=>match uH o && sS (opsV tm o)with
   |true=>match (Cg T false o (fun x=>ug (ev tm x)) σ).dec with
    |true=>match qt T false (QT M tm o) nx o (fun x=>ug (ev tm x)) σ with
     |some r=>some ⟨r.v,r.pre,r.δ,.lf [(.p r.c,.p (Cg T false o (fun x=>ug (ev tm x)) σ).den)]⟩
     |none=>none
    |false=>match (Cg T true o (fun x=>ug (ev tm x)) σ).dec with
     |true=>match qt T true (QT M tm o) nx o (fun x=>ug (ev tm x)) σ with
      |some r=>some ⟨r.v,r.pre,r.δ,.lf [(.p r.c,.p (Cg T true o (fun x=>ug (ev tm x)) σ).den)]⟩
      |none=>none
     |false=>none
   |false=>none
def AE(T:List TI)(tm:Nat->V)(σ:Nat->Option Ob)(o:Oper):Option SX:=match o.op with
 | .binOp op t x y _=>match ev tm x with
  | .own id=>match ev tm y with
   | .nil=>match (T.getD t bF).elem with
    |some _=>match σ id with
     |some (.row e sz n row)=>match n with
      |0=>none
      |k+1=>match iX o with
       |true=>match op with
        | .eql=>some ⟨.b false,[(id,.row e sz (k+1) row)],[],.lf []⟩
        | .neq=>some ⟨.b true,[(id,.row e sz (k+1) row)],[],.lf []⟩
        |_=>none
       |false=>none
     |_=>none
    |none=>none
   |_=>none
  |_=>none
 |_=>none
theorem sL:∀ {l:List Nat}{i:Nat},jT l i=false->i∉l
 | [],_,_=>by simp
 |k::l,i,h=>by
  simp only [jT]at h;split at h;·cases h
  ·rename_i hb;have hb:=Nat.ne_of_beq_eq_false hb;simp only [List.mem_cons,not_or];exact⟨hb,sL h⟩
theorem pG:∀ {l:List Nat},sU l=true->l.Nodup
 | [],_=> .nil
 |k::l,h=>by
  simp only [sU]at h;split at h;·cases h
  ·rename_i hb;exact List.nodup_cons.2 ⟨sL hb,pG h⟩
section
variable {P:Program}{W LB:Nat->Prop}{T:List TI}{M:List Nat}{nx:Nat}{tm:Nat->V}{σ:Nat->Option Ob}{o:Oper}{x:SX}{call:fP}
def Iz(P:Program)(W LB:Nat->Prop)(nx:Nat)(tm:Nat->V)(σ:Nat->Option Ob)(o:Oper)(x:SX):Prop:= ∃nw,bg P W LB o (ev tm) x.v x.pre nw x.δ/\(∀p∈x.pre,σ p.1=some p.2)/\l9 nx o.dst nw/\∀t,o.dst=some t->t< 1000
theorem kO(hT:aN T P){wr:Bool}{r:SR}(hd:(uH o && sS (opsV tm o))=true)(h:qt T wr M nx o (fun x=>ug (ev tm x)) σ=some r)(hc:r.c){e:CT}:Iz P W LB nx tm σ o ⟨r.v,r.pre,r.δ,e⟩:=by simp only [Bool.and_eq_true]at hd;have hd:ke o=true/\sS (opsV tm o)=true:=⟨Fv hd.1,hd.2⟩;rw [GA]at h;obtain⟨h1,h2,h3⟩:=gV (W:=W) (LB:=LB) hT o h hc (jN hd.1);exact⟨r.nw,h1.weaken fun x hx _ _ _ _ hy=>hy.ug (pF hd.2 _ (jz hx)),h2,Lv hd.1 h3,fun t ht=>xM hd.1 ht⟩
theorem Cc{c:Prop}{q:PQ}(h:CE.p c=CE.p q.den)(hq:q.dec=true):c:=by injection h with h;rw [h];exact PQ.ok hq
theorem FE(hT:aN T P)(h:P7 T M nx tm σ o=some x)(he:kz x.e):Iz P W LB nx tm σ o x:=by
 unfold P7 at h;split at h
 ·rename_i xx a b hop;split at h
  ·rename_i t hx;split at h
   ·rename_i v hv;split at h;·rename_i hd;injection h with h;subst h;have hp:=iM.ps he;obtain⟨d,op,ty,pos,af,gd⟩:=o;simp only at hop;subst hop;refine⟨[],(xp xx a b hx (nQ hp.l) (nQ hp.r) (ld hv)).step,by simp,by simp [l9],fun t ht=> ?_⟩;simp only at ht;subst ht;simpa [iX]using hd
    ·cases h
   ·cases h
  ·cases h
 ·split at h
  ·rename_i hd;split at h
   ·rename_i hq;split at h;·rename_i r hr;injection h with h;subst h;exact kO hT hd hr (Cc he.hd hq)
    ·cases h
   ·split at h
    ·rename_i hq;split at h;·rename_i r hr;injection h with h;subst h;exact kO hT hd hr (Cc he.hd hq)
     ·cases h
    ·cases h
  ·cases h
theorem uG(hcl:dh P call)(hwl:∀b,W b->LB b){f:FuncId}{as0:List V}(hpl:jY o.op=true)(hex:QJ P o (ev tm) f as0)(h:xG call nx σ o f as0=some x)(he:kz x.e):Iz P W LB nx tm σ o x:=by
  unfold xG at h
  split at h
  · rename_i d hd
    split at h
    · rename_i l hl
      generalize f7 σ 1000 (V.o8 as0) []=ns at h hl
      unfold Ft at h
      split at h
      · rename_i hb
        split at h
        · rename_i r hr
          split at h
          · rename_i hb2
            injection h with h;subst h
            simp only [Bool.and_eq_true,decide_eq_true_eq]at hb hb2
            obtain⟨hb0,hb1,hb3,hb4,hbm⟩:=hb
            obtain⟨hbo,hbl⟩:=hb2
            have hbl:=Nat.eq_of_beq_eq_true hbl
            have hbo:=Nat.le_of_ble_eq_true hbo
            obtain⟨hlen,hget⟩:=kX hl
            have hE:=he.1
            have h1:=hE.hd
            injection h1 with h1
            have hB:=hE.tl
            have am:=hcl.1 _ _ _ _ (by simpa using hbm) hr he.2
            refine⟨(List.range r.obs.length).map (ax nx (some d)),uB (W:=W) (LB:=LB) (d:=some d) (ins':=l.map Prod.fst) am hwl ns hpl hex nx h1 (by simpa using hb3) (by simpa using hb0) hbo (pG hb1) (by simp [hlen]) (by simpa using hbl) (by simp) (fun i o o' h2 h3=> ?_),fun p hp=> ?_,?_,?_⟩
            · simp only [List.getElem?_map,Option.map_eq_some_iff]at h2 h3
              obtain⟨p,hp,rfl⟩:=h2
              obtain⟨q,hq,rfl⟩:=h3
              rw [hp]at hq
              injection hq with hq
              subst hq
              obtain⟨k,_,_,hn⟩:=hget i p hp
              exact⟨pE hn (fQ hB hp),by simpa using M0 hn (yd hb4 hp)⟩
            · have key:∀(ns:List Nat) (l:List (Ob×Ob)),(∀(i:Nat) (p:Ob×Ob),l[i]?=some p->∃k,ns[i]?=some k/\σ k=some p.1)->∀p∈jm ns (l.map Prod.fst),σ p.1=some p.2:=by
                intro ns
                induction ns with
                |nil=>intro l _ p hp;simp [jm]at hp
                |cons k ns ih=>
                  intro l hl p hp
                  cases l with
                  |nil=>simp [jm]at hp
                  |cons q l=>
                    simp only [List.map_cons,jm,List.mem_cons]at hp
                    rcases hp with rfl |hp
                    · obtain⟨k',h1,h2⟩:=hl 0 q rfl
                      simp at h1;subst h1
                      exact h2
                    · exact ih l (fun i p hp=>by simpa using hl (i+1) p (by simpa using hp)) p hp
              exact key ns l (fun i p hp=>(hget i p hp).imp fun k h=>⟨h.1,h.2.1⟩) p hp
            · intro id hid
              obtain⟨j,hj,rfl⟩:=List.mem_map.1 hid
              have hj':j< r.obs.length:=by simpa using hj
              refine⟨d,hd,?_,?_,?_⟩ <;> simp only [ax,Option.getD_some] <;> omega
            · intro t ht
              rw [hd]at ht
              simp only [Option.some.injEq]at ht
              subst ht
              exact hb0
          · cases h
        · cases h
      · cases h
    · cases h
  · cases h
theorem x9{ar:Array Operand}{w:World}{L:Nat->Prop}{ρ:Nat->Option Value}{g:Operand->Value}{e:Operand->V}(hr:∀x∈ar,R w L ρ (e x) (g x)):RV w L ρ (ar.toList.map e) (ar.map g).toList:=by refine⟨by simp,fun i u x hu hx=> ?_⟩;simp only [List.getElem?_map,Option.map_eq_some_iff,Array.toList_map]at hu hx;obtain⟨p,hp,rfl⟩:=hu;obtain⟨q,hq,rfl⟩:=hx;rw [hp]at hq;injection hq with hq;subst hq;exact hr p (by simpa using List.mem_of_getElem? hp)
theorem Fu(hcl:dh P call)(hwl:∀b,W b->LB b){f:FuncId}{as0:List V}(hq:sk (ev tm) o=some (f,as0))(h:xG call nx σ o f as0=some x)(he:kz x.e):Iz P W LB nx tm σ o x:=by
 obtain⟨d',fo,ar,ats,ty,pos,af,gd,first,caps,rfl,hf,ha⟩:=jL hq;refine uG hcl hwl rfl (fun w L ρ g hr=> ?_) h he;have h1:=hr fo (by simp [Op.operands,Call.operands]);rw [hf]at h1;obtain⟨xs,ys,e1,hx,hy⟩:=h1.jP;have hz:RV w L ρ (ar.toList.map (ev tm)) (ar.map g).toList:=x9 fun p hp=>hr p (by simp [Op.operands,Call.operands,hp]);refine⟨xs++ar.map g++ys,fun hcf=> ?_,?_⟩;·simp [execOp,resolve,Deferred.ofValue,invoke,e1,hcf]
 ·rw [<-ha];have:=(hx.append hz).append hy;simpa using this
def GV(e:Operand->V)(o:Oper):Option (String×Nat×List V):=match o.op with
 | .call c=>match c.callee with
  | .value fo=>match e fo with
   | .fn (.method name) [.ifc t v] []=>some (name,t,v::c.args.toList.map e)
   |_=>none
  |_=>none
 |_=>none
def FC(call:fP)(nx:Nat)(σ:Nat->Option Ob)(o:Oper)(q:String×Nat×List V):Option SX:=match call G2 [.fn (.method q.1) [] [],.i (q.2.1:Int)] []with
 |some r=>match r.v with
  | .c (.int .i64 n)=>xG call nx σ o n.toNat q.2.2
  |_=>none
 |none=>none
theorem FD(hcl:dh P call)(hwl:∀b,W b->LB b){q:String×Nat×List V}(hq:GV (ev tm) o=some q)(h:FC call nx σ o q=some x)(he:kz x.e):Iz P W LB nx tm σ o x:=by
 obtain⟨d,op,ty,pos,af,gd⟩:=o;unfold GV at hq;simp only at hq;split at hq
 ·rename_i c;obtain⟨callee,ar,ats⟩:=c;simp only at hq;split at hq
  ·rename_i fo;split at hq
   ·rename_i name t v hf;injection hq with hq;subst hq;unfold FC at h;split at h
    ·rename_i r hr;split at h
     ·rename_i n hn;have hm:=hcl.2 name t r n hr hn;refine uG hcl hwl rfl (fun w L ρ g hrr=> ?_) h he;have h1:=hrr fo (by simp [Op.operands,Call.operands]);rw [hf]at h1;obtain⟨xs,ys,e1,hx,hy⟩:=h1.jP;have hy0:ys= #[]:=by have:=hy.1;simpa using this.symm
      subst hy0;obtain⟨x0,hx0,hr0⟩:=hx.get (i:=0) (u:= .ifc t v) rfl;have hl1:xs.size=1:=by have:=hx.1;simpa using this.symm
      obtain⟨y,e2,hy2⟩:∃y,x0= .iface t y/\R w L ρ v y:=by cases hr0;exact⟨_,rfl,by assumption⟩
      have e3:xs= #[.iface t y]:=by
       rw [e2]at hx0;apply Array.ext';have:xs.toList.length=1:=by simpa using hl1
       match hxl:xs.toList,this with
       | [a],_=>rw [hxl]at hx0;simp at hx0;rw [hx0]
      have hz:RV w L ρ (ar.toList.map (ev tm)) (ar.map g).toList:=x9 fun p hp=>hrr p (by simp [Op.operands,Call.operands,hp]);refine⟨#[y]++ar.map g,fun hcf=> ?_,?_⟩
      ·obtain⟨A,hA⟩:∃A,A= #[Value.iface t y]++ar.map g:=⟨_,rfl⟩;have hA0:A[0]?=some (.iface t y):=by rw [hA,Array.getElem?_append_left (by simp)];rfl
       have hA1:A.extract 1 A.size=ar.map g:=by rw [hA];apply Array.ext';simp [List.take_of_length_le]
       have e5:(method (P.types.size+100) t y name).run P w= .ok (n.toNat,y) w:=hm y w;have e6:(execOp g ⟨d,.call {callee:= .value fo,args:=ar,argTypes:=ats},ty,pos,af,gd⟩).run P w=(invoke (.fn (.method name) #[]) A).run P w:=by rw [hA];simp [execOp,resolve,Deferred.ofValue,e1,e3]
       rw [e6];simp only [invoke,hA0,hA1,callMethod];simp [go_sem,e5,hcf]
      ·have:=(RV.nil (w:=w) (L:=L) (ρ:=ρ)).cons hy2;have:=this.append hz;simpa using this
     ·cases h
    ·cases h
   ·cases hq
  ·cases hq
 ·cases hq
def Jb(T:List TI)(tm:Nat->V)(o:Oper):Option SX:=match o.op with
 | .makeInterface t x=>match (T.getD t bF).agg with
  |some true=>match iX o with
   |true=>some ⟨.ifc t (ev tm x),[],[],.lf []⟩
   |false=>none
  |_=>none
 | .nilCheck x=>match ev tm x with
  | .ifc t v=>match iX o with
   |true=>some ⟨.ifc t v,[],[],.lf []⟩
   |false=>none
  |_=>none
 |_=>none
theorem BJ(hT:aN T P)(h:Jb T tm o=some x):Iz P W LB nx tm σ o x:=by
 obtain⟨d,op,ty,pos,af,gd⟩:=o;unfold Jb at h;split at h
 ·rename_i t xx hop;simp only at hop;subst hop;split at h
  ·rename_i ha;split at h;·rename_i hd;injection h with h;subst h;exact⟨[],(E8 t xx (hT.agg ha)).step,by simp,by simp [l9],fun t ht=>by simp only at ht;subst ht;simpa [iX]using hd⟩
   ·cases h
  ·cases h
 ·rename_i xx hop;simp only at hop;subst hop;split at h
  ·rename_i t v hx;split at h;·rename_i hd;injection h with h;subst h;exact⟨[],(CW xx hx).step,by simp,by simp [l9],fun t ht=>by simp only at ht;subst ht;simpa [iX]using hd⟩
   ·cases h
  ·cases h
 ·cases h
theorem D2(hT:aN T P)(h:AE T tm σ o=some x):Iz P W LB nx tm σ o x:=by
  obtain⟨d,op,ty,pos,af,gd⟩:=o
  unfold AE at h
  split at h
  · rename_i bo t xx y t' hop
    simp only at hop
    subst hop
    split at h
    · rename_i id hx
      split at h
      · rename_i hy
        split at h
        · rename_i el hel
          split at h
          · rename_i e sz n row hσ
            split at h
            · cases h
            · split at h
              · rename_i hd
                have hd':∀t,d=some t->t< 1000:=fun t ht=>by
                  subst ht
                  simpa [iX]using hd
                split at h
                · injection h with h;subst h
                  exact⟨[],(Fi t t' xx y (hT.elem hel) hx hy (Nat.succ_pos _)).1,by simpa using hσ,by simp [l9],hd'⟩
                · injection h with h;subst h
                  exact⟨[],(Fi t t' xx y (hT.elem hel) hx hy (Nat.succ_pos _)).2,by simpa using hσ,by simp [l9],hd'⟩
                · cases h
              · cases h
          · cases h
        · cases h
      · cases h
    · cases h
  · cases h
end
def TR.map(f:V->V):TR->TR
 | .e=> .e
 | .n v l r=> .n (f v) (l.map f) (r.map f)
theorem TR.get_map{f:V->V}(hf:f .any= .any):∀(tr:TR) (t:Nat),(tr.map f).get t=f (tr.get t)
 | .e,t=>by rw [TR.map,TR.jw,hf]
 | .n v l r,0=>by rw [TR.map,TR.mz,TR.mz]
 | .n v l r,t+1=>by rw [TR.map,TR.kT,TR.kT,TR.get_map hf l,TR.get_map hf r];split <;> rfl
def OG(id:Nat)(v:V):Ob->Ob
 | .box t cs=>match V.bp cs with
  |true=> .box t cs
  |false=> .box t (V.oC id v cs)
 | .row e sz n f=>match ((List.range n).map f).all V.bp with
  |true=> .row e sz n f
  |false=> .row e sz n (rowOf (((List.range n).map f).map (V.oC id v)))
 | .mp s f=>match f.l.all fun p=>p.2.cj with
  |true=> .mp s f
  |false=> .mp s (f.map (V.fz id v))
theorem AX{f:Nat->List V}{g:List V->List V}{n i:Nat}(h:i< n):rowOf (((List.range n).map f).map g) i=g (f i):=by unfold rowOf;rw [List.getD_eq_getElem?_getD,List.getElem?_map,List.getElem?_map,List.getElem?_range h];rfl
theorem M3(id:Nat)(v:V)(o:Ob):PB id v o (OG id v o):=by
 cases o with
 |box t cs=>
  simp only [OG];split;·exact⟨rfl,.inr rfl⟩
  ·exact⟨rfl,.inl rfl⟩
 |row e sz n f=>
  simp only [OG];split;·exact⟨rfl,rfl,rfl,fun _ _=> .inr rfl⟩
  ·exact⟨rfl,rfl,rfl,fun i hi=> .inl (AX hi)⟩
 |mp s f=>
  simp only [OG];split;·exact⟨rfl,.inr rfl⟩
  ·exact⟨rfl,.inl rfl⟩
def oC(id:Nat)(v:V):List (Nat×Option Ob)->List (Nat×Option Ob)
 | []=>[]
 | (k,o)::l=>match Nat.beq k id with
  |true=>oC id v l
  |false=>(k,o.map (OG id v))::oC id v l
theorem Ar(id:Nat)(v:V):∀(l:List (Nat×Option Ob)) (i:Nat) (o':Ob),fW (oC id v l) i=some o'->i≠id/\∃o,fW l i=some o/\PB id v o o'
 | [],i,o',h=>by cases h
 | (k,o)::l,i,o',h=>by
  simp only [oC]at h;split at h
  ·rename_i hk;have hk:=Nat.eq_of_beq_eq_true hk;obtain⟨h1,o,h2,h3⟩:=Ar id v l i o' h;refine⟨h1,o,?_,h3⟩;simp only [fW];split;·rename_i h4;exact absurd ((Nat.eq_of_beq_eq_true h4).trans hk) h1
   ·exact h2
  ·rename_i hk;have hk:=Nat.ne_of_beq_eq_false hk;simp only [fW]at h ⊢;split at h
   ·rename_i h4;have h4:=Nat.eq_of_beq_eq_true h4;refine⟨by omega,?_⟩;cases o with
    |none=>cases h
    |some o=>simp only [Option.map_some,Option.some.injEq]at h;subst h;exact⟨o,rfl,M3 _ _ _⟩
   ·exact Ar id v l i o' h
def F3(s:CS)(id:Nat)(v:V):CS:=⟨s.tr.map (V.fz id v),oC id v s.sl,s.nx⟩
theorem v7(s:CS)(id:Nat)(v:V){ob:Ob}(hσ:fW s.sl id=some ob)(h0:∀(W:Nat->Prop) (w:World) (L:Nat->Prop) (ρ:Nat->Option Value),Real W w L ρ id ob->∀y,ρ id=some y->R w (fun b=>L b\/blk y=some b) ρ v y):Le s.den (F3 s id v).den:=by
 have h1:Le s.den ⟨fun t=>V.fz id v (s.tr.get t),fW (oC id v s.sl),s.nx⟩:=Le.Q9 (s:=s.den) id hσ v (fun i o' h=>Ar id v s.sl i o' h) h0;have e1:(s.tr.map (V.fz id v)).get=fun t=>V.fz id v (s.tr.get t):=by funext t;exact TR.get_map (by rw [V.fz]) _ _
 simp only [F3,CS.den];rw [e1];exact @h1
def Mx(s:CS)(id:Nat):CS:=match Nat.ble 0 id with
 |false=>s
 |true=>match fW s.sl id with
  |some (.row _ sz n f)=>match ((List.range n).map f).all V.bp with
   |true=>F3 s id (.sl sz n (rowOf ((List.range n).map f)))
   |false=>s
  |some (.box _ cs)=>match V.bp cs with
   |true=>F3 s id (.ptr cs)
   |false=>s
  |some (.mp p _)=>match Nat.beq p.2 0 with
   |true=>F3 s id .any
   |false=>s
  |none=>s
def F1(s:CS):List Nat->CS
 | []=>s
 |id::l=>Mx (F1 s l) id
theorem Js(s:CS)(id:Nat):Le s.den (Mx s id).den:=by
 unfold Mx;split;·exact Le.refl _
 ·split
  ·rename_i e sz n f hσ;split
   ·rename_i hi;refine v7 s id _ hσ fun W w L ρ hr y hy=> ?_;have hi':∀i,i< n->V.bp (f i)=true:=fun i hi'=>by have:=ir hi i;rwa [lV hi']at this
    obtain⟨v,h1,_,h3⟩:=hr.slice hi';rw [hy]at h1;injection h1 with h1;subst h1
    exact zy h3 fun i hi''=>(lV hi'').symm
   ·exact Le.refl _
  ·rename_i t0 cs hσ;split
   ·rename_i hi;refine v7 s id _ hσ fun W w L ρ hr y hy=> ?_;obtain⟨v,h1,_,h3⟩:=hr.ptr hi;rw [hy]at h1;injection h1 with h1;subst h1
    exact h3
   ·exact Le.refl _
  ·rename_i hσ;split;·exact v7 s id _ hσ fun W w L ρ _ y _=> .any _ _
   ·exact Le.refl _
  ·exact Le.refl _
theorem ry(s:CS):∀l:List Nat,Le s.den (F1 s l).den
 | []=>Le.refl _
 |id::l=>Le.trans (ry s l) (Js _ id)
def QU:List (Nat×Operand)->Nat->Option Operand
 | [],_=>none
 | (k,y)::l,t=>match Nat.beq t k with
  |true=>some y
  |false=>QU l t
def G6(en:List (Nat×Operand))(x:Operand):Operand:=match x with
 | .tmp t=>match QU en t with
  |some y=>y
  |none=> .tmp t
 |x=>x
def LA(tm:Nat->V)(en:List (Nat×Operand)):List Operand->List Nat
 | []=>[]
 |x::l=>(ug (ev tm (G6 en x))).ids++LA tm en l
def kJ(mu:List Nat)(tm:Nat->V):List (Nat×Operand)->List Oper->List Nat
 |_,[]=>[]
 |en,o::os=>match o.op with
  | .call c=>match c.callee with
   | .value fo=>match ug (ev tm (G6 en fo))with
    | .fn (.func f) _ _=>match jT mu f with
     |true=>kJ mu tm en os
     |false=>LA tm en c.args.toList++kJ mu tm en os
    |_=>kJ mu tm en os
   |_=>kJ mu tm en os
  | .move y=>match o.dst with
   |some t=>kJ mu tm ((t,G6 en y)::en) os
   |none=>kJ mu tm en os
  |_=>kJ mu tm en os
def wg:List Oper->Bool
 | []=>false
 |o::os=>match o.op with
  | .call c=>match c.callee with
   | .value _=>true
   |_=>wg os
  | .binOp .eql _ _ _ _=>true
  | .binOp .neq _ _ _ _=>true
  |_=>wg os
def qN(mu:List Nat)(s:CS)(ol:List Oper):CS:=match wg ol with
 |false=>s
 |true=>F1 s (f7 (fW s.sl) 1000 (kJ mu s.tr.get [] ol) [])
theorem v5(mu:List Nat)(s:CS)(ol:List Oper):Le s.den (qN mu s ol).den:=by
 unfold qN;split;·exact Le.refl _
 ·exact ry _ _
structure vt where
  call:fP
  M:List Nat
  nx:Nat
  tm:Nat->V
  σ:Nat->Option Ob
  o:Oper
def HA{α:Type}(b:Bool)(x:Option α):Option α:=Bool.rec (motive:=fun _=>Option α) none x b
def oE{α β:Type}(o:Option α)(els:Option β)(f:α->Option β):Option β:=Option.rec (motive:=fun _=>Option β) els f o
theorem eI{α:Type}{b:Bool}{x:Option α}{y:α}(h:HA b x=some y):b=true/\x=some y:=by
 cases b with
 |true=>exact⟨rfl,h⟩
 |false=>cases h
def Lu:V->Bool
 | .gd _ _=>false
 |_=>true
def dB(d:Option Tmp):Bool:=Option.rec (motive:=fun _=>Bool) false (fun t=>Nat.ble t 999) d
def eL(T:List TI)(p:vt):Option SX:=P7 T p.M p.nx p.tm p.σ p.o
def LN(p:vt)(x:Operand)(f:V->Option SX):Option SX:=HA (Lu (ev p.tm x)) (f (ev p.tm x))
def Pw(p:vt)(r:Option SR)(q:PQ):Option SX:=HA (and q.dec (dB p.o.dst)) (oE r none fun r=>some ⟨r.v,r.pre,r.δ,(.lf [])⟩)
def KB:V->Option (IntKind×Int)
 | .c (.int k n)=>some (k,n)
 |_=>none
def Gx:IntKind->Nat
 | .i8=>0
 | .i16=>1
 | .i32=>2
 | .i64=>3
 | .u8=>4
 | .u16=>5
 | .u32=>6
 | .u64=>7
theorem Gy{a b:IntKind}(h:Nat.beq (Gx a) (Gx b)=true):a=b:=by have h:=Nat.eq_of_beq_eq_true h;cases a <;> cases b <;> first |rfl | (simp [Gx]at h)
def PY(op:BinOp):IntKind->Int->Int->Option (PQ×V):=match op with
 | .add=>fun k a b=>some (wm k (a+b),.c (.int k (a+b)))
 | .sub=>fun k a b=>some (wm k (a- b),.c (.int k (a- b)))
 | .mul=>fun k a b=>some (wm k (a*b),.c (.int k (a*b)))
 | .quo=>fun k a b=>some (.and (.lt 0 b) (wm k a),.c (.int k (a.tdiv b)))
 | .rem=>fun k a b=>some (.ne b 0,.c (.int k (a.tmod b)))
 | .eql=>fun _ a b=>some (.tt,.b (decide (a=b)))
 | .neq=>fun _ a b=>some (.tt,.b (!decide (a=b)))
 | .lss=>fun _ a b=>some (.tt,.b (decide (a< b)))
 | .leq=>fun _ a b=>some (.tt,.b (decide (a<=b)))
 | .gtr=>fun _ a b=>some (.tt,.b (decide (b< a)))
 | .geq=>fun _ a b=>some (.tt,.b (decide (b<=a)))
 |_=>fun _ _ _=>none
theorem JF(k:IntKind)(n:Int):(wm k n).den=qQ k n:=by cases k <;> rfl
theorem Mk{op:BinOp}{k:IntKind}{a b:Int}{q:PQ}{v:V}(h:PY op k a b=some (q,v)):∃c,Df false op (.c (.int k a)) (.c (.int k b))=some (c,v)/\(q.dec=true->c):=by refine⟨q.den,?_,PQ.ok⟩;cases op <;> simp only [PY,Option.some.injEq,Prod.mk.injEq,reduceCtorEq]at h <;> (rw [<-h.1,<-h.2];simp [Df,I9,PQ.den,JF])
def Ij(_:Call)(T:List TI)(p:vt):Option SX:=match sk (ev p.tm) p.o with
 |some (f,as0)=>xG p.call p.nx p.σ p.o f as0
 |none=>match GV (ev p.tm) p.o with
  |some q=>FC p.call p.nx p.σ p.o q
  |none=>eL T p
def QI(_:TypeId)(_:Operand)(T:List TI)(p:vt):Option SX:=Jb T p.tm p.o
def PT(T:List TI)(p:vt):Option SX:=oE (AE T p.tm p.σ p.o) (eL T p) some
def Rh(T:List TI)(p:vt)(op:BinOp)(u v:IntKind×Int):Option SX:=oE (HA (Nat.beq (Gx u.1) (Gx v.1)) (PY op u.1 u.2 v.2)) (PT T p) fun r=>HA (and r.1.dec (dB p.o.dst)) (some ⟨r.2,[],[],(.lf [])⟩)
def QH(op:BinOp)(_:TypeId)(x y:Operand)(_:TypeId)(T:List TI)(p:vt):Option SX:=oE (KB (ev p.tm x)) (PT T p) fun u=>oE (KB (ev p.tm y)) (PT T p) fun v=>Rh T p op u v
def LO(x:Operand)(T:List TI)(p:vt):Option SX:=HA (and (Lu (ev p.tm x)) (dB p.o.dst)) (some ⟨ev p.tm x,[],[],(.lf [])⟩)
def Ik(t:TypeId)(x:Operand)(T:List TI)(p:vt):Option SX:=LN p x fun v=>Pw p (kZ T t p.σ v) (Cf p.σ v)
def Bk(t:TypeId)(x y:Operand)(T:List TI)(p:vt):Option SX:=LN p x fun u=>LN p y fun v=>HA (and (wC p.σ u v).dec (Option.rec (motive:=fun _=>Bool) true (fun _=>false) p.o.dst)) (oE (i7 T t p.σ u v) none fun r=>some ⟨r.v,r.pre,r.δ,(.lf [])⟩)
def ND(t:TypeId)(x:Operand)(f:Nat)(T:List TI)(p:vt):Option SX:=LN p x fun v=>Pw p (Gv T t f v) .tt
def xIdx(t:TypeId)(x y:Operand)(T:List TI)(p:vt):Option SX:=LN p x fun u=>LN p y fun v=>Pw p (Gw T t p.σ u v) (J9 T t p.σ u v)
def NF(x:Operand)(T:List TI)(p:vt):Option SX:=oE (qq (ev p.tm x)) (Jb T p.tm p.o) fun r=>HA (and (Lu (ev p.tm x)) (dB p.o.dst)) (some ⟨r.v,r.pre,r.δ,(.lf [])⟩)
def NC(x:Operand)(i:Nat)(T:List TI)(p:vt):Option SX:=LN p x fun v=>Pw p (kY v i) .tt
def LP(op:Op):List TI->vt->Option SX:=Op.rec (motive:=fun _=>List TI->vt->Option SX) LO LO (fun _ _ _=>eL) (fun _=>eL) (fun _ _=>eL) (fun _ _=>eL) (fun _ _ _=>eL) (fun _ _ _ _=>eL) Ik Bk (fun _=>eL) (fun _=>eL) NF QH (fun _ _ _=>eL) (fun _ _ _=>eL) (fun _ _=>eL) QI (fun _ _ _=>eL) (fun _ _=>eL) (fun _ _=>eL) (fun _ _ _=>eL) (fun _ _ _ _ _=>eL) ND (fun _ _ _=>eL) xIdx (fun _ _ _=>eL) (fun _ _ _ _=>eL) (fun _ _ _ _=>eL) (fun _ _ _=>eL) (fun _ _ _ _=>eL) (fun _ _=>eL) (fun _ _=>eL) (fun _=>eL) (fun _ _ _ _=>eL) NC Ij (fun _=>eL) (fun _=>eL) (fun _=>eL) (fun _ _=>eL) (fun _ _ _=>eL) (fun _ _=>eL) op
theorem lT{α β:Type}{o:Option α}{els:Option β}{f:α->Option β}{y:β}(h:oE o els f=some y):(∃a,o=some a/\f a=some y)\/(o=none/\els=some y):=by
 cases o with
 |none=>exact .inr ⟨rfl,h⟩
 |some a=>exact .inl ⟨a,rfl,h⟩
theorem dw{α β:Type}{o:Option α}{f:α->Option β}{y:β}(h:oE o none f=some y):∃a,o=some a/\f a=some y:=by
 rcases lT h with h | ⟨_,h⟩;·exact h
 ·cases h
theorem jj{v:V}(h:Lu v=true):ug v=v:=by cases v <;> first |rfl |cases h
theorem iJ{p:vt}{x:Operand}{f:V->Option SX}{y:SX}(h:LN p x f=some y):Lu (ev p.tm x)=true/\f (ev p.tm x)=some y:=eI h
theorem mW{v:V}(h:Lu v=true):sS [v]=true:=by cases v <;> first |rfl |cases h
theorem Ay{u v:V}(h:Lu u=true)(k:Lu v=true):sS [u,v]=true:=by cases u <;> first |exact mW k |cases h
theorem qj{o:Oper}(h:dB o.dst=true):uH o=true:=by
 unfold dB at h;unfold uH;cases hd:o.dst with
 |none=>rw [hd]at h;cases h
 |some t=>rw [hd]at h;exact h
theorem ox{p:vt}{r:Option SR}{q:PQ}{y:SX}(h:Pw p r q=some y):q.dec=true/\dB p.o.dst=true/\∃r',r=some r'/\y=⟨r'.v,r'.pre,r'.δ,.lf []⟩:=by obtain⟨h1,h2⟩:=eI h;simp only [Bool.and_eq_true]at h1;obtain⟨r',h3,h4⟩:=dw h2;injection h4 with h4;exact⟨h1.1,h1.2,r',h3,h4.symm⟩
theorem GL{T:List TI}{t:Nat}{σ:Nat->Option Ob}{v:V}{r:SR}(h:kZ T t σ v=some r)(hq:(Cf σ v).dec=true):r.c:=by
 have hq:=PQ.ok hq;unfold kZ at h;unfold Cf at hq;split at h
 ·split at h;·injection h with h;subst h;trivial
  ·cases h
 ·split at h
  ·rename_i hσ;simp only [hσ]at hq;split at h;·injection h with h;subst h;exact hq
   ·cases h
  ·cases h
 ·split at h
  ·rename_i hσ;simp only [hσ]at hq;split at h
   ·split at h;·injection h with h;subst h;exact hq
    ·cases h
   ·cases h
  ·cases h
 ·cases h
theorem Er{T:List TI}{t:Nat}{σ:Nat->Option Ob}{u v:V}{r:SR}(h:i7 T t σ u v=some r)(hq:(wC σ u v).dec=true):r.c:=by
 have hq:=PQ.ok hq;unfold i7 at h;unfold wC at hq;split at h
 ·rename_i us hus;simp only [hus]at hq;split at h
  ·split at h
   ·rename_i hσ;simp only [hσ]at hq;split at h;·injection h with h;subst h;exact hq
    ·cases h
   ·cases h
  ·split at h
   ·rename_i hσ;simp only [hσ]at hq;split at h;·injection h with h;subst h;exact hq
    ·cases h
   ·cases h
  ·cases h
 ·cases h
theorem MV{T:List TI}{t:Nat}{σ:Nat->Option Ob}{u v:V}{r:SR}(h:Gw T t σ u v=some r)(hq:(J9 T t σ u v).dec=true):r.c:=by
 have hq:=PQ.ok hq;unfold Gw at h;split at h
 ·rename_i _ i _;unfold nT at h;split at h
  ·split at h
   ·split at h;·injection h with h;subst h;exact hq
    ·cases h
   ·cases h
  ·split at h
   ·rename_i n el ha;have hq:(D7 T t i).den:=hq;unfold D7 at hq;simp only [ha]at hq;split at h;·injection h with h;subst h;exact hq
    ·cases h
   ·cases h
  ·split at h
   ·rename_i n el ha;have hq:(D7 T t i).den:=hq;unfold D7 at hq;simp only [ha]at hq;split at h;·injection h with h;subst h;exact hq
    ·cases h
   ·cases h
  ·split at h
   ·split at h
    ·rename_i hσ;simp only [J9,hσ]at hq;split at h;·injection h with h;subst h;exact hq
     ·cases h
    ·cases h
   ·cases h
  ·cases h
 ·cases h
theorem MU{T:List TI}{t f:Nat}{v:V}{r:SR}(h:Gv T t f v=some r):r.c:=by
 unfold Gv at h;split at h;·split at h <;> first | (injection h with h;subst h;trivial) |cases h
 ·cases h
theorem Am{v:V}{i:Nat}{r:SR}(h:kY v i=some r):r.c:=by
 unfold kY at h;split at h
 ·split at h;·injection h with h;subst h;trivial
  ·cases h
 ·cases h
theorem JM{v:V}{r:SR}(h:qq v=some r):r.c:=by
 unfold qq at h;split at h;·injection h with h;subst h;trivial
 ·cases h
theorem iU{T:List TI}{wr:Bool}{M:List Nat}{nx:Nat}{o:Oper}{e:Operand->V}{σ:Nat->Option Ob}{r:SR}(h:An T wr M nx o e σ=some r):qt T wr M nx o e σ=some r:=by unfold qt;rw [h]
theorem vj{v:V}{k:IntKind}{n:Int}(h:KB v=some (k,n)):v= .c (.int k n):=by
 unfold KB at h;split at h;·injection h with h;injection h with h1 h2;subst h1 h2;rfl
 ·cases h
theorem Il{P:Program}{W LB:Nat->Prop}{call:fP}{T:List TI}{M:List Nat}{nx:Nat}{tm:Nat->V}{σ:Nat->Option Ob}{o:Oper}{x:SX}(hT:aN T P)(hcl:dh P call)(hwl:∀b,W b->LB b)(h:LP o.op T ⟨call,M,nx,tm,σ,o⟩=some x)(he:kz x.e):Iz P W LB nx tm σ o x:=by
 obtain⟨d,op,ty,pos,af,gd⟩:=o;have old:∀ {x:SX},eL T ⟨call,M,nx,tm,σ,⟨d,op,ty,pos,af,gd⟩⟩=some x->kz x.e->Iz P W LB nx tm σ ⟨d,op,ty,pos,af,gd⟩ x:=fun h he=>FE hT h he;have oldB:∀ {x:SX},PT T ⟨call,M,nx,tm,σ,⟨d,op,ty,pos,af,gd⟩⟩=some x->kz x.e->Iz P W LB nx tm σ ⟨d,op,ty,pos,af,gd⟩ x:=fun h he=>by
  rcases lT h with⟨y,hy,h⟩ | ⟨_,h⟩;·injection h with h;subst h;exact D2 hT hy
  ·exact FE hT h he
 cases op;case move y=>
  obtain⟨h1,h2⟩:=eI h
  simp only [Bool.and_eq_true]at h1
  injection h2 with h2;subst h2
  have e1:=jj h1.1
  have:=kO (W:=W) (LB:=LB) (M:=M) (wr:=false) (nx:=nx) (σ:=σ) (o:=⟨d,.move y,ty,pos,af,gd⟩) (e:= .lf []) hT (by simp only [Bool.and_eq_true];exact⟨qj (o:=⟨d,.move y,ty,pos,af,gd⟩) h1.2,mW h1.1⟩) (iU rfl) trivial
  simp only [aI,e1]at this
  exact this
 case assign y=>
  obtain⟨h1,h2⟩:=eI h
  simp only [Bool.and_eq_true]at h1
  injection h2 with h2;subst h2
  have e1:=jj h1.1
  have:=kO (W:=W) (LB:=LB) (M:=M) (wr:=false) (nx:=nx) (σ:=σ) (o:=⟨d,.assign y,ty,pos,af,gd⟩) (e:= .lf []) hT (by simp only [Bool.and_eq_true];exact⟨qj (o:=⟨d,.assign y,ty,pos,af,gd⟩) h1.2,mW h1.1⟩) (iU rfl) trivial
  simp only [aI,e1]at this
  exact this
 case binOp bo t y z t'=>
  rcases lT h with⟨u,hu,h⟩ | ⟨_,h⟩
  ·rcases lT h with⟨v,hv,h⟩ | ⟨_,h⟩
   ·rcases lT h with⟨r,hr,h⟩ | ⟨_,h⟩;·obtain⟨hk,hr⟩:=eI hr;obtain⟨h1,h2⟩:=eI h;simp only [Bool.and_eq_true]at h1;injection h2 with h2;subst h2;obtain⟨k,a⟩:=u;obtain⟨k',b⟩:=v;have hk:=Gy hk;simp only at hk;subst hk;obtain⟨q,w⟩:=r;obtain⟨c,hc1,hc2⟩:=Mk hr;have eu:=vj hu;have ev':=vj hv;simp only at eu ev';have:=kO (W:=W) (LB:=LB) (M:=M) (wr:=false) (nx:=nx) (σ:=σ) (o:=⟨d,.binOp bo t y z t',ty,pos,af,gd⟩) (tm:=tm) (r:=aI c w) (e:= .lf []) hT (by simp only [Bool.and_eq_true];exact⟨qj (o:=⟨d,.binOp bo t y z t',ty,pos,af,gd⟩) h1.2,Ay (by rw [eu];rfl) (by rw [ev'];rfl)⟩) (iU (by show JO T false bo t (ug (ev tm y)) (ug (ev tm z))=_;rw [eu,ev'];show JO T false bo t (.c (.int k a)) (.c (.int k b))=_;unfold JO;rw [hc1])) (hc2 h1.1);exact this
    ·exact oldB h he
   ·exact oldB h he
  ·exact oldB h he
 case load t y=>
  have h:Ik t y T ⟨call,M,nx,tm,σ,⟨d,.load t y,ty,pos,af,gd⟩⟩=some x:=h
  unfold Ik at h
  obtain⟨h1,h2⟩:=iJ h
  obtain⟨h3,h4,r,h5,rfl⟩:=ox h2
  exact kO (W:=W) (LB:=LB) (M:=M) (wr:=false) hT (by simp only [Bool.and_eq_true];exact⟨qj h4,mW h1⟩) (iU (by show kZ T t σ (ug (ev tm y))=_;rw [jj h1];exact h5)) (GL h5 h3)
 case store t y z=>
  have h:Bk t y z T ⟨call,M,nx,tm,σ,⟨d,.store t y z,ty,pos,af,gd⟩⟩=some x:=h
  unfold Bk at h
  obtain⟨h1,h2⟩:=iJ h
  obtain⟨k1,k2⟩:=iJ h2
  obtain⟨h3,h4⟩:=eI k2
  simp only [Bool.and_eq_true]at h3
  obtain⟨r,h5,h6⟩:=dw h4
  injection h6 with h6;subst h6
  have hd:d=none:=by
   cases d with
   |none=>rfl
   |some t=>exact absurd h3.2 (by simp)
  subst hd
  exact kO (W:=W) (LB:=LB) (M:=M) (wr:=false) hT (by simp only [Bool.and_eq_true];exact⟨rfl,Ay h1 k1⟩) (iU (by show i7 T t σ (ug (ev tm y)) (ug (ev tm z))=_;rw [jj h1,jj k1];exact h5)) (Er h5 h3.1)
 case fieldAddr t y f=>
  have h:ND t y f T ⟨call,M,nx,tm,σ,⟨d,.fieldAddr t y f,ty,pos,af,gd⟩⟩=some x:=h
  unfold ND at h
  obtain⟨h1,h2⟩:=iJ h
  obtain⟨h3,h4,r,h5,rfl⟩:=ox h2
  exact kO (W:=W) (LB:=LB) (M:=M) (wr:=false) hT (by simp only [Bool.and_eq_true];exact⟨qj h4,mW h1⟩) (iU (by show Gv T t f (ug (ev tm y))=_;rw [jj h1];exact h5)) (MU h5)
 case indexAddr t y z=>
  have h:xIdx t y z T ⟨call,M,nx,tm,σ,⟨d,.indexAddr t y z,ty,pos,af,gd⟩⟩=some x:=h
  unfold xIdx at h
  obtain⟨h1,h2⟩:=iJ h
  obtain⟨k1,k2⟩:=iJ h2
  obtain⟨h3,h4,r,h5,rfl⟩:=ox k2
  exact kO (W:=W) (LB:=LB) (M:=M) (wr:=false) hT (by simp only [Bool.and_eq_true];exact⟨qj h4,Ay h1 k1⟩) (iU (by show Gw T t σ (ug (ev tm y)) (ug (ev tm z))=_;rw [jj h1,jj k1];exact h5)) (MV h5 h3)
 case nilCheck y=>
  have h:NF y T ⟨call,M,nx,tm,σ,⟨d,.nilCheck y,ty,pos,af,gd⟩⟩=some x:=h
  unfold NF at h
  rcases lT h with⟨r,h5,h⟩ | ⟨_,h⟩
  ·obtain⟨h1,h2⟩:=eI h;simp only [Bool.and_eq_true]at h1;injection h2 with h2;subst h2;have h5:qq (ev tm y)=some r:=h5;exact kO (W:=W) (LB:=LB) (M:=M) (wr:=false) hT (by simp only [Bool.and_eq_true];exact⟨qj h1.2,mW h1.1⟩) (by unfold qt;show(match wo T ⟨d,.nilCheck y,ty,pos,af,gd⟩ (fun x=>ug (ev tm x)) σ with |some r=>some r |none=>_)=_;rw [show wo T ⟨d,.nilCheck y,ty,pos,af,gd⟩ (fun x=>ug (ev tm x)) σ=some r from by show qq (ug (ev tm y))=_;rw [jj h1.1];exact h5]) (JM h5)
  ·exact BJ hT h
 case extract y i=>
  have h:NC y i T ⟨call,M,nx,tm,σ,⟨d,.extract y i,ty,pos,af,gd⟩⟩=some x:=h
  unfold NC at h
  obtain⟨h1,h2⟩:=iJ h
  obtain⟨h3,h4,r,h5,rfl⟩:=ox h2
  exact kO (W:=W) (LB:=LB) (M:=M) (wr:=false) hT (by simp only [Bool.and_eq_true];exact⟨qj h4,mW h1⟩) (iU (by show kY (ug (ev tm y)) i=_;rw [jj h1];exact h5)) (Am h5)
 case makeInterface t y=>exact BJ hT h
 case call c=>
  have h:Ij c T ⟨call,M,nx,tm,σ,⟨d,.call c,ty,pos,af,gd⟩⟩=some x:=h
  unfold Ij at h
  split at h
  ·exact Fu hcl hwl (by assumption) h he
  ·split at h;·exact FD hcl hwl (by assumption) h he
   ·exact old h he
 all_goals exact old h he
def zS(a b:CT):CT:=match a with
 | .lf l=>match l with
  | []=>b
  |x::l=> .nd (.lf (x::l)) b
 | .nd c d=> .nd (.nd c d) b
theorem mN{a b:CT}(h:kz (zS a b)):kz a/\kz b:=by
 unfold zS at h;split at h
 ·split at h;·exact⟨(fun p hp=>nomatch hp),h⟩
  ·exact h
 ·exact h
abbrev KS:Type:=List (List Nat×List Nat)
abbrev RK:Type:=CS->KS->Option (CS×KS×CT)
def Qw(call:fP)(T:List TI)(M:List Nat)(o:Oper)(ih:RK)(s:CS)(ks:KS):Option (CS×KS×CT):= oE (LP o.op T ⟨call,M,s.nx,s.tr.get,fW s.sl,o⟩) none fun x=>oE (ih ⟨OK s.tr o.dst x.v,Ce s.sl x.δ,s.nx⟩ ((bk x.δ,eF x.pre++bk x.δ)::ks)) none fun r=>some (r.1,r.2.1,zS x.e r.2.2)
def Hr(call:fP)(T:List TI)(M:List Nat)(ol:List Oper)(o:Oper)(ih:RK)(s:CS)(ks:KS):Option (CS×KS×CT):=match o.guard with
 |none=>Qw call T M o ih s ks
 |some _=>match eU (ol.map (·.dst)) s.tr.get o with
  |some (some g)=>match g with
   |true=>Qw call T M o ih s ks
   |false=>match o.dst with
    |some t=>match Nat.ble t 999 with
     |true=>ih ⟨TR.put 10 s.tr t (.gd false (.b false)),s.sl,s.nx⟩ (([],[])::ks)
     |false=>none
    |none=>none
  |_=>none
def um(call:fP)(T:List TI)(M:List Nat)(ol:List Oper)(os:List Oper):RK:=List.rec (motive:=fun _=>RK) (fun s ks=>some (s,ks,.lf [])) (fun o _ ih=>Hr call T M ol o ih) os
theorem Hq(call:fP)(T:List TI)(M:List Nat)(ol:List Oper)(s:CS)(ks:KS):um call T M ol [] s ks=some (s,ks,.lf []):=rfl
theorem D8(call:fP)(T:List TI)(M:List Nat)(ol:List Oper)(o:Oper)(os:List Oper)(s:CS)(ks:KS):um call T M ol (o::os) s ks=Hr call T M ol o (um call T M ol os) s ks:=rfl
theorem fK{P:Program}{N:Nat}{C:Cx P N}{T:List TI}{M:List Nat}{call:fP}(hT:aN T P)(hcl:dh P call){ol:List Oper}{K:(Nat->V)->(Nat->Option Ob)->List (List Nat×List Nat)->Prop} : ∀ {os:List Oper}{s:CS}{ks:List (List Nat×List Nat)}{s':CS}{ks':List (List Nat×List Nat)}{e:CT},um call T M ol os s ks=some (s',ks',e)->kz e->s'.nx=s.nx/\(K s'.tr.get (fW s'.sl) ks'.reverse->bC C ol.toArray s.nx os s.tr.get (fW s.sl) ks.reverse K)
 | [],s,ks,s',ks',e,h,he=>by simp only [Hq,Option.some.injEq,Prod.mk.injEq]at h;obtain⟨rfl,rfl,rfl⟩:=h;exact⟨rfl,id⟩
 |o::os,s,ks,s',ks',e,h,he=>by
  have run:dK ol.toArray s.tr.get o=some true->Qw call T M o (um call T M ol os) s ks=some (s',ks',e)->s'.nx=s.nx/\(K s'.tr.get (fW s'.sl) ks'.reverse->bC C ol.toArray s.nx (o::os) s.tr.get (fW s.sl) ks.reverse K):=by intro hw h;obtain⟨x,hx,h⟩:=dw h;obtain⟨r,h1,h⟩:=dw h;obtain⟨s1,ks1,e1⟩:=r;simp only [Option.some.injEq,Prod.mk.injEq]at h;obtain⟨rfl,rfl,rfl⟩:=h;have he:=mN he;obtain⟨nw,q1,q2,q3,q4⟩:=Il (W:=C.W) (LB:=C.LB) hT hcl C.wl hx he.1;obtain⟨r1,r2⟩:=fK hT hcl (C:=C) (K:=K) h1 he.2;refine⟨r1,fun hk=>⟨⟨true,x.v,x.pre,nw,x.δ⟩,⟨hw,fun _=>⟨q1,q2,q3⟩,by simp⟩,?_⟩⟩;have:=r2 hk;rw [Hj q4,yo,List.reverse_cons]at this;exact this
  rw [D8]at h;unfold Hr at h;split at h;·rename_i hg;exact run (by unfold dK;rw [hg]) h
  ·rename_i gd' hg;split at h
   ·rename_i g hgv;have hw:=gG (ops:=ol.toArray) (r:=some g) (by simpa using hgv);split at h;·exact run hw h
    ·split at h
     ·rename_i t ht;split at h;·rename_i hlt;obtain⟨r1,r2⟩:=fK hT hcl (C:=C) (K:=K) h he;refine⟨r1,fun hk=> ?_⟩;have:=r2 hk;rw [TR.j3 (Nat.lt_succ_of_le (Nat.le_of_ble_eq_true hlt)),List.reverse_cons]at this;exact rY (by simpa using hgv) ht this
      ·cases h
     ·cases h
   ·cases h
def OH(ops:List Oper):Bool:=
 decide ((ops.filterMap (·.dst)).Nodup) &&
 (List.range ops.length).all (fun i=>match ops[i]? with
  |some o=>(ga o).all (· < i) &&
   (List.range ops.length).all (fun j=>j == i || match ((ops.map (·.dst))[j]?).bind id with
    |some t=> !(looks (ops.map (·.dst)) o).contains t || (ga o).contains j || (reach ops ops.length [j]).contains i
    |none=>true)
  |none=>true)
def PK(ks:KS):Bool:=ks.all fun p=>p.1.isEmpty
def J4(ops:List Oper)(ks:KS):Bool:=OH ops && (PK ks || jl ops ks.reverse)
theorem B7{ops:List Oper}{kr:KS}(h:J4 ops kr=true):jl ops kr.reverse=true:=by
 simp only [J4,Bool.and_eq_true,Bool.or_eq_true]at h;have hm:PK kr=true->PK kr.reverse=true:=fun h=>by simpa [PK]using h
 generalize kr.reverse=ks at h hm ⊢;obtain⟨h1,h2 |h2⟩:=h
 ·simp only [OH,Bool.and_eq_true]at h1;obtain⟨h3,h4⟩:=h1;simp only [jl,Bool.and_eq_true];refine⟨h3,List.all_eq_true.2 fun i hi=> ?_⟩;have h5:=List.all_eq_true.1 h4 i hi;have h2:=hm h2;have hw:∀(j:Nat) (w f:List Nat),ks[j]?=some (w,f)->w=[]:=fun j w f hj=>by have:=List.all_eq_true.1 h2 _ (List.mem_of_getElem? hj);simpa using this
  cases ho:ops[i]? with
  |none=>rfl
  |some o=>
   rw [ho]at h5;simp only [Bool.and_eq_true]at h5 ⊢;refine⟨h5,?_⟩;cases hk:ks[i]? with
   |none=>rfl
   |some p=>
    obtain⟨wi,fi⟩:=p;simp only [Bool.or_eq_true];refine .inr (List.all_eq_true.2 fun j hj=> ?_);cases hkj:ks[j]? with
    |none=>rfl
    |some q=>obtain⟨wj,fj⟩:=q;have e1:=hw i wi fi hk;have e2:=hw j wj fj hkj;subst e1 e2;simp
 ·exact h2
inductive CC where
  |code (c:Code) (k:List Fr) (s:CS)
  |ops (ol:List Oper) (dr:Bool) (rest:List Oper) (s:CS) (ks:List (List Nat×List Nat)) (k:List Fr)
  |done (e:Exit) (k:List Fr) (s:CS)
def CC.den:CC->Bt
 | .code c k s=> .code c k s.den
 | .ops ol dr rest s ks k=> .ops ol dr rest s.tr.get (fW s.sl) s.nx ks k
 | .done e k s=> .done e k s.den
def c0:CT:= .lf []
abbrev NT:Type:=Operand->Array Tmp->Code->Code->CS->Option (Exit×CS×CT)
def BA{P:Program}{N:Nat}(C:Cx P N)(rng:NT):Prop:=∀g ps as0 bd s e s' t,rng g ps as0 bd s=some (e,s',t)->kz t->∀Q:Exit->S->Prop,Q e s'.den->AW C (.rangeFunc g ps as0 bd) Q s.den
def Nk:NT:=fun _ _ _ _ _=>none
theorem Ck{P:Program}{N:Nat}{C:Cx P N}:BA C Nk:=fun _ _ _ _ _ _ _ _ h=>by cases h
abbrev EK:Type:=CS->Option (Exit×CS×CT)
def MJ:Exit->Bool
 | .normal=>true
 |_=>false
theorem MM{e:Exit}(h:MJ e=true):e= .normal:=by cases e <;> first |rfl |cases h
theorem Gs{e:Exit}(h:MJ e=false):e≠ .normal:=by intro he;subst he;cases h
def HY:V->Option Bool
 | .c (.bool t)=>some t
 |_=>none
theorem HZ{v:V}{t:Bool}(h:HY v=some t):v= .b t:=by
 unfold HY at h;split at h;·injection h with h;subst h;rfl
 ·cases h
def Oe(t:CT)(q:Exit×CS×CT):Option (Exit×CS×CT):=some (q.1,q.2.1,zS t q.2.2)
def xN(b:EK)(r:Exit×CS×CT):Option (Exit×CS×CT):=Bool.rec (motive:=fun _=>Option (Exit×CS×CT)) (some r) (oE (b r.2.1) none (Oe r.2.2)) (MJ r.1)
def Oi(a b:EK):EK:=fun s=>oE (a s) none (xN b)
def Od(c:Operand)(a b:EK):EK:=fun s=>oE (HY (ev s.tr.get c)) none fun t=>Bool.rec (motive:=fun _=>Option (Exit×CS×CT)) (b s) (a s) t
def N7(id:Nat):Exit->Exit
 | .exit id'=>match Nat.beq id' id with
  |true=> .normal
  |false=> .exit id'
 |e=>e
def Ms(id:Nat)(a:EK):EK:=fun s=>oE (a s) none fun r=>some (N7 id r.1,r.2)
def B3(a:EK)(k:Nat):EK:=Nat.rec (motive:=fun _=>EK) a (fun _ ih s=>oE (ih s) none (xN ih)) k
def Of(a:EK):EK:=fun s=>oE (B3 a 30 s) none fun r=>Bool.rec (motive:=fun _=>Option (Exit×CS×CT)) (some r) none (MJ r.1)
def OE:Exit->Bool
 | .goto _=>false
 |_=>true
def Mt(a:EK):EK:=fun s=>oE (a s) none fun r=>HA (OE r.1) (some r)
def Je(e:Exit):EK:=fun s=>some (e,s,c0)
def Oh(dr:Bool)(ol:List Oper)(r:CS×KS×CT):Option (Exit×CS×CT):=HA (Bool.rec (motive:=fun _=>Bool) true (J4 ol r.2.1) dr) (some (.normal,⟨r.1.tr,r.1.sl,r.1.nx+1⟩,r.2.2))
def Og(call:fP)(T:List TI)(M mu:List Nat)(N:Nat)(ops:Array Oper)(dr:Bool):EK:=fun s=>HA (gS N ops.toList) (oE (um call T M ops.toList ops.toList (qN mu s ops.toList) []) none (Oh dr ops.toList))
def Lf:EK:=fun _=>none
def xS(call:fP)(rng:NT)(T:List TI)(M mu:List Nat)(N:Nat)(c:Code):EK:=Code.rec (motive:=fun _=>EK) (Je .normal) (fun _ ops dr=>Og call T M mu N ops dr) (fun _ _ a b=>Oi a b) (fun c _ _ a b=>Od c a b) (fun id _ a=>Ms id a) (fun _ a=>Of a) (fun f ps as0 bd _ _=>rng f ps as0 bd) (fun id=>Je (.exit id)) (fun _ a=>Mt a) (fun _=>Je .normal) (fun _=>Lf) (Je .ret) (fun _=>Lf) c
section
variable {P:Program}{N:Nat}{C:Cx P N}{T:List TI}{M mu:List Nat}{call:fP}{rng:NT}
def Dh(C:Cx P N)(c:Code)(f:EK):Prop:=∀s e s' t,f s=some (e,s',t)->kz t->∀Q:Exit->S->Prop,Q e s'.den->AW C c Q s.den
theorem su{b:EK}{r q:Exit×CS×CT}(h:xN b r=some q):(MJ r.1=false/\q=r)\/(r.1= .normal/\∃p,b r.2.1=some p/\q=(p.1,p.2.1,zS r.2.2 p.2.2)):=by
 unfold xN at h;cases hn:MJ r.1 with
 |false=>rw [hn]at h;injection h with h;exact .inl ⟨rfl,h.symm⟩
 |true=>rw [hn]at h;obtain⟨p,hp,h⟩:=dw h;injection h with h;exact .inr ⟨MM hn,p,hp,h.symm⟩
theorem Jg{x y:Code}{a b:EK}(ha:Dh C x a)(hb:Dh C y b):Dh C (.seq x y) (Oi a b):=by
 intro s e s' t h he Q hQ;obtain⟨r,hr,h⟩:=dw h;obtain⟨e1,s1,t1⟩:=r;rcases su h with⟨h1,h2⟩ | ⟨h1,p,hp,h2⟩;·simp only [Prod.mk.injEq]at h2;obtain⟨rfl,rfl,rfl⟩:=h2;refine zL (ha _ _ _ _ hr he _ ?_);have:=Gs h1;cases e <;> first |exact absurd rfl this |exact hQ
 ·simp only at h1 hp;subst h1;obtain⟨e2,s2,t2⟩:=p;simp only [Prod.mk.injEq]at h2;obtain⟨rfl,rfl,rfl⟩:=h2;have he:=mN he;exact zL (ha _ _ _ _ hr he.1 _ (hb _ _ _ _ hp he.2 _ hQ))
theorem nV{c:Code}{a:EK}(ha:Dh C c a){Q:Exit->S->Prop}:∀(k:Nat) (s:CS) (e:Exit) (s':CS) (t:CT),B3 a k s=some (e,s',t)->kz t->(e= .normal->∀m,KY C c Q m s'.den->∃m',KY C c Q m' s.den)/\(e≠ .normal->Q e s'.den->∃m',KY C c Q m' s.den)
 |0,s,e,s',t,h,he=>by
  have h:a s=some (e,s',t):=h;refine⟨fun hn m hm=>⟨m+1,?_⟩,fun hn hq=>⟨1,?_⟩⟩;·subst hn;exact ha _ _ _ _ h he _ hm
  ·refine ha _ _ _ _ h he _ ?_;cases e <;> first |exact absurd rfl hn |exact hq
 |k+1,s,e,s',t,h,he=>by
  have h:oE (B3 a k s) none (xN (B3 a k))=some (e,s',t):=h;obtain⟨r,hr,h⟩:=dw h;obtain⟨e1,s1,t1⟩:=r;rcases su h with⟨h1,h2⟩ | ⟨h1,p,hp,h2⟩;·simp only [Prod.mk.injEq]at h2;obtain⟨rfl,rfl,rfl⟩:=h2;exact nV ha k _ _ _ _ hr he
  ·simp only at h1 hp;subst h1;obtain⟨e2,s2,t2⟩:=p;simp only [Prod.mk.injEq]at h2;obtain⟨rfl,rfl,rfl⟩:=h2;have he:=mN he;have q1:=nV (Q:=Q) ha k _ _ _ _ hr he.1;have q2:=nV (Q:=Q) ha k _ _ _ _ hp he.2;refine⟨fun hn m hm=> ?_,fun hn hq=> ?_⟩;·obtain⟨m1,h3⟩:=q2.1 hn m hm;exact q1.1 rfl m1 h3
   ·obtain⟨m1,h3⟩:=q2.2 hn hq;exact q1.1 rfl m1 h3
theorem Jf(hT:aN T P)(hcl:dh P call){id:Nat}{ops:Array Oper}{dr:Bool}:Dh C (.region id ops dr) (Og call T M mu N ops dr):=by
 intro s e s' t h he Q hQ;obtain⟨hok,h⟩:=eI h;obtain⟨r,hr,h⟩:=dw h;obtain⟨s1,ks,t1⟩:=r;obtain⟨hd,h⟩:=eI h;simp only [Option.some.injEq,Prod.mk.injEq]at h;obtain⟨rfl,rfl,rfl⟩:=h;have e0:ops=ops.toList.toArray:=by simp
 refine qb (v5 mu s ops.toList) ?_;cases dr with
 |false=>rw [e0];obtain⟨q1,q2⟩:=fK hT hcl (C:=C) (K:=fun tm' σ' _=>Q .normal ⟨tm',σ',(qN mu s ops.toList).nx+1⟩) (by simpa using hr) he;refine oQ (s:=(qN mu s ops.toList).den) (by simpa using hok) (q2 ?_);have hk':Q .normal ⟨s1.tr.get,fW s1.sl,s1.nx+1⟩:=hQ;rw [q1]at hk';exact hk'
 |true=>rw [e0];obtain⟨q1,q2⟩:=fK hT hcl (C:=C) (K:=fun tm' σ' ks'=>jl ops.toList ks'=true/\Q .normal ⟨tm',σ',(qN mu s ops.toList).nx+1⟩) (by simpa using hr) he;refine mM (s:=(qN mu s ops.toList).den) (by simpa using hok) (q2 ⟨B7 hd,?_⟩);have hk':Q .normal ⟨s1.tr.get,fW s1.sl,s1.nx+1⟩:=hQ;rw [q1]at hk';exact hk'
theorem nM(hT:aN T P)(hcl:dh P call)(hrg:BA C rng)(c:Code):Dh C c (xS call rng T M mu N c):=by
 induction c with
 |skip=>intro s e s' t h he Q hQ;injection h with h;simp only [Prod.mk.injEq]at h;obtain⟨rfl,rfl,rfl⟩:=h;exact aj hQ
 |region id ops dr=>exact Jf hT hcl
 |seq a b iha ihb=>exact Jg iha ihb
 |cond c a b iha ihb=>
  intro s e s' t h he Q hQ;obtain⟨tt,ht,h⟩:=dw h;have ht:=HZ ht;cases tt with
  |true=>exact ny ht (fun _=>iha _ _ _ _ h he Q hQ) fun h=>by cases h
  |false=>exact ny ht (fun h=>by cases h) fun _=>ihb _ _ _ _ h he Q hQ
 |block id a iha=>
  intro s e s' t h he Q hQ;obtain⟨r,hr,h⟩:=dw h;obtain⟨e1,s1,t1⟩:=r;simp only [Option.some.injEq,Prod.mk.injEq]at h;obtain⟨rfl,rfl,rfl⟩:=h;refine au (iha _ _ _ _ hr he _ ?_);cases e1 with
  |exit id'=>
   simp only [N7]at hQ;split at hQ;·rename_i hb;have hb:=Nat.eq_of_beq_eq_true hb;subst hb;exact cy hQ
   ·rename_i hb;exact Px (by simpa using Nat.ne_of_beq_eq_false hb) hQ
  |_=>exact hQ
 |loop a iha=>
  intro s e s' t h he Q hQ;obtain⟨r,hr,h⟩:=dw h;obtain⟨e1,s1,t1⟩:=r;cases hn:MJ e1 with
  |true=>simp only [hn]at h;cases h
  |false=>simp only [hn,Option.some.injEq,Prod.mk.injEq]at h;obtain⟨rfl,rfl,rfl⟩:=h;obtain⟨m,hm⟩:=(nV iha 30 _ _ _ _ hr he).2 (Gs hn) hQ;exact oR m hm
 |rangeFunc f ps as0 bd _ _=>intro s e s' t h he Q hQ;exact hrg _ _ _ _ _ _ _ _ h he Q hQ
 |exit id=>intro s e s' t h he Q hQ;injection h with h;simp only [Prod.mk.injEq]at h;obtain⟨rfl,rfl,rfl⟩:=h;exact cm hQ
 |scope a iha=>intro s e s' t h he Q hQ;obtain⟨r,hr,h⟩:=dw h;obtain⟨e1,s1,t1⟩:=r;obtain⟨hg,h⟩:=eI h;simp only [Option.some.injEq,Prod.mk.injEq]at h;obtain⟨rfl,rfl,rfl⟩:=h;refine Fl (iha _ _ _ _ hr he _ ?_);cases e1 <;> first |exact hQ |cases hg
 |label l=>intro s e s' t h he Q hQ;injection h with h;simp only [Prod.mk.injEq]at h;obtain⟨rfl,rfl,rfl⟩:=h;exact Fj hQ
 |goto l=>intro s e s' t h;cases h
 |ret=>intro s e s' t h he Q hQ;injection h with h;simp only [Prod.mk.injEq]at h;obtain⟨rfl,rfl,rfl⟩:=h;exact ak hQ
 |refuse w=>intro s e s' t h;cases h
end
def MG:List (Nat×V)->List Nat
 | []=>[]
 |p::l=>p.2.ids++MG l
def Gr(nl:List Nat)(i:Nat):Nat:=match jT nl i with
 |true=>yb nl i
 |false=>i
def fY:Nat->List Nat->List (Nat×Nat)
 |_,[]=>[]
 |j,k::l=>(j,k)::fY (j+1) l
def j5(g:Nat->Nat):List (Nat×V)->List (Nat×V)
 | []=>[]
 |p::l=>(p.1,p.2.bB g)::j5 g l
def vals:List (Nat×V)->List V
 | []=>[]
 |p::l=>p.2::vals l
theorem ri{α:Type}{p:α->Prop}:∀ {l:List α},(∀x∈l,p x)->lK p l
 | [],_=> .nil
 |x::l,h=> .cons (h x (by simp)) (ri fun y hy=>h y (by simp [hy]))
theorem rJ:∀ {os:List (Option Ob)}{k:Nat}{p:Nat×Ob},p∈kn k os->∃i,p.1=k+i/\os[i]?=some (some p.2)
 | [],_,_,h=>by simp [kn]at h
 |none::os,k,p,h=>by obtain⟨i,h1,h2⟩:=rJ (os:=os) h;exact⟨i+1,by omega,by simpa using h2⟩
 |some o::os,k,p,h=>by
  rcases List.mem_cons.1 h with rfl |h;·exact⟨0,rfl,rfl⟩
  ·obtain⟨i,h1,h2⟩:=rJ (os:=os) h;exact⟨i+1,by omega,by simpa using h2⟩
theorem lS:∀ {nl:List Nat}{j i:Nat}{k:Nat},nl[i]?=some k->(fY j nl).find? (·.1 == j+i)=some (j+i,k)
 |a::nl,j,0,k,h=>by simp at h;subst h;simp [fY]
 |a::nl,j,i+1,k,h=>by
  have:=lS (j:=j+1) (i:=i) (nl:=nl) (by simpa using h);rw [fY,List.find?_cons];have e:((j,a).1 == j+(i+1))=false:=by simp
  rw [e,show j+(i+1)=j+1+i by omega];exact this
theorem uY:∀ {nl:List Nat}{j m:Nat},j+nl.length<=m->(fY j nl).find? (·.1 == m)=none
 | [],_,_,_=>rfl
 |a::nl,j,m,h=>by
  simp only [List.length_cons]at h;rw [fY,List.find?_cons];have e:((j,a).1 == m)=false:=by simp only [beq_eq_false_iff_ne];omega
  rw [e];exact uY oM
theorem s7{g gi:Nat->Nat}{tm:Nat->V}:∀ {tl:List (Nat×V)},(∀p∈tl,tm p.1=p.2)->vals tl=V.aV g (vals (j5 gi tl))->lK (fun p=>tm p.1=p.2.bB g) (j5 gi tl)
 | [],_,_=> .nil
 |p::tl,h,e=>by simp only [vals,j5,V.aV,List.cons.injEq]at e;exact .cons ((h p (by simp)).trans e.1) (s7 (fun q hq=>h q (by simp [hq])) e.2)
end
end Go.Ab

namespace Go.Ab
open Go.RowKit Go.Dw Go.Shelf
structure PV(P:Program)(es:List (List V)) where
  l:Nat
  J:Nat->Bool->(Nat->Prop)->World->Prop
  L0:Nat->Prop
  B:Nat
  hY:∀k x A W1,k< es.length->PU es k x W1->(∀b,A b->B<=b/\b< W1.heap.size)->B<=W1.heap.size->J k true A W1->YieldAt Fence.wide 0 P l x W1 fun e W2=>∃b:Bool,e= .returned (.bool b)/\aS (fun i=>¬A i/\¬L0 i) W1 W2/\(b=true->J (k+1) true A W2)/\(b=false->J k false A W2)
  hJ:∀k g A W1 W2,J k g A W1->(∀b,A b->B<=b/\b< W1.heap.size)->B<=W1.heap.size->aS A W1 W2->J k g (fun b=>A b\/(W1.heap.size<=b/\b< W2.heap.size)) W2
  hL:∀b,L0 b->b< B
section
variable {P:Program}{N:Nat}{es:List (List V)}{Y:PV P es}{Q:Exit->S->Nat->Bool->Prop}{s:S}{k:Nat}{g:Bool}
end
noncomputable section
section
variable {P:Program}(N:Nat){es:List (List V)}(Y:PV P es) (Q:Exit->S->Nat->Bool->Prop)
end
structure JX where
  g:CC
  y:Option (List V)
  side:Option CC
  e:CT
def Ls(tm:Nat->V)(ys:List Nat):Operand->Bool
 | .tmp t=>match jT ys t with
  |true=>true
  |false=>match tm t with
   | .c (.func (.yield _) _ _)=>true
   |_=>false
 |_=>false
def Im(tm:Nat->V):List Nat->List Oper->Option Nat
  |_,[]=>none
  |ys,o::os=>match o.op with
    | .call c=>match c.callee with
      | .value fo=>match Ls tm ys fo with
        |true=>some 0
        |false=>match Im tm ys os with
          |some n=>some (n+1)
          |none=>none
      |_=>match Im tm ys os with
        |some n=>some (n+1)
        |none=>none
    | .move x=>match Im tm (match Ls tm ys x with
        |true=>o.dst.getD 0::ys
        |false=>ys) os with
      |some n=>some (n+1)
      |none=>none
    |_=>match Im tm ys os with
      |some n=>some (n+1)
      |none=>none
def Py(tm:Nat->V)(o:Oper):Option (V×List V):=match o.op with
 | .call c=>match c.callee with
  | .value fo=>match V.bp (c.args.toList.map (fun x=>ug (ev tm x))) && ((fo::c.args.toList).all fun x=>PN (ev tm x))with
   |true=>some (ug (ev tm fo),c.args.toList.map (fun x=>ug (ev tm x)))
   |false=>none
  |_=>none
 |_=>none
def Q6(gOk:Bool)(ol:List Oper)(tm:Nat->V)(o:Oper):Bool:=match o.guard with
 |none=>(opsV tm o).all fun v=>match v with
  | .gd _ _=>false
  |_=>true
 |some _=>match gOk with
  |false=>false
  |true=>match eU (ol.map (·.dst)) tm o with
   |some (some g)=>g
   |_=>false
def MO(gOk:Bool)(call:fP)(T:List TI)(M:List Nat)(l:Nat)(ol:List Oper)(k:List Fr)(s:CS)(n:Nat):Option JX:=
 match ol[n]? with
  |some o=>match o.dst with
   |some d=>match decide (d< 1000)with
    |true=>match um call T M ol (ol.take n) s []with
     |some (s1,_,e1)=>match Q6 gOk ol s1.tr.get o with
      |true=>match Py s1.tr.get o with
       |some (fv,as0)=>match um call T M ol (ol.drop (n+1)) ⟨TR.put 10 s1.tr d (.b true),s1.sl,s1.nx⟩ []with
        |some (s2,_,e2)=>match um call T M ol (ol.drop (n+1)) ⟨TR.put 10 s1.tr d (.b false),s1.sl,s1.nx⟩ []with
         |some (s3,_,e3)=>some ⟨.done .normal k ⟨s2.tr,s2.sl,s2.nx+1⟩,some as0,some (.done .normal k ⟨s3.tr,s3.sl,s3.nx+1⟩),.nd (.lf [(.vs [fv],.vs [.c (.func (.yield l) #[] #[])])]) (.nd e1 (.nd e2 e3))⟩
         |none=>none
        |none=>none
       |none=>none
      |false=>none
     |none=>none
    |false=>none
   |none=>none
  |none=>none
def JK(gOk:Bool)(call:fP)(T:List TI)(M mu:List Nat)(N l:Nat):CC->Option JX
 | .done e k s=>match k with
  | []=>none
  | .c y::k=>match e with
   | .normal=>some ⟨.code y k s,none,none,c0⟩
   |e=>some ⟨.done e k s,none,none,c0⟩
  | .b id::k=>match e with
   | .exit id'=>match Nat.beq id' id with
    |true=>some ⟨.done .normal k s,none,none,c0⟩
    |false=>some ⟨.done (.exit id') k s,none,none,c0⟩
   |e=>some ⟨.done e k s,none,none,c0⟩
  | .l y m::k=>match e with
   | .normal=>match m with
    |0=>none
    |m+1=>some ⟨.code y (.l y m::k) s,none,none,c0⟩
   |e=>some ⟨.done e k s,none,none,c0⟩
  | .s::_=>none
 | .code c k s=>match c with
  | .skip=>some ⟨.done .normal k s,none,none,c0⟩
  | .exit id=>some ⟨.done (.exit id) k s,none,none,c0⟩
  | .ret=>some ⟨.done .ret k s,none,none,c0⟩
  | .seq x y=>some ⟨.code x (.c y::k) s,none,none,c0⟩
  | .block id x=>some ⟨.code x (.b id::k) s,none,none,c0⟩
  | .loop x=>some ⟨.code x (.l x 1000000::k) s,none,none,c0⟩
  | .cond c x y=>match ev s.tr.get c with
   | .c (.bool t)=>match t with
    |true=>some ⟨.code x k s,none,none,c0⟩
    |false=>some ⟨.code y k s,none,none,c0⟩
   |_=>none
  | .region _ ops dr=>match gS N ops.toList with
   |true=>match um call T M ops.toList ops.toList (qN mu s ops.toList) []with
    |some (s',ks,e)=>match dr with
     |false=>some ⟨.done .normal k ⟨s'.tr,s'.sl,s'.nx+1⟩,none,none,e⟩
     |true=>match J4 ops.toList ks with
      |true=>some ⟨.done .normal k ⟨s'.tr,s'.sl,s'.nx+1⟩,none,none,e⟩
      |false=>none
    |none=>match Im s.tr.get [] ops.toList with
     |some n=>match dr with
      |false=>MO gOk call T M l ops.toList k s n
      |true=>none
     |none=>none
   |false=>none
  |_=>none
 | .ops _ _ _ _ _ _=>none
section
variable {P:Program}{N:Nat}{es:List (List V)}{Y:PV P es}{Q:Exit->S->Nat->Bool->Prop}{T:List TI}{M mu:List Nat}{call:fP}
theorem vn:∀l:List V,A2 l l
 | []=>trivial
 |_::l=>⟨cG.refl _,vn l⟩
theorem Cu{tm:Nat->V}{o:Oper}(h:((opsV tm o).all fun v=>match v with
 | .gd _ _=>false
 |_=>true)=true){x:Operand}(hx:x∈o.op.operands):ug (ev tm x)=ev tm x:=by
 have:=List.all_eq_true.1 h _ (jz (tm:=tm) hx)
 cases hv:ev tm x <;> rw [hv]at this <;> first |rfl |cases this
end
def PE(gOk:Bool)(call:fP)(T:List TI)(M mu:List Nat)(N l:Nat):Nat->CC->Option CT
 |0,_=>none
 |m+1,g=>match JK gOk call T M mu N l g with
  |some x=>match x.y with
   |none=>match PE gOk call T M mu N l m x.g with
    |some e=>some (.nd x.e e)
    |none=>none
   |some _=>none
  |none=>match g with
   | .done e [] _=>match e with
    | .ret=>some c0
    | .normal=>some c0
    |_=>none
   |_=>none
def Al(gOk:Bool)(call:fP)(T:List TI)(M mu:List Nat)(N l:Nat):Nat->CC->Option (List (List V)×CT)
 |0,_=>none
 |m+1,g=>match JK gOk call T M mu N l g with
  |some x=>match x.y with
   |none=>match Al gOk call T M mu N l m x.g with
    |some (as0,e)=>some (as0,.nd x.e e)
    |none=>none
   |some a=>match x.side with
    |some sd=>match PE gOk call T M mu N l 5000 sd with
     |some e0=>match Al gOk call T M mu N l m x.g with
      |some (as0,e)=>some (a::as0,.nd x.e (.nd e0 e))
      |none=>none
     |none=>none
    |none=>none
  |none=>match g with
   | .done e [] _=>match e with
    | .ret=>some ([],c0)
    | .normal=>some ([],c0)
    |_=>none
   |_=>none
def CT.Po:CT->List (CE×CE)
 | .lf l=>l
 | .nd a b=>a.Po++b.Po
theorem CT.A9:∀ {t:CT},iM t.Po->kz t
 | .lf _,h=>h
 | .nd _ _,h=>⟨CT.A9 h.l,CT.A9 h.r⟩
def MP(r:Option (List (List V)×CT)):Option (List (List V)):=match r with
 |some (as0,_)=>some as0
 |none=>none
def PF(r:Option (List (List V)×CT)):CT:=match r with
 |some (_,e)=>e
 |none=>c0
def TR.keys(f:Nat->Nat):TR->List Nat
 | .e=>[]
 | .n _ l r=>f 0::(TR.keys (fun i=>f (2*i+1)) l++TR.keys (fun i=>f (2*i+2)) r)
def w5(tr:TR):List Nat->List (Nat×V)
 | []=>[]
 |t::l=>(t,tr.get t)::w5 tr l
theorem Ct{tr:TR}:∀ {l:List Nat},∀p∈w5 tr l,tr.get p.1=p.2
 | [],p,h=>by simp [w5]at h
 |t::l,p,h=>by
  rcases List.mem_cons.1 h with rfl |h;·rfl
  ·exact Ct (l:=l) p h
def LK:List (Nat×V)->TR
 | []=> .e
 |p::l=>TR.put 10 (LK l) p.1 p.2
theorem wP:∀ {l:List (Nat×V)},(∀p∈l,p.1< 1000)->(LK l).get=gJ l
 | [],_=>by funext t;exact TR.jw t
 |p::l,h=>by rw [LK,TR.j3 (h p (by simp)),wP fun q hq=>h q (by simp [hq])];rfl
def setTR(tr:TR):List Nat->List V->TR
 |p::ps,v::vs=>setTR (TR.put 10 tr p v) ps vs
 |_,_=>tr
theorem ve:∀(ps:List Nat) (vs:List V) (tr:TR),(∀p∈ps,p< 1000)->(setTR tr ps vs).get=mb tr.get ps vs
 | [],vs,tr,_=>by cases vs <;> rfl
 |p::ps,[],tr,_=>rfl
 |p::ps,v::vs,tr,h=>by rw [setTR,mb,ve ps vs _ fun q hq=>h q (by simp [hq]),TR.j3 (h p (by simp))]
def zl:List Nat->List Ob->List (Nat×Option Ob)
 |n::ns,o::l=>(n,some o)::zl ns l
 |_,_=>[]
theorem tR:∀(ns:List Nat) (l:List Ob),fW (zl ns l)=cO (ns.zip l)
 | [],l=>by cases l <;> (funext i;rfl)
 |n::ns,[]=>by funext i;rfl
 |n::ns,o::l=>by
  funext i;show fW ((n,some o)::zl ns l) i=bO (cO (ns.zip l)) n (some o) i;rw [<-tR ns l];simp only [fW];split;·rename_i h;rw [Nat.eq_of_beq_eq_true h,an]
  ·rename_i h;rw [ag _ _ (Nat.ne_of_beq_eq_false h)]
def oc(pn:List Nat):List Nat->List Nat
 | []=>[]
 |k::l=>match jT pn k with
  |true=>oc pn l
  |false=>k::oc pn l
def qU(np:Nat):List Nat:=(List.range np).map (500+ ·)
inductive RO where
  |nor (l:List Ob) (e:CT)
  |ext (c:Exit) (l:List Ob) (e:CT)
  |bad
@[irreducible] def Ri:List Nat:=List.range 90
def OQ(l:List Ob)(t:CT):Exit->RO
 | .normal=> .nor l t
 | .ret=> .ext .ret l t
 | .exit id=> .ext (.exit id) l t
 |_=> .bad
def FQ:Exit->Code
 | .exit id=> .exit id
 |_=> .ret
theorem wZ{α β:Type}:∀ {l:List α}{m:List β}{p:α×β},p∈l.zip m->∃i:Nat,l[i]?=some p.1/\m[i]?=some p.2
 | [],_,p,h=>by simp at h
 |_::_,[],p,h=>by simp at h
 |a::l,b::m,p,h=>by
  rw [List.zip_cons_cons]at h;rcases List.mem_cons.1 h with rfl |h;·exact⟨0,rfl,rfl⟩
  ·obtain⟨i,h1,h2⟩:=wZ h;exact⟨i+1,by simpa using h1,by simpa using h2⟩
theorem B6:∀ {nl:List Nat}{j m:Nat},m< j->(fY j nl).find? (·.1 == m)=none
 | [],_,_,_=>rfl
 |a::nl,j,m,h=>by
  rw [fY,List.find?_cons];have e:((j,a).1 == m)=false:=by simp only [beq_eq_false_iff_ne];omega
  rw [e];exact B6 oM
section
variable {P:Program}{N:Nat}{T:List TI}{M mu:List Nat}{call:fP}{pn:List Nat}{tl:List (Nat×V)}{ps:List Nat}{as0 bd:Code}
end
def KO(rd:List V->List Ob->RO):List (List V)->List Ob->Option (Exit×List Ob×CT)
 | [],l=>some (.normal,l,c0)
 |x::es,l=>match rd x l with
  | .nor l' e=>match KO rd es l' with
   |some (c,lf,e')=>some (c,lf,.nd e e')
   |none=>none
  | .ext c lf e=>match c with
   | .ret=>some (.ret,lf,e)
   | .exit id=>some (.exit id,lf,e)
   |_=>none
  | .bad=>none
def l8(rd:List V->List Ob->RO)(es:List (List V))(l0:List Ob):Nat->Option (List Ob)
 |0=>some l0
 |k+1=>match l8 rd es l0 k,es[k]? with
  |some l,some x=>match rd x l with
   | .nor l' _=>some l'
   |_=>none
  |_,_=>none
theorem Ii{rd:List V->List Ob->RO}{es:List (List V)}{l0:List Ob}{c:Exit}{lf:List Ob}{e:CT}(h:KO rd es l0=some (c,lf,e))(he:kz e):∀k l,l8 rd es l0 k=some l->k<=es.length/\∃t,KO rd (es.drop k) l=some (c,lf,t)/\kz t
 |0,l,hl=>by simp only [l8,Option.some.injEq]at hl;subst hl;exact⟨Nat.zero_le _,e,h,he⟩
 |k+1,l,hl=>by
  simp only [l8]at hl;split at hl
  ·rename_i l1 x h1 hx;obtain⟨hk,t,h2,ht⟩:=Ii h he k l1 h1;have hlt:=(List.getElem?_eq_some_iff.1 hx).1;have hdr:es.drop k=x::es.drop (k+1):=by
    rw [List.drop_eq_getElem_cons hlt];congr 1
    exact(List.getElem?_eq_some_iff.1 hx).2
   rw [hdr]at h2;unfold KO at h2;split at hl
   ·rename_i l' e' hr;injection hl with hl;subst hl;rw [hr]at h2;simp only at h2;split at h2;·rename_i c1 lf1 e1 hw;simp only [Option.some.injEq,Prod.mk.injEq]at h2;obtain⟨rfl,rfl,rfl⟩:=h2;exact⟨hlt,_,hw,ht.2⟩
    ·cases h2
   ·cases hl
  ·cases hl
def yO(np n:Nat):List Nat:=qU np++(List.range n).map (500+np+ ·)
def qR(np:Nat)(nl:List Nat)(i:Nat):Nat:=match jT nl i with
 |true=>500+np+yb nl i
 |false=>i
theorem yV{g:Nat->Nat}:∀ {l:List (Nat×V)}{p:Nat×V},p∈j5 g l->∃q∈l,q.1=p.1
 | [],p,h=>by simp [j5]at h
 |q::l,p,h=>by
  rcases List.mem_cons.1 h with rfl |h;·exact⟨q,by simp,rfl⟩
  ·obtain⟨q',h1,h2⟩:=yV (l:=l) h;exact⟨q',by simp [h1],h2⟩
theorem Cs{tr:TR}:∀ {l:List Nat}{p:Nat×V},p∈w5 tr l->p.1∈l
 | [],p,h=>by simp [w5]at h
 |t::l,p,h=>by
  rcases List.mem_cons.1 h with rfl |h;·simp
  ·exact List.mem_cons_of_mem _ (Cs h)
theorem yD:∀ {nl:List Nat}{j:Nat}{p:Nat×Nat},p∈fY j nl->j<=p.1/\p.1< j+nl.length
 | [],_,_,h=>by simp [fY]at h
 |a::nl,j,p,h=>by
  rcases List.mem_cons.1 h with rfl |h;·simp
  ·have:=yD h;simp only [List.length_cons];omega
end
end Go.Ab
