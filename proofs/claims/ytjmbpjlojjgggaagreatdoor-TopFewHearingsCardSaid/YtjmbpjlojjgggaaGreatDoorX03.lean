/-
  Several texts in one: Ranges over functions whose rounds lay new memory, and hold it; the iterator writes to memory that it laid itself, or that it holds (U); what it hands out may hold memory, which it gives up for good (F). Conditions: told in each theorem. .. Numbers of subsets: the triangle, its rows, and the ways of a sample. No condition but those told in each theorem.
-/
import Derived.Test.YtjmbpjlojjgggaaGreatDoorX02
import Derived.Test.YtjmbpjlojjgggaaGreatDoorX01
import Derived.Test.YtjmbpjlojjgggaaGreatDoorMD
import Derived.Test.YtjmbpjlojjgggaaGreatDoorMA
import Derived.Test.YtjmbpjlojjgggaaGreatDoorMB
namespace Go.Dw
open Go.RowKit Go.Shelf
def KZ(P:Program)(f:FuncId)(lb:Array Value)(n:Nat)(E:Nat->(Nat->Prop)->Array Value->World->Prop)(L U:Nat->Prop)(w:World):Prop:=
  ∀(l:Nat) (J:Nat->Bool->(Nat->Prop)->(Nat->Prop)->World->Prop) (W:World),w.heap.size<=W.heap.size->(∀b,L b\/U b->W.heap[b]?=w.heap[b]?)->w.heap.size<=l->l< W.heap.size->
    (∀k g A F W1 W2,J k g A F W1->(∀b,A b\/F b->(U b\/W.heap.size<=b)/\b< W1.heap.size)->W.heap.size<=W1.heap.size->aZ A W1 W2->J k g (fun b=>A b\/(W1.heap.size<=b/\b< W2.heap.size)) F W2)->
    (∀k g A F (D:Nat->Prop) W1,J k g A F W1->(∀b,A b\/F b->(U b\/W.heap.size<=b)/\b< W1.heap.size)->(∀b,D b->A b)->J k g (fun b=>A b/\¬D b) (fun b=>F b\/D b) W1)->
    (∀k x A F W1,k< n->E k F x W1->(∀b,A b\/F b->(U b\/W.heap.size<=b)/\b< W1.heap.size)->W.heap.size<=W1.heap.size->J k true A F W1->YieldAt Fence.wide 0 P l x W1 fun e W2=>∃b:Bool,e= .returned (.bool b)/\aZ (fun i=>¬A i/\¬L i/\¬F i) W1 W2/\(b=true->J (k+1) true A F W2)/\(b=false->J k false A F W2))->
    J 0 true U (fun _=>False) W->
    CallsIn Fence.wide 0 P f (#[.func (.yield l) #[] #[]]++lb) W fun e W'=>(∃v,e= .returned v)/\∃A F:Nat->Prop,(∀b,A b->U b\/W.heap.size<=b)/\(J n true A F W'\/∃k,k< n/\J k false A F W')
def En(R:Nat->Prop)(J:Nat->(Nat->Prop)->(Nat->Prop)->World->Prop)(Jx:Nat->Code->(Nat->Prop)->(Nat->Prop)->World->Prop)(k:Nat)(A F:Nat->Prop)(W:World):Exit->Act->World->Prop
 | .normal,_,W'=>aZ R W W'/\J (k+1) A F W'
 | .ret,_,W'=>aZ R W W'/\Jx k .ret A F W'
 | .exit id,_,W'=>aZ R W W'/\Jx k (.exit id) A F W'
 | .goto t,_,W'=>aZ R W W'/\Jx k (.goto t) A F W'
 | .panic _,_,_=>False
 | .outgrown,_,_=>False
theorem EH{P:Program}{g:Operand}{ps:Array Tmp}{assign body:Code}{Q:Exit->Act->World->Prop}{a:Act}{w:World}
    {gf:Nat}{lb:Array Value}(hg:a.eval g= .func (.func gf) #[] lb) (eg:∀args w,(callFunc gf args).run P w= .ok (.enter gf args) w)
    {n:Nat}{E:Nat->(Nat->Prop)->Array Value->World->Prop}{L U:Nat->Prop}(hit:KZ P gf lb n E L U w) (hL:∀i,L i\/U i->i< w.heap.size) (hps:∀k F x W,E k F x W->x.size=ps.size)
    (J:Nat->(Nat->Prop)->(Nat->Prop)->World->Prop) (Jx:Nat->Code->(Nat->Prop)->(Nat->Prop)->World->Prop)
    (hJ:∀k A F W1 W2,J k A F W1->(∀b,A b->U b\/w.heap.size<=b)->aZ A W1 W2->J k (fun b=>A b\/(W1.heap.size<=b/\b< W2.heap.size)) F W2)
    (hJx:∀k c A F W1 W2,Jx k c A F W1->(∀b,A b->U b\/w.heap.size<=b)->aZ A W1 W2->Jx k c (fun b=>A b\/(W1.heap.size<=b/\b< W2.heap.size)) F W2)
    (hD:∀k A F (D:Nat->Prop) W1,J k A F W1->(∀b,D b->A b)->J k (fun b=>A b/\¬D b) (fun b=>F b\/D b) W1)
    (hDx:∀k c A F (D:Nat->Prop) W1,Jx k c A F W1->(∀b,D b->A b)->Jx k c (fun b=>A b/\¬D b) (fun b=>F b\/D b) W1) (h0:J 0 U (fun _=>False) w)
    (hround:∀(l k:Nat) (x:Array Value) (A F:Nat->Prop) (W:World),(w.heap.size<=l/\A l)->(∀b,A b\/F b->(U b\/w.heap.size<=b)/\b< W.heap.size)->k< n->E k F x W->J k A F W->
      assign.wpIn (Fence.wide.inRound l) 0 P (Exit.then (fun a₁ W1=>aZ (fun i=>¬A i/\¬L i/\¬F i) W W1/\∀W2,aZ (· =l) W1 W2->body.wpIn (Fence.wide.inRound l) 0 P (En (fun i=>¬A i/\¬L i/\¬F i) J Jx k A F W2) a₁ W2) (fun _ _ _=>False))
        {tmps:=(ps.zip x).foldl (fun t (p,v)=>t.setIfInBounds p v) a.tmps,defers:=[]} W)
    (hdone:∀(D:Nat) (A F:Nat->Prop) (W:World),J n A F W->(w.heap.size<=D/\A D)->(∀b,A b->U b\/w.heap.size<=b)->W.heap[D]?=some (.deferred (some []))->Q .normal {a with defers:={target:= .collected D,args:= #[]}::a.defers} W)
    (hstop:∀(D k:Nat) (c:Code) (A F:Nat->Prop) (W:World),k< n->Jx k c A F W->(w.heap.size<=D/\A D)->(∀b,A b->U b\/w.heap.size<=b)->W.heap[D]?=some (.deferred (some []))->c.wpIn Fence.wide 0 P Q {a with defers:={target:= .collected D,args:= #[]}::a.defers} W) :
    (Code.rangeFunc g ps assign body).wpIn Fence.wide 0 P Q a w:=by
  refine wpIn_rangeFunc ?_
  intro fn hfn
  obtain⟨rec,hrec⟩:∃rec:LoopState->Option Code->Loop,rec=fun st pe=>{state:=st,pending:=pe,fn,tmps:=a.tmps,params:=ps,assign,body,defers:=w.heap.size}:=⟨_,rfl⟩
  obtain⟨W1,hW1⟩:∃W1,(w.alloc (.deferred (some []))).alloc (.loop (rec .ready none))=W1:=⟨_,rfl⟩
  have hL1:W1.heap[w.heap.size+1]?=some (.loop (rec .ready none)):=by
    rw [<-hW1];have:=World.alloc_heap_new (w.alloc (.deferred (some []))) (.loop (rec .ready none));rwa [World.size_alloc]at this
  have hK1:W1.heap[w.heap.size]?=some (.deferred (some [])):=by
    rw [<-hW1];exact(Below.heap_alloc _ _ _ (by simp)).trans (World.alloc_heap_new w _)
  have hs1:W1.heap.size=w.heap.size+2:=by rw [<-hW1];simp
  have hb1:Below w.heap.size w W1:=by
    rw [<-hW1];exact((Below.refl _ w).alloc (Nat.le_refl _) _).alloc (by simp) _
  refine⟨w.heap.size+1,[{target:= .collected w.heap.size,args:= #[]}],W1,{target:= .fn (.func gf) lb,args:= #[.func (.yield (w.heap.size+1)) #[] #[]]},W1,gf,
    #[.func (.yield (w.heap.size+1)) #[] #[]]++lb,W1,?_,?_,fun _ _=>trivial,?_,fun h=>by simp [Fence.wide]at h,?_⟩
  · rw [<-hW1,hrec];exact run_enterLoop_outer _ _ _ _ _
  · simp only [resolve,hg]
    simp [go_sem]
  · simp [invoke,go_sem,eg]
  · -- the blocks of the loop itself count as the iterator's
    obtain⟨X,hX⟩:∃X:(Nat->Prop)->Nat->Prop,X=fun A b=>A b\/b=w.heap.size\/b=w.heap.size+1:=⟨_,rfl⟩
    have hXi:∀A b,X A b<->A b\/b=w.heap.size\/b=w.heap.size+1:=fun A b=>by rw [hX]
    have conv:∀(G:(Nat->Prop)->Prop) (A B:Nat->Prop),(∀b,A b<->B b)->G A->G B:=fun G A B h hG=>by rwa [show A=B from funext fun b=>propext (h b)]at hG
    have hUw:∀b,U b->b< w.heap.size:=fun b hb=>hL b (.inr hb)
    -- where the iterator's blocks lie
    obtain⟨RA,hRA⟩:∃RA:(Nat->Prop)->Prop,∀A,RA A<->∀b,A b->U b\/w.heap.size+2<=b:=⟨_,fun _=>Iff.rfl⟩
    have rX:∀A,RA A->∀b,X A b->U b\/w.heap.size<=b:=fun A h b hb=>by
      rcases(hXi A b).1 hb with h1 |h1 |h1
      · exact((hRA A).1 h b h1).imp id fun h=>by omega
      · exact .inr oM
      · exact .inr oM
    have rn:∀A,RA A->∀b,A b->b≠w.heap.size/\b≠w.heap.size+1:=fun A h b hb=>by
      rcases(hRA A).1 h b hb with h1 |h1
      · have:=hUw b h1;omega
      · omega
    have hJX:∀k A F W1 W2,J k (X A) F W1->RA A->w.heap.size+2<=W1.heap.size->aZ A W1 W2->J k (X (fun b=>A b\/(W1.heap.size<=b/\b< W2.heap.size))) F W2:=fun k A F W1 W2 h hA hs ht=>
      conv (fun B=>J k B F W2) _ _ (fun b=>by simp only [hXi];exact⟨fun h=>h.elim (fun h=>h.elim (fun a=> .inl (.inl a)) (fun e=> .inr e)) (fun n=> .inl (.inr n)),fun h=>h.elim (fun h=>h.elim (fun a=> .inl (.inl a)) (fun n=> .inr n)) (fun e=> .inl (.inr e))⟩) (hJ k (X A) F W1 W2 h (rX A hA) (ht.mono fun b _ h=>(hXi A b).2 (.inl h)))
    have hJxX:∀k c A F W1 W2,Jx k c (X A) F W1->RA A->w.heap.size+2<=W1.heap.size->aZ A W1 W2->Jx k c (X (fun b=>A b\/(W1.heap.size<=b/\b< W2.heap.size))) F W2:=fun k c A F W1 W2 h hA hs ht=>
      conv (fun B=>Jx k c B F W2) _ _ (fun b=>by simp only [hXi];exact⟨fun h=>h.elim (fun h=>h.elim (fun a=> .inl (.inl a)) (fun e=> .inr e)) (fun n=> .inl (.inr n)),fun h=>h.elim (fun h=>h.elim (fun a=> .inl (.inl a)) (fun n=> .inr n)) (fun e=> .inl (.inr e))⟩) (hJx k c (X A) F W1 W2 h (rX A hA) (ht.mono fun b _ h=>(hXi A b).2 (.inl h)))
    have dX:∀(A D:Nat->Prop),RA A->(∀b,D b->A b)->∀b,(X A b/\¬D b)<->X (fun b=>A b/\¬D b) b:=fun A D hA hD b=>by
      simp only [hXi]
      constructor
      · rintro⟨h |h,hd⟩
        · exact .inl ⟨h,hd⟩
        · exact .inr h
      · rintro(⟨h,hd⟩ |h)
        · exact⟨.inl h,hd⟩
        · exact⟨.inr h,fun hd=>by have:=rn A hA b (hD b hd);omega⟩
    have hDX:∀k A F (D:Nat->Prop) W1,J k (X A) F W1->RA A->(∀b,D b->A b)->J k (X (fun b=>A b/\¬D b)) (fun b=>F b\/D b) W1:=fun k A F D W1 h hA hd=>
      conv (fun B=>J k B (fun b=>F b\/D b) W1) _ _ (dX A D hA hd) (hD k (X A) F D W1 h fun b hb=>(hXi A b).2 (.inl (hd b hb)))
    have hDxX:∀k c A F (D:Nat->Prop) W1,Jx k c (X A) F W1->RA A->(∀b,D b->A b)->Jx k c (X (fun b=>A b/\¬D b)) (fun b=>F b\/D b) W1:=fun k c A F D W1 h hA hd=>
      conv (fun B=>Jx k c B (fun b=>F b\/D b) W1) _ _ (dX A D hA hd) (hDx k c (X A) F D W1 h fun b hb=>(hXi A b).2 (.inl (hd b hb)))
    have hput:∀k A F W5 o,J k (X A) F W5->RA A->J k (X A) F (W5.putObj (w.heap.size+1) o):=fun k A F W5 o h hA=>
      conv (fun B=>J k B F _) _ _ (fun b=>⟨fun h=>h.elim id fun h=>by simp at h;omega,.inl⟩) (hJ k (X A) F W5 _ h (rX A hA) ((aZ.refl _ _).putObj o fun _=>(hXi A _).2 (.inr (.inr rfl))))
    have hputx:∀k c A F W5 o,Jx k c (X A) F W5->RA A->Jx k c (X A) F (W5.putObj (w.heap.size+1) o):=fun k c A F W5 o h hA=>
      conv (fun B=>Jx k c B F _) _ _ (fun b=>⟨fun h=>h.elim id fun h=>by simp at h;omega,.inl⟩) (hJx k c (X A) F W5 _ h (rX A hA) ((aZ.refl _ _).putObj o fun _=>(hXi A _).2 (.inr (.inr rfl))))
    have h01:J 0 (X U) (fun _=>False) W1:=conv (fun B=>J 0 B _ W1) _ _ (fun b=>by simp only [hXi,hs1];constructor <;> (intro h;rcases h with h |h;exact .inl h;exact .inr oM)) (hJ 0 U _ w W1 h0 (fun _ h=> .inl h) (aZ.ja hb1))
    have hRr:∀(A F:Nat->Prop) (B:World),(∀b,A b\/F b->(U b\/W1.heap.size<=b)/\b< B.heap.size)->RA A:=fun A F B h=>(hRA A).2 fun b hb=>(h b (.inl hb)).1.imp id fun h=>by omega
    refine(hit (w.heap.size+1)
      (fun k g A F W=>W.heap[w.heap.size]?=some (.deferred (some []))/\(g=true->J k (X A) F W/\W.heap[w.heap.size+1]?=some (.loop (rec .ready none)))/\(g=false->∃c,Jx k c (X A) F W/\W.heap[w.heap.size+1]?=some (.loop (rec .done (some c)))))
      W1 oM (fun b hb=>hb1.block b (hL b hb)) oM oM
      (fun k g A F B1 B2 h hA hs ht=>by
        obtain⟨q1,q2,q3⟩:=h
        have hA':=hRr A F B1 hA
        have st:∀b,b=w.heap.size\/b=w.heap.size+1->B2.heap[b]?=B1.heap[b]?:=fun b hb=>ht.block b oM fun hc=>by have:=rn A hA' b hc;omega
        exact⟨(st _ (.inl rfl)).trans q1,fun e=>⟨hJX k A F B1 B2 (q2 e).1 hA' oM ht,(st _ (.inr rfl)).trans (q2 e).2⟩,fun e=>by
          obtain⟨c,q4,q5⟩:=q3 e
          exact⟨c,hJxX k c A F B1 B2 q4 hA' oM ht,(st _ (.inr rfl)).trans q5⟩⟩)
      (fun k g A F D B1 h hA hd=>by
        obtain⟨q1,q2,q3⟩:=h
        have hA':=hRr A F B1 hA
        exact⟨q1,fun e=>⟨hDX k A F D B1 (q2 e).1 hA' hd,(q2 e).2⟩,fun e=>by
          obtain⟨c,q4,q5⟩:=q3 e
          exact⟨c,hDxX k c A F D B1 q4 hA' hd,q5⟩⟩)
      ?_ ⟨hK1,fun _=>⟨h01,hL1⟩,fun e=>by cases e⟩).mono ?_
    · rintro k x A F W hkn hx hA hsz ⟨hk,hg1,_⟩
      obtain⟨hi,hl⟩:=hg1 rfl
      have hlt:w.heap.size+1< W.heap.size:=(Array.getElem?_eq_some_iff.1 hl).1
      have hA2:=hRr A F W hA
      have hy:=run_yield (P:=P) (args:=x) hl (by rw [hrec];exact hps k _ x _ hx)
      rw [hrec]at hy
      have x1:X A (w.heap.size+1):=(hXi A _).2 (.inr (.inr rfl))
      have x0:X A w.heap.size:=(hXi A _).2 (.inr (.inl rfl))
      have hnR1:¬(¬X A (w.heap.size+1)/\¬L (w.heap.size+1)/\¬F (w.heap.size+1)):=fun e=>e.1 x1
      have hnR0:¬(¬X A w.heap.size/\¬L w.heap.size/\¬F w.heap.size):=fun e=>e.1 x0
      have xr:∀b,X A b\/F b->(U b\/w.heap.size<=b)/\b< W.heap.size:=fun b hb=>by
        rcases hb with hb |hb
        · refine⟨rX A hA2 b hb,?_⟩
          rcases(hXi A b).1 hb with h |h |h
          · exact(hA b (.inl h)).2
          · omega
          · omega
        · have:=hA b (.inr hb)
          exact⟨this.1.imp id fun h=>by omega,this.2⟩
      have nA:¬A (w.heap.size+1)/\¬L (w.heap.size+1)/\¬F (w.heap.size+1):=by
        refine⟨fun h=>(rn A hA2 _ h).2 rfl,fun h=>by have:=hL _ (.inl h);omega,fun h=> ?_⟩
        rcases(hA _ (.inr h)).1 with h1 |h1
        · have:=hUw _ h1;omega
        · omega
      refine⟨fn,_,assign,body,hy,roundIn_of_wpIn hfn (wpIn_mono (hround (w.heap.size+1) k x (X A) F W ⟨by omega,x1⟩ xr hkn hx hi) ?_)⟩
      rintro e a3 W3 hp
      cases e with
      |normal=>
        obtain⟨ht3,hbody⟩:=hp
        have hl3:W3.heap[w.heap.size+1]?=some (.loop (rec .ready none)):=(ht3.block _ hlt hnR1).trans hl
        have hk3:W3.heap[w.heap.size]?=some (.deferred (some [])):=(ht3.block _ oM hnR0).trans hk
        have hlt3:w.heap.size+1< W3.heap.size:=(Array.getElem?_eq_some_iff.1 hl3).1
        refine⟨_,run_beginRound hl3 (by rw [hrec]),?_⟩
        obtain⟨W4,hW4⟩:∃W4,W3.putObj (w.heap.size+1) (.loop {rec .ready none with state:= .busy})=W4:=⟨_,rfl⟩
        have ht4:aZ (· =w.heap.size+1) W3 W4:=by rw [<-hW4];exact(aZ.refl _ _).putObj _ fun _=>rfl
        have hl4:W4.heap[w.heap.size+1]?=some (.loop {rec .ready none with state:= .busy}):=by rw [<-hW4];exact World.putObj_heap_same hlt3
        have hk4:W4.heap[w.heap.size]?=some (.deferred (some [])):=(ht4.block _ oM oM).trans hk3
        rw [hW4]
        refine wpIn_mono (hbody W4 ht4) ?_
        have hsz4:W4.heap.size=W3.heap.size:=by rw [<-hW4];simp
        have fin:∀(jump:Option Code) (W5:World),aZ (fun i=>¬X A i/\¬L i/\¬F i) W4 W5->
            (Instr.endRound (w.heap.size+1) jump).run P W5= .ok (.bool jump.isNone) (W5.putObj (w.heap.size+1) (.loop (rec (if jump.isNone then .ready else .done) jump)))/\
            (W5.putObj (w.heap.size+1) (.loop (rec (if jump.isNone then .ready else .done) jump))).heap[w.heap.size+1]?=some (.loop (rec (if jump.isNone then .ready else .done) jump))/\
            (W5.putObj (w.heap.size+1) (.loop (rec (if jump.isNone then .ready else .done) jump))).heap[w.heap.size]?=some (.deferred (some []))/\
            aZ (fun i=>¬A i/\¬L i/\¬F i) W (W5.putObj (w.heap.size+1) (.loop (rec (if jump.isNone then .ready else .done) jump))):=fun jump W5 ht5=>by
          have hl5:=(ht5.block _ (Array.getElem?_eq_some_iff.1 hl4).1 hnR1).trans hl4
          have hr:=run_endRound (P:=P) jump hl5
          rw [hrec]at hr ⊢
          refine⟨hr,World.putObj_heap_same (Array.getElem?_eq_some_iff.1 hl5).1,(World.putObj_heap_other oM).trans ((ht5.block _ oM hnR0).trans hk4),?_⟩
          have sub:∀i,¬X A i/\¬L i/\¬F i->¬A i/\¬L i/\¬F i:=fun i h=>⟨fun ha=>h.1 ((hXi A i).2 (.inl ha)),h.2⟩
          exact(((ht3.mono fun k _ h=>sub k h).trans (ht4.mono fun k _ h=>by subst h;exact nA)).trans (ht5.mono fun k _ h=>sub k h)).putObj _ fun _=>nA
        rintro e a5 W5 hp
        cases e with
        |normal=>
          obtain⟨ht5,hi5⟩:=hp
          obtain⟨hr,hl6,hk6,ht6⟩:=fin none W5 ht5
          exact⟨_,_,hr,_,rfl,ht6,fun _=>⟨hk6,fun _=>⟨hput _ _ _ _ _ hi5 hA2,hl6⟩,fun e=>by cases e⟩,fun h=>by simp at h⟩
        |ret=>
          obtain⟨ht5,hi5⟩:=hp
          obtain⟨hr,hl6,hk6,ht6⟩:=fin (some .ret) W5 ht5
          exact⟨_,_,hr,_,rfl,ht6,fun h=>by simp at h,fun _=>⟨hk6,(fun e=>by cases e),fun _=>⟨.ret,hputx _ _ _ _ _ _ hi5 hA2,hl6⟩⟩⟩
        |exit id=>
          obtain⟨ht5,hi5⟩:=hp
          obtain⟨hr,hl6,hk6,ht6⟩:=fin (some (.exit id)) W5 ht5
          exact⟨_,_,hr,_,rfl,ht6,fun h=>by simp at h,fun _=>⟨hk6,(fun e=>by cases e),fun _=>⟨.exit id,hputx _ _ _ _ _ _ hi5 hA2,hl6⟩⟩⟩
        |goto t=>
          obtain⟨ht5,hi5⟩:=hp
          obtain⟨hr,hl6,hk6,ht6⟩:=fin (some (.goto t)) W5 ht5
          exact⟨_,_,hr,_,rfl,ht6,fun h=>by simp at h,fun _=>⟨hk6,(fun e=>by cases e),fun _=>⟨.goto t,hputx _ _ _ _ _ _ hi5 hA2,hl6⟩⟩⟩
        |panic ch=>exact hp.elim
        |outgrown=>exact hp.elim
      |ret=>exact hp.elim
      |exit id=>exact hp.elim
      |goto t=>exact hp.elim
      |panic ch=>exact hp.elim
      |outgrown=>exact hp.elim
    · rintro e W2 ⟨⟨v,rfl⟩,A,F,hA,h⟩
      have hA2:RA A:=(hRA A).2 fun b hb=>(hA b hb).imp id fun h=>by omega
      have hXw:=rX A hA2
      rcases h with⟨hk,hg1,_⟩ | ⟨k,hk',hk,_,hg2⟩
      · obtain⟨hi,hl⟩:=hg1 rfl
        exact⟨none,_,by have:=run_endLoop (P:=P) hl (by rw [hrec];simp);rw [hrec]at this;exact this,hdone _ (X A) F _ (hput _ _ _ _ _ hi hA2) ⟨Nat.le_refl _,(hXi A _).2 (.inr (.inl rfl))⟩ hXw ((World.putObj_heap_other oM).trans hk)⟩
      · obtain⟨c,hi,hl⟩:=hg2 rfl
        exact⟨some c,_,by have:=run_endLoop (P:=P) hl (by rw [hrec];simp);rw [hrec]at this;exact this,hstop _ k c (X A) F _ hk' (hputx _ _ _ _ _ _ hi hA2) ⟨Nat.le_refl _,(hXi A _).2 (.inr (.inl rfl))⟩ hXw ((World.putObj_heap_other oM).trans hk)⟩
end Go.Dw
namespace Go.Ab
open Go.RowKit Go.Dw Go.Shelf
def LW(es:List (List V))(L:Nat->Prop)(k:Nat)(F:Nat->Prop)(x:Array Value)(W:World):Prop:= ∃v,es[k]?=some v/\RV W (fun b=>L b\/F b) ρ0 v x.toList
def CK(P:Program)(gf:FuncId)(caps:List V)(ins:List Ob)(es:List (List V)):Prop:=
  (∀(args:Array Value) (w:World),(callFunc gf args).run P w= .ok (.enter gf args) w)/\
  ∀(L U:Nat->Prop) (w:World) (ρ:Nat->Option Value) (lb:Array Value),(∀b,L b->b< w.heap.size)->(∀b,U b->b< w.heap.size/\¬L b)->(∀g,R w L ρ0 (jk g) (pZ g))->
    (∀i o,ins[i]?=some o->Real U w L ρ (500+i) o)->(∀i j x y k,i≠j->ρ i=some x->ρ j=some y->blk x=some k->blk y≠some k)->(∀id,(id< 500\/500+ins.length<=id)->ρ id=none)->RV w L ρ caps lb.toList->
    KZ P gf lb es.length (LW es L) L U w
theorem sF{P:Program}{N:Nat}{C:Cx P N}{Q:Exit->S->Prop}{tm:Nat->V}{σ:Nat->Option Ob}{nx:Nat}{g:Operand}{ps:Array Tmp}{assign body:Code}{gf:FuncId}{caps:List V}{ins:List Ob}{es:List (List V)}(ns:List Nat)
    (hF:C.F=Fence.wide) (pn xn:List Nat) (gl:List (Nat×Nat)) (hd:∀id x,C.dfs.pin id=some x->id∈pn/\∀p∈gl,p.1≠id) (it:CK P gf caps ins es) (hg:ev tm g= .fn (.func gf) [] (V.aV (y5 ns) caps)) (hidf:V.cR ins.length caps=true) (hns:ns.length=ins.length) (hnd:ns.Nodup) (hins:∀(i k:Nat) (o:Ob),ns[i]?=some k->ins[i]?=some o->σ k=some o/\Gz o=true) (hlen:∀x∈es,x.length=ps.size) (hps:ps.toList.all (fun p=>decide (p< N))=true)
    (tl:List (Nat×V)) (ok:Nat->Prop) (sl:Nat->List Ob) (X:Nat->Code->List Ob->Prop) (hok0:ok 0)
    (hpn:pn.all (fun p=>decide (500<=p/\p< 1000))=true) (hl0:(sl 0).length=(pn++xn).length) (htl:tl.all (fun p=>p.2.rU pn)=true) (hid:gl.all (fun p=>decide (p.1< 1000))=true)
    (htm:lX (fun p=>tm p.1=p.2.bx (aH gl nx)) tl) (hσ:lX (fun p=>∃ob,σ (aH gl nx p.1)=some ob/\eF ob (p.2.bx (aH gl nx))) ((pn++xn).zip (sl 0)))
    (hinj:decide ((((pn++xn).zip (sl 0)).map fun p=>aH gl nx p.1).Nodup)=true) (hdis:∀p∈(pn++xn).zip (sl 0),aH gl nx p.1∉ns)
    (round:∀C':Cx P N,(∃l,C'.F=Fence.wide.inRound l)->∀k x,es[k]?=some x->ok k->AW C' assign (dR (fun s'=>AW C' body (o4 (pn++xn) ok sl X k) s') (fun _ _=>False)) ⟨oK (gJ tl) ps.toList x,dw ((pn++xn).zip (sl k)),1⟩)
    (hdone:ok es.length->Q .normal ⟨gJ tl,dw ((pn++xn).zip (sl es.length)),1⟩)
    (hstop:∀k c sx,k< es.length->X k c sx->AW C c Q ⟨gJ tl,dw ((pn++xn).zip sx),1⟩):AW C (.rangeFunc g ps assign body) Q ⟨tm,σ,nx⟩:=by
  intro a w ⟨L,ρ',g00⟩
  have g0:=qH.bx (s:=⟨tm,σ,nx⟩) tl ((pn++xn).zip (sl 0)) gl htm.mem hσ.mem (of_decide_eq_true hinj) (by simpa using hid) (fun p hp=>by
    cases hc:C.dfs.pin p.1 with
    |none=>rfl
    |some x=>exact absurd rfl ((hd _ x hc).2 p hp)) g00
  have hfn:=g00.tm.eval g00.g.gl g
  generalize hρe:(fun i=>ρ' (aH gl nx i))=ρ at g0
  have hρi:∀i,ρ i=ρ' (aH gl nx i):=fun i=>by rw [<-hρe]
  clear hρe
  rw [hg]at hfn
  obtain⟨xs',lb,eg,hxs,hlb⟩:=hfn.kM
  have hxs0:xs'= #[]:=by have:=hxs.1;simpa using this.symm
  subst hxs0
  have hpn':∀p∈pn,500<=p/\p< 1000:=by simpa using hpn
  have hps':∀p∈ps.toList,p< N:=fun p hp=>of_decide_eq_true (List.all_eq_true.1 hps p hp)
  obtain⟨Ds,dd1,dd2,dd3⟩:=g0.defers
  obtain⟨it1,it2⟩:=it
  have hobU:∀i,i< ins.length->∃t cs b xs,ins[i]?=some (.box t cs)/\V.bq cs=true/\ns[i]?=some (y5 ns (500+i))/\σ (y5 ns (500+i))=some (.box t cs)/\ρ' (y5 ns (500+i))=some (.pointer (some ⟨b,0,none⟩))/\C.W b/\¬L b/\w.heap[b]?=some (.cells xs t (0,0))/\RL w L ρ' cs xs.toList:=by
    intro i hi
    have h1:ins[i]?=some ins[i]:=List.getElem?_eq_getElem hi
    have h2:ns[i]?=some ns[i]:=List.getElem?_eq_getElem oM
    have h3:y5 ns (500+i)=ns[i]:=by
      unfold y5
      rw [if_pos oM,Nat.add_sub_cancel_left,List.getD_eq_getElem?_getD,h2];rfl
    obtain⟨h4,h5⟩:=hins i _ _ h2 h1
    rw [h3]
    cases ho:ins[i]with
    |box t cs=>
      rw [ho]at h1 h4 h5
      obtain⟨b,xs,q1,q2,q3,q4,q5⟩:=g00.g.ob _ _ h4
      exact⟨t,cs,b,xs,h1,h5,h2,h4,q1,q2,q3,q4,q5⟩
    |row e sz n f=>rw [ho]at h5;cases h5
    |mp str f=>rw [ho]at h5;cases h5
  obtain⟨U,hUi⟩:∃U:Nat->Prop,∀b,U b<->∃i,i< ins.length/\ρ' (y5 ns (500+i))=some (.pointer (some ⟨b,0,none⟩)):=⟨_,fun _=>Iff.rfl⟩
  have hUw:∀b,U b->b< w.heap.size/\C.W b/\¬L b/\b∉Ds:=by
    intro b hb
    obtain⟨i,hi,hx⟩:=(hUi b).1 hb
    obtain⟨t,cs,b',xs,_,_,_,h4,q1,q2,q3,q4,q5⟩:=hobU i hi
    rw [hx]at q1
    simp only [Option.some.injEq,Value.pointer.injEq,Addr.mk.injEq,and_true]at q1
    subst q1
    exact⟨(Array.getElem?_eq_some_iff.1 q4).1,q2,q3,fun hD=>(g00.g.ob _ _ h4).gE hx rfl (dd3 b hD).1⟩
  obtain⟨ρu,hρu⟩:∃ρu:Nat->Option Value,∀id,ρu id=if 500<=id/\id< 500+ins.length then ρ' (y5 ns id)else none:=⟨_,fun _=>rfl⟩
  have hρuS:∀id x,ρu id=some x->500<=id/\id< 500+ins.length/\ρ' (y5 ns id)=some x:=by
    intro id x hx
    rw [hρu]at hx
    split at hx
    · rename_i h;exact⟨h.1,h.2,hx⟩
    · cases hx
  have hnm:∀i j,i< ins.length->j< ins.length->y5 ns (500+i)=y5 ns (500+j)->i=j:=by
    intro i j hi hj he
    obtain⟨_,_,_,_,_,_,h1,_⟩:=hobU i hi
    obtain⟨_,_,_,_,_,_,h2,_⟩:=hobU j hj
    rw [<-he]at h2
    exact oC hnd oM (h1.trans h2.symm)
  have hit:=it2 L U w ρu lb (fun b hb=>(g0.g.ll b hb).1) (fun b hb=>⟨(hUw b hb).1,(hUw b hb).2.2.1⟩) g0.g.gl (fun i o ho=>by
      have hi:=(List.getElem?_eq_some_iff.1 ho).1
      obtain⟨t,cs,b,xs,h1,h2,_,_,q1,q2,q3,q4,q5⟩:=hobU i hi
      rw [ho]at h1;injection h1 with h1;subst h1
      exact⟨b,xs,by rw [hρu,if_pos ⟨by omega,by omega⟩];exact q1,(hUi b).2 ⟨i,hi,q1⟩,q3,q4,q5.free h2⟩)
    (fun i j x y k hij hx hy=>by
      obtain⟨a1,a2,a3⟩:=hρuS i x hx
      obtain⟨b1,b2,b3⟩:=hρuS j y hy
      obtain⟨i',rfl⟩:∃i',i=500+i':=⟨i- 500,by omega⟩
      obtain⟨j',rfl⟩:∃j',j=500+j':=⟨j- 500,by omega⟩
      obtain⟨_,_,_,_,_,_,_,e1,_⟩:=hobU i' oM
      obtain⟨_,_,_,_,_,_,_,e2,_⟩:=hobU j' oM
      exact g00.g.sep _ _ x y k (fun he=>hij (by rw [hnm i' j' oM oM he])) (by simp only at e1 ⊢;rw [e1];simp) (by simp only at e2 ⊢;rw [e2];simp) a3 b3)
    (fun id hid=>by rw [hρu,if_neg oM]) ((EV (y5 ns) hlb).vu hidf fun id v h1 h2 hv=>by rw [hρu,if_pos ⟨h1,h2⟩];exact hv)
  have hxlen:∀k F x W,LW es L k F x W->x.size=ps.size:=by
    rintro k F x W ⟨v,hv,h1⟩
    have:=h1.1
    rw [hlen v (List.mem_of_getElem? hv)]at this
    simpa using this.symm
  have hDw:∀D∈Ds,D< w.heap.size:=fun D hD=>(Array.getElem?_eq_some_iff.1 (dd3 D hD).1).1
  -- the blocks of the objects that stay are none of the iterator's
  have hblk:∀id o,dw ((pn++xn).zip (sl 0)) id=some o->∀x k,ρ id=some x->blk x=some k->¬U k:=by
    intro id o ho x k hx hk hU
    obtain⟨i,hi',hxu⟩:=(hUi k).1 hU
    obtain⟨_,_,_,_,_,_,h3,h4,_⟩:=hobU i hi'
    have hi:id∈pn++xn:=xS (by rw [ho];simp)
    obtain⟨j,hj,hjid⟩:=List.getElem_of_mem hi
    have hz:(id,(sl 0)[j]'oM)∈(pn++xn).zip (sl 0):=by
      rw [<-hjid]
      refine List.mem_of_getElem? (i:=j) ?_
      rw [List.getElem?_zip_eq_some]
      exact⟨List.getElem?_eq_getElem hj,List.getElem?_eq_getElem oM⟩
    obtain⟨ob,hob,_⟩:=hσ.mem _ hz
    have hne:=hdis _ hz
    simp only at hob hne
    rw [hρi]at hx
    exact g00.g.sep (aH gl nx id) (y5 ns (500+i)) x _ k (fun he=>hne (by rw [he];exact List.mem_of_getElem? h3)) (by simp only;rw [hob];simp) (by simp only at h4 ⊢;rw [h4];simp) hx hxu hk rfl
  obtain⟨Wc,hWc⟩:∃Wc:(Nat->Prop)->(Nat->Prop)->Nat->Prop,∀A F b,Wc A F b<->C.W b/\¬A b/\¬L b/\¬F b/\b∉Ds:=⟨_,fun _ _ _=>Iff.rfl⟩
  obtain⟨Lc,hLc⟩:∃Lc:(Nat->Prop)->Nat->Prop,∀A b,Lc A b<->C.LB b/\¬A b/\b∉Ds:=⟨_,fun _ _=>Iff.rfl⟩
  -- what is known of the objects, of memory
  obtain⟨RG,hRG⟩:∃RG:(Nat->Prop)->(Nat->Prop)->World->Prop,∀A F W,RG A F W<->(∀b,A b\/F b->(U b\/w.heap.size<=b)/\b< W.heap.size)/\(∀b,F b->¬A b):=⟨_,fun _ _ _=>Iff.rfl⟩
  obtain⟨GS,hGS⟩:∃GS:(Nat->Prop)->(Nat->Prop)->World->List Ob->Prop,∀A F W ob,GS A F W ob<->RG A F W/\aZ (fun b=>C.W b/\¬L b/\b∉Ds) w W/\
      ∃L' ρ',(∀b,L b\/F b->L' b)/\(∀id x,id∈pn->ρ id=some x->ρ' id=some x)/\(∀id,bU 1 id->ρ' id=none)/\G (Wc A F) (Lc A) (dw ((pn++xn).zip ob)) W L' ρ':=⟨_,fun _ _ _ _=>Iff.rfl⟩
  have frame:∀ {W1:World},aZ (fun b=>C.W b/\¬L b/\b∉Ds) w W1->∀b,L b->W1.heap[b]?=w.heap[b]?:=fun ht b hb=>ht.block b (g0.g.ll b hb).1 fun hc=>hc.2.1 hb
  have frD:∀ {W1:World},aZ (fun b=>C.W b/\¬L b/\b∉Ds) w W1->∀D∈Ds,W1.heap[D]?=some (.deferred (some [])):=fun ht D hD=>
    (ht.block D (hDw D hD) fun hc=>hc.2.2 hD).trans (dd3 D hD).1
  have tmU:∀ {W1:World}{L':Nat->Prop}{ρ':Nat->Option Value},aZ (fun b=>C.W b/\¬L b/\b∉Ds) w W1->(∀b,L b->L' b)->(∀id x,id∈pn->ρ id=some x->ρ' id=some x)->∀i,Go.Ab.R W1 L' ρ' (gJ tl i) (a.tmps.getD i undef):=fun ht hLL hρ i=>
    ((g0.tm i).OM (B7 htl i) _ hρ).mono (fun b hb=>⟨hLL b hb,frame ht b hb⟩) fun _ _ h=>h
  -- what the iterator holds or laid may be frozen
  have lcF:∀ {b:Nat},U b\/w.heap.size<=b->C.LB b/\b∉Ds:=fun {b} h=>by
    rcases h with h |h
    · exact⟨C.wl b (hUw b h).2.1,(hUw b h).2.2.2⟩
    · exact⟨(g0.g.new b h).2,fun hD=>by have:=hDw b hD;omega⟩
  have gs0:GS U (fun _=>False) w (sl 0):=by
    rw [hGS,hRG]
    refine⟨⟨fun b hb=> ?_,fun _ h=>h.elim⟩,aZ.refl _ _,L,ρ,fun b h=>h.elim id False.elim,fun _ _ _ h=>h,g0.fr,fun b hb=>⟨(g0.g.ll b hb).1,(hLc _ _).2 ⟨(g0.g.ll b hb).2,fun h=>(hUw b h).2.2.1 hb,fun hD=>(dd3 b hD).2.2 hb⟩⟩,fun b hb=>⟨(hWc _ _ _).2 ⟨(g0.g.new b hb).1,fun h=>by have:=(hUw b h).1;omega,fun hl=>by have:=(g0.g.ll b hl).1;omega,fun h=>h,fun hD=>by have:=hDw b hD;omega⟩,(hLc _ _).2 ⟨(g0.g.new b hb).2,fun h=>by have:=(hUw b h).1;omega,fun hD=>by have:=hDw b hD;omega⟩⟩,fun id o ho=> ?_,g0.g.sep,g0.g.gl⟩
    · rcases hb with hb |hb
      · exact⟨.inl hb,(hUw b hb).1⟩
      · exact hb.elim
    · have hr:=g0.g.ob id o ho
      obtain⟨y,hy,hy2⟩:=hr.lt
      refine hr.ua (Ext.refl _ _ _) fun x k hx hk=> ?_
      have hU:=hblk id o ho x k hx hk
      rw [hx]at hy;injection hy with hy;subst hy
      exact⟨rfl,(hy2 k hk).2.2,(hWc _ _ _).2 ⟨(hy2 k hk).2.1,hU,(hy2 k hk).2.2,fun h=>h,fun hD=>hr.gE hx hk (dd3 k hD).1⟩⟩
  have gsJ:∀A F W1 W2 ob,GS A F W1 ob->aZ A W1 W2->GS (fun b=>A b\/(W1.heap.size<=b/\b< W2.heap.size)) F W2 ob:=by
    intro A F W1 W2 ob h ht
    rw [hGS,hRG]at h ⊢
    obtain⟨⟨hA,hAF⟩,hT,L',ρ',l1,l2,l3,hG⟩:=h
    have hAl:∀b,L' b->¬A b:=fun b hb=>((hLc _ _).1 (hG.ll b hb).2).2.1
    have ex:Ext W1 L' ρ' W2 L' ρ':=⟨fun b hb=>⟨hb,ht.block b (hG.ll b hb).1 (hAl b hb)⟩,fun _ _ h=>h⟩
    have nA:∀b,b< W1.heap.size->¬A b->¬(A b\/(W1.heap.size<=b/\b< W2.heap.size)):=fun b hb hn h=>by
      rcases h with h |h
      · exact hn h
      · omega
    have ws:=hT.size
    refine⟨⟨fun b hb=> ?_,fun b hb=>nA b (hA b (.inr hb)).2 (hAF b hb)⟩,?_,L',ρ',l1,l2,l3,fun b hb=>⟨Nat.lt_of_lt_of_le (hG.ll b hb).1 ht.size,?_⟩,fun b hb=> ?_,fun id o ho=> ?_,hG.sep,hG.rH ex⟩
    · have:=ht.size
      rcases hb with(h |h) |h
      · exact⟨(hA b (.inl h)).1,Nat.lt_of_lt_of_le (hA b (.inl h)).2 ht.size⟩
      · exact⟨.inr oM,h.2⟩
      · exact⟨(hA b (.inr h)).1,Nat.lt_of_lt_of_le (hA b (.inr h)).2 ht.size⟩
    · refine aZ.mono (R:=fun b=>(C.W b/\¬L b/\b∉Ds)\/A b) ((hT.mono fun _ _ h=> .inl h).trans (ht.mono fun _ _ h=> .inr h)) fun k hk h=> ?_
      rcases h with h |h
      · exact h
      · rcases(hA k (.inl h)).1 with h |h
        · exact⟨(hUw k h).2.1,(hUw k h).2.2⟩
        · omega
    · obtain⟨q1,q2,q3⟩:=(hLc _ _).1 (hG.ll b hb).2
      exact(hLc _ _).2 ⟨q1,nA b (hG.ll b hb).1 q2,q3⟩
    · have hb1:W1.heap.size<=b:=Nat.le_trans ht.size hb
      obtain⟨q1,q2⟩:=hG.new b hb1
      obtain⟨q1,_,q3,q4⟩:=(hWc _ _ _).1 q1
      obtain⟨r1,_,r3⟩:=(hLc _ _).1 q2
      have hn:¬(A b\/(W1.heap.size<=b/\b< W2.heap.size)):=fun h=>by
        rcases h with h |h
        · have:=(hA b (.inl h)).2;omega
        · omega
      exact⟨(hWc _ _ _).2 ⟨q1,hn,q3,q4⟩,(hLc _ _).2 ⟨r1,hn,r3⟩⟩
    · have hr:=hG.ob id o ho
      obtain⟨y,hy,hy2⟩:=hr.lt
      refine hr.ua ex fun x k hx hk=> ?_
      rw [hx]at hy;injection hy with hy;subst hy
      obtain⟨q1,q2,q3⟩:=hy2 k hk
      obtain⟨r1,r2,r3,r4⟩:=(hWc _ _ _).1 q2
      exact⟨ht.block k q1 r2,q3,(hWc _ _ _).2 ⟨r1,nA k q1 r2,r3,r4⟩⟩
  have gsD:∀A F (D:Nat->Prop) W1 ob,GS A F W1 ob->(∀b,D b->A b)->GS (fun b=>A b/\¬D b) (fun b=>F b\/D b) W1 ob:=by
    intro A F D W1 ob h hD
    rw [hGS,hRG]at h ⊢
    obtain⟨⟨hA,hAF⟩,hT,L',ρ',l1,l2,l3,hG⟩:=h
    have ex:Ext W1 L' ρ' W1 (fun b=>L' b\/D b) ρ':=⟨fun b hb=>⟨.inl hb,rfl⟩,fun _ _ h=>h⟩
    refine⟨⟨fun b hb=> ?_,fun b hb hc=> ?_⟩,hT,fun b=>L' b\/D b,ρ',fun b hb=> ?_,l2,l3,fun b hb=> ?_,fun b hb=> ?_,fun id o ho=> ?_,hG.sep,hG.rH ex⟩
    · rcases hb with h |h |h
      · exact hA b (.inl h.1)
      · exact hA b (.inr h)
      · exact hA b (.inl (hD b h))
    · rcases hb with h |h
      · exact hAF b h hc.1
      · exact hc.2 h
    · rcases hb with h |h |h
      · exact .inl (l1 b (.inl h))
      · exact .inl (l1 b (.inr h))
      · exact .inr h
    · rcases hb with h |h
      · obtain⟨q1,q2,q3⟩:=(hLc _ _).1 (hG.ll b h).2
        exact⟨(hG.ll b h).1,(hLc _ _).2 ⟨q1,fun hc=>q2 hc.1,q3⟩⟩
      · have hr:=hA b (.inl (hD b h))
        exact⟨hr.2,(hLc _ _).2 ⟨(lcF hr.1).1,fun hc=>hc.2 h,(lcF hr.1).2⟩⟩
    · obtain⟨q1,q2⟩:=hG.new b hb
      obtain⟨p1,p2,p3,p4,p5⟩:=(hWc _ _ _).1 q1
      obtain⟨r1,r2,r3⟩:=(hLc _ _).1 q2
      exact⟨(hWc _ _ _).2 ⟨p1,fun h=>p2 h.1,p3,fun h=>h.elim p4 fun h=>p2 (hD b h),p5⟩,(hLc _ _).2 ⟨r1,fun h=>r2 h.1,r3⟩⟩
    · have hr:=hG.ob id o ho
      obtain⟨y,hy,hy2⟩:=hr.lt
      refine hr.ua ex fun x k hx hk=> ?_
      rw [hx]at hy;injection hy with hy;subst hy
      obtain⟨q1,q2,q3⟩:=hy2 k hk
      obtain⟨p1,p2,p3,p4,p5⟩:=(hWc _ _ _).1 q2
      exact⟨rfl,fun h=>h.elim q3 fun h=>p2 (hD k h),(hWc _ _ _).2 ⟨p1,fun h=>p2 h.1,p3,fun h=>h.elim p4 fun h=>p2 (hD k h),p5⟩⟩
  have mkGam:∀(D:Nat) (A F:Nat->Prop) (W1:World) (ob:List Ob),GS A F W1 ob->(w.heap.size<=D/\A D)->W1.heap[D]?=some (.deferred (some []))->
      Gm C ⟨gJ tl,dw ((pn++xn).zip ob),1⟩ {a with defers:={target:= .collected D,args:= #[]}::a.defers} W1:=by
    intro D A F W1 ob hgs hD hDl
    rw [hGS,hRG]at hgs
    obtain⟨⟨hA,hAF⟩,hT,L',ρ',l1,l2,l3,hG⟩:=hgs
    refine⟨L',ρ',⟨⟨fun b hb=>⟨(hG.ll b hb).1,((hLc _ _).1 (hG.ll b hb).2).1⟩,fun b hb=>⟨((hWc _ _ _).1 (hG.new b hb).1).1,((hLc _ _).1 (hG.new b hb).2).1⟩,fun id o ho=> ?_,hG.sep,hG.gl⟩,l3,tmU hT (fun b hb=>l1 b (.inl hb)) l2,g0.size,⟨D::Ds,?_,List.nodup_cons.2 ⟨fun hc=> ?_,dd2⟩,fun E hE=> ?_⟩,fun id x hp=>l2 id x (hd id x hp).1 (g0.pin id x hp)⟩⟩
    · have hr:=hG.ob id o ho
      obtain⟨y,hy,hy2⟩:=hr.lt
      refine hr.ua (Ext.refl _ _ _) fun x k hx hk=> ?_
      rw [hx]at hy;injection hy with hy;subst hy
      exact⟨rfl,(hy2 k hk).2.2,((hWc _ _ _).1 (hy2 k hk).2.1).1⟩
    · simp only [marks,List.map_cons,dd1,List.cons_append]
    · have:=hDw D hc
      omega
    · rcases List.mem_cons.1 hE with rfl |hE
      · exact⟨hDl,(g0.g.new E hD.1).1,fun hc=>((hLc _ _).1 (hG.ll E hc).2).2.1 hD.2⟩
      · exact⟨frD hT E hE,(dd3 E hE).2.1,fun hc=>((hLc _ _).1 (hG.ll E hc).2).2.2 hE⟩
  rw [hF]
  refine EH (gf:=gf) (lb:=lb) (n:=es.length) eg it1 hit (fun b hb=>hb.elim (fun h=>(g0.g.ll b h).1) fun h=>(hUw b h).1) hxlen
    (fun k A F W=>ok k/\GS A F W (sl k)) (fun k c A F W=>∃sx,X k c sx/\GS A F W sx)
    (fun k A F W1 W2 h _ ht=>⟨h.1,gsJ A F W1 W2 _ h.2 ht⟩)
    (fun k c A F W1 W2 h _ ht=>by obtain⟨sx,h1,h2⟩:=h;exact⟨sx,h1,gsJ A F W1 W2 _ h2 ht⟩)
    (fun k A F D W1 h hD=>⟨h.1,gsD A F D W1 _ h.2 hD⟩)
    (fun k c A F D W1 h hD=>by obtain⟨sx,h1,h2⟩:=h;exact⟨sx,h1,gsD A F D W1 _ h2 hD⟩)
    ⟨hok0,gs0⟩ ?hround ?hdone ?hstop
  case hdone=>
    rintro D A F W ⟨hok,hG⟩ hD _ hDl
    refine⟨_,hdone hok,mkGam D A F W _ hG hD hDl,?_⟩
    rw [hGS]at hG
    exact hG.2.1.mono fun k _ h=>h.1
  case hstop=>
    rintro D k c A F W hk ⟨sx,hX,hG⟩ hD _ hDl
    have hst:=hstop k c sx hk hX
    unfold AW at hst
    rw [hF]at hst
    refine wpIn_mono (hst _ W (mkGam D A F W sx hG hD hDl)) ?_
    rintro e a' w' ⟨s',q,g',t⟩
    rw [hGS]at hG
    exact⟨s',q,g',(hG.2.1.mono fun k _ h=>h.1).trans t⟩
  case hround=>
    rintro l k x A F W ⟨hl,hAl⟩ hAb hkl ⟨v,hv,hxr⟩ ⟨hok,hgs⟩
    rw [hGS,hRG]at hgs
    obtain⟨⟨hA,hAF⟩,hT,L',ρ',l1,l2,l3,hG⟩:=hgs
    obtain⟨C',e1,e2,e3,e4,e4t⟩:∃C':Cx P N,C'.W=Wc A F/\C'.LB=Lc A/\C'.F=Fence.wide.inRound l/\(∀id,C'.dfs.pin id=if id∈pn then ρ id else none)/\C'.dfs.tl=[]:=
      ⟨⟨Wc A F,Lc A,fun b hb=>(hLc _ _).2 ⟨C.wl b ((hWc _ _ _).1 hb).1,((hWc _ _ _).1 hb).2.1,((hWc _ _ _).1 hb).2.2.2.2⟩,
        ⟨[],fun id=>if id∈pn then ρ id else none,fun id x h=>by
          by_cases hi:id∈pn
          · exact hpn' id hi
          · rw [if_neg hi]at h;cases h⟩,C.mx,Fence.wide.inRound l,.inr ⟨l,rfl⟩⟩,rfl,rfl,rfl,fun _=>rfl,rfl⟩
    have hr:=round C' ⟨l,e3⟩ k _ hv hok
    unfold AW at hr
    rw [e3]at hr
    obtain⟨z1,z2⟩:=yw (w:=W) (L:=L') (ρ:=ρ') ps.toList v x.toList (gJ tl) a.tmps (fun p hp=>by rw [g0.size];exact hps' p hp)
      ⟨hxr.1,fun i u y hu hy=>(hxr.2 i u y hu hy).mono (fun b hb=>⟨l1 b hb,rfl⟩) fun _ _ h=>by cases h⟩ (tmU hT (fun b hb=>l1 b (.inl hb)) l2)
    have ez:((ps.toList.zip x.toList).foldl (fun t (p,v)=>t.setIfInBounds p v) a.tmps)=(ps.zip x).foldl (fun t (p,v)=>t.setIfInBounds p v) a.tmps:=by
      rw [<-Array.toList_zip,Array.foldl_toList]
    rw [ez]at z1 z2
    have gm:Gm C' ⟨oK (gJ tl) ps.toList v,dw ((pn++xn).zip (sl k)),1⟩ {tmps:=(ps.zip x).foldl (fun t (p,v)=>t.setIfInBounds p v) a.tmps,defers:=[]} W:=
      ⟨L',ρ',⟨by rw [e1,e2];exact hG,l3,z2,z1.trans g0.size,⟨[],by rw [e4t];rfl,by simp,by simp⟩,fun id y hp=>by
        rw [e4]at hp
        split at hp
        · exact l2 id y (by assumption) hp
        · cases hp⟩⟩
    have sub:∀i,C'.W i->¬A i/\¬L i/\¬F i:=fun i hi=>by rw [e1]at hi;obtain⟨q1,q2,q3,q4,_⟩:=(hWc _ _ _).1 hi;exact⟨q2,q3,q4⟩
    have subC:∀i,C'.W i->C.W i/\¬L i/\i∉Ds:=fun i hi=>by rw [e1]at hi;obtain⟨q1,q2,q3,q4,q5⟩:=(hWc _ _ _).1 hi;exact⟨q1,q3,q5⟩
    refine wpIn_mono (hr _ W gm) ?_
    rintro e a1 W1 ⟨s1,hq,gm1,t1⟩
    cases e with
    |normal=>
      refine⟨t1.mono fun j _ h=>sub j h,fun W2 ht2=> ?_⟩
      have gm2:Gm C' s1 a1 W2:=by
        obtain⟨L1,ρ1,g1⟩:=gm1
        have hnL:¬L1 l:=fun hc=>by
          have:=(g1.g.ll l hc).2
          rw [e2]at this
          exact((hLc _ _).1 this).2.1 hAl
        have hnW:¬C'.W l:=fun hc=>(sub l hc).1 hAl
        have ex:Ext W1 L1 ρ1 W2 L1 ρ1:=⟨fun b hb=>⟨hb,ht2.block b (g1.g.ll b hb).1 (by rintro rfl;exact hnL hb)⟩,fun _ _ h=>h⟩
        refine⟨L1,ρ1,⟨⟨fun b hb=>⟨Nat.lt_of_lt_of_le (g1.g.ll b hb).1 ht2.size,(g1.g.ll b hb).2⟩,fun b hb=>g1.g.new b (Nat.le_trans ht2.size hb),fun id o ho=> ?_,g1.g.sep,g1.g.rH ex⟩,g1.fr,fun t=>(g1.tm t).ext ex,g1.size,?_,g1.pin⟩⟩
        · have hr1:=g1.g.ob id o ho
          obtain⟨y,hy,hy2⟩:=hr1.lt
          refine hr1.keep ex fun x j hx hj=> ?_
          rw [hx]at hy;injection hy with hy;subst hy
          exact⟨ht2.block j (hy2 j hj).1 (by rintro rfl;exact hnW (hy2 _ hj).2.1),(hy2 j hj).2.2⟩
        · obtain⟨Es,q1,q2,q3⟩:=g1.defers
          exact⟨Es,q1,q2,fun D hD=>⟨(ht2.block D (Array.getElem?_eq_some_iff.1 (q3 D hD).1).1 (by rintro rfl;exact hnW (q3 _ hD).2.1)).trans (q3 D hD).1,(q3 D hD).2⟩⟩
      have hbw:=hq a1 W2 gm2
      have fin:∀(a5:Act) (W5:World) (s5:S) (l5:List Ob),Gm C' s5 a5 W5->aZ C'.W W2 W5->Le s5 ⟨fun _=> .any,dw ((pn++xn).zip l5),1⟩->aZ (fun i=>¬A i/\¬L i/\¬F i) W2 W5/\GS A F W5 l5:=by
        intro a5 W5 s5 l5 gm5 t5 hle
        refine⟨t5.mono fun j _ h=>sub j h,?_⟩
        obtain⟨L5,ρ5,g5⟩:=hle C' a5 W5 gm5
        have hsz:W.heap.size<=W5.heap.size:=Nat.le_trans t1.size (Nat.le_trans ht2.size t5.size)
        have tw:aZ (fun b=>C.W b/\¬L b/\b∉Ds) w W5:=by
          refine aZ.mono (R:=fun b=>(C.W b/\¬L b/\b∉Ds)\/b=l) ((((hT.trans (t1.mono fun j _ h=>subC j h)).mono fun _ _ h=> .inl h).trans (ht2.mono fun _ _ h=> .inr h)).trans (t5.mono fun j _ h=> .inl (subC j h))) fun j hj h=> ?_
          rcases h with h |h
          · exact h
          · omega
        have gg:=g5.g
        rw [e1,e2]at gg
        rw [hGS,hRG]
        have ex:Ext W5 L5 ρ5 W5 (fun b=>L5 b\/L b\/F b) ρ5:=⟨fun b hb=>⟨.inl hb,rfl⟩,fun _ _ h=>h⟩
        refine⟨⟨fun b hb=>⟨(hA b hb).1,Nat.lt_of_lt_of_le (hA b hb).2 hsz⟩,hAF⟩,tw,fun b=>L5 b\/L b\/F b,ρ5,fun b hb=> .inr hb,fun id y hi hy=>g5.pin id y (by rw [e4,if_pos hi];exact hy),g5.fr,fun b hb=> ?_,gg.new,fun id o ho=> ?_,gg.sep,gg.rH ex⟩
        · rcases hb with hb |hb |hb
          · exact gg.ll b hb
          · refine⟨Nat.lt_of_lt_of_le (g0.g.ll b hb).1 tw.size,(hLc _ _).2 ⟨(g0.g.ll b hb).2,fun h=> ?_,fun hD=>(dd3 b hD).2.2 hb⟩⟩
            rcases(hA b (.inl h)).1 with h |h
            · exact(hUw b h).2.2.1 hb
            · have:=(g0.g.ll b hb).1;omega
          · have hr:=hA b (.inr hb)
            exact⟨Nat.lt_of_lt_of_le hr.2 hsz,(hLc _ _).2 ⟨(lcF hr.1).1,hAF b hb,(lcF hr.1).2⟩⟩
        · have hr5:=gg.ob id o ho
          obtain⟨y,hy,hy2⟩:=hr5.lt
          refine hr5.keep ex fun x j hx hj=>⟨rfl,?_⟩
          rw [hx]at hy;injection hy with hy;subst hy
          obtain⟨_,p2,p3,p4,_⟩:=(hWc _ _ _).1 (hy2 j hj).2.1
          rintro(h |h |h)
          · exact(hy2 j hj).2.2 h
          · exact p3 h
          · exact p4 h
      refine wpIn_mono hbw ?_
      rintro e5 a5 W5 ⟨s5,hp5,gm5,t5⟩
      cases e5 with
      |normal=>exact⟨(fin a5 W5 s5 _ gm5 t5 hp5.2).1,hp5.1,(fin a5 W5 s5 _ gm5 t5 hp5.2).2⟩
      |ret=>obtain⟨sx,hX,hle⟩:=hp5;exact⟨(fin a5 W5 s5 _ gm5 t5 hle).1,sx,hX,(fin a5 W5 s5 _ gm5 t5 hle).2⟩
      |exit id=>obtain⟨sx,hX,hle⟩:=hp5;exact⟨(fin a5 W5 s5 _ gm5 t5 hle).1,sx,hX,(fin a5 W5 s5 _ gm5 t5 hle).2⟩
      |goto t=>obtain⟨sx,hX,hle⟩:=hp5;exact⟨(fin a5 W5 s5 _ gm5 t5 hle).1,sx,hX,(fin a5 W5 s5 _ gm5 t5 hle).2⟩
      |panic c=>exact hp5.elim
      |outgrown=>exact hp5.elim
    |ret=>exact hq.elim
    |exit id=>exact hq.elim
    |goto t=>exact hq.elim
    |panic c=>exact hq.elim
    |outgrown=>exact hq.elim
def Re:V->Bool
 | .gd g _=>g
 |_=>true
theorem Io{v:V}(h:Re v=true):sE true v:=by cases v <;> first |exact fun _=>h |trivial
structure v7(P:Program)(es:List (List V)) where
  l:Nat
  J:Nat->Bool->(Nat->Prop)->(Nat->Prop)->World->Prop
  L0:Nat->Prop
  U:Nat->Prop
  B:Nat
  hY:∀k x A F W1,k< es.length->LW es L0 k F x W1->(∀b,A b\/F b->(U b\/B<=b)/\b< W1.heap.size)->B<=W1.heap.size->J k true A F W1->YieldAt Fence.wide 0 P l x W1 fun e W2=>∃b:Bool,e= .returned (.bool b)/\aZ (fun i=>¬A i/\¬L0 i/\¬F i) W1 W2/\(b=true->J (k+1) true A F W2)/\(b=false->J k false A F W2)
  hJ:∀k g A F W1 W2,J k g A F W1->(∀b,A b\/F b->(U b\/B<=b)/\b< W1.heap.size)->B<=W1.heap.size->aZ A W1 W2->J k g (fun b=>A b\/(W1.heap.size<=b/\b< W2.heap.size)) F W2
  hD:∀k g A F (D:Nat->Prop) W1,J k g A F W1->(∀b,A b\/F b->(U b\/B<=b)/\b< W1.heap.size)->(∀b,D b->A b)->J k g (fun b=>A b/\¬D b) (fun b=>F b\/D b) W1
  hL:∀b,L0 b\/U b->b< B
  hUL:∀b,U b->¬L0 b
structure zf{P:Program}{N:Nat}{es:List (List V)}(C:Cx P N)(Y:v7 P es)(A F:Nat->Prop)(w:World):Prop where
  fw:C.F=Fence.wide
  d:C.dfs=pz
  W:∀b,C.W b<->A b\/w.heap.size<=b
  LB:∀b,C.LB b->Y.L0 b\/F b\/A b\/w.heap.size<=b
  A:∀b,A b\/F b->(Y.U b\/Y.B<=b)/\b< w.heap.size
  B:Y.B<=w.heap.size
def fH{P:Program}(N:Nat){es:List (List V)}(Y:v7 P es)(c:Code)(Q:Exit->S->Nat->Bool->Prop)(s:S)(k:Nat)(g:Bool):Prop:= ∀(C:Cx P N) (A F:Nat->Prop) a w,zf C Y A F w->Gm C s a w->Y.J k g A F w->c.wpIn Fence.wide 0 P (fun e a' w'=>∃(s':S) (k':Nat) (g':Bool) (C':Cx P N) (A' F':Nat->Prop),Q e s' k' g'/\zf C' Y A' F' w'/\Gm C' s' a' w'/\Y.J k' g' A' F' w') a w
section
variable {P:Program}{N:Nat}{es:List (List V)}{Y:v7 P es}{Q:Exit->S->Nat->Bool->Prop}{s:S}{k:Nat}{g:Bool}
theorem zf.later{C:Cx P N}{A F:Nat->Prop}{w w':World}(h:zf C Y A F w)(t:aZ C.W w w'):zf C Y (fun b=>A b\/(w.heap.size<=b/\b< w'.heap.size)) F w'/\aZ A w w':=by
 have hs:=t.size;refine⟨⟨h.fw,h.d,fun b=>(h.W b).trans ?_,fun b hb=> ?_,fun b hb=> ?_,Nat.le_trans h.B hs⟩,t.mono fun j hj hW=>by rcases(h.W j).1 hW with h |h;exact h;omega⟩
 ·constructor
  ·rintro(h |h);·exact .inl (.inl h)
   ·by_cases hb:b< w'.heap.size;·exact .inl (.inr ⟨h,hb⟩)
    ·exact .inr oM
  ·rintro((h |h) |h);·exact .inl h
   ·exact .inr h.1
   ·exact .inr oM
 ·rcases h.LB b hb with h |h |h |h;·exact .inl h
  ·exact .inr (.inl h)
  ·exact .inr (.inr (.inl (.inl h)))
  ·by_cases hb:b< w'.heap.size;·exact .inr (.inr (.inl (.inr ⟨h,hb⟩)))
   ·exact .inr (.inr (.inr oM))
 ·rcases hb with(hb |hb) |hb;·exact⟨(h.A b (.inl hb)).1,Nat.lt_of_lt_of_le (h.A b (.inl hb)).2 hs⟩
  ·exact⟨.inr (Nat.le_trans h.B hb.1),hb.2⟩
  ·exact⟨(h.A b (.inr hb)).1,Nat.lt_of_lt_of_le (h.A b (.inr hb)).2 hs⟩
theorem fX{c:Code}(h:∀C:Cx P N,C.F=Fence.wide->C.dfs=pz->AW C c (fun e s'=>Q e s' k g) s):fH N Y c Q s k g:=by intro C A F a w yc gm hj;have:=h C yc.fw yc.d a w gm;rw [yc.fw]at this;refine wpIn_mono this ?_;rintro e a' w' ⟨s',q,gm',t⟩;obtain⟨y1,y2⟩:=yc.later t;exact⟨s',k,g,C,_,_,q,y1,gm',Y.hJ _ _ _ _ _ _ hj yc.A yc.B y2⟩
theorem Jb{c:Code}{s':S}(h:Le s s')(x:fH N Y c Q s' k g):fH N Y c Q s k g:=fun C A F a w yc gm=>x C A F a w yc (h C a w gm)
theorem cQ{x y:Code}(h:fH N Y x (jz (fun s' k' g'=>fH N Y y Q s' k' g') Q) s k g):fH N Y (.seq x y) Q s k g:=by
 intro C A F a w yc gm hj;refine wpIn_seq (wpIn_mono (h C A F a w yc gm hj) ?_);rintro e a' w' ⟨s',k',g',C',A',F',q,yc',gm',hj'⟩;cases e with
 |normal=>exact q C' A' F' a' w' yc' gm' hj'
 |_=>exact⟨s',k',g',C',A',F',q,yc',gm',hj'⟩
theorem bw{x y:Code}(h:∀C:Cx P N,C.F=Fence.wide->C.dfs=pz->∀K:S->Prop,(∀s',fH N Y y Q s' k g->K s')->AW C x (dR K (fun e s'=>Q e s' k g)) s):fH N Y (.seq x y) Q s k g:=by refine cQ (fX fun C hF hC=>Bx (h C hF hC _ fun _ h=>h) ?_);intro e s' q;cases e <;> exact q
theorem cE{id:Nat}{c:Code}(h:fH N Y c (gQ id Q) s k g):fH N Y (.block id c) Q s k g:=by
 intro C A F a w yc gm hj;refine wpIn_block (wpIn_mono (h C A F a w yc gm hj) ?_);rintro e a' w' ⟨s',k',g',C',A',F',q,r⟩;cases e with
 |exit id'=>
  simp only [Exit.inBlock,gQ]at q ⊢;split at q;·rename_i h;rw [if_pos h];exact⟨s',k',g',C',A',F',q,r⟩
  ·rename_i h;rw [if_neg h];exact⟨s',k',g',C',A',F',q,r⟩
 |_=>exact⟨s',k',g',C',A',F',q,r⟩
theorem di{c:Operand}{x y:Code}{t:Bool}(hc:ev s.tm c= .b t)(h1:t=true->fH N Y x Q s k g)(h2:t=false->fH N Y y Q s k g):fH N Y (.cond c x y) Q s k g:=by
 intro C A F a w yc gm hj;obtain⟨L,ρ,g'⟩:=gm;have:=g'.tm.eval g'.g.gl c;rw [hc]at this;refine wpIn_cond this.aL ?_;cases t with
 |true=>exact h1 rfl C A F a w yc ⟨L,ρ,g'⟩ hj
 |false=>exact h2 rfl C A F a w yc ⟨L,ρ,g'⟩ hj
theorem m6(h:Q .ret s k g):fH N Y .ret Q s k g:=fun C A F _ _ yc gm hj=>wpIn_ret ⟨s,k,g,C,A,F,h,yc,gm,hj⟩
theorem tR{id:Nat}(h:Q (.exit id) s k g):fH N Y (.exit id) Q s k g:=fun C A F _ _ yc gm hj=>wpIn_exit ⟨s,k,g,C,A,F,h,yc,gm,hj⟩
theorem fM(h:Q .normal s k g):fH N Y .skip Q s k g:=fun C A F _ _ yc gm hj=>wpIn_skip ⟨s,k,g,C,A,F,h,yc,gm,hj⟩
open Classical in
theorem lI{ι:Type}{c:Code}(I:ι->S)(kk:ι->Nat)(ok:ι->Prop)(μ:ι->Nat)(x0:ι)(hx:ok x0)(h0:Le s (I x0))(hk:kk x0=k) (round:∀x,ok x->fH N Y c (jz (fun s' k' g'=>g'=true/\∃y,ok y/\Le s' (I y)/\kk y=k'/\μ y< μ x) Q) (I x) (kk x) true):fH N Y (.loop c) Q s k true:=by
 intro C A F a w yc gm hj;have pr:∃q:Act->World->Nat->Prop,q=fun a' w' n=>∃(x:ι) (C':Cx P N) (A' F':Nat->Prop),ok x/\μ x=n/\zf C' Y A' F' w'/\Gm C' (I x) a' w'/\Y.J (kk x) true A' F' w':=⟨_,rfl⟩;obtain⟨q,hq⟩:=pr;have hqi:∀a' w' n,q a' w' n<->∃(x:ι) (C':Cx P N) (A' F':Nat->Prop),ok x/\μ x=n/\zf C' Y A' F' w'/\Gm C' (I x) a' w'/\Y.J (kk x) true A' F' w':=fun a' w' n=>by rw [hq]
 refine wpIn_loop (fun a' w'=>∃n,q a' w' n) (fun a' w'=>if h:∃n,q a' w' n then(least _ h).choose else 0) ⟨μ x0,(hqi _ _ _).2 ⟨x0,C,A,F,hx,rfl,yc,h0 C a w gm,by rw [hk];exact hj⟩⟩ ?_;rintro a' w' hex;have hl:=(least _ hex).choose_spec;obtain⟨x,C',A',F',hok,hμ,yc',g',hj'⟩:=(hqi _ _ _).1 hl.1;refine wpIn_mono (round x hok C' A' F' a' w' yc' g' hj') ?_;rintro e a'' w'' ⟨s'',k'',g'',C'',A'',F'',r,yc'',gm'',hj''⟩;cases e with
 |normal=>obtain⟨rfl,y,hy,hle,hky,hlt⟩:=r;have hqy:q a'' w'' (μ y):=(hqi _ _ _).2 ⟨y,C'',A'',F'',hy,rfl,yc'',hle C'' _ _ gm'',by rw [hky];exact hj''⟩;refine⟨⟨μ y,hqy⟩,?_⟩;rw [dif_pos ⟨μ y,hqy⟩,dif_pos hex];have h1:=(least _ ⟨μ y,hqy⟩).choose_spec.2 (μ y) hqy;omega
 |_=>exact⟨s'',k'',g'',C'',A'',F'',r,yc'',gm'',hj''⟩
end
structure P6{P:Program}(N:Nat){es:List (List V)}(Y:v7 P es)(ops:Array Oper)(nx:Nat)(os:List Oper)(fo:Operand)(ar:Array Operand)(d:Nat)(y:Oper)(Q:Exit->S->Nat->Bool->Prop)(k:Nat)(tm:Nat->V)(σ:Nat->Option Ob):Prop where
  hg:dF ops tm y=some true
  hu:((fo::ar.toList).all fun x=>Re (ev tm x))=true
  hf:ug (ev tm fo)= .c (.func (.yield Y.l) #[] #[])
  hv:∃v,es[k]?=some v/\A2 (ar.toList.map fun x=>ug (ev tm x)) v
  b5:V.bq (ar.toList.map fun x=>ug (ev tm x))=true
  t:∀C:Cx P N,C.F=Fence.wide->C.dfs=pz->bB C ops nx os (bL tm d (.b true)) σ [] fun tm' σ' _=>Q .normal ⟨tm',σ',nx+1⟩ (k+1) true
  f:∀C:Cx P N,C.F=Fence.wide->C.dfs=pz->bB C ops nx os (bL tm d (.b false)) σ [] fun tm' σ' _=>Q .normal ⟨tm',σ',nx+1⟩ k false
theorem pV{P:Program}{N:Nat}{es:List (List V)}{Y:v7 P es}{Q:Exit->S->Nat->Bool->Prop}{nx k:Nat}{ol:List Oper}(n:Nat){fo:Operand}{ar:Array Operand}{ats:Array TypeId}{d:Nat}{ty:TypeId}{pos:String}{af:Array Edge}{gd':Option (Nat×Bool)}
    (h1:∀o∈ol,∀t,o.dst=some t->t< N) (h2:(ol.filterMap (·.dst)).Nodup) (hy:ol[n]?=some ⟨some d,.call {callee:= .value fo,args:=ar,argTypes:=ats},ty,pos,af,gd'⟩){C:Cx P N}{A F:Nat->Prop}{w:World}(yc:zf C Y A F w) (hj:Y.J k true A F w)
    {tm1:Nat->V}{σ1:Nat->Option Ob}(ys:P6 N Y ol.toArray nx (ol.drop (n+1)) fo ar d ⟨some d,.call {callee:= .value fo,args:=ar,argTypes:=ats},ty,pos,af,gd'⟩ Q k tm1 σ1){a1:Act}{W1:World}{L1:Nat->Prop}{ρ1:Nat->Option Value}{fr1:Nat->Prop}
    (g1:qH C.W C.LB N C.dfs fr1 tm1 σ1 a1 W1 L1 ρ1) (q1:∀o∈ol.drop (n+1),∀t,o.dst=some t->∀id,nx*100000<=id->id% 1000=t->id< (nx+1)*100000->fr1 id) (q2:∀id,bU (nx+1) id->fr1 id) (t1:aZ C.W w W1) :
    wpOpIn Fence.wide 0 P ol.toArray (fun e a' w'=>∃(s':S) (k':Nat) (g':Bool) (C':Cx P N) (A' F':Nat->Prop),Q e s' k' g'/\zf C' Y A' F' w'/\Gm C' s' a' w'/\Y.J k' g' A' F' w') n (wpOpsIn Fence.wide 0 P ol.toArray (fun e a' w'=>∃(s':S) (k':Nat) (g':Bool) (C':Cx P N) (A' F':Nat->Prop),Q e s' k' g'/\zf C' Y A' F' w'/\Gm C' s' a' w'/\Y.J k' g' A' F' w') (List.range' (n+1) (ol.drop (n+1)).length)) a1 W1:=by
  have hn:n< ol.length:=(List.getElem?_eq_some_iff.1 hy).1
  obtain⟨y,hyd⟩:∃y:Oper,y=⟨some d,.call {callee:= .value fo,args:=ar,argTypes:=ats},ty,pos,af,gd'⟩:=⟨_,rfl⟩
  have hsp:ol=ol.take n++y::ol.drop (n+1):=by
    rw [hyd]
    have e1:ol.drop n=ol[n]::ol.drop (n+1):=List.drop_eq_getElem_cons hn
    have e2:ol[n]=_:=(List.getElem?_eq_some_iff.1 hy).2
    rw [<-e2,<-e1,List.take_append_drop]
  have hmem:∀o∈ol.take n++y::ol.drop (n+1),o∈ol:=fun o ho=>by rwa [<-hsp]at ho
  obtain⟨yc1,ta1⟩:=yc.later t1
  have hj1:=Y.hJ _ _ _ _ _ _ hj yc.A yc.B ta1
  obtain⟨A1,hA1⟩:∃A1:Nat->Prop,A1=fun b=>A b\/(w.heap.size<=b/\b< W1.heap.size):=⟨_,rfl⟩
  rw [<-hA1]at yc1 hj1
  -- all that is frozen is given up
  have hj2:=Y.hD _ _ _ _ (fun b=>A1 b/\L1 b) _ hj1 yc1.A (fun b hb=>hb.1)
  obtain⟨A2',hA2⟩:∃A2':Nat->Prop,∀b,A2' b<->A1 b/\¬(A1 b/\L1 b):=⟨_,fun _=>Iff.rfl⟩
  obtain⟨F2,hF2⟩:∃F2:Nat->Prop,∀b,F2 b<->F b\/(A1 b/\L1 b):=⟨_,fun _=>Iff.rfl⟩
  have hj2':Y.J k true A2' F2 W1:=by
    rw [show A2'=_ from funext fun b=>propext (hA2 b),show F2=_ from funext fun b=>propext (hF2 b)]
    exact hj2
  clear hj2
  have hAF2:∀b,A2' b\/F2 b->(Y.U b\/Y.B<=b)/\b< W1.heap.size:=fun b hb=>by
    rcases hb with hb |hb
    · exact yc1.A b (.inl ((hA2 b).1 hb).1)
    · rcases(hF2 b).1 hb with h |h
      · exact yc1.A b (.inr h)
      · exact yc1.A b (.inl h.1)
  obtain⟨v,hv,ha⟩:=ys.hv
  have hk:k< es.length:=(List.getElem?_eq_some_iff.1 hv).1
  have hargs:RV W1 L1 ρ0 v (ar.map a1.eval).toList:=by
    refine ha.rv (RV.free (ρ:=ρ1) ⟨by simp,fun i u x hu hx=> ?_⟩ ys.b5)
    simp only [List.getElem?_map,Option.map_eq_some_iff,Array.toList_map]at hu hx
    obtain⟨p,hp,rfl⟩:=hu
    obtain⟨q,hq,rfl⟩:=hx
    rw [hp]at hq
    injection hq with hq
    subst hq
    exact(g1.tm.eval g1.g.gl p).ug (Io (List.all_eq_true.1 ys.hu p (List.mem_cons_of_mem _ (List.mem_of_getElem? hp))))
  have hLl:∀b,L1 b->Y.L0 b\/F2 b:=fun b hb=>by
    have:=g1.g.ll b hb
    rcases yc1.LB b this.2 with h |h |h |h
    · exact .inl h
    · exact .inr ((hF2 b).2 (.inl h))
    · exact .inr ((hF2 b).2 (.inr ⟨h,hb⟩))
    · omega
  obtain⟨fn,tmps,assign,body,hyr,hR⟩:=Y.hY k (ar.map a1.eval) A2' F2 W1 hk ⟨v,hv,hargs.mono (fun b hb=>⟨hLl b hb,rfl⟩) fun _ _ h=>h⟩ hAF2 yc1.B hj2'
  have hfe:a1.eval fo= .func (.yield Y.l) #[] #[]:=by
    have:=(g1.tm.eval g1.g.gl fo).ug (Io (List.all_eq_true.1 ys.hu fo (List.mem_cons_self ..)))
    rw [ys.hf]at this
    exact this.aL
  have ho:ol.toArray[n]?=some y:=by simp [hy,hyd]
  unfold wpOpIn
  rw [ho]
  simp only
  have hwt:Region.wanted y (yielded ol.toArray a1.tmps)=true:=by rw [hyd];exact nR g1.tm ys.hg
  rw [if_pos hwt]
  refine⟨fun f _=>trivial,?_⟩
  have hrun:(y.semAt Fence.wide.round a1.eval).run P W1= .ok (.round Y.l fn tmps assign body) W1:=by
    rw [Oper.semAt_eq _ _ _ (fun c e=>by rw [hyd]at e;cases e),hyd]
    simp [execOp,resolve,Deferred.ofValue,invoke,hfe,hyr]
  rw [hrun,Oper.uponIn_round]
  refine⟨fun e=>by simp [Fence.wide]at e,hR.mono ?_⟩
  rintro e W2 ⟨b,rfl,ht2,j1,j2⟩
  have hyd2:y.dst=some d:=by rw [hyd]
  have hdN:d< N:=h1 y (hmem y (by simp)) d hyd2
  obtain⟨C2,c1,c2,c3,c4⟩:∃C2:Cx P N,C2.W=(fun b=>A2' b\/W2.heap.size<=b)/\C2.LB=(fun b=>Y.L0 b\/F2 b\/A2' b\/W2.heap.size<=b)/\C2.dfs=C.dfs/\C2.F=Fence.wide:=
    ⟨⟨fun b=>A2' b\/W2.heap.size<=b,fun b=>Y.L0 b\/F2 b\/A2' b\/W2.heap.size<=b,fun b h=> .inr (.inr h),C.dfs,C.mx,Fence.wide,.inl rfl⟩,rfl,rfl,rfl,rfl⟩
  have yc2:zf C2 Y A2' F2 W2:=⟨c4,c3.trans yc.d,fun b=>by rw [c1],fun b hb=>by rw [c2]at hb;exact hb,fun b hb=>⟨(hAF2 b hb).1,Nat.lt_of_lt_of_le (hAF2 b hb).2 ht2.size⟩,Nat.le_trans yc1.B ht2.size⟩
  have ex:Ext W1 L1 ρ1 W2 L1 ρ1:=⟨fun b hb=>⟨hb,ht2.block b (g1.g.ll b hb).1 fun hc=>(hLl b hb).elim hc.2.1 hc.2.2⟩,fun _ _ h=>h⟩
  have inA:∀b,b< W1.heap.size->C.W b->¬L1 b->A2' b:=fun b hb hW hl=>by
    rcases(yc1.W b).1 hW with h |h
    · exact(hA2 b).2 ⟨h,fun h=>hl h.2⟩
    · omega
  have gb:∀z:Bool,z=b->qH C2.W C2.LB N C2.dfs fr1 (bL tm1 d (.b z)) σ1 (a1.put y.dst (.bool b)) W2 L1 ρ1:=by
    rintro z rfl
    rw [hyd2,c1,c2,c3]
    refine⟨⟨fun b hb=>⟨Nat.lt_of_lt_of_le (g1.g.ll b hb).1 ht2.size,?_⟩,fun b hb=>⟨.inr hb,.inr (.inr (.inr hb))⟩,fun id o ho=> ?_,g1.g.sep,g1.g.rH ex⟩,g1.fr,(show TM (eO tm1 (some d) (V.b z)) _ _ _ _ from(g1.tm.ext ex).put (fun t ht=>by injection ht with ht;rw [<-ht,g1.size];exact hdN) (.c _ _)),by simp [Act.put,g1.size],?_,g1.pin⟩
    · rcases hLl b hb with h |h
      · exact .inl h
      · exact .inr (.inl h)
    · have hr1:=g1.g.ob id o ho
      obtain⟨u,hu,hu2⟩:=hr1.lt
      refine hr1.ua ex fun x j hx hj=> ?_
      rw [hx]at hu;injection hu with hu;subst hu
      have hA:=inA j (hu2 j hj).1 (hu2 j hj).2.1 (hu2 j hj).2.2
      exact⟨ht2.block j (hu2 j hj).1 fun hc=>hc.1 hA,(hu2 j hj).2.2,.inl hA⟩
    · obtain⟨Es,p1,p2,p3⟩:=g1.defers
      refine⟨Es,p1,p2,fun D hD=> ?_⟩
      have hlt:=(Array.getElem?_eq_some_iff.1 (p3 D hD).1).1
      have hA:=inA D hlt (p3 D hD).2.1 (p3 D hD).2.2
      exact⟨(ht2.block D hlt fun hc=>hc.1 hA).trans (p3 D hD).1,.inl hA,(p3 D hD).2.2⟩
  have hnd:((ol.drop (n+1)).filterMap (·.dst)).Nodup:=by
    rw [hsp,List.filterMap_append,List.filterMap_cons,hyd2]at h2
    exact(List.nodup_cons.1 (List.nodup_append.1 h2).2.1).2
  have tail:∀(z:Bool) (k':Nat),z=b->Y.J k' z A2' F2 W2->bB C2 ol.toArray nx (ol.drop (n+1)) (bL tm1 d (.b z)) σ1 [] (fun tm' σ' _=>Q .normal ⟨tm',σ',nx+1⟩ k' z)->
      wpOpsIn Fence.wide 0 P ol.toArray (fun e a' w'=>∃(s':S) (k':Nat) (g':Bool) (C':Cx P N) (A' F':Nat->Prop),Q e s' k' g'/\zf C' Y A' F' w'/\Gm C' s' a' w'/\Y.J k' g' A' F' w') (List.range' (n+1) (ol.drop (n+1)).length) (a1.put y.dst (.bool b)) W2:=by
    intro z k' hz hj' hA
    obtain⟨tr2,tm2,σ2,h4,hq⟩:=hA.run
    refine yq (P:=P) (W:=C2.W) (LB:=C2.LB) (ops:=ol.toArray) (nx:=nx) (N:=N) (dfs:=C2.dfs) (.inl rfl) (by simpa using h1) (ol.drop (n+1)) (n+1) tr2 _ tm2 _ σ2 _ W2 W2 L1 ρ1 fr1 (fun j=>by simp) h4 (gb z hz) q1 q2 hnd (aZ.refl _ _) fun a' w' L' ρ' g' t'=> ?_
    obtain⟨y1,y2⟩:=yc2.later t'
    exact⟨⟨tm2,σ2,nx+1⟩,k',z,C2,_,_,hq,y1,⟨L',ρ',g'⟩,Y.hJ _ _ _ _ _ _ hj' yc2.A yc2.B y2⟩
  cases b with
  |true=>exact tail true (k+1) rfl (j1 rfl) (ys.t C2 c4 (c3.trans yc.d))
  |false=>exact tail false k rfl (j2 rfl) (ys.f C2 c4 (c3.trans yc.d))
theorem mE{P:Program}{N:Nat}{es:List (List V)}{Y:v7 P es}{Q:Exit->S->Nat->Bool->Prop}{id nx k:Nat}{ol:List Oper}{tm:Nat->V}{σ:Nat->Option Ob}(n:Nat){fo:Operand}{ar:Array Operand}{ats:Array TypeId}{d:Nat}{ty:TypeId}{pos:String}{af:Array Edge}{gd':Option (Nat×Bool)} (hok:fK N ol=true) (hy:ol[n]?=some ⟨some d,.call {callee:= .value fo,args:=ar,argTypes:=ats},ty,pos,af,gd'⟩) (h:∀C:Cx P N,C.F=Fence.wide->C.dfs=pz->bB C ol.toArray nx (ol.take n) tm σ [] fun tm1 σ1 _=>P6 N Y ol.toArray nx (ol.drop (n+1)) fo ar d ⟨some d,.call {callee:= .value fo,args:=ar,argTypes:=ats},ty,pos,af,gd'⟩ Q k tm1 σ1):fH N Y (.region id ol.toArray false) Q ⟨tm,σ,nx⟩ k true:=by
 intro C A F a w yc ⟨L,ρ,g⟩ hj;obtain⟨h1,h2⟩:=iA hok;obtain⟨tr,tm1,σ1,h3,ys⟩:=(h C yc.fw yc.d).run;have hn:n< ol.length:=(List.getElem?_eq_some_iff.1 hy).1;obtain⟨y,hyd⟩:∃y:Oper,y=⟨some d,.call {callee:= .value fo,args:=ar,argTypes:=ats},ty,pos,af,gd'⟩:=⟨_,rfl⟩;have hsp:ol=ol.take n++y::ol.drop (n+1):=by rw [hyd];have e1:ol.drop n=ol[n]::ol.drop (n+1):=List.drop_eq_getElem_cons hn;have e2:ol[n]=_:=(List.getElem?_eq_some_iff.1 hy).2;rw [<-e2,<-e1,List.take_append_drop]
 refine wpIn_region ?_;have hsz:ol.toArray.size=(ol.take n).length+(y::ol.drop (n+1)).length:=by simp;omega
 rw [List.range_eq_range',hsz];have hmem:∀o∈ol.take n++y::ol.drop (n+1),o∈ol:=fun o ho=>by rwa [<-hsp]at ho
 refine Cw (P:=P) (W:=C.W) (LB:=C.LB) (ops:=ol.toArray) (nx:=nx) (N:=N) (dfs:=C.dfs) (.inl rfl) (by simpa using h1) (y::ol.drop (n+1)) (ol.take n) 0 tr tm tm1 σ σ1 a w w L ρ (bU nx) (fun j=>by rw [<-hsp];simp) h3 g (fun o ho t ht id h5 h6 h7=>h5) (fun id hid=>e7 hid) (by rw [<-hsp];exact h2) (aZ.refl _ _) ?_;intro a1 W1 L1 ρ1 fr1 g1 q1 q2 t1;rw [Nat.zero_add,List.length_take,Nat.min_eq_left (Nat.le_of_lt hn),List.length_cons,List.range'_succ,wpOpsIn_cons];exact pV n h1 h2 hy yc hj ys g1 (fun o ho=>q1 o (by simp [ho])) q2 t1
theorem qM{T:List TI}{P:Program}(hT:aJ T P)(hmx:P.follows .mixedOrders=true){f:FuncId}{fn:Func}{c:Code}{N:Nat}(hk:qG P f fn c N)(hres:fn.results= #[]){caps:List V}{ins:List Ob}{es:List (List V)}(hargs:caps.length+1<=N)
    (h:∀Y:v7 P es,fH N Y c (tM es.length) ⟨fun t=>((V.c (.func (.yield Y.l) #[] #[]))::caps).getD t .any,eW ins,1⟩ 0 true) (hn:ins.length<=400):CK P f caps ins es:=by
  refine⟨hk.call,fun L U w ρ lb hL hU hgl hobs hsep hnone hlb=> ?_⟩
  intro l J W hsz hLW hl hlW hJ hD hY h0
  obtain⟨C,cW,cLB,cd,cF⟩:∃C:Cx P N,C.W=(fun b=>U b\/W.heap.size<=b)/\C.LB=(fun b=>L b\/False\/U b\/W.heap.size<=b)/\C.dfs=pz/\C.F=Fence.wide:=⟨⟨fun b=>U b\/W.heap.size<=b,fun b=>L b\/False\/U b\/W.heap.size<=b,fun b h=> .inr (.inr h),pz,hmx,Fence.wide,.inl rfl⟩,rfl,rfl,rfl,rfl⟩
  obtain⟨Y,yl,yJ,yL,yU,yB⟩:∃Y:v7 P es,Y.l=l/\Y.J=J/\Y.L0=L/\Y.U=U/\Y.B=W.heap.size:=
    ⟨⟨l,J,L,U,W.heap.size,hY,hJ,hD,fun b hb=>Nat.lt_of_lt_of_le (hb.elim (hL b) fun h=>(hU b h).1) hsz,fun b hb=>(hU b hb).2⟩,rfl,rfl,rfl,rfl,rfl⟩
  have yc:zf C Y U (fun _=>False) W:=⟨cF,cd,fun b=>by rw [cW],fun b hb=>by rw [cLB]at hb;rw [yL];exact hb,fun b hb=>by
    rcases hb with hb |hb
    · exact⟨.inl (by rw [yU];exact hb),Nat.lt_of_lt_of_le (hU b hb).1 hsz⟩
    · exact hb.elim,by rw [yB];exact Nat.le_refl _⟩
  have ew:Ext w L ρ W L ρ:=⟨fun b hb=>⟨hb,hLW b (.inl hb)⟩,fun _ _ h=>h⟩
  have hvs:RV W L ρ ((V.c (.func (.yield Y.l) #[] #[]))::caps) (#[Value.func (.yield l) #[] #[]]++lb).toList:=by
    have e1:(#[Value.func (.yield l) #[] #[]]++lb).toList=Value.func (.yield l) #[] #[]::lb.toList:=by simp
    rw [e1,yl]
    exact .cons (.c _ _) ⟨hlb.1,fun i u x hu hx=>(hlb.2 i u x hu hx).ext ew⟩
  generalize hargsL:((V.c (.func (.yield Y.l) #[] #[]))::caps)=args at hvs
  generalize (#[Value.func (.yield l) #[] #[]]++lb)=vs at hvs
  have hal:args.length=caps.length+1:=by rw [<-hargsL];simp
  have hvl:vs.size=args.length:=by have:=hvs.1;simpa using this.symm
  refine callsIn_of_wp_marks (n:=0) hk.hf hk.hb trivial ?_ rfl
  have hw:=h Y
  rw [hargsL]at hw
  have hobj:∀id o,eW ins id=some o->500<=id/\id< 500+ins.length/\ins[id- 500]?=some o:=fun id o ho=>by
    unfold eW at ho
    split at ho
    · have:=(List.getElem?_eq_some_iff.1 ho).1
      exact⟨by omega,by omega,ho⟩
    · cases ho
  have hfrs:∀id,bU 1 id->ρ id=none:=fun id hid=>hnone id (by unfold bU at hid;omega)
  refine wpIn_mono (hw C _ _ _ W yc ⟨L,ρ,⟨⟨fun b hb=>⟨Nat.lt_of_lt_of_le (hL b hb) hsz,by rw [cLB];exact .inl hb⟩,fun b hb=>⟨by rw [cW];exact .inr hb,by rw [cLB];exact .inr (.inr (.inr hb))⟩,(fun id o ho=> ?_),fun i j x y k hij _ _=>hsep i j x y k hij,fun g=>(hgl g).mono (fun b hb=>⟨hb,hLW b (.inl hb)⟩) fun _ _ h=>h⟩,hfrs,fun t=> ?_,?_,?_,fun id x hp=>by rw [cd]at hp;cases hp⟩⟩ ?_) ?_
  · obtain⟨h1,h2,h3⟩:=hobj id o ho
    have h4:=hobs _ _ h3
    rw [show 500+(id- 500)=id by omega]at h4
    have h5:Real C.W w L ρ id o:=h4.wider fun b hb=>by rw [cW];exact .inl hb
    refine h5.keep ew fun x k hx hk=> ?_
    obtain⟨y,hy,hb⟩:=h4.lt
    rw [hx]at hy;injection hy with hy;subst hy
    obtain⟨q1,q2,q3⟩:=hb k hk
    exact⟨hLW k (.inr q2),q3⟩
  · by_cases ht:t< args.length
    · have h1:args[t]?=some args[t]:=List.getElem?_eq_getElem ht
      obtain⟨x,hx,hr⟩:=hvs.get h1
      have e1:args.getD t .any=args[t]:=by simp [List.getD_eq_getElem?_getD,h1]
      have e2:(vs++Array.replicate (fn.ntmps- vs.size) undef).getD t undef=x:=by
        rw [Array.getD_eq_getD_getElem?,Array.getElem?_append_left oM]
        have:vs[t]?=some x:=by simpa using hx
        rw [this];rfl
      show Go.Ab.R W L ρ (args.getD t .any) _
      rw [e1,e2];exact hr
    · have e1:args.getD t .any= .any:=by simp [List.getD_eq_getElem?_getD,List.getElem?_eq_none (Nat.le_of_not_lt ht)]
      show Go.Ab.R W L ρ (args.getD t .any) _
      rw [e1];exact .any _ _
  · have:=hk.hn
    simp;omega
  · exact⟨[],by rw [cd];rfl,by simp,by simp⟩
  · rw [yJ];exact h0
  · rintro e a' w' ⟨s',k,g,C',A',F',⟨he,hg1,hg2⟩,yc',⟨L',ρ',g'⟩,hj⟩
    obtain⟨Ds,d1,d2,d3⟩:=g'.defers
    rw [yc'.d,show pz.tl=[]from rfl,List.append_nil]at d1
    refine jG Ds he d1 d2 (fun D hD=>(d3 D hD).1) fun w2 ht2=> ?_
    obtain⟨g2,e2⟩:=g'.g.marks ht2 d3
    obtain⟨x,hx,_⟩:=nO hT g2 (fun t=>(g'.tm t).ext e2) fn (v:= .tup []) (by rw [hres];rfl)
    have hj2:=Y.hJ k g A' F' _ _ hj yc'.A yc'.B (ht2.mono fun D hl hD=>by
      rcases(yc'.W D).1 (d3 D hD).2.1 with h |h
      · exact h
      · omega)
    rw [yJ]at hj2
    refine⟨x,hx,⟨x,rfl⟩,fun b=>A' b\/(w'.heap.size<=b/\b< w2.heap.size),F',fun b hb=> ?_,?_⟩
    rotate_left
    · cases g with
      |true=>
        have:=hg1 rfl;subst this
        exact .inl hj2
      |false=>exact .inr ⟨k,hg2 rfl,hj2⟩
    · rcases hb with hb |hb
      · have:=(yc'.A b (.inl hb)).1
        rw [yB,yU]at this;exact this
      · have:=yc'.B
        rw [yB]at this;exact .inr oM
section
variable {P:Program}{W LB:Nat->Prop}{d:Option Tmp}{ty:TypeId}{pos:String}{af:Array Edge}{gd:Option (Nat×Bool)}{ev:Operand->V}
theorem tC(w:World)(t ty elem:TypeId)(b k c:Nat)(cur:Array Value)(e:TypeId){i:TypeInfo}{z:Value}(hu:P.underlying t=some (.slice elem))(hi:P.info? elem=some i)(hz:i.zero=some z)(h1:z.cells= #[z])(ho:z.oneCell'=true) (hk:0< k) (hg:w.heap[b]?=some (.cells cur e (0,0))) (hfit:k<=cur.size) : (Builtin.clear_ #[t] ty #[.slice (some ⟨b,0,none⟩) k c]).run P w= .ok (.tuple #[]) (w.setRow b (List.replicate k z++cur.toList.drop k).toArray):=by
 have hst:=run_storeCells_at P b 0 e (List.replicate k z) 0 cur w hg (by simpa using hfit) (fun v hv=>by rw [(List.mem_replicate.1 hv).2];exact ho);simp only [Nat.zero_add,List.take_zero,List.nil_append,List.length_replicate]at hst;have hzc:(Builtin.zeroCells #[z] k).toList=List.replicate k z:=by
  have:∀i:Nat,[z][i% 1]?.getD default=z:=fun i=>by rw [Nat.mod_one];rfl
  simp [Builtin.zeroCells,this,List.map_const']
 obtain⟨k',rfl⟩:∃k',k=k'+1:=⟨k- 1,by omega⟩;simp [Builtin.clear_,run_underlying hu,zeroValue,typeInfo,hi,hz,h1];rw [hzc,hst];rfl
theorem Fq(t:Nat)(x:Operand){id e n k:Nat}{row:Nat->List V}{el:Nat}{i:TypeInfo}{z:Value}(he:c9 P t=some el)(hi:P.info? el=some i)(hz:i.zero=some z)(h1:z.cells= #[z])(ho:z.oneCell'=true) (hx:ev x= .osl id 1 0 k) (hkn:k<=n) : aS P W LB ⟨d,.call {callee:= .builtin .clear,args:= #[x],argTypes:= #[t]},ty,pos,af,gd⟩ ev .any [(id,.row e 1 n row)] [] [(id,some (.row e 1 n fun j=>if j< k then [.c z]else row j))]:=by
 intro σ w L ρ g hG hr hpre _;have h2:=hr x (by simp [Op.operands,Call.operands]);rw [hx]at h2;have hσ:=hpre _ (List.Mem.head _);obtain⟨b,m,c,c2,A,eg,hc2,hρ,hA⟩:=h2.Cf;by_cases hk0:k=0
 ·subst hk0;have hu:=bF he;have e1:(fun j=>if j< 0 then [V.c z]else row j)=row:=by funext j;simp
  rw [e1];have hup:bz σ [(id,some (Ob.row e 1 n row))]=σ:=by
   funext j;by_cases hj:j=id;·subst hj;rw [show bz σ [(j,some (Ob.row e 1 n row))]=bL σ j (some (Ob.row e 1 n row))from rfl,an];exact hσ.symm
   ·rw [show bz σ [(id,some (Ob.row e 1 n row))]=bL σ id (some (Ob.row e 1 n row))from rfl,ag _ _ hj]
  refine aW.value rfl (v:= .tuple #[]) (w':=w) ?_ ⟨L,ρ,by rw [hup];exact hG,.any _ _,aZ.refl _ _,Ext.refl _ _ _,fun _ _=>rfl,dA.refl _ _⟩;cases A <;> simp [execOp,resolve,invoke,builtin,eg,Builtin.clear_,run_underlying hu]
 ·have hkp:0< k:=by omega
  have hA:=hA hkp;subst hA;rw [Nat.zero_mul]at eg;obtain⟨xs,cur,hvs,hW,hL,hh,hnc,hcm,hcs,htk,hsz',hl'⟩:=sn hG hρ hσ;subst hvs;have hrun:=tC (P:=P) w t ty el b k c2 cur e (bF he) hi hz h1 ho hkp hh oM;generalize hnew:(List.replicate k z++cur.toList.drop k).toArray=new at hrun;have hnl:new.size=cur.size:=by rw [<-hnew];simp;omega
  have hxl:xs.length=m*1:=by rw [<-htk];simp;omega
  obtain⟨hG',ex⟩:=hG.put (σ1:=σ) (ρ':=ρ) (bR w b new) (by rintro k hk;injection hk with hk;subst hk;exact⟨hW,hL⟩) id _ (.row e 1 m fun j=>if j< k then [.c z]else row j)
   (fun j ob hj ho=>⟨ho,fun z hz k hk hkz=>by
    injection hk with hk;subst hk;exact hG.sep j id z _ b hj (by rw [ho];simp) (by rw [hσ];simp) hz hρ hkz rfl⟩) (fun _ _=>rfl) hρ (.inr hρ) (fun k hk=> .inl (by simpa [blk]using hk)) (fun ex=>by
     refine⟨_,List.replicate k z++xs.drop k,hρ,?_,?_,?_,fun k hk=>by simp [blk]at hk;subst hk;exact⟨hW,hL⟩⟩;·refine⟨by simp;omega,.inr ⟨b,c,new,by simp,Nat.zero_le _,setRow_heap w b cur _ e (0,0) hh,by simpa using hnc,hcm,by rw [hnl];exact hcs,?_⟩⟩;rw [<-hnew,<-htk];simp only;rw [List.take_append,List.drop_take,List.take_of_length_le (by simp;omega),List.length_replicate]
     ·intro j hj;by_cases hji:j< k;·simp only [hji,if_true];rfl
      ·simp only [hji,if_false];exact hsz' j hj
     ·have hq:∀j,j< m->(if j< k then [V.c z]else row j).length=1:=fun j hj=>by
       by_cases hji:j< k;·simp only [hji,if_true];rfl
       ·simp only [hji,if_false];exact hsz' j hj
      refine⟨?_,fun i u y hu' hz'=> ?_⟩;·rw [cB (sz:=1) (cc hq),bJ];simp;omega
      ·have hi:i< m:=by have:=(List.getElem?_eq_some_iff.1 hz').1;simp at this;omega
       rw [BO m _ hq i hi]at hu';by_cases hik:i< k;·simp only [hik,if_true]at hu';rw [List.getElem?_append_left (by simpa using hik),List.getElem?_replicate,if_pos hik]at hz';simp at hu' hz';subst hu' hz';exact⟨.c _ _,ho⟩
       ·simp only [hik,if_false]at hu';rw [List.getElem?_append_right (by simp;omega),List.getElem?_drop,List.length_replicate,show k+(i- k)=i by omega]at hz';have:=hl'.2 i u y (by rw [BO m row hsz' i hi];exact hu') hz';exact⟨this.1.ext ex,this.2⟩)
  refine aW.value rfl (v:= .tuple #[]) (w':=w.setRow b new) ?_ ⟨L,ρ,hG',.any _ _,cn (bR w b _) (by rintro k hk;injection hk with hk;subst hk;exact⟨hW,hL⟩),ex,fun _ _=>rfl,dA.grown (bR w b _) (by rintro k hk;injection hk with hk;subst hk;exact⟨_,_,_,hh⟩)⟩;simp [execOp,resolve,invoke,builtin,eg,hrun]
end
def Hy(ol:List Oper)(n:Nat):Bool:=(List.range ol.length).all fun i=>decide (i< n) || (List.range i).all fun j=>(reach ol ol.length [i]).contains j
def Ro(ol:List Oper)(n:Nat):Bool:=(ol.take n).all fun o=>match o.guard with
 |none=>true
 |some p=>decide (p.1< n)
theorem Ce{ol:List Oper}{n i:Nat}(h:Hy ol n=true)(hi:i< ol.length)(hn:n<=i){j:Nat}(hj:j< i):j∈reach ol ol.length [i]:=by unfold Hy at h;have:=List.all_eq_true.1 h i (List.mem_range.2 hi);simp only [Bool.or_eq_true,decide_eq_true_eq,List.all_eq_true,List.mem_range,List.contains_eq_mem]at this;exact(this.resolve_left oM) j hj
theorem ia{ol:List Oper}{listed:Array Bool}(hsz:listed.size=ol.length)(i:Nat):i∈Region.ready .any ol.toArray listed<->(∃o,ol[i]?=some o/\listed.getD i false=false/\∀j∈cy o,listed.getD j false=true):=by
 simp only [Region.ready,List.mem_filter,List.mem_range,List.size_toArray,Bool.and_eq_true,Bool.not_eq_true',List.getElem?_toArray];constructor
 ·rintro⟨hi,h1,h2⟩;have hi':i< listed.size:=by omega
  rw [List.getElem?_eq_getElem hi]at h2;refine⟨ol[i],List.getElem?_eq_getElem hi,?_,fun j hj=> ?_⟩;·simp only [Array.getD_eq_getD_getElem?,Array.getElem?_eq_getElem hi',Option.getD_some]at h1 ⊢;exact h1
  ·simp only [Option.map_some,Option.getD_some,Array.all_eq_true_iff_forall_mem]at h2;simp only [cy,List.mem_map,List.mem_filter]at hj;obtain⟨e,⟨he,hb⟩,rfl⟩:=hj;have:=h2 e (by simpa using he);rw [hb]at this;simpa using this
 ·rintro⟨o,ho,h1,h2⟩;have hi:=(List.getElem?_eq_some_iff.1 ho).1;have hi':i< listed.size:=by omega
  refine⟨hi,?_,?_⟩;·simp only [Array.getD_eq_getD_getElem?,Array.getElem?_eq_getElem hi',Option.getD_some]at h1 ⊢;exact h1
  ·rw [ho];simp only [Option.map_some,Option.getD_some,Array.all_eq_true_iff_forall_mem];intro e he;cases hb:Region.binds .any e with
   |false=>simp
   |true=>simp only [Bool.not_true,Bool.false_or];exact h2 e.on (List.mem_map.2 ⟨e,List.mem_filter.2 ⟨by simpa using he,hb⟩,rfl⟩)
theorem ni{l:Array Bool}{i:Nat}(hi:i< l.size)(j:Nat):(l.setIfInBounds i true).getD j false=if j=i then true else l.getD j false:=by
 by_cases hji:j=i;·subst hji;simp [hi]
 ·simp [Ne.symm hji,hji]
theorem rf{ol:List Oper}{E:Nat->Prop}(h:jw ol E){i:Nat}{o:Oper}(ho:ol[i]?=some o)(ha:∀j∈cy o,E j):jw ol (fun j=>E j\/j=i):=by
 intro l ol' hol hE m hm;rcases hE with hE |rfl;·exact .inl (h l ol' hol hE m hm)
 ·rw [ho]at hol;injection hol with hol;subst hol;exact .inl (ha m hm)
theorem zg{F:Fence}{P:Program}{Q:Exit->Act->World->Prop}{ol:List Oper}{n:Nat}(hord:Hy ol n=true)(hafter:∀(i:Nat) o,ol[i]?=some o->∀j∈cy o,j< i) :
    ∀(fuel i:Nat) (listed:Array Bool) (a:Act) (w:World),n<=i->i+fuel=ol.length->listed.size=ol.length->(∀j,listed.getD j false=decide (j< i))->wpOpsIn F 0 P ol.toArray Q (List.range' i fuel) a w->
      wpAnyIn F 0 P .any ol.toArray Q fuel listed a w:=by
  intro fuel
  induction fuel with
  |zero=>
    intro i listed a w hn hl hsz hE h
    refine⟨List.eq_nil_iff_forall_not_mem.2 fun j hj=> ?_,h⟩
    obtain⟨o,ho,h1,_⟩:=(ia hsz j).1 hj
    have:=(List.getElem?_eq_some_iff.1 ho).1
    rw [hE,decide_eq_false_iff_not]at h1
    omega
  |succ fuel ih=>
    intro i listed a w hn hl hsz hE h
    rw [List.range'_succ,wpOpsIn_cons]at h
    have hcl:jw ol (fun j=>j< i):=fun l o ho hli j hj=>by
      have:=hafter l o ho j hj
      omega
    have hil:i< ol.length:=by omega
    refine⟨fun hnil=> ?_,fun j hj=> ?_⟩
    · exfalso
      have:i∈Region.ready .any ol.toArray listed:=(ia hsz i).2 ⟨ol[i],List.getElem?_eq_getElem hil,by rw [hE];simp,fun j hj=>by
        rw [hE];exact decide_eq_true (hafter i _ (List.getElem?_eq_getElem hil) j hj)⟩
      rw [hnil]at this
      simp at this
    · obtain⟨o,ho,h1,h2⟩:=(ia hsz j).1 hj
      have hjl:=(List.getElem?_eq_some_iff.1 ho).1
      rw [hE,decide_eq_false_iff_not]at h1
      have hji:j=i:=by
        rcases Nat.lt_or_ge i j with hlt |hge
        · have hr:=Ce hord hjl oM hlt
          have:=cA (rf hcl ho fun m hm=>by have:=h2 m hm;rw [hE,decide_eq_true_eq]at this;exact this) ol.length [j] (by simp) i hr
          rcases this with h |h <;> omega
        · omega
      subst hji
      refine wpOpIn_mono (fun a' w' hk=>ih (j+1) _ a' w' oM oM (by simpa using hsz) (fun m=> ?_) hk) h
      rw [ni oM,hE]
      by_cases hm:m=j
      · subst hm;simp
      · rw [if_neg hm]
        by_cases hlt:m< j
        · rw [decide_eq_true hlt,decide_eq_true oM]
        · rw [decide_eq_false hlt,decide_eq_false oM]
theorem Ba{F:Fence}{n:Nat}{P:Program}{Q Q':Exit->Act->World->Prop}(hQ:∀e a w,e≠ .normal->Q e a w->Q' e a w){o:Oper}{a:Act}{w:World}{K:Act->World->Prop}(hh:o.wpIn F n P a w K Q):o.wpIn F n P a w K Q':=by
 unfold Oper.wpIn at*;refine⟨hh.1,?_⟩;have hh:=hh.2;have hL:LetsOut Q->LetsOut Q':=fun⟨a,w,h⟩=>⟨a,w,hQ _ _ _ (by simp) h⟩;generalize (o.semAt F.round a.eval).run P w=r at*;cases r with
 |ok x w'=>
  cases x <;> simp only [Oper.uponIn]at hh ⊢ <;> first
    |exact hh
    |exact⟨hh.1,CallsIn.mono hh.2 (fun e w'' he=>by cases e <;> first |exact he |exact hQ _ _ _ (by simp) he |exact hL he)⟩
    |exact⟨hh.1,RoundIn.mono hh.2 (fun e w'' he=>by cases e <;> first |exact he |exact hQ _ _ _ (by simp) he |exact hL he)⟩
 |halt x w'=>cases x <;> simp only [Oper.uponIn]at hh ⊢ <;> first |exact hQ _ _ _ (by simp) hh |exact hh
def AY(F:Fence)(P:Program)(ol:List Oper)(n:Nat)(Q:Exit->Act->World->Prop):Exit->Act->World->Prop
 | .normal,a,w=>∀listed:Array Bool,listed.size=ol.length->(∀i,listed.getD i false=decide (i< n))->wpAnyIn F 0 P .any ol.toArray Q (ol.length- n) listed a w
 |e,a,w=>Q e a w
theorem CX{F:Fence}{P:Program}{Q:Exit->Act->World->Prop}{ol:List Oper}{n:Nat}(hord:Hy ol n=true)(hgd:Ro ol n=true)(hn:n< ol.length)(hafter:∀(i:Nat) o,ol[i]?=some o->∀j∈cy o,j< i) :
    ∀(fuel:Nat) (pre listed:Array Bool) (a:Act) (w:World),pre.size=n->listed.size=ol.length->(∀i,listed.getD i false=pre.getD i false)->pre.toList.count false=fuel->jw ol (fun j=>listed.getD j false=true)->
      wpAnyIn F 0 P .any (ol.take n).toArray (AY F P ol n Q) fuel pre a w->wpAnyIn F 0 P .any ol.toArray Q (fuel+(ol.length- n)) listed a w:=by
  intro fuel
  induction fuel with
  |zero=>
    intro pre listed a w hp hl he hc hcl h
    rw [Nat.zero_add]
    refine h.2 listed hl fun i=> ?_
    rw [he]
    by_cases hi:i< n
    · have hi':i< pre.size:=by omega
      rw [decide_eq_true hi,Array.getD_eq_getD_getElem?,Array.getElem?_eq_getElem hi',Option.getD_some]
      cases hb:pre[i]with
      |true=>rfl
      |false=>exact absurd (by rw [<-hb];simp) (List.count_eq_zero.1 hc)
    · rw [decide_eq_false hi,Array.getD_eq_getD_getElem?,Array.getElem?_eq_none oM];rfl
  |succ fuel ih=>
    intro pre listed a w hp hl he hc hcl h
    have hex:∃i,i< n/\pre.getD i false=false:=by
      have:false∈pre.toList:=List.count_pos_iff.1 oM
      obtain⟨i,hi,he'⟩:=List.getElem_of_mem this
      have hi':i< pre.size:=by simpa using hi
      exact⟨i,by omega,by rw [Array.getD_eq_getD_getElem?,Array.getElem?_eq_getElem hi',Option.getD_some];simpa using he'⟩
    rw [show fuel+1+(ol.length- n)=(fuel+(ol.length- n))+1 by omega]
    refine⟨fun hnil=> ?_,fun i hi=> ?_⟩
    · exfalso
      have key:∀m,∀i,i< m->i< n->pre.getD i false=false->False:=by
        intro m
        induction m with
        |zero=>intro i h;omega
        |succ m ihm=>
          intro i him hil hf
          have hil':i< ol.length:=by omega
          have:i∈Region.ready .any ol.toArray listed:=(ia hl i).2 ⟨ol[i],List.getElem?_eq_getElem hil',by rw [he];exact hf,fun j hj=>by
            have hji:=hafter i _ (List.getElem?_eq_getElem hil') j hj
            rw [he]
            cases hb:pre.getD j false with
            |true=>rfl
            |false=>exact(ihm j oM oM hb).elim⟩
          rw [hnil]at this
          simp at this
      obtain⟨i,hi,hf⟩:=hex
      exact key (i+1) i oM hi hf
    · obtain⟨o,ho,h1,h2⟩:=(ia hl i).1 hi
      have hil:=(List.getElem?_eq_some_iff.1 ho).1
      have hin:i< n:=by
        rcases Nat.lt_or_ge i n with hlt |hge
        · exact hlt
        · exfalso
          obtain⟨j,hj,hf⟩:=hex
          have hr:=Ce hord hil hge (show j< i by omega)
          rcases cA (rf hcl ho h2) ol.length [i] (by simp) j hr with h |h
          · rw [he,hf]at h;cases h
          · omega
      have hot:(ol.take n)[i]?=some o:=by rw [List.getElem?_take,if_pos hin];exact ho
      have hi':i∈Region.ready .any (ol.take n).toArray pre:=(ia (by rw [List.length_take];omega) i).2 ⟨o,hot,by rw [<-he];exact h1,fun j hj=>by rw [<-he];exact h2 j hj⟩
      have hs:=h.2 i hi'
      unfold wpOpIn at hs ⊢
      have e1:(ol.take n).toArray[i]?=some o:=by simpa using hot
      have e2:ol.toArray[i]?=some o:=by simpa using ho
      rw [e1]at hs
      rw [e2]
      simp only at hs ⊢
      have hw:Region.wanted o (yielded (ol.take n).toArray a.tmps)=Region.wanted o (yielded ol.toArray a.tmps):=by
        unfold Region.wanted
        cases hg:o.guard with
        |none=>rfl
        |some p=>
          obtain⟨j,b⟩:=p
          have hj:j< n:=by
            have:=List.all_eq_true.1 hgd o (List.mem_of_getElem? hot)
            rw [hg]at this
            simpa using this
          have hjl:j< ol.length:=by omega
          simp [yielded,List.getElem?_take,hj,hjl]
      rw [hw]at hs
      have hgo:∀a' w',wpAnyIn F 0 P .any (ol.take n).toArray (AY F P ol n Q) fuel (pre.setIfInBounds i true) a' w'->wpAnyIn F 0 P .any ol.toArray Q (fuel+(ol.length- n)) (listed.setIfInBounds i true) a' w':=fun a' w' hk=>by
        refine ih _ _ a' w' (by simpa using hp) (by simpa using hl) (fun m=> ?_) ?_ (fun l ol' hol hE m hm=> ?_) hk
        · rw [ni oM,ni oM,he]
        · rw [Array.toList_setIfInBounds,List.count_set (by simpa using (by omega:i< pre.size))]
          have hip:i< pre.size:=by omega
          have e3:pre.toList[i]'(by simpa using hip)=false:=by
            have:=h1
            rw [he,Array.getD_eq_getD_getElem?,Array.getElem?_eq_getElem hip,Option.getD_some]at this
            simpa using this
          rw [e3,hc];simp
        · have hE:(listed.setIfInBounds i true).getD l false=true:=hE
          show(listed.setIfInBounds i true).getD m false=true
          have hil2:i< listed.size:=by omega
          rw [ni hil2]at hE ⊢
          by_cases hmi:m=i
          · rw [if_pos hmi]
          · rw [if_neg hmi]
            by_cases hli:l=i
            · subst hli;rw [ho]at hol;injection hol with hol;subst hol;exact h2 m hm
            · rw [if_neg hli]at hE;exact hcl l ol' hol hE m hm
      split at hs
      · rename_i hwt
        rw [if_pos hwt]
        exact Ba (Q:=AY F P ol n Q) (fun e a' w' hne hq=>by cases e <;> first |exact absurd rfl hne |exact hq) (Oper.wpIn_mono hgo hs)
      · rename_i hwt
        rw [if_neg hwt]
        exact⟨hs.1,hgo _ _ hs.2⟩
def Of(ol:List Oper):Bool:=(List.range ol.length).all fun i=>match ol[i]? with
 |some o=>(cy o).all fun j=>decide (j< i)
 |none=>true
theorem IU{ol:List Oper}(h:Of ol=true)(i:Nat)(o:Oper)(ho:ol[i]?=some o)(j:Nat)(hj:j∈cy o):j< i:=by have:=List.all_eq_true.1 h i (List.mem_range.2 (List.getElem?_eq_some_iff.1 ho).1);simp only [ho]at this;simpa using List.all_eq_true.1 this j hj
theorem wS{P:Program}{N:Nat}{es:List (List V)}{Y:v7 P es}{Q:Exit->S->Nat->Bool->Prop}{id nx k:Nat}{ol:List Oper}{tm:Nat->V}{σ:Nat->Option Ob}(n:Nat){fo:Operand}{ar:Array Operand}{ats:Array TypeId}{d:Nat}{ty:TypeId}{pos:String}{af:Array Edge}{gd':Option (Nat×Bool)} (hok:fK N ol=true) (hy:ol[n]?=some ⟨some d,.call {callee:= .value fo,args:=ar,argTypes:=ats},ty,pos,af,gd'⟩) (hord:(Hy ol n && (Ro ol n && Of ol))=true) (h:∀C:Cx P N,C.F=Fence.wide->C.dfs=pz->bB C (ol.take n).toArray nx (ol.take n) tm σ [] fun tm1 σ1 ks=>fB (ol.take n) ks=true/\P6 N Y ol.toArray (nx+1) (ol.drop (n+1)) fo ar d ⟨some d,.call {callee:= .value fo,args:=ar,argTypes:=ats},ty,pos,af,gd'⟩ Q k tm1 σ1):fH N Y (.region id ol.toArray true) Q ⟨tm,σ,nx⟩ k true:=by
 intro C A F a w yc ⟨L,ρ,g⟩ hj;simp only [Bool.and_eq_true]at hord;obtain⟨ho1,ho2,ho3⟩:=hord;have haf:=IU ho3;obtain⟨h1,h2⟩:=iA hok;obtain⟨tr,tm1,σ1,h3,hk,ys⟩:=(h C yc.fw yc.d).run;have hn:n< ol.length:=(List.getElem?_eq_some_iff.1 hy).1;rw [<-yc.fw];refine wpIn_region_any C.mx ?_;rw [List.nil_append]at hk;have hb:Below w.heap.size w {w with drawn:=w.drawn+1}:=⟨rfl,rfl,rfl,Nat.le_refl _,fun _ _=>rfl⟩;have hq:=g.g.quiet hb (L':=L) (fun _ h=>h) (fun _ h=> .inl h);have hall:∀m j,¬(Array.replicate m false).getD j false=true:=by intro m j;simp only [Array.getD_eq_getD_getElem?,Array.getElem?_replicate];split <;> simp
 have hfl:∀m j,(Array.replicate m false).getD j false=false:=fun m j=>by
  cases hc:(Array.replicate m false).getD j false with
  |false=>rfl
  |true=>exact absurd hc (hall m j)
 have hsz:ol.toArray.size=n+(ol.length- n):=by simp;omega
 have hsz2:ol.toArray.size=ol.length:=by simp
 rw [hsz2,show ol.length=n+(ol.length- n) by omega];have e0:n+(ol.length- n)=ol.length:=by omega
 refine CX ho1 ho2 hn haf n (Array.replicate n false) _ a _ (by simp) (by simp [e0]) (fun i=>by rw [hfl,hfl]) (by simp) (fun i o _ hE=>absurd hE (hall _ i)) ?_;have hmem:∀o∈ol.take n,o∈ol:=fun o ho=>List.mem_of_mem_take ho;have hlen:(ol.take n).length=n:=by rw [List.length_take];omega
 refine Cv (P:=P) (W:=C.W) (LB:=C.LB) (nx:=nx) (N:=N) (dfs:=C.dfs) rfl C.hF (fun o ho=>h1 o (hmem o ho)) h3 (pN h3.at_.1 hk) (w0:=w) (fun a1 W1 L1 ρ1 g1 t1=> ?_) _ _ a _ L ρ tm σ (bU nx) (by simp [hlen]) (by simp) (fun i o ho hE=>absurd hE (hall _ i))
  ⟨fun t _=>rfl,fun j o e t _ _ hE=>absurd hE (hall _ j)⟩ ⟨fun k _=>rfl,fun j e k _ hE=>absurd hE (hall _ j)⟩ ⟨hq.1,g.fr,g.tm.ext hq.2,g.size,g.defers,g.pin⟩ (fun i o ho _ t ht id h5 h6 h7=>h5) (fun id hid=>e7 hid) (aZ.ja hb)
 intro listed hl hE;refine zg ho1 haf _ n listed a1 W1 (Nat.le_refl _) oM hl hE ?_;rw [show ol.length- n=(ol.drop (n+1)).length+1 by rw [List.length_drop];omega,List.range'_succ,wpOpsIn_cons,yc.fw];exact pV n h1 h2 hy yc hj ys g1 (fun o ho t ht id h5 h6 h7=>h5) (fun id hid=>e7 hid) t1
def Cc(ops:List Oper)(ks:List (List Nat×List Nat)):Bool:=
 let ds:=ops.map (·.dst)
 let n:=ops.length
 decide ((ops.filterMap (·.dst)).Nodup) &&
 (List.range n).all (fun i=>match ops[i]? with
  |some o=>(cy o).all (· < i) &&
   (List.range n).all (fun j=>j == i || match (ds[j]?).bind id with
    |some t=> !(looks ds o).contains t || (cy o).contains j || (reach ops n [j]).contains i
    |none=>true) &&
   (match ks[i]? with
    |some (wi,fi)=>(wi.isEmpty && fi.isEmpty) || ((List.range n).all fun j=>match ks[j]? with
     |some (wj,fj)=>i == j || ((reach ops n [i]).contains j || (reach ops n [j]).contains i) || (wj.isEmpty && fj.isEmpty) || (wi.all (fun k=> !fj.contains k) && wj.all (fun k=> !fi.contains k))
     |none=>true)
    |none=>true)
  |none=>true)
theorem Ak{ops:List Oper}{ks:List (List Nat×List Nat)}(h:Cc ops ks=true):fB ops ks=true:=by
 unfold Cc at h;unfold fB;simp only [Bool.and_eq_true,List.all_eq_true,List.mem_range]at h ⊢;refine⟨h.1,fun i hi=> ?_⟩;have h2:=h.2 i hi;split at h2
 ·rename_i o ho;rw [ho];simp only [Bool.and_eq_true]at h2 ⊢;refine⟨h2.1,?_⟩;have h3:=h2.2;split at h3
  ·rename_i wi fi hk;rw [hk];simp only [Bool.or_eq_true,List.all_eq_true,List.mem_range]at h3 ⊢;rcases h3 with h3 |h3;·exact .inl h3
   ·refine .inr fun j hj=> ?_;have h4:=h3 j hj;split at h4
    ·rename_i wj fj hkj;rw [hkj];simp only [Bool.or_eq_true]at h4 ⊢;rcases h4 with((h4 |h4) |h4) |h4;·exact .inl (.inl (.inl h4))
     ·rcases h4 with h4 |h4;·exact .inl (.inr h4)
      ·exact .inr h4
     ·refine .inl (.inl (.inr ?_));simp only [Bool.and_eq_true,List.isEmpty_iff]at h4;rw [h4.1,h4.2];simp
     ·exact .inl (.inl (.inr h4))
    ·rename_i hkj;rw [hkj]
  ·rename_i hk;rw [hk]
 ·rename_i ho;rw [ho]
def rK(p:Nat->Bool)(n:Nat):Int:=match (List.range n).find? p with |some i=>(i:Int) |none=> -1
theorem DV{p:Nat->Bool}{n i:Nat}(hi:i< n)(h:p i=true)(h0:∀j,j< i->p j=false):rK p n=i:=by have:(List.range n).find? p=some i:=List.find?_range_eq_some.2 ⟨h,by simpa using hi,by simpa using h0⟩;rw [rK,this]
theorem DU{p:Nat->Bool}{n:Nat}(h:∀j,j< n->p j=false):rK p n= -1:=by
 have:(List.range n).find? p=none:=by simpa using h
 rw [rK,this]
theorem GA{p:Nat->Bool}{n:Nat}:(rK p n= -1/\∀j,j< n->p j=false)\/∃i,i< n/\rK p n=i/\p i=true/\∀j,j< i->p j=false:=by
 cases h:(List.range n).find? p with
 |none=>exact .inl ⟨by rw [rK,h],by simpa using h⟩
 |some i=>obtain⟨h1,h2,h3⟩:=List.find?_range_eq_some.1 h;exact .inr ⟨i,by simpa using h2,by rw [rK,h],h1,by simpa using h3⟩
def s4:Nat->Nat->Nat
 |_,0=>1
 |0,_+1=>0
 |n+1,k+1=>s4 n k+s4 n (k+1)
theorem w8(n:Nat):s4 n 0=1:=by cases n <;> rfl
theorem qW(n k:Nat):s4 (n+1) (k+1)=s4 n k+s4 n (k+1):=rfl
theorem zE:∀(n k:Nat),n< k->s4 n k=0
 |0,k+1,_=>rfl
 |n+1,k+1,h=>by rw [qW,zE n k oM,zE n (k+1) oM]
theorem u0:∀(n k:Nat),s4 n k<=2 ^ n
 |0,0=>by decide
 |n+1,0=>by rw [w8];exact Nat.one_le_two_pow
 |0,k+1=>Nat.zero_le _
 |n+1,k+1=>by rw [qW,Nat.pow_succ];have:=u0 n k;have:=u0 n (k+1);omega
theorem FQ{n:Nat}(h:n<=50)(k:Nat):s4 n k<=1125899906842624:=Nat.le_trans (u0 n k) (Nat.le_trans (Nat.pow_le_pow_right (by decide) h) (by decide))
structure Mt where
  a:Nat
  b:Nat
  m:Int
def Mt.c(x:Mt):List V:=[.i x.a,.i x.b,.i x.m]
def AZ(x:List Int)(i:Nat):Int:=(x.drop i).sum
def NN(x:List Int):Prop:=∀v∈x,0<=v
theorem BQ{x:List Int}{i:Nat}(h:i< x.length):gi x i∈x:=by rw [gi,List.getD_eq_getElem?_getD,List.getElem?_eq_getElem h];exact List.getElem_mem _
theorem Ig{x:List Int}{i:Nat}(h:x.length<=i):AZ x i=0:=by rw [AZ,List.drop_eq_nil_of_le h];rfl
theorem qE{x:List Int}(h:NN x){i:Nat}(hi:0< AZ x i):i< x.length:=by
 rcases Nat.lt_or_ge i x.length with h1 |h1;·exact h1
 ·rw [Ig h1]at hi;omega
structure N2(u:Nat)(x y:List Int)(i k:Nat)(d:Int):Prop where
  nx:NN x
  ny:NN y
  d0:0<=d
  dx:d<=AZ x i
  dy:d<=AZ y k
  fu:0< d->(x.length- i)+(y.length- k)<=u
theorem N2.ix{u x y i k d}(h:N2 u x y i k d)(hd:0< d):i< x.length:=qE h.nx (by have:=h.dx;omega)
theorem N2.iy{u x y i k d}(h:N2 u x y i k d)(hd:0< d):k< y.length:=qE h.ny (by have:=h.dy;omega)
def OX(x y:List Int)(i k:Nat)(d:Int):Int:=min (min (gi x i) (gi y k)) d
theorem N2.n0{u x y i k d}(h:N2 u x y i k d)(hd:0< d):0<=OX x y i k d/\OX x y i k d<=d/\OX x y i k d<=gi x i/\OX x y i k d<=gi y k:=by have h1:=h.nx _ (BQ (h.ix hd));have h2:=h.ny _ (BQ (h.iy hd));unfold OX;omega
structure CO(u:Nat)(x y:List Int)(i k:Nat)(d:Int):Prop where
  nx:NN x
  ny:NN y
  d0:0<=d
  dx:d<=AZ x i
  dy:d<=AZ y k
  fu:(x.length- i)+(y.length- k)+d.toNat<=u
theorem CO.ix{u x y i k d}(h:CO u x y i k d)(hd:0< d):i< x.length:=qE h.nx (by have:=h.dx;omega)
theorem CO.iy{u x y i k d}(h:CO u x y i k d)(hd:0< d):k< y.length:=qE h.ny (by have:=h.dy;omega)
theorem CO.pos{u x y i k d}(h:CO u x y i k d)(hd:0< d):∃v,u=v+1:=⟨u- 1,by have:=h.fu;omega⟩
def tE(F:Nat->Nat->Nat):List V:=(List.range 2601).map fun j=>V.i (F (j / 51) (j% 51))
theorem vN(F:Nat->Nat->Nat):(tE F).length=2601:=by simp [tE]
theorem vO(g:Nat->Nat)(F:Nat->Nat->Nat):V.aV g (tE F)=tE F:=by kernel_rfl
theorem Kx(F:Nat->Nat->Nat):V.bq (tE F)=true:=by kernel_rfl
theorem Cz{F:Nat->Nat->Nat}{n k o:Nat}{x:Int}(hn:n< 51)(hk:k< 51)(ho:o=n*51+k)(hx:(F n k:Int)=x):(tE F)[o]?=some (V.i x):=by
 subst ho hx;have h1:(n*51+k) / 51=n:=by omega
 have h2:(n*51+k)% 51=k:=by omega
 have h3:n*51+k< 2601:=by omega
 simp [tE,h1,h2,h3]
theorem CA{F G:Nat->Nat->Nat}{n k:Nat}{x:Int}(hn:n< 51)(hk:k< 51)(hx:(G n k:Int)=x)(hG:∀a b,b< 51->¬(a=n/\b=k)->G a b=F a b):(tE F).set (n*51+k) (V.i x)=tE G:=by
 subst hx;refine List.ext_getElem (by simp [tE]) fun j h1 h2=> ?_;have hj:j< 2601:=by rw [vN]at h2;exact h2
 by_cases h:j=n*51+k
 ·subst h;have h1:(n*51+k) / 51=n:=by omega
  have h2:(n*51+k)% 51=k:=by omega
  simp [tE,h1,h2]
 ·rw [List.getElem_set_ne (Ne.symm h)];simp [tE];rw [hG _ _ oM oM]
def KH:V:= .ptr (tE s4)
def nP(n k a b:Nat):Nat:=if a< n\/a=n/\b< k then s4 a b else 0
end Go.Ab
