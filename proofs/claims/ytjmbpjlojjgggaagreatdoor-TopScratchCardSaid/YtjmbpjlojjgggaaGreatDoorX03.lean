/-
  Several texts in one: Ranges over functions whose rounds lay new memory, and hold it; the iterator writes to memory that it laid itself, or that it holds (U); what it hands out may hold memory, which it gives up for good (F). Conditions: told in each theorem. .. What a tip reads and sweeps (walls, read, Read, Sweep), and which tips and grooves are valid. Conditions: none of Read and Sweep but the sizes of their arguments.
-/
import Derived.Test.YtjmbpjlojjgggaaGreatDoorProg
import Derived.Deep.RegionWith
import Derived.Deep.DeepMust
import Derived.Deep.RegionLaw
import Derived.Test.YtjmbpjlojjgggaaGreatDoorX02
import Derived.Test.YtjmbpjlojjgggaaGreatDoorX01
import Derived.Test.YtjmbpjlojjgggaaGreatDoorMA
set_option maxRecDepth 100000
set_option maxHeartbeats 2000000
namespace Go.Dw
open Go.RowKit Go.Shelf
def Kn(P:Program)(f:FuncId)(lb:Array Value)(n:Nat)(E:Nat->(Nat->Prop)->Array Value->World->Prop)(L U:Nat->Prop)(w:World):Prop:=
  ∀(l:Nat) (J:Nat->Bool->(Nat->Prop)->(Nat->Prop)->World->Prop) (W:World),w.heap.size<=W.heap.size->(∀b,L b\/U b->W.heap[b]?=w.heap[b]?)->w.heap.size<=l->l< W.heap.size->
    (∀k g A F W1 W2,J k g A F W1->(∀b,A b\/F b->(U b\/W.heap.size<=b)/\b< W1.heap.size)->W.heap.size<=W1.heap.size->aZ A W1 W2->J k g (fun b=>A b\/(W1.heap.size<=b/\b< W2.heap.size)) F W2)->
    (∀k g A F (D:Nat->Prop) W1,J k g A F W1->(∀b,A b\/F b->(U b\/W.heap.size<=b)/\b< W1.heap.size)->(∀b,D b->A b)->J k g (fun b=>A b/\¬D b) (fun b=>F b\/D b) W1)->
    (∀k x A F W1,k< n->E k F x W1->(∀b,A b\/F b->(U b\/W.heap.size<=b)/\b< W1.heap.size)->W.heap.size<=W1.heap.size->J k true A F W1->YieldAt Fence.wide 0 P l x W1 fun e W2=>∃b:Bool,e= .returned (.bool b)/\aZ (fun i=>¬A i/\¬L i/\¬F i) W1 W2/\(b=true->J (k+1) true A F W2)/\(b=false->J k false A F W2))->
    J 0 true U (fun _=>False) W->
    CallsIn Fence.wide 0 P f (#[.func (.yield l) #[] #[]]++lb) W fun e W'=>(∃v,e= .returned v)/\∃A F:Nat->Prop,(∀b,A b->U b\/W.heap.size<=b)/\(J n true A F W'\/∃k,k< n/\J k false A F W')
def Eb(R:Nat->Prop)(J:Nat->(Nat->Prop)->(Nat->Prop)->World->Prop)(Jx:Nat->Code->(Nat->Prop)->(Nat->Prop)->World->Prop)(k:Nat)(A F:Nat->Prop)(W:World):Exit->Act->World->Prop
 | .normal,_,W'=>aZ R W W'/\J (k+1) A F W'
 | .ret,_,W'=>aZ R W W'/\Jx k .ret A F W'
 | .exit id,_,W'=>aZ R W W'/\Jx k (.exit id) A F W'
 | .goto t,_,W'=>aZ R W W'/\Jx k (.goto t) A F W'
 | .panic _,_,_=>False
 | .outgrown,_,_=>False
theorem Ew{P:Program}{g:Operand}{ps:Array Tmp}{assign body:Code}{Q:Exit->Act->World->Prop}{a:Act}{w:World}
    {gf:Nat}{lb:Array Value}(hg:a.eval g= .func (.func gf) #[] lb) (eg:∀args w,(callFunc gf args).run P w= .ok (.enter gf args) w)
    {n:Nat}{E:Nat->(Nat->Prop)->Array Value->World->Prop}{L U:Nat->Prop}(hit:Kn P gf lb n E L U w) (hL:∀i,L i\/U i->i< w.heap.size) (hps:∀k F x W,E k F x W->x.size=ps.size)
    (J:Nat->(Nat->Prop)->(Nat->Prop)->World->Prop) (Jx:Nat->Code->(Nat->Prop)->(Nat->Prop)->World->Prop)
    (hJ:∀k A F W1 W2,J k A F W1->(∀b,A b->U b\/w.heap.size<=b)->aZ A W1 W2->J k (fun b=>A b\/(W1.heap.size<=b/\b< W2.heap.size)) F W2)
    (hJx:∀k c A F W1 W2,Jx k c A F W1->(∀b,A b->U b\/w.heap.size<=b)->aZ A W1 W2->Jx k c (fun b=>A b\/(W1.heap.size<=b/\b< W2.heap.size)) F W2)
    (hD:∀k A F (D:Nat->Prop) W1,J k A F W1->(∀b,D b->A b)->J k (fun b=>A b/\¬D b) (fun b=>F b\/D b) W1)
    (hDx:∀k c A F (D:Nat->Prop) W1,Jx k c A F W1->(∀b,D b->A b)->Jx k c (fun b=>A b/\¬D b) (fun b=>F b\/D b) W1) (h0:J 0 U (fun _=>False) w)
    (hround:∀(l k:Nat) (x:Array Value) (A F:Nat->Prop) (W:World),(w.heap.size<=l/\A l)->(∀b,A b\/F b->(U b\/w.heap.size<=b)/\b< W.heap.size)->k< n->E k F x W->J k A F W->
      assign.wpIn (Fence.wide.inRound l) 0 P (Exit.then (fun a₁ W1=>aZ (fun i=>¬A i/\¬L i/\¬F i) W W1/\∀W2,aZ (· =l) W1 W2->body.wpIn (Fence.wide.inRound l) 0 P (Eb (fun i=>¬A i/\¬L i/\¬F i) J Jx k A F W2) a₁ W2) (fun _ _ _=>False))
        {tmps:=(ps.zip x).foldl (fun t (p,v)=>t.setIfInBounds p v) a.tmps,defers:=[]} W)
    (hdone:∀(D:Nat) (A F:Nat->Prop) (W:World),J n A F W->(w.heap.size<=D/\A D)->(∀b,A b->U b\/w.heap.size<=b)->W.heap[D]?=some (.deferred (some []))->Q .normal {a with defers:={target:= .collected D,args:= #[]}::a.defers} W)
    (hstop:∀(D k:Nat) (c:Code) (A F:Nat->Prop) (W:World),k< n->Jx k c A F W->(w.heap.size<=D/\A D)->(∀b,A b->U b\/w.heap.size<=b)->W.heap[D]?=some (.deferred (some []))->c.wpIn Fence.wide 0 P Q {a with defers:={target:= .collected D,args:= #[]}::a.defers} W) :
    (Code.rangeFunc g ps assign body).wpIn Fence.wide 0 P Q a w:=by
  refine wpIn_rangeFunc ?_
  intro fn hfn
  obtain⟨rec,hrec⟩:∃rec:LoopState->Option Code->Loop,rec=fun st pe=>{state:=st,pending:=pe,fn,tmps:=a.tmps,params:=ps,assign,body,defers:=w.heap.size}:=⟨_,rfl⟩
  obtain⟨W1,hW1⟩:∃W1,(w.alloc (.deferred (some []))).alloc (.loop (rec .ready none))=W1:=⟨_,rfl⟩
  have hL1:W1.heap[w.heap.size+1]?=some (.loop (rec .ready none)):=by
    rw [<-hW1];have:=World.alloc_heap_new (w.alloc (.deferred (some []))) (.loop (rec .ready none));rwa [World.size_alloc]at this
  have hK1:W1.heap[w.heap.size]?=some (.deferred (some [])):=by
    rw [<-hW1];exact(Below.heap_alloc _ _ _ (by simp)).trans (World.alloc_heap_new w _)
  have hs1:W1.heap.size=w.heap.size+2:=by rw [<-hW1];simp
  have hb1:Below w.heap.size w W1:=by
    rw [<-hW1];exact((Below.refl _ w).alloc (Nat.le_refl _) _).alloc (by simp) _
  refine⟨w.heap.size+1,[{target:= .collected w.heap.size,args:= #[]}],W1,{target:= .fn (.func gf) lb,args:= #[.func (.yield (w.heap.size+1)) #[] #[]]},W1,gf,
    #[.func (.yield (w.heap.size+1)) #[] #[]]++lb,W1,?_,?_,fun _ _=>trivial,?_,fun h=>by simp [Fence.wide]at h,?_⟩
  · rw [<-hW1,hrec];exact run_enterLoop_outer _ _ _ _ _
  · simp only [resolve,hg]
    simp [go_sem]
  · simp [invoke,go_sem,eg]
  · -- the blocks of the loop itself count as the iterator's
    obtain⟨X,hX⟩:∃X:(Nat->Prop)->Nat->Prop,X=fun A b=>A b\/b=w.heap.size\/b=w.heap.size+1:=⟨_,rfl⟩
    have hXi:∀A b,X A b<->A b\/b=w.heap.size\/b=w.heap.size+1:=fun A b=>by rw [hX]
    have conv:∀(G:(Nat->Prop)->Prop) (A B:Nat->Prop),(∀b,A b<->B b)->G A->G B:=fun G A B h hG=>by rwa [show A=B from funext fun b=>propext (h b)]at hG
    have hUw:∀b,U b->b< w.heap.size:=fun b hb=>hL b (.inr hb)
    -- where the iterator's blocks lie
    obtain⟨RA,hRA⟩:∃RA:(Nat->Prop)->Prop,∀A,RA A<->∀b,A b->U b\/w.heap.size+2<=b:=⟨_,fun _=>Iff.rfl⟩
    have rX:∀A,RA A->∀b,X A b->U b\/w.heap.size<=b:=fun A h b hb=>by
      rcases(hXi A b).1 hb with h1 |h1 |h1
      · exact((hRA A).1 h b h1).imp id fun h=>by omega
      · exact .inr oM
      · exact .inr oM
    have rn:∀A,RA A->∀b,A b->b≠w.heap.size/\b≠w.heap.size+1:=fun A h b hb=>by
      rcases(hRA A).1 h b hb with h1 |h1
      · have:=hUw b h1;omega
      · omega
    have hJX:∀k A F W1 W2,J k (X A) F W1->RA A->w.heap.size+2<=W1.heap.size->aZ A W1 W2->J k (X (fun b=>A b\/(W1.heap.size<=b/\b< W2.heap.size))) F W2:=fun k A F W1 W2 h hA hs ht=>
      conv (fun B=>J k B F W2) _ _ (fun b=>by simp only [hXi];exact⟨fun h=>h.elim (fun h=>h.elim (fun a=> .inl (.inl a)) (fun e=> .inr e)) (fun n=> .inl (.inr n)),fun h=>h.elim (fun h=>h.elim (fun a=> .inl (.inl a)) (fun n=> .inr n)) (fun e=> .inl (.inr e))⟩) (hJ k (X A) F W1 W2 h (rX A hA) (ht.mono fun b _ h=>(hXi A b).2 (.inl h)))
    have hJxX:∀k c A F W1 W2,Jx k c (X A) F W1->RA A->w.heap.size+2<=W1.heap.size->aZ A W1 W2->Jx k c (X (fun b=>A b\/(W1.heap.size<=b/\b< W2.heap.size))) F W2:=fun k c A F W1 W2 h hA hs ht=>
      conv (fun B=>Jx k c B F W2) _ _ (fun b=>by simp only [hXi];exact⟨fun h=>h.elim (fun h=>h.elim (fun a=> .inl (.inl a)) (fun e=> .inr e)) (fun n=> .inl (.inr n)),fun h=>h.elim (fun h=>h.elim (fun a=> .inl (.inl a)) (fun n=> .inr n)) (fun e=> .inl (.inr e))⟩) (hJx k c (X A) F W1 W2 h (rX A hA) (ht.mono fun b _ h=>(hXi A b).2 (.inl h)))
    have dX:∀(A D:Nat->Prop),RA A->(∀b,D b->A b)->∀b,(X A b/\¬D b)<->X (fun b=>A b/\¬D b) b:=fun A D hA hD b=>by
      simp only [hXi]
      constructor
      · rintro⟨h |h,hd⟩
        · exact .inl ⟨h,hd⟩
        · exact .inr h
      · rintro(⟨h,hd⟩ |h)
        · exact⟨.inl h,hd⟩
        · exact⟨.inr h,fun hd=>by have:=rn A hA b (hD b hd);omega⟩
    have hDX:∀k A F (D:Nat->Prop) W1,J k (X A) F W1->RA A->(∀b,D b->A b)->J k (X (fun b=>A b/\¬D b)) (fun b=>F b\/D b) W1:=fun k A F D W1 h hA hd=>
      conv (fun B=>J k B (fun b=>F b\/D b) W1) _ _ (dX A D hA hd) (hD k (X A) F D W1 h fun b hb=>(hXi A b).2 (.inl (hd b hb)))
    have hDxX:∀k c A F (D:Nat->Prop) W1,Jx k c (X A) F W1->RA A->(∀b,D b->A b)->Jx k c (X (fun b=>A b/\¬D b)) (fun b=>F b\/D b) W1:=fun k c A F D W1 h hA hd=>
      conv (fun B=>Jx k c B (fun b=>F b\/D b) W1) _ _ (dX A D hA hd) (hDx k c (X A) F D W1 h fun b hb=>(hXi A b).2 (.inl (hd b hb)))
    have hput:∀k A F W5 o,J k (X A) F W5->RA A->J k (X A) F (W5.putObj (w.heap.size+1) o):=fun k A F W5 o h hA=>
      conv (fun B=>J k B F _) _ _ (fun b=>⟨fun h=>h.elim id fun h=>by simp at h;omega,.inl⟩) (hJ k (X A) F W5 _ h (rX A hA) ((aZ.refl _ _).putObj o fun _=>(hXi A _).2 (.inr (.inr rfl))))
    have hputx:∀k c A F W5 o,Jx k c (X A) F W5->RA A->Jx k c (X A) F (W5.putObj (w.heap.size+1) o):=fun k c A F W5 o h hA=>
      conv (fun B=>Jx k c B F _) _ _ (fun b=>⟨fun h=>h.elim id fun h=>by simp at h;omega,.inl⟩) (hJx k c (X A) F W5 _ h (rX A hA) ((aZ.refl _ _).putObj o fun _=>(hXi A _).2 (.inr (.inr rfl))))
    have h01:J 0 (X U) (fun _=>False) W1:=conv (fun B=>J 0 B _ W1) _ _ (fun b=>by simp only [hXi,hs1];constructor <;> (intro h;rcases h with h |h;exact .inl h;exact .inr oM)) (hJ 0 U _ w W1 h0 (fun _ h=> .inl h) (aZ.jQ hb1))
    have hRr:∀(A F:Nat->Prop) (B:World),(∀b,A b\/F b->(U b\/W1.heap.size<=b)/\b< B.heap.size)->RA A:=fun A F B h=>(hRA A).2 fun b hb=>(h b (.inl hb)).1.imp id fun h=>by omega
    refine(hit (w.heap.size+1)
      (fun k g A F W=>W.heap[w.heap.size]?=some (.deferred (some []))/\(g=true->J k (X A) F W/\W.heap[w.heap.size+1]?=some (.loop (rec .ready none)))/\(g=false->∃c,Jx k c (X A) F W/\W.heap[w.heap.size+1]?=some (.loop (rec .done (some c)))))
      W1 oM (fun b hb=>hb1.block b (hL b hb)) oM oM
      (fun k g A F B1 B2 h hA hs ht=>by
        obtain⟨q1,q2,q3⟩:=h
        have hA':=hRr A F B1 hA
        have st:∀b,b=w.heap.size\/b=w.heap.size+1->B2.heap[b]?=B1.heap[b]?:=fun b hb=>ht.block b oM fun hc=>by have:=rn A hA' b hc;omega
        exact⟨(st _ (.inl rfl)).trans q1,fun e=>⟨hJX k A F B1 B2 (q2 e).1 hA' oM ht,(st _ (.inr rfl)).trans (q2 e).2⟩,fun e=>by
          obtain⟨c,q4,q5⟩:=q3 e
          exact⟨c,hJxX k c A F B1 B2 q4 hA' oM ht,(st _ (.inr rfl)).trans q5⟩⟩)
      (fun k g A F D B1 h hA hd=>by
        obtain⟨q1,q2,q3⟩:=h
        have hA':=hRr A F B1 hA
        exact⟨q1,fun e=>⟨hDX k A F D B1 (q2 e).1 hA' hd,(q2 e).2⟩,fun e=>by
          obtain⟨c,q4,q5⟩:=q3 e
          exact⟨c,hDxX k c A F D B1 q4 hA' hd,q5⟩⟩)
      ?_ ⟨hK1,fun _=>⟨h01,hL1⟩,fun e=>by cases e⟩).mono ?_
    · rintro k x A F W hkn hx hA hsz ⟨hk,hg1,_⟩
      obtain⟨hi,hl⟩:=hg1 rfl
      have hlt:w.heap.size+1< W.heap.size:=(Array.getElem?_eq_some_iff.1 hl).1
      have hA2:=hRr A F W hA
      have hy:=run_yield (P:=P) (args:=x) hl (by rw [hrec];exact hps k _ x _ hx)
      rw [hrec]at hy
      have x1:X A (w.heap.size+1):=(hXi A _).2 (.inr (.inr rfl))
      have x0:X A w.heap.size:=(hXi A _).2 (.inr (.inl rfl))
      have hnR1:¬(¬X A (w.heap.size+1)/\¬L (w.heap.size+1)/\¬F (w.heap.size+1)):=fun e=>e.1 x1
      have hnR0:¬(¬X A w.heap.size/\¬L w.heap.size/\¬F w.heap.size):=fun e=>e.1 x0
      have xr:∀b,X A b\/F b->(U b\/w.heap.size<=b)/\b< W.heap.size:=fun b hb=>by
        rcases hb with hb |hb
        · refine⟨rX A hA2 b hb,?_⟩
          rcases(hXi A b).1 hb with h |h |h
          · exact(hA b (.inl h)).2
          · omega
          · omega
        · have:=hA b (.inr hb)
          exact⟨this.1.imp id fun h=>by omega,this.2⟩
      have nA:¬A (w.heap.size+1)/\¬L (w.heap.size+1)/\¬F (w.heap.size+1):=by
        refine⟨fun h=>(rn A hA2 _ h).2 rfl,fun h=>by have:=hL _ (.inl h);omega,fun h=> ?_⟩
        rcases(hA _ (.inr h)).1 with h1 |h1
        · have:=hUw _ h1;omega
        · omega
      refine⟨fn,_,assign,body,hy,roundIn_of_wpIn hfn (wpIn_mono (hround (w.heap.size+1) k x (X A) F W ⟨by omega,x1⟩ xr hkn hx hi) ?_)⟩
      rintro e a3 W3 hp
      cases e with
      |normal=>
        obtain⟨ht3,hbody⟩:=hp
        have hl3:W3.heap[w.heap.size+1]?=some (.loop (rec .ready none)):=(ht3.block _ hlt hnR1).trans hl
        have hk3:W3.heap[w.heap.size]?=some (.deferred (some [])):=(ht3.block _ oM hnR0).trans hk
        have hlt3:w.heap.size+1< W3.heap.size:=(Array.getElem?_eq_some_iff.1 hl3).1
        refine⟨_,run_beginRound hl3 (by rw [hrec]),?_⟩
        obtain⟨W4,hW4⟩:∃W4,W3.putObj (w.heap.size+1) (.loop {rec .ready none with state:= .busy})=W4:=⟨_,rfl⟩
        have ht4:aZ (· =w.heap.size+1) W3 W4:=by rw [<-hW4];exact(aZ.refl _ _).putObj _ fun _=>rfl
        have hl4:W4.heap[w.heap.size+1]?=some (.loop {rec .ready none with state:= .busy}):=by rw [<-hW4];exact World.putObj_heap_same hlt3
        have hk4:W4.heap[w.heap.size]?=some (.deferred (some [])):=(ht4.block _ oM oM).trans hk3
        rw [hW4]
        refine wpIn_mono (hbody W4 ht4) ?_
        have hsz4:W4.heap.size=W3.heap.size:=by rw [<-hW4];simp
        have fin:∀(jump:Option Code) (W5:World),aZ (fun i=>¬X A i/\¬L i/\¬F i) W4 W5->
            (Instr.endRound (w.heap.size+1) jump).run P W5= .ok (.bool jump.isNone) (W5.putObj (w.heap.size+1) (.loop (rec (if jump.isNone then .ready else .done) jump)))/\
            (W5.putObj (w.heap.size+1) (.loop (rec (if jump.isNone then .ready else .done) jump))).heap[w.heap.size+1]?=some (.loop (rec (if jump.isNone then .ready else .done) jump))/\
            (W5.putObj (w.heap.size+1) (.loop (rec (if jump.isNone then .ready else .done) jump))).heap[w.heap.size]?=some (.deferred (some []))/\
            aZ (fun i=>¬A i/\¬L i/\¬F i) W (W5.putObj (w.heap.size+1) (.loop (rec (if jump.isNone then .ready else .done) jump))):=fun jump W5 ht5=>by
          have hl5:=(ht5.block _ (Array.getElem?_eq_some_iff.1 hl4).1 hnR1).trans hl4
          have hr:=run_endRound (P:=P) jump hl5
          rw [hrec]at hr ⊢
          refine⟨hr,World.putObj_heap_same (Array.getElem?_eq_some_iff.1 hl5).1,(World.putObj_heap_other oM).trans ((ht5.block _ oM hnR0).trans hk4),?_⟩
          have sub:∀i,¬X A i/\¬L i/\¬F i->¬A i/\¬L i/\¬F i:=fun i h=>⟨fun ha=>h.1 ((hXi A i).2 (.inl ha)),h.2⟩
          exact(((ht3.mono fun k _ h=>sub k h).trans (ht4.mono fun k _ h=>by subst h;exact nA)).trans (ht5.mono fun k _ h=>sub k h)).putObj _ fun _=>nA
        rintro e a5 W5 hp
        cases e with
        |normal=>
          obtain⟨ht5,hi5⟩:=hp
          obtain⟨hr,hl6,hk6,ht6⟩:=fin none W5 ht5
          exact⟨_,_,hr,_,rfl,ht6,fun _=>⟨hk6,fun _=>⟨hput _ _ _ _ _ hi5 hA2,hl6⟩,fun e=>by cases e⟩,fun h=>by simp at h⟩
        |ret=>
          obtain⟨ht5,hi5⟩:=hp
          obtain⟨hr,hl6,hk6,ht6⟩:=fin (some .ret) W5 ht5
          exact⟨_,_,hr,_,rfl,ht6,fun h=>by simp at h,fun _=>⟨hk6,(fun e=>by cases e),fun _=>⟨.ret,hputx _ _ _ _ _ _ hi5 hA2,hl6⟩⟩⟩
        |exit id=>
          obtain⟨ht5,hi5⟩:=hp
          obtain⟨hr,hl6,hk6,ht6⟩:=fin (some (.exit id)) W5 ht5
          exact⟨_,_,hr,_,rfl,ht6,fun h=>by simp at h,fun _=>⟨hk6,(fun e=>by cases e),fun _=>⟨.exit id,hputx _ _ _ _ _ _ hi5 hA2,hl6⟩⟩⟩
        |goto t=>
          obtain⟨ht5,hi5⟩:=hp
          obtain⟨hr,hl6,hk6,ht6⟩:=fin (some (.goto t)) W5 ht5
          exact⟨_,_,hr,_,rfl,ht6,fun h=>by simp at h,fun _=>⟨hk6,(fun e=>by cases e),fun _=>⟨.goto t,hputx _ _ _ _ _ _ hi5 hA2,hl6⟩⟩⟩
        |panic ch=>exact hp.elim
        |outgrown=>exact hp.elim
      |ret=>exact hp.elim
      |exit id=>exact hp.elim
      |goto t=>exact hp.elim
      |panic ch=>exact hp.elim
      |outgrown=>exact hp.elim
    · rintro e W2 ⟨⟨v,rfl⟩,A,F,hA,h⟩
      have hA2:RA A:=(hRA A).2 fun b hb=>(hA b hb).imp id fun h=>by omega
      have hXw:=rX A hA2
      rcases h with⟨hk,hg1,_⟩ | ⟨k,hk',hk,_,hg2⟩
      · obtain⟨hi,hl⟩:=hg1 rfl
        exact⟨none,_,by have:=run_endLoop (P:=P) hl (by rw [hrec];simp);rw [hrec]at this;exact this,hdone _ (X A) F _ (hput _ _ _ _ _ hi hA2) ⟨Nat.le_refl _,(hXi A _).2 (.inr (.inl rfl))⟩ hXw ((World.putObj_heap_other oM).trans hk)⟩
      · obtain⟨c,hi,hl⟩:=hg2 rfl
        exact⟨some c,_,by have:=run_endLoop (P:=P) hl (by rw [hrec];simp);rw [hrec]at this;exact this,hstop _ k c (X A) F _ hk' (hputx _ _ _ _ _ _ hi hA2) ⟨Nat.le_refl _,(hXi A _).2 (.inr (.inl rfl))⟩ hXw ((World.putObj_heap_other oM).trans hk)⟩
end Go.Dw
namespace Go.Ab
open Go.RowKit Go.Dw Go.Shelf
def Lg(es:List (List V))(L:Nat->Prop)(k:Nat)(F:Nat->Prop)(x:Array Value)(W:World):Prop:= ∃v,es[k]?=some v/\RV W (fun b=>L b\/F b) ρ0 v x.toList
def zw(P:Program)(gf:FuncId)(caps:List V)(ins:List Ob)(es:List (List V)):Prop:=
  (∀(args:Array Value) (w:World),(callFunc gf args).run P w= .ok (.enter gf args) w)/\
  ∀(L U:Nat->Prop) (w:World) (ρ:Nat->Option Value) (lb:Array Value),(∀b,L b->b< w.heap.size)->(∀b,U b->b< w.heap.size/\¬L b)->(∀g,R w L ρ0 (jn g) (ql g))->
    (∀i o,ins[i]?=some o->Real U w L ρ (500+i) o)->(∀i j x y k,i≠j->ρ i=some x->ρ j=some y->blk x=some k->blk y≠some k)->(∀id,(id< 500\/500+ins.length<=id)->ρ id=none)->RV w L ρ caps lb.toList->
    Kn P gf lb es.length (Lg es L) L U w
theorem s6{P:Program}{N:Nat}{C:Cx P N}{Q:Exit->S->Prop}{tm:Nat->V}{σ:Nat->Option Ob}{nx:Nat}{g:Operand}{ps:Array Tmp}{assign body:Code}{gf:FuncId}{caps:List V}{ins:List Ob}{es:List (List V)}(ns:List Nat)
    (hF:C.F=Fence.wide) (pn xn:List Nat) (gl:List (Nat×Nat)) (hd:∀id x,C.dfs.pin id=some x->id∈pn/\∀p∈gl,p.1≠id) (it:zw P gf caps ins es) (hg:ev tm g= .fn (.func gf) [] (V.aS (zu ns) caps)) (hidf:V.cS ins.length caps=true) (hns:ns.length=ins.length) (hnd:ns.Nodup) (hins:∀(i k:Nat) (o:Ob),ns[i]?=some k->ins[i]?=some o->σ k=some o/\Gj o=true) (hlen:∀x∈es,x.length=ps.size) (hps:ps.toList.all (fun p=>decide (p< N))=true)
    (tl:List (Nat×V)) (ok:Nat->Prop) (sl:Nat->List Ob) (X:Nat->Code->List Ob->Prop) (hok0:ok 0)
    (hpn:pn.all (fun p=>decide (500<=p/\p< 1000))=true) (hl0:(sl 0).length=(pn++xn).length) (htl:tl.all (fun p=>p.2.sk pn)=true) (hid:gl.all (fun p=>decide (p.1< 1000))=true)
    (htm:m7 (fun p=>tm p.1=p.2.bD (aO gl nx)) tl) (hσ:m7 (fun p=>∃ob,σ (aO gl nx p.1)=some ob/\fH ob (p.2.bD (aO gl nx))) ((pn++xn).zip (sl 0)))
    (hinj:decide ((((pn++xn).zip (sl 0)).map fun p=>aO gl nx p.1).Nodup)=true) (hdis:∀p∈(pn++xn).zip (sl 0),aO gl nx p.1∉ns)
    (round:∀C':Cx P N,(∃l,C'.F=Fence.wide.inRound l)->∀k x,es[k]?=some x->ok k->AW C' assign (dS (fun s'=>AW C' body (pH (pn++xn) ok sl X k) s') (fun _ _=>False)) ⟨oY (gF tl) ps.toList x,eL ((pn++xn).zip (sl k)),1⟩)
    (hdone:ok es.length->Q .normal ⟨gF tl,eL ((pn++xn).zip (sl es.length)),1⟩)
    (hstop:∀k c sx,k< es.length->X k c sx->AW C c Q ⟨gF tl,eL ((pn++xn).zip sx),1⟩):AW C (.rangeFunc g ps assign body) Q ⟨tm,σ,nx⟩:=by
  intro a w ⟨L,ρ',g00⟩
  have g0:=qR.bD (s:=⟨tm,σ,nx⟩) tl ((pn++xn).zip (sl 0)) gl htm.mem hσ.mem (of_decide_eq_true hinj) (by simpa using hid) (fun p hp=>by
    cases hc:C.dfs.pin p.1 with
    |none=>rfl
    |some x=>exact absurd rfl ((hd _ x hc).2 p hp)) g00
  have hfn:=g00.tm.eval g00.g.gl g
  generalize hρe:(fun i=>ρ' (aO gl nx i))=ρ at g0
  have hρi:∀i,ρ i=ρ' (aO gl nx i):=fun i=>by rw [<-hρe]
  clear hρe
  rw [hg]at hfn
  obtain⟨xs',lb,eg,hxs,hlb⟩:=hfn.kP
  have hxs0:xs'= #[]:=by have:=hxs.1;simpa using this.symm
  subst hxs0
  have hpn':∀p∈pn,500<=p/\p< 1000:=by simpa using hpn
  have hps':∀p∈ps.toList,p< N:=fun p hp=>of_decide_eq_true (List.all_eq_true.1 hps p hp)
  obtain⟨Ds,dd1,dd2,dd3⟩:=g0.defers
  obtain⟨it1,it2⟩:=it
  have hobU:∀i,i< ins.length->∃t cs b xs,ins[i]?=some (.box t cs)/\V.bA cs=true/\ns[i]?=some (zu ns (500+i))/\σ (zu ns (500+i))=some (.box t cs)/\ρ' (zu ns (500+i))=some (.pointer (some ⟨b,0,none⟩))/\C.W b/\¬L b/\w.heap[b]?=some (.cells xs t (0,0))/\RL w L ρ' cs xs.toList:=by
    intro i hi
    have h1:ins[i]?=some ins[i]:=List.getElem?_eq_getElem hi
    have h2:ns[i]?=some ns[i]:=List.getElem?_eq_getElem oM
    have h3:zu ns (500+i)=ns[i]:=by
      unfold zu
      rw [if_pos oM,Nat.add_sub_cancel_left,List.getD_eq_getElem?_getD,h2];rfl
    obtain⟨h4,h5⟩:=hins i _ _ h2 h1
    rw [h3]
    cases ho:ins[i]with
    |box t cs=>
      rw [ho]at h1 h4 h5
      obtain⟨b,xs,q1,q2,q3,q4,q5⟩:=g00.g.ob _ _ h4
      exact⟨t,cs,b,xs,h1,h5,h2,h4,q1,q2,q3,q4,q5⟩
    |row e sz n f=>rw [ho]at h5;cases h5
    |mp str f=>rw [ho]at h5;cases h5
  obtain⟨U,hUi⟩:∃U:Nat->Prop,∀b,U b<->∃i,i< ins.length/\ρ' (zu ns (500+i))=some (.pointer (some ⟨b,0,none⟩)):=⟨_,fun _=>Iff.rfl⟩
  have hUw:∀b,U b->b< w.heap.size/\C.W b/\¬L b/\b∉Ds:=by
    intro b hb
    obtain⟨i,hi,hx⟩:=(hUi b).1 hb
    obtain⟨t,cs,b',xs,_,_,_,h4,q1,q2,q3,q4,q5⟩:=hobU i hi
    rw [hx]at q1
    simp only [Option.some.injEq,Value.pointer.injEq,Addr.mk.injEq,and_true]at q1
    subst q1
    exact⟨(Array.getElem?_eq_some_iff.1 q4).1,q2,q3,fun hD=>(g00.g.ob _ _ h4).gv hx rfl (dd3 b hD).1⟩
  obtain⟨ρu,hρu⟩:∃ρu:Nat->Option Value,∀id,ρu id=if 500<=id/\id< 500+ins.length then ρ' (zu ns id)else none:=⟨_,fun _=>rfl⟩
  have hρuS:∀id x,ρu id=some x->500<=id/\id< 500+ins.length/\ρ' (zu ns id)=some x:=by
    intro id x hx
    rw [hρu]at hx
    split at hx
    · rename_i h;exact⟨h.1,h.2,hx⟩
    · cases hx
  have hnm:∀i j,i< ins.length->j< ins.length->zu ns (500+i)=zu ns (500+j)->i=j:=by
    intro i j hi hj he
    obtain⟨_,_,_,_,_,_,h1,_⟩:=hobU i hi
    obtain⟨_,_,_,_,_,_,h2,_⟩:=hobU j hj
    rw [<-he]at h2
    exact uJ hnd oM (h1.trans h2.symm)
  have hit:=it2 L U w ρu lb (fun b hb=>(g0.g.ll b hb).1) (fun b hb=>⟨(hUw b hb).1,(hUw b hb).2.2.1⟩) g0.g.gl (fun i o ho=>by
      have hi:=(List.getElem?_eq_some_iff.1 ho).1
      obtain⟨t,cs,b,xs,h1,h2,_,_,q1,q2,q3,q4,q5⟩:=hobU i hi
      rw [ho]at h1;injection h1 with h1;subst h1
      exact⟨b,xs,by rw [hρu,if_pos ⟨by omega,by omega⟩];exact q1,(hUi b).2 ⟨i,hi,q1⟩,q3,q4,q5.free h2⟩)
    (fun i j x y k hij hx hy=>by
      obtain⟨a1,a2,a3⟩:=hρuS i x hx
      obtain⟨b1,b2,b3⟩:=hρuS j y hy
      obtain⟨i',rfl⟩:∃i',i=500+i':=⟨i- 500,by omega⟩
      obtain⟨j',rfl⟩:∃j',j=500+j':=⟨j- 500,by omega⟩
      obtain⟨_,_,_,_,_,_,_,e1,_⟩:=hobU i' oM
      obtain⟨_,_,_,_,_,_,_,e2,_⟩:=hobU j' oM
      exact g00.g.sep _ _ x y k (fun he=>hij (by rw [hnm i' j' oM oM he])) (by simp only at e1 ⊢;rw [e1];simp) (by simp only at e2 ⊢;rw [e2];simp) a3 b3)
    (fun id hid=>by rw [hρu,if_neg oM]) ((EL (zu ns) hlb).vX hidf fun id v h1 h2 hv=>by rw [hρu,if_pos ⟨h1,h2⟩];exact hv)
  have hxlen:∀k F x W,Lg es L k F x W->x.size=ps.size:=by
    rintro k F x W ⟨v,hv,h1⟩
    have:=h1.1
    rw [hlen v (List.mem_of_getElem? hv)]at this
    simpa using this.symm
  have hDw:∀D∈Ds,D< w.heap.size:=fun D hD=>(Array.getElem?_eq_some_iff.1 (dd3 D hD).1).1
  -- the blocks of the objects that stay are none of the iterator's
  have hblk:∀id o,eL ((pn++xn).zip (sl 0)) id=some o->∀x k,ρ id=some x->blk x=some k->¬U k:=by
    intro id o ho x k hx hk hU
    obtain⟨i,hi',hxu⟩:=(hUi k).1 hU
    obtain⟨_,_,_,_,_,_,h3,h4,_⟩:=hobU i hi'
    have hi:id∈pn++xn:=yj (by rw [ho];simp)
    obtain⟨j,hj,hjid⟩:=List.getElem_of_mem hi
    have hz:(id,(sl 0)[j]'oM)∈(pn++xn).zip (sl 0):=by
      rw [<-hjid]
      refine List.mem_of_getElem? (i:=j) ?_
      rw [List.getElem?_zip_eq_some]
      exact⟨List.getElem?_eq_getElem hj,List.getElem?_eq_getElem oM⟩
    obtain⟨ob,hob,_⟩:=hσ.mem _ hz
    have hne:=hdis _ hz
    simp only at hob hne
    rw [hρi]at hx
    exact g00.g.sep (aO gl nx id) (zu ns (500+i)) x _ k (fun he=>hne (by rw [he];exact List.mem_of_getElem? h3)) (by simp only;rw [hob];simp) (by simp only at h4 ⊢;rw [h4];simp) hx hxu hk rfl
  obtain⟨Wc,hWc⟩:∃Wc:(Nat->Prop)->(Nat->Prop)->Nat->Prop,∀A F b,Wc A F b<->C.W b/\¬A b/\¬L b/\¬F b/\b∉Ds:=⟨_,fun _ _ _=>Iff.rfl⟩
  obtain⟨Lc,hLc⟩:∃Lc:(Nat->Prop)->Nat->Prop,∀A b,Lc A b<->C.LB b/\¬A b/\b∉Ds:=⟨_,fun _ _=>Iff.rfl⟩
  -- what is known of the objects, of memory
  obtain⟨RG,hRG⟩:∃RG:(Nat->Prop)->(Nat->Prop)->World->Prop,∀A F W,RG A F W<->(∀b,A b\/F b->(U b\/w.heap.size<=b)/\b< W.heap.size)/\(∀b,F b->¬A b):=⟨_,fun _ _ _=>Iff.rfl⟩
  obtain⟨GS,hGS⟩:∃GS:(Nat->Prop)->(Nat->Prop)->World->List Ob->Prop,∀A F W ob,GS A F W ob<->RG A F W/\aZ (fun b=>C.W b/\¬L b/\b∉Ds) w W/\
      ∃L' ρ',(∀b,L b\/F b->L' b)/\(∀id x,id∈pn->ρ id=some x->ρ' id=some x)/\(∀id,bV 1 id->ρ' id=none)/\G (Wc A F) (Lc A) (eL ((pn++xn).zip ob)) W L' ρ':=⟨_,fun _ _ _ _=>Iff.rfl⟩
  have frame:∀ {W1:World},aZ (fun b=>C.W b/\¬L b/\b∉Ds) w W1->∀b,L b->W1.heap[b]?=w.heap[b]?:=fun ht b hb=>ht.block b (g0.g.ll b hb).1 fun hc=>hc.2.1 hb
  have frD:∀ {W1:World},aZ (fun b=>C.W b/\¬L b/\b∉Ds) w W1->∀D∈Ds,W1.heap[D]?=some (.deferred (some [])):=fun ht D hD=>
    (ht.block D (hDw D hD) fun hc=>hc.2.2 hD).trans (dd3 D hD).1
  have tmU:∀ {W1:World}{L':Nat->Prop}{ρ':Nat->Option Value},aZ (fun b=>C.W b/\¬L b/\b∉Ds) w W1->(∀b,L b->L' b)->(∀id x,id∈pn->ρ id=some x->ρ' id=some x)->∀i,Go.Ab.R W1 L' ρ' (gF tl i) (a.tmps.getD i undef):=fun ht hLL hρ i=>
    ((g0.tm i).N2 (B8 htl i) _ hρ).mono (fun b hb=>⟨hLL b hb,frame ht b hb⟩) fun _ _ h=>h
  -- what the iterator holds or laid may be frozen
  have lcF:∀ {b:Nat},U b\/w.heap.size<=b->C.LB b/\b∉Ds:=fun {b} h=>by
    rcases h with h |h
    · exact⟨C.wl b (hUw b h).2.1,(hUw b h).2.2.2⟩
    · exact⟨(g0.g.new b h).2,fun hD=>by have:=hDw b hD;omega⟩
  have gs0:GS U (fun _=>False) w (sl 0):=by
    rw [hGS,hRG]
    refine⟨⟨fun b hb=> ?_,fun _ h=>h.elim⟩,aZ.refl _ _,L,ρ,fun b h=>h.elim id False.elim,fun _ _ _ h=>h,g0.fr,fun b hb=>⟨(g0.g.ll b hb).1,(hLc _ _).2 ⟨(g0.g.ll b hb).2,fun h=>(hUw b h).2.2.1 hb,fun hD=>(dd3 b hD).2.2 hb⟩⟩,fun b hb=>⟨(hWc _ _ _).2 ⟨(g0.g.new b hb).1,fun h=>by have:=(hUw b h).1;omega,fun hl=>by have:=(g0.g.ll b hl).1;omega,fun h=>h,fun hD=>by have:=hDw b hD;omega⟩,(hLc _ _).2 ⟨(g0.g.new b hb).2,fun h=>by have:=(hUw b h).1;omega,fun hD=>by have:=hDw b hD;omega⟩⟩,fun id o ho=> ?_,g0.g.sep,g0.g.gl⟩
    · rcases hb with hb |hb
      · exact⟨.inl hb,(hUw b hb).1⟩
      · exact hb.elim
    · have hr:=g0.g.ob id o ho
      obtain⟨y,hy,hy2⟩:=hr.lt
      refine hr.uB (Ext.refl _ _ _) fun x k hx hk=> ?_
      have hU:=hblk id o ho x k hx hk
      rw [hx]at hy;injection hy with hy;subst hy
      exact⟨rfl,(hy2 k hk).2.2,(hWc _ _ _).2 ⟨(hy2 k hk).2.1,hU,(hy2 k hk).2.2,fun h=>h,fun hD=>hr.gv hx hk (dd3 k hD).1⟩⟩
  have gsJ:∀A F W1 W2 ob,GS A F W1 ob->aZ A W1 W2->GS (fun b=>A b\/(W1.heap.size<=b/\b< W2.heap.size)) F W2 ob:=by
    intro A F W1 W2 ob h ht
    rw [hGS,hRG]at h ⊢
    obtain⟨⟨hA,hAF⟩,hT,L',ρ',l1,l2,l3,hG⟩:=h
    have hAl:∀b,L' b->¬A b:=fun b hb=>((hLc _ _).1 (hG.ll b hb).2).2.1
    have ex:Ext W1 L' ρ' W2 L' ρ':=⟨fun b hb=>⟨hb,ht.block b (hG.ll b hb).1 (hAl b hb)⟩,fun _ _ h=>h⟩
    have nA:∀b,b< W1.heap.size->¬A b->¬(A b\/(W1.heap.size<=b/\b< W2.heap.size)):=fun b hb hn h=>by
      rcases h with h |h
      · exact hn h
      · omega
    have ws:=hT.size
    refine⟨⟨fun b hb=> ?_,fun b hb=>nA b (hA b (.inr hb)).2 (hAF b hb)⟩,?_,L',ρ',l1,l2,l3,fun b hb=>⟨Nat.lt_of_lt_of_le (hG.ll b hb).1 ht.size,?_⟩,fun b hb=> ?_,fun id o ho=> ?_,hG.sep,hG.tN ex⟩
    · have:=ht.size
      rcases hb with(h |h) |h
      · exact⟨(hA b (.inl h)).1,Nat.lt_of_lt_of_le (hA b (.inl h)).2 ht.size⟩
      · exact⟨.inr oM,h.2⟩
      · exact⟨(hA b (.inr h)).1,Nat.lt_of_lt_of_le (hA b (.inr h)).2 ht.size⟩
    · refine aZ.mono (R:=fun b=>(C.W b/\¬L b/\b∉Ds)\/A b) ((hT.mono fun _ _ h=> .inl h).trans (ht.mono fun _ _ h=> .inr h)) fun k hk h=> ?_
      rcases h with h |h
      · exact h
      · rcases(hA k (.inl h)).1 with h |h
        · exact⟨(hUw k h).2.1,(hUw k h).2.2⟩
        · omega
    · obtain⟨q1,q2,q3⟩:=(hLc _ _).1 (hG.ll b hb).2
      exact(hLc _ _).2 ⟨q1,nA b (hG.ll b hb).1 q2,q3⟩
    · have hb1:W1.heap.size<=b:=Nat.le_trans ht.size hb
      obtain⟨q1,q2⟩:=hG.new b hb1
      obtain⟨q1,_,q3,q4⟩:=(hWc _ _ _).1 q1
      obtain⟨r1,_,r3⟩:=(hLc _ _).1 q2
      have hn:¬(A b\/(W1.heap.size<=b/\b< W2.heap.size)):=fun h=>by
        rcases h with h |h
        · have:=(hA b (.inl h)).2;omega
        · omega
      exact⟨(hWc _ _ _).2 ⟨q1,hn,q3,q4⟩,(hLc _ _).2 ⟨r1,hn,r3⟩⟩
    · have hr:=hG.ob id o ho
      obtain⟨y,hy,hy2⟩:=hr.lt
      refine hr.uB ex fun x k hx hk=> ?_
      rw [hx]at hy;injection hy with hy;subst hy
      obtain⟨q1,q2,q3⟩:=hy2 k hk
      obtain⟨r1,r2,r3,r4⟩:=(hWc _ _ _).1 q2
      exact⟨ht.block k q1 r2,q3,(hWc _ _ _).2 ⟨r1,nA k q1 r2,r3,r4⟩⟩
  have gsD:∀A F (D:Nat->Prop) W1 ob,GS A F W1 ob->(∀b,D b->A b)->GS (fun b=>A b/\¬D b) (fun b=>F b\/D b) W1 ob:=by
    intro A F D W1 ob h hD
    rw [hGS,hRG]at h ⊢
    obtain⟨⟨hA,hAF⟩,hT,L',ρ',l1,l2,l3,hG⟩:=h
    have ex:Ext W1 L' ρ' W1 (fun b=>L' b\/D b) ρ':=⟨fun b hb=>⟨.inl hb,rfl⟩,fun _ _ h=>h⟩
    refine⟨⟨fun b hb=> ?_,fun b hb hc=> ?_⟩,hT,fun b=>L' b\/D b,ρ',fun b hb=> ?_,l2,l3,fun b hb=> ?_,fun b hb=> ?_,fun id o ho=> ?_,hG.sep,hG.tN ex⟩
    · rcases hb with h |h |h
      · exact hA b (.inl h.1)
      · exact hA b (.inr h)
      · exact hA b (.inl (hD b h))
    · rcases hb with h |h
      · exact hAF b h hc.1
      · exact hc.2 h
    · rcases hb with h |h |h
      · exact .inl (l1 b (.inl h))
      · exact .inl (l1 b (.inr h))
      · exact .inr h
    · rcases hb with h |h
      · obtain⟨q1,q2,q3⟩:=(hLc _ _).1 (hG.ll b h).2
        exact⟨(hG.ll b h).1,(hLc _ _).2 ⟨q1,fun hc=>q2 hc.1,q3⟩⟩
      · have hr:=hA b (.inl (hD b h))
        exact⟨hr.2,(hLc _ _).2 ⟨(lcF hr.1).1,fun hc=>hc.2 h,(lcF hr.1).2⟩⟩
    · obtain⟨q1,q2⟩:=hG.new b hb
      obtain⟨p1,p2,p3,p4,p5⟩:=(hWc _ _ _).1 q1
      obtain⟨r1,r2,r3⟩:=(hLc _ _).1 q2
      exact⟨(hWc _ _ _).2 ⟨p1,fun h=>p2 h.1,p3,fun h=>h.elim p4 fun h=>p2 (hD b h),p5⟩,(hLc _ _).2 ⟨r1,fun h=>r2 h.1,r3⟩⟩
    · have hr:=hG.ob id o ho
      obtain⟨y,hy,hy2⟩:=hr.lt
      refine hr.uB ex fun x k hx hk=> ?_
      rw [hx]at hy;injection hy with hy;subst hy
      obtain⟨q1,q2,q3⟩:=hy2 k hk
      obtain⟨p1,p2,p3,p4,p5⟩:=(hWc _ _ _).1 q2
      exact⟨rfl,fun h=>h.elim q3 fun h=>p2 (hD k h),(hWc _ _ _).2 ⟨p1,fun h=>p2 h.1,p3,fun h=>h.elim p4 fun h=>p2 (hD k h),p5⟩⟩
  have mkGam:∀(D:Nat) (A F:Nat->Prop) (W1:World) (ob:List Ob),GS A F W1 ob->(w.heap.size<=D/\A D)->W1.heap[D]?=some (.deferred (some []))->
      Gm C ⟨gF tl,eL ((pn++xn).zip ob),1⟩ {a with defers:={target:= .collected D,args:= #[]}::a.defers} W1:=by
    intro D A F W1 ob hgs hD hDl
    rw [hGS,hRG]at hgs
    obtain⟨⟨hA,hAF⟩,hT,L',ρ',l1,l2,l3,hG⟩:=hgs
    refine⟨L',ρ',⟨⟨fun b hb=>⟨(hG.ll b hb).1,((hLc _ _).1 (hG.ll b hb).2).1⟩,fun b hb=>⟨((hWc _ _ _).1 (hG.new b hb).1).1,((hLc _ _).1 (hG.new b hb).2).1⟩,fun id o ho=> ?_,hG.sep,hG.gl⟩,l3,tmU hT (fun b hb=>l1 b (.inl hb)) l2,g0.size,⟨D::Ds,?_,List.nodup_cons.2 ⟨fun hc=> ?_,dd2⟩,fun E hE=> ?_⟩,fun id x hp=>l2 id x (hd id x hp).1 (g0.pin id x hp)⟩⟩
    · have hr:=hG.ob id o ho
      obtain⟨y,hy,hy2⟩:=hr.lt
      refine hr.uB (Ext.refl _ _ _) fun x k hx hk=> ?_
      rw [hx]at hy;injection hy with hy;subst hy
      exact⟨rfl,(hy2 k hk).2.2,((hWc _ _ _).1 (hy2 k hk).2.1).1⟩
    · simp only [marks,List.map_cons,dd1,List.cons_append]
    · have:=hDw D hc
      omega
    · rcases List.mem_cons.1 hE with rfl |hE
      · exact⟨hDl,(g0.g.new E hD.1).1,fun hc=>((hLc _ _).1 (hG.ll E hc).2).2.1 hD.2⟩
      · exact⟨frD hT E hE,(dd3 E hE).2.1,fun hc=>((hLc _ _).1 (hG.ll E hc).2).2.2 hE⟩
  rw [hF]
  refine Ew (gf:=gf) (lb:=lb) (n:=es.length) eg it1 hit (fun b hb=>hb.elim (fun h=>(g0.g.ll b h).1) fun h=>(hUw b h).1) hxlen
    (fun k A F W=>ok k/\GS A F W (sl k)) (fun k c A F W=>∃sx,X k c sx/\GS A F W sx)
    (fun k A F W1 W2 h _ ht=>⟨h.1,gsJ A F W1 W2 _ h.2 ht⟩)
    (fun k c A F W1 W2 h _ ht=>by obtain⟨sx,h1,h2⟩:=h;exact⟨sx,h1,gsJ A F W1 W2 _ h2 ht⟩)
    (fun k A F D W1 h hD=>⟨h.1,gsD A F D W1 _ h.2 hD⟩)
    (fun k c A F D W1 h hD=>by obtain⟨sx,h1,h2⟩:=h;exact⟨sx,h1,gsD A F D W1 _ h2 hD⟩)
    ⟨hok0,gs0⟩ ?hround ?hdone ?hstop
  case hdone=>
    rintro D A F W ⟨hok,hG⟩ hD _ hDl
    refine⟨_,hdone hok,mkGam D A F W _ hG hD hDl,?_⟩
    rw [hGS]at hG
    exact hG.2.1.mono fun k _ h=>h.1
  case hstop=>
    rintro D k c A F W hk ⟨sx,hX,hG⟩ hD _ hDl
    have hst:=hstop k c sx hk hX
    unfold AW at hst
    rw [hF]at hst
    refine wpIn_mono (hst _ W (mkGam D A F W sx hG hD hDl)) ?_
    rintro e a' w' ⟨s',q,g',t⟩
    rw [hGS]at hG
    exact⟨s',q,g',(hG.2.1.mono fun k _ h=>h.1).trans t⟩
  case hround=>
    rintro l k x A F W ⟨hl,hAl⟩ hAb hkl ⟨v,hv,hxr⟩ ⟨hok,hgs⟩
    rw [hGS,hRG]at hgs
    obtain⟨⟨hA,hAF⟩,hT,L',ρ',l1,l2,l3,hG⟩:=hgs
    obtain⟨C',e1,e2,e3,e4,e4t⟩:∃C':Cx P N,C'.W=Wc A F/\C'.LB=Lc A/\C'.F=Fence.wide.inRound l/\(∀id,C'.dfs.pin id=if id∈pn then ρ id else none)/\C'.dfs.tl=[]:=
      ⟨⟨Wc A F,Lc A,fun b hb=>(hLc _ _).2 ⟨C.wl b ((hWc _ _ _).1 hb).1,((hWc _ _ _).1 hb).2.1,((hWc _ _ _).1 hb).2.2.2.2⟩,
        ⟨[],fun id=>if id∈pn then ρ id else none,fun id x h=>by
          by_cases hi:id∈pn
          · exact hpn' id hi
          · rw [if_neg hi]at h;cases h⟩,C.mx,Fence.wide.inRound l,.inr ⟨l,rfl⟩⟩,rfl,rfl,rfl,fun _=>rfl,rfl⟩
    have hr:=round C' ⟨l,e3⟩ k _ hv hok
    unfold AW at hr
    rw [e3]at hr
    obtain⟨z1,z2⟩:=y4 (w:=W) (L:=L') (ρ:=ρ') ps.toList v x.toList (gF tl) a.tmps (fun p hp=>by rw [g0.size];exact hps' p hp)
      ⟨hxr.1,fun i u y hu hy=>(hxr.2 i u y hu hy).mono (fun b hb=>⟨l1 b hb,rfl⟩) fun _ _ h=>by cases h⟩ (tmU hT (fun b hb=>l1 b (.inl hb)) l2)
    have ez:((ps.toList.zip x.toList).foldl (fun t (p,v)=>t.setIfInBounds p v) a.tmps)=(ps.zip x).foldl (fun t (p,v)=>t.setIfInBounds p v) a.tmps:=by
      rw [<-Array.toList_zip,Array.foldl_toList]
    rw [ez]at z1 z2
    have gm:Gm C' ⟨oY (gF tl) ps.toList v,eL ((pn++xn).zip (sl k)),1⟩ {tmps:=(ps.zip x).foldl (fun t (p,v)=>t.setIfInBounds p v) a.tmps,defers:=[]} W:=
      ⟨L',ρ',⟨by rw [e1,e2];exact hG,l3,z2,z1.trans g0.size,⟨[],by rw [e4t];rfl,by simp,by simp⟩,fun id y hp=>by
        rw [e4]at hp
        split at hp
        · exact l2 id y (by assumption) hp
        · cases hp⟩⟩
    have sub:∀i,C'.W i->¬A i/\¬L i/\¬F i:=fun i hi=>by rw [e1]at hi;obtain⟨q1,q2,q3,q4,_⟩:=(hWc _ _ _).1 hi;exact⟨q2,q3,q4⟩
    have subC:∀i,C'.W i->C.W i/\¬L i/\i∉Ds:=fun i hi=>by rw [e1]at hi;obtain⟨q1,q2,q3,q4,q5⟩:=(hWc _ _ _).1 hi;exact⟨q1,q3,q5⟩
    refine wpIn_mono (hr _ W gm) ?_
    rintro e a1 W1 ⟨s1,hq,gm1,t1⟩
    cases e with
    |normal=>
      refine⟨t1.mono fun j _ h=>sub j h,fun W2 ht2=> ?_⟩
      have gm2:Gm C' s1 a1 W2:=by
        obtain⟨L1,ρ1,g1⟩:=gm1
        have hnL:¬L1 l:=fun hc=>by
          have:=(g1.g.ll l hc).2
          rw [e2]at this
          exact((hLc _ _).1 this).2.1 hAl
        have hnW:¬C'.W l:=fun hc=>(sub l hc).1 hAl
        have ex:Ext W1 L1 ρ1 W2 L1 ρ1:=⟨fun b hb=>⟨hb,ht2.block b (g1.g.ll b hb).1 (by rintro rfl;exact hnL hb)⟩,fun _ _ h=>h⟩
        refine⟨L1,ρ1,⟨⟨fun b hb=>⟨Nat.lt_of_lt_of_le (g1.g.ll b hb).1 ht2.size,(g1.g.ll b hb).2⟩,fun b hb=>g1.g.new b (Nat.le_trans ht2.size hb),fun id o ho=> ?_,g1.g.sep,g1.g.tN ex⟩,g1.fr,fun t=>(g1.tm t).ext ex,g1.size,?_,g1.pin⟩⟩
        · have hr1:=g1.g.ob id o ho
          obtain⟨y,hy,hy2⟩:=hr1.lt
          refine hr1.keep ex fun x j hx hj=> ?_
          rw [hx]at hy;injection hy with hy;subst hy
          exact⟨ht2.block j (hy2 j hj).1 (by rintro rfl;exact hnW (hy2 _ hj).2.1),(hy2 j hj).2.2⟩
        · obtain⟨Es,q1,q2,q3⟩:=g1.defers
          exact⟨Es,q1,q2,fun D hD=>⟨(ht2.block D (Array.getElem?_eq_some_iff.1 (q3 D hD).1).1 (by rintro rfl;exact hnW (q3 _ hD).2.1)).trans (q3 D hD).1,(q3 D hD).2⟩⟩
      have hbw:=hq a1 W2 gm2
      have fin:∀(a5:Act) (W5:World) (s5:S) (l5:List Ob),Gm C' s5 a5 W5->aZ C'.W W2 W5->Le s5 ⟨fun _=> .any,eL ((pn++xn).zip l5),1⟩->aZ (fun i=>¬A i/\¬L i/\¬F i) W2 W5/\GS A F W5 l5:=by
        intro a5 W5 s5 l5 gm5 t5 hle
        refine⟨t5.mono fun j _ h=>sub j h,?_⟩
        obtain⟨L5,ρ5,g5⟩:=hle C' a5 W5 gm5
        have hsz:W.heap.size<=W5.heap.size:=Nat.le_trans t1.size (Nat.le_trans ht2.size t5.size)
        have tw:aZ (fun b=>C.W b/\¬L b/\b∉Ds) w W5:=by
          refine aZ.mono (R:=fun b=>(C.W b/\¬L b/\b∉Ds)\/b=l) ((((hT.trans (t1.mono fun j _ h=>subC j h)).mono fun _ _ h=> .inl h).trans (ht2.mono fun _ _ h=> .inr h)).trans (t5.mono fun j _ h=> .inl (subC j h))) fun j hj h=> ?_
          rcases h with h |h
          · exact h
          · omega
        have gg:=g5.g
        rw [e1,e2]at gg
        rw [hGS,hRG]
        have ex:Ext W5 L5 ρ5 W5 (fun b=>L5 b\/L b\/F b) ρ5:=⟨fun b hb=>⟨.inl hb,rfl⟩,fun _ _ h=>h⟩
        refine⟨⟨fun b hb=>⟨(hA b hb).1,Nat.lt_of_lt_of_le (hA b hb).2 hsz⟩,hAF⟩,tw,fun b=>L5 b\/L b\/F b,ρ5,fun b hb=> .inr hb,fun id y hi hy=>g5.pin id y (by rw [e4,if_pos hi];exact hy),g5.fr,fun b hb=> ?_,gg.new,fun id o ho=> ?_,gg.sep,gg.tN ex⟩
        · rcases hb with hb |hb |hb
          · exact gg.ll b hb
          · refine⟨Nat.lt_of_lt_of_le (g0.g.ll b hb).1 tw.size,(hLc _ _).2 ⟨(g0.g.ll b hb).2,fun h=> ?_,fun hD=>(dd3 b hD).2.2 hb⟩⟩
            rcases(hA b (.inl h)).1 with h |h
            · exact(hUw b h).2.2.1 hb
            · have:=(g0.g.ll b hb).1;omega
          · have hr:=hA b (.inr hb)
            exact⟨Nat.lt_of_lt_of_le hr.2 hsz,(hLc _ _).2 ⟨(lcF hr.1).1,hAF b hb,(lcF hr.1).2⟩⟩
        · have hr5:=gg.ob id o ho
          obtain⟨y,hy,hy2⟩:=hr5.lt
          refine hr5.keep ex fun x j hx hj=>⟨rfl,?_⟩
          rw [hx]at hy;injection hy with hy;subst hy
          obtain⟨_,p2,p3,p4,_⟩:=(hWc _ _ _).1 (hy2 j hj).2.1
          rintro(h |h |h)
          · exact(hy2 j hj).2.2 h
          · exact p3 h
          · exact p4 h
      refine wpIn_mono hbw ?_
      rintro e5 a5 W5 ⟨s5,hp5,gm5,t5⟩
      cases e5 with
      |normal=>exact⟨(fin a5 W5 s5 _ gm5 t5 hp5.2).1,hp5.1,(fin a5 W5 s5 _ gm5 t5 hp5.2).2⟩
      |ret=>obtain⟨sx,hX,hle⟩:=hp5;exact⟨(fin a5 W5 s5 _ gm5 t5 hle).1,sx,hX,(fin a5 W5 s5 _ gm5 t5 hle).2⟩
      |exit id=>obtain⟨sx,hX,hle⟩:=hp5;exact⟨(fin a5 W5 s5 _ gm5 t5 hle).1,sx,hX,(fin a5 W5 s5 _ gm5 t5 hle).2⟩
      |goto t=>obtain⟨sx,hX,hle⟩:=hp5;exact⟨(fin a5 W5 s5 _ gm5 t5 hle).1,sx,hX,(fin a5 W5 s5 _ gm5 t5 hle).2⟩
      |panic c=>exact hp5.elim
      |outgrown=>exact hp5.elim
    |ret=>exact hq.elim
    |exit id=>exact hq.elim
    |goto t=>exact hq.elim
    |panic c=>exact hq.elim
    |outgrown=>exact hq.elim
def Qf:V->Bool
 | .gd g _=>g
 |_=>true
theorem HT{v:V}(h:Qf v=true):sZ true v:=by cases v <;> first |exact fun _=>h |trivial
structure zI(P:Program)(es:List (List V)) where
  l:Nat
  J:Nat->Bool->(Nat->Prop)->(Nat->Prop)->World->Prop
  L0:Nat->Prop
  U:Nat->Prop
  B:Nat
  hY:∀k x A F W1,k< es.length->Lg es L0 k F x W1->(∀b,A b\/F b->(U b\/B<=b)/\b< W1.heap.size)->B<=W1.heap.size->J k true A F W1->YieldAt Fence.wide 0 P l x W1 fun e W2=>∃b:Bool,e= .returned (.bool b)/\aZ (fun i=>¬A i/\¬L0 i/\¬F i) W1 W2/\(b=true->J (k+1) true A F W2)/\(b=false->J k false A F W2)
  hJ:∀k g A F W1 W2,J k g A F W1->(∀b,A b\/F b->(U b\/B<=b)/\b< W1.heap.size)->B<=W1.heap.size->aZ A W1 W2->J k g (fun b=>A b\/(W1.heap.size<=b/\b< W2.heap.size)) F W2
  hD:∀k g A F (D:Nat->Prop) W1,J k g A F W1->(∀b,A b\/F b->(U b\/B<=b)/\b< W1.heap.size)->(∀b,D b->A b)->J k g (fun b=>A b/\¬D b) (fun b=>F b\/D b) W1
  hL:∀b,L0 b\/U b->b< B
  hUL:∀b,U b->¬L0 b
structure zH{P:Program}{N:Nat}{es:List (List V)}(C:Cx P N)(Y:zI P es)(A F:Nat->Prop)(w:World):Prop where
  fw:C.F=Fence.wide
  d:C.dfs=rD
  W:∀b,C.W b<->A b\/w.heap.size<=b
  LB:∀b,C.LB b->Y.L0 b\/F b\/A b\/w.heap.size<=b
  A:∀b,A b\/F b->(Y.U b\/Y.B<=b)/\b< w.heap.size
  B:Y.B<=w.heap.size
def gz{P:Program}(N:Nat){es:List (List V)}(Y:zI P es)(c:Code)(Q:Exit->S->Nat->Bool->Prop)(s:S)(k:Nat)(g:Bool):Prop:= ∀(C:Cx P N) (A F:Nat->Prop) a w,zH C Y A F w->Gm C s a w->Y.J k g A F w->c.wpIn Fence.wide 0 P (fun e a' w'=>∃(s':S) (k':Nat) (g':Bool) (C':Cx P N) (A' F':Nat->Prop),Q e s' k' g'/\zH C' Y A' F' w'/\Gm C' s' a' w'/\Y.J k' g' A' F' w') a w
section
variable {P:Program}{N:Nat}{es:List (List V)}{Y:zI P es}{Q:Exit->S->Nat->Bool->Prop}{s:S}{k:Nat}{g:Bool}
theorem zH.later{C:Cx P N}{A F:Nat->Prop}{w w':World}(h:zH C Y A F w)(t:aZ C.W w w'):zH C Y (fun b=>A b\/(w.heap.size<=b/\b< w'.heap.size)) F w'/\aZ A w w':=by
 have hs:=t.size;refine⟨⟨h.fw,h.d,fun b=>(h.W b).trans ?_,fun b hb=> ?_,fun b hb=> ?_,Nat.le_trans h.B hs⟩,t.mono fun j hj hW=>by rcases(h.W j).1 hW with h |h;exact h;omega⟩
 ·constructor
  ·rintro(h |h);·exact .inl (.inl h)
   ·by_cases hb:b< w'.heap.size;·exact .inl (.inr ⟨h,hb⟩)
    ·exact .inr oM
  ·rintro((h |h) |h);·exact .inl h
   ·exact .inr h.1
   ·exact .inr oM
 ·rcases h.LB b hb with h |h |h |h;·exact .inl h
  ·exact .inr (.inl h)
  ·exact .inr (.inr (.inl (.inl h)))
  ·by_cases hb:b< w'.heap.size;·exact .inr (.inr (.inl (.inr ⟨h,hb⟩)))
   ·exact .inr (.inr (.inr oM))
 ·rcases hb with(hb |hb) |hb;·exact⟨(h.A b (.inl hb)).1,Nat.lt_of_lt_of_le (h.A b (.inl hb)).2 hs⟩
  ·exact⟨.inr (Nat.le_trans h.B hb.1),hb.2⟩
  ·exact⟨(h.A b (.inr hb)).1,Nat.lt_of_lt_of_le (h.A b (.inr hb)).2 hs⟩
theorem fU{c:Code}(h:∀C:Cx P N,C.F=Fence.wide->C.dfs=rD->AW C c (fun e s'=>Q e s' k g) s):gz N Y c Q s k g:=by intro C A F a w yc gm hj;have:=h C yc.fw yc.d a w gm;rw [yc.fw]at this;refine wpIn_mono this ?_;rintro e a' w' ⟨s',q,gm',t⟩;obtain⟨y1,y2⟩:=yc.later t;exact⟨s',k,g,C,_,_,q,y1,gm',Y.hJ _ _ _ _ _ _ hj yc.A yc.B y2⟩
theorem cD{x y:Code}(h:gz N Y x (jD (fun s' k' g'=>gz N Y y Q s' k' g') Q) s k g):gz N Y (.seq x y) Q s k g:=by
 intro C A F a w yc gm hj;refine wpIn_seq (wpIn_mono (h C A F a w yc gm hj) ?_);rintro e a' w' ⟨s',k',g',C',A',F',q,yc',gm',hj'⟩;cases e with
 |normal=>exact q C' A' F' a' w' yc' gm' hj'
 |_=>exact⟨s',k',g',C',A',F',q,yc',gm',hj'⟩
theorem bp{x y:Code}(h:∀C:Cx P N,C.F=Fence.wide->C.dfs=rD->∀K:S->Prop,(∀s',gz N Y y Q s' k g->K s')->AW C x (dS K (fun e s'=>Q e s' k g)) s):gz N Y (.seq x y) Q s k g:=by refine cD (fU fun C hF hC=>BF (h C hF hC _ fun _ h=>h) ?_);intro e s' q;cases e <;> exact q
theorem cv{id:Nat}{c:Code}(h:gz N Y c (gP id Q) s k g):gz N Y (.block id c) Q s k g:=by
 intro C A F a w yc gm hj;refine wpIn_block (wpIn_mono (h C A F a w yc gm hj) ?_);rintro e a' w' ⟨s',k',g',C',A',F',q,r⟩;cases e with
 |exit id'=>
  simp only [Exit.inBlock,gP]at q ⊢;split at q;·rename_i h;rw [if_pos h];exact⟨s',k',g',C',A',F',q,r⟩
  ·rename_i h;rw [if_neg h];exact⟨s',k',g',C',A',F',q,r⟩
 |_=>exact⟨s',k',g',C',A',F',q,r⟩
theorem cA{c:Operand}{x y:Code}{t:Bool}(hc:ev s.tm c= .b t)(h1:t=true->gz N Y x Q s k g)(h2:t=false->gz N Y y Q s k g):gz N Y (.cond c x y) Q s k g:=by
 intro C A F a w yc gm hj;obtain⟨L,ρ,g'⟩:=gm;have:=g'.tm.eval g'.g.gl c;rw [hc]at this;refine wpIn_cond this.aN ?_;cases t with
 |true=>exact h1 rfl C A F a w yc ⟨L,ρ,g'⟩ hj
 |false=>exact h2 rfl C A F a w yc ⟨L,ρ,g'⟩ hj
theorem nq(h:Q .ret s k g):gz N Y .ret Q s k g:=fun C A F _ _ yc gm hj=>wpIn_ret ⟨s,k,g,C,A,F,h,yc,gm,hj⟩
theorem ox{id:Nat}(h:Q (.exit id) s k g):gz N Y (.exit id) Q s k g:=fun C A F _ _ yc gm hj=>wpIn_exit ⟨s,k,g,C,A,F,h,yc,gm,hj⟩
theorem fJ(h:Q .normal s k g):gz N Y .skip Q s k g:=fun C A F _ _ yc gm hj=>wpIn_skip ⟨s,k,g,C,A,F,h,yc,gm,hj⟩
open Classical in
theorem lK{ι:Type}{c:Code}(I:ι->S)(kk:ι->Nat)(ok:ι->Prop)(μ:ι->Nat)(x0:ι)(hx:ok x0)(h0:Le s (I x0))(hk:kk x0=k) (round:∀x,ok x->gz N Y c (jD (fun s' k' g'=>g'=true/\∃y,ok y/\Le s' (I y)/\kk y=k'/\μ y< μ x) Q) (I x) (kk x) true):gz N Y (.loop c) Q s k true:=by
 intro C A F a w yc gm hj;have pr:∃q:Act->World->Nat->Prop,q=fun a' w' n=>∃(x:ι) (C':Cx P N) (A' F':Nat->Prop),ok x/\μ x=n/\zH C' Y A' F' w'/\Gm C' (I x) a' w'/\Y.J (kk x) true A' F' w':=⟨_,rfl⟩;obtain⟨q,hq⟩:=pr;have hqi:∀a' w' n,q a' w' n<->∃(x:ι) (C':Cx P N) (A' F':Nat->Prop),ok x/\μ x=n/\zH C' Y A' F' w'/\Gm C' (I x) a' w'/\Y.J (kk x) true A' F' w':=fun a' w' n=>by rw [hq]
 refine wpIn_loop (fun a' w'=>∃n,q a' w' n) (fun a' w'=>if h:∃n,q a' w' n then(least _ h).choose else 0) ⟨μ x0,(hqi _ _ _).2 ⟨x0,C,A,F,hx,rfl,yc,h0 C a w gm,by rw [hk];exact hj⟩⟩ ?_;rintro a' w' hex;have hl:=(least _ hex).choose_spec;obtain⟨x,C',A',F',hok,hμ,yc',g',hj'⟩:=(hqi _ _ _).1 hl.1;refine wpIn_mono (round x hok C' A' F' a' w' yc' g' hj') ?_;rintro e a'' w'' ⟨s'',k'',g'',C'',A'',F'',r,yc'',gm'',hj''⟩;cases e with
 |normal=>obtain⟨rfl,y,hy,hle,hky,hlt⟩:=r;have hqy:q a'' w'' (μ y):=(hqi _ _ _).2 ⟨y,C'',A'',F'',hy,rfl,yc'',hle C'' _ _ gm'',by rw [hky];exact hj''⟩;refine⟨⟨μ y,hqy⟩,?_⟩;rw [dif_pos ⟨μ y,hqy⟩,dif_pos hex];have h1:=(least _ ⟨μ y,hqy⟩).choose_spec.2 (μ y) hqy;omega
 |_=>exact⟨s'',k'',g'',C'',A'',F'',r,yc'',gm'',hj''⟩
end
structure Pv{P:Program}(N:Nat){es:List (List V)}(Y:zI P es)(ops:Array Oper)(nx:Nat)(os:List Oper)(fo:Operand)(ar:Array Operand)(d:Nat)(y:Oper)(Q:Exit->S->Nat->Bool->Prop)(k:Nat)(tm:Nat->V)(σ:Nat->Option Ob):Prop where
  hg:dJ ops tm y=some true
  hu:((fo::ar.toList).all fun x=>Qf (ev tm x))=true
  hf:ug (ev tm fo)= .c (.func (.yield Y.l) #[] #[])
  hv:∃v,es[k]?=some v/\A2 (ar.toList.map fun x=>ug (ev tm x)) v
  ck:V.bA (ar.toList.map fun x=>ug (ev tm x))=true
  t:∀C:Cx P N,C.F=Fence.wide->C.dfs=rD->bF C ops nx os (bL tm d (.b true)) σ [] fun tm' σ' _=>Q .normal ⟨tm',σ',nx+1⟩ (k+1) true
  f:∀C:Cx P N,C.F=Fence.wide->C.dfs=rD->bF C ops nx os (bL tm d (.b false)) σ [] fun tm' σ' _=>Q .normal ⟨tm',σ',nx+1⟩ k false
theorem zk{P:Program}{N:Nat}{es:List (List V)}{Y:zI P es}{Q:Exit->S->Nat->Bool->Prop}{nx k:Nat}{ol:List Oper}(n:Nat){fo:Operand}{ar:Array Operand}{ats:Array TypeId}{d:Nat}{ty:TypeId}{pos:String}{af:Array Edge}{gd':Option (Nat×Bool)}
    (h1:∀o∈ol,∀t,o.dst=some t->t< N) (h2:(ol.filterMap (·.dst)).Nodup) (hy:ol[n]?=some ⟨some d,.call {callee:= .value fo,args:=ar,argTypes:=ats},ty,pos,af,gd'⟩){C:Cx P N}{A F:Nat->Prop}{w:World}(yc:zH C Y A F w) (hj:Y.J k true A F w)
    {tm1:Nat->V}{σ1:Nat->Option Ob}(ys:Pv N Y ol.toArray nx (ol.drop (n+1)) fo ar d ⟨some d,.call {callee:= .value fo,args:=ar,argTypes:=ats},ty,pos,af,gd'⟩ Q k tm1 σ1){a1:Act}{W1:World}{L1:Nat->Prop}{ρ1:Nat->Option Value}{fr1:Nat->Prop}
    (g1:qR C.W C.LB N C.dfs fr1 tm1 σ1 a1 W1 L1 ρ1) (q1:∀o∈ol.drop (n+1),∀t,o.dst=some t->∀id,nx*100000<=id->id% 1000=t->id< (nx+1)*100000->fr1 id) (q2:∀id,bV (nx+1) id->fr1 id) (t1:aZ C.W w W1) :
    wpOpIn Fence.wide 0 P ol.toArray (fun e a' w'=>∃(s':S) (k':Nat) (g':Bool) (C':Cx P N) (A' F':Nat->Prop),Q e s' k' g'/\zH C' Y A' F' w'/\Gm C' s' a' w'/\Y.J k' g' A' F' w') n (wpOpsIn Fence.wide 0 P ol.toArray (fun e a' w'=>∃(s':S) (k':Nat) (g':Bool) (C':Cx P N) (A' F':Nat->Prop),Q e s' k' g'/\zH C' Y A' F' w'/\Gm C' s' a' w'/\Y.J k' g' A' F' w') (List.range' (n+1) (ol.drop (n+1)).length)) a1 W1:=by
  have hn:n< ol.length:=(List.getElem?_eq_some_iff.1 hy).1
  obtain⟨y,hyd⟩:∃y:Oper,y=⟨some d,.call {callee:= .value fo,args:=ar,argTypes:=ats},ty,pos,af,gd'⟩:=⟨_,rfl⟩
  have hsp:ol=ol.take n++y::ol.drop (n+1):=by
    rw [hyd]
    have e1:ol.drop n=ol[n]::ol.drop (n+1):=List.drop_eq_getElem_cons hn
    have e2:ol[n]=_:=(List.getElem?_eq_some_iff.1 hy).2
    rw [<-e2,<-e1,List.take_append_drop]
  have hmem:∀o∈ol.take n++y::ol.drop (n+1),o∈ol:=fun o ho=>by rwa [<-hsp]at ho
  obtain⟨yc1,ta1⟩:=yc.later t1
  have hj1:=Y.hJ _ _ _ _ _ _ hj yc.A yc.B ta1
  obtain⟨A1,hA1⟩:∃A1:Nat->Prop,A1=fun b=>A b\/(w.heap.size<=b/\b< W1.heap.size):=⟨_,rfl⟩
  rw [<-hA1]at yc1 hj1
  -- all that is frozen is given up
  have hj2:=Y.hD _ _ _ _ (fun b=>A1 b/\L1 b) _ hj1 yc1.A (fun b hb=>hb.1)
  obtain⟨A2',hA2⟩:∃A2':Nat->Prop,∀b,A2' b<->A1 b/\¬(A1 b/\L1 b):=⟨_,fun _=>Iff.rfl⟩
  obtain⟨F2,hF2⟩:∃F2:Nat->Prop,∀b,F2 b<->F b\/(A1 b/\L1 b):=⟨_,fun _=>Iff.rfl⟩
  have hj2':Y.J k true A2' F2 W1:=by
    rw [show A2'=_ from funext fun b=>propext (hA2 b),show F2=_ from funext fun b=>propext (hF2 b)]
    exact hj2
  clear hj2
  have hAF2:∀b,A2' b\/F2 b->(Y.U b\/Y.B<=b)/\b< W1.heap.size:=fun b hb=>by
    rcases hb with hb |hb
    · exact yc1.A b (.inl ((hA2 b).1 hb).1)
    · rcases(hF2 b).1 hb with h |h
      · exact yc1.A b (.inr h)
      · exact yc1.A b (.inl h.1)
  obtain⟨v,hv,ha⟩:=ys.hv
  have hk:k< es.length:=(List.getElem?_eq_some_iff.1 hv).1
  have hargs:RV W1 L1 ρ0 v (ar.map a1.eval).toList:=by
    refine ha.rv (RV.free (ρ:=ρ1) ⟨by simp,fun i u x hu hx=> ?_⟩ ys.ck)
    simp only [List.getElem?_map,Option.map_eq_some_iff,Array.toList_map]at hu hx
    obtain⟨p,hp,rfl⟩:=hu
    obtain⟨q,hq,rfl⟩:=hx
    rw [hp]at hq
    injection hq with hq
    subst hq
    exact(g1.tm.eval g1.g.gl p).ug (HT (List.all_eq_true.1 ys.hu p (List.mem_cons_of_mem _ (List.mem_of_getElem? hp))))
  have hLl:∀b,L1 b->Y.L0 b\/F2 b:=fun b hb=>by
    have:=g1.g.ll b hb
    rcases yc1.LB b this.2 with h |h |h |h
    · exact .inl h
    · exact .inr ((hF2 b).2 (.inl h))
    · exact .inr ((hF2 b).2 (.inr ⟨h,hb⟩))
    · omega
  obtain⟨fn,tmps,assign,body,hyr,hR⟩:=Y.hY k (ar.map a1.eval) A2' F2 W1 hk ⟨v,hv,hargs.mono (fun b hb=>⟨hLl b hb,rfl⟩) fun _ _ h=>h⟩ hAF2 yc1.B hj2'
  have hfe:a1.eval fo= .func (.yield Y.l) #[] #[]:=by
    have:=(g1.tm.eval g1.g.gl fo).ug (HT (List.all_eq_true.1 ys.hu fo (List.mem_cons_self ..)))
    rw [ys.hf]at this
    exact this.aN
  have ho:ol.toArray[n]?=some y:=by simp [hy,hyd]
  unfold wpOpIn
  rw [ho]
  simp only
  have hwt:Region.wanted y (yielded ol.toArray a1.tmps)=true:=by rw [hyd];exact oa g1.tm ys.hg
  rw [if_pos hwt]
  refine⟨fun f _=>trivial,?_⟩
  have hrun:(y.semAt Fence.wide.round a1.eval).run P W1= .ok (.round Y.l fn tmps assign body) W1:=by
    rw [Oper.semAt_eq _ _ _ (fun c e=>by rw [hyd]at e;cases e),hyd]
    simp [execOp,resolve,Deferred.ofValue,invoke,hfe,hyr]
  rw [hrun,Oper.uponIn_round]
  refine⟨fun e=>by simp [Fence.wide]at e,hR.mono ?_⟩
  rintro e W2 ⟨b,rfl,ht2,j1,j2⟩
  have hyd2:y.dst=some d:=by rw [hyd]
  have hdN:d< N:=h1 y (hmem y (by simp)) d hyd2
  obtain⟨C2,c1,c2,c3,c4⟩:∃C2:Cx P N,C2.W=(fun b=>A2' b\/W2.heap.size<=b)/\C2.LB=(fun b=>Y.L0 b\/F2 b\/A2' b\/W2.heap.size<=b)/\C2.dfs=C.dfs/\C2.F=Fence.wide:=
    ⟨⟨fun b=>A2' b\/W2.heap.size<=b,fun b=>Y.L0 b\/F2 b\/A2' b\/W2.heap.size<=b,fun b h=> .inr (.inr h),C.dfs,C.mx,Fence.wide,.inl rfl⟩,rfl,rfl,rfl,rfl⟩
  have yc2:zH C2 Y A2' F2 W2:=⟨c4,c3.trans yc.d,fun b=>by rw [c1],fun b hb=>by rw [c2]at hb;exact hb,fun b hb=>⟨(hAF2 b hb).1,Nat.lt_of_lt_of_le (hAF2 b hb).2 ht2.size⟩,Nat.le_trans yc1.B ht2.size⟩
  have ex:Ext W1 L1 ρ1 W2 L1 ρ1:=⟨fun b hb=>⟨hb,ht2.block b (g1.g.ll b hb).1 fun hc=>(hLl b hb).elim hc.2.1 hc.2.2⟩,fun _ _ h=>h⟩
  have inA:∀b,b< W1.heap.size->C.W b->¬L1 b->A2' b:=fun b hb hW hl=>by
    rcases(yc1.W b).1 hW with h |h
    · exact(hA2 b).2 ⟨h,fun h=>hl h.2⟩
    · omega
  have gb:∀z:Bool,z=b->qR C2.W C2.LB N C2.dfs fr1 (bL tm1 d (.b z)) σ1 (a1.put y.dst (.bool b)) W2 L1 ρ1:=by
    rintro z rfl
    rw [hyd2,c1,c2,c3]
    refine⟨⟨fun b hb=>⟨Nat.lt_of_lt_of_le (g1.g.ll b hb).1 ht2.size,?_⟩,fun b hb=>⟨.inr hb,.inr (.inr (.inr hb))⟩,fun id o ho=> ?_,g1.g.sep,g1.g.tN ex⟩,g1.fr,(show TM (eR tm1 (some d) (V.b z)) _ _ _ _ from(g1.tm.ext ex).put (fun t ht=>by injection ht with ht;rw [<-ht,g1.size];exact hdN) (.c _ _)),by simp [Act.put,g1.size],?_,g1.pin⟩
    · rcases hLl b hb with h |h
      · exact .inl h
      · exact .inr (.inl h)
    · have hr1:=g1.g.ob id o ho
      obtain⟨u,hu,hu2⟩:=hr1.lt
      refine hr1.uB ex fun x j hx hj=> ?_
      rw [hx]at hu;injection hu with hu;subst hu
      have hA:=inA j (hu2 j hj).1 (hu2 j hj).2.1 (hu2 j hj).2.2
      exact⟨ht2.block j (hu2 j hj).1 fun hc=>hc.1 hA,(hu2 j hj).2.2,.inl hA⟩
    · obtain⟨Es,p1,p2,p3⟩:=g1.defers
      refine⟨Es,p1,p2,fun D hD=> ?_⟩
      have hlt:=(Array.getElem?_eq_some_iff.1 (p3 D hD).1).1
      have hA:=inA D hlt (p3 D hD).2.1 (p3 D hD).2.2
      exact⟨(ht2.block D hlt fun hc=>hc.1 hA).trans (p3 D hD).1,.inl hA,(p3 D hD).2.2⟩
  have hnd:((ol.drop (n+1)).filterMap (·.dst)).Nodup:=by
    rw [hsp,List.filterMap_append,List.filterMap_cons,hyd2]at h2
    exact(List.nodup_cons.1 (List.nodup_append.1 h2).2.1).2
  have tail:∀(z:Bool) (k':Nat),z=b->Y.J k' z A2' F2 W2->bF C2 ol.toArray nx (ol.drop (n+1)) (bL tm1 d (.b z)) σ1 [] (fun tm' σ' _=>Q .normal ⟨tm',σ',nx+1⟩ k' z)->
      wpOpsIn Fence.wide 0 P ol.toArray (fun e a' w'=>∃(s':S) (k':Nat) (g':Bool) (C':Cx P N) (A' F':Nat->Prop),Q e s' k' g'/\zH C' Y A' F' w'/\Gm C' s' a' w'/\Y.J k' g' A' F' w') (List.range' (n+1) (ol.drop (n+1)).length) (a1.put y.dst (.bool b)) W2:=by
    intro z k' hz hj' hA
    obtain⟨tr2,tm2,σ2,h4,hq⟩:=hA.run
    refine yV (P:=P) (W:=C2.W) (LB:=C2.LB) (ops:=ol.toArray) (nx:=nx) (N:=N) (dfs:=C2.dfs) (.inl rfl) (by simpa using h1) (ol.drop (n+1)) (n+1) tr2 _ tm2 _ σ2 _ W2 W2 L1 ρ1 fr1 (fun j=>by simp) h4 (gb z hz) q1 q2 hnd (aZ.refl _ _) fun a' w' L' ρ' g' t'=> ?_
    obtain⟨y1,y2⟩:=yc2.later t'
    exact⟨⟨tm2,σ2,nx+1⟩,k',z,C2,_,_,hq,y1,⟨L',ρ',g'⟩,Y.hJ _ _ _ _ _ _ hj' yc2.A yc2.B y2⟩
  cases b with
  |true=>exact tail true (k+1) rfl (j1 rfl) (ys.t C2 c4 (c3.trans yc.d))
  |false=>exact tail false k rfl (j2 rfl) (ys.f C2 c4 (c3.trans yc.d))
theorem ig{P:Program}{N:Nat}{es:List (List V)}{Y:zI P es}{Q:Exit->S->Nat->Bool->Prop}{id nx k:Nat}{ol:List Oper}{tm:Nat->V}{σ:Nat->Option Ob}(n:Nat){fo:Operand}{ar:Array Operand}{ats:Array TypeId}{d:Nat}{ty:TypeId}{pos:String}{af:Array Edge}{gd':Option (Nat×Bool)} (hok:gM N ol=true) (hy:ol[n]?=some ⟨some d,.call {callee:= .value fo,args:=ar,argTypes:=ats},ty,pos,af,gd'⟩) (h:∀C:Cx P N,C.F=Fence.wide->C.dfs=rD->bF C ol.toArray nx (ol.take n) tm σ [] fun tm1 σ1 _=>Pv N Y ol.toArray nx (ol.drop (n+1)) fo ar d ⟨some d,.call {callee:= .value fo,args:=ar,argTypes:=ats},ty,pos,af,gd'⟩ Q k tm1 σ1):gz N Y (.region id ol.toArray false) Q ⟨tm,σ,nx⟩ k true:=by
 intro C A F a w yc ⟨L,ρ,g⟩ hj;obtain⟨h1,h2⟩:=jR hok;obtain⟨tr,tm1,σ1,h3,ys⟩:=(h C yc.fw yc.d).run;have hn:n< ol.length:=(List.getElem?_eq_some_iff.1 hy).1;obtain⟨y,hyd⟩:∃y:Oper,y=⟨some d,.call {callee:= .value fo,args:=ar,argTypes:=ats},ty,pos,af,gd'⟩:=⟨_,rfl⟩;have hsp:ol=ol.take n++y::ol.drop (n+1):=by rw [hyd];have e1:ol.drop n=ol[n]::ol.drop (n+1):=List.drop_eq_getElem_cons hn;have e2:ol[n]=_:=(List.getElem?_eq_some_iff.1 hy).2;rw [<-e2,<-e1,List.take_append_drop]
 refine wpIn_region ?_;have hsz:ol.toArray.size=(ol.take n).length+(y::ol.drop (n+1)).length:=by simp;omega
 rw [List.range_eq_range',hsz];have hmem:∀o∈ol.take n++y::ol.drop (n+1),o∈ol:=fun o ho=>by rwa [<-hsp]at ho
 refine Cr (P:=P) (W:=C.W) (LB:=C.LB) (ops:=ol.toArray) (nx:=nx) (N:=N) (dfs:=C.dfs) (.inl rfl) (by simpa using h1) (y::ol.drop (n+1)) (ol.take n) 0 tr tm tm1 σ σ1 a w w L ρ (bV nx) (fun j=>by rw [<-hsp];simp) h3 g (fun o ho t ht id h5 h6 h7=>h5) (fun id hid=>iK hid) (by rw [<-hsp];exact h2) (aZ.refl _ _) ?_;intro a1 W1 L1 ρ1 fr1 g1 q1 q2 t1;rw [Nat.zero_add,List.length_take,Nat.min_eq_left (Nat.le_of_lt hn),List.length_cons,List.range'_succ,wpOpsIn_cons];exact zk n h1 h2 hy yc hj ys g1 (fun o ho=>q1 o (by simp [ho])) q2 t1
theorem mH{T:List TI}{P:Program}(hT:aK T P)(hmx:P.follows .mixedOrders=true){f:FuncId}{fn:Func}{c:Code}{N:Nat}(hk:qQ P f fn c N)(hres:fn.results= #[]){caps:List V}{ins:List Ob}{es:List (List V)}(hargs:caps.length+1<=N)
    (h:∀Y:zI P es,gz N Y c (uc es.length) ⟨fun t=>((V.c (.func (.yield Y.l) #[] #[]))::caps).getD t .any,fm ins,1⟩ 0 true) (hn:ins.length<=400):zw P f caps ins es:=by
  refine⟨hk.call,fun L U w ρ lb hL hU hgl hobs hsep hnone hlb=> ?_⟩
  intro l J W hsz hLW hl hlW hJ hD hY h0
  obtain⟨C,cW,cLB,cd,cF⟩:∃C:Cx P N,C.W=(fun b=>U b\/W.heap.size<=b)/\C.LB=(fun b=>L b\/False\/U b\/W.heap.size<=b)/\C.dfs=rD/\C.F=Fence.wide:=⟨⟨fun b=>U b\/W.heap.size<=b,fun b=>L b\/False\/U b\/W.heap.size<=b,fun b h=> .inr (.inr h),rD,hmx,Fence.wide,.inl rfl⟩,rfl,rfl,rfl,rfl⟩
  obtain⟨Y,yl,yJ,yL,yU,yB⟩:∃Y:zI P es,Y.l=l/\Y.J=J/\Y.L0=L/\Y.U=U/\Y.B=W.heap.size:=
    ⟨⟨l,J,L,U,W.heap.size,hY,hJ,hD,fun b hb=>Nat.lt_of_lt_of_le (hb.elim (hL b) fun h=>(hU b h).1) hsz,fun b hb=>(hU b hb).2⟩,rfl,rfl,rfl,rfl,rfl⟩
  have yc:zH C Y U (fun _=>False) W:=⟨cF,cd,fun b=>by rw [cW],fun b hb=>by rw [cLB]at hb;rw [yL];exact hb,fun b hb=>by
    rcases hb with hb |hb
    · exact⟨.inl (by rw [yU];exact hb),Nat.lt_of_lt_of_le (hU b hb).1 hsz⟩
    · exact hb.elim,by rw [yB];exact Nat.le_refl _⟩
  have ew:Ext w L ρ W L ρ:=⟨fun b hb=>⟨hb,hLW b (.inl hb)⟩,fun _ _ h=>h⟩
  have hvs:RV W L ρ ((V.c (.func (.yield Y.l) #[] #[]))::caps) (#[Value.func (.yield l) #[] #[]]++lb).toList:=by
    have e1:(#[Value.func (.yield l) #[] #[]]++lb).toList=Value.func (.yield l) #[] #[]::lb.toList:=by simp
    rw [e1,yl]
    exact .cons (.c _ _) ⟨hlb.1,fun i u x hu hx=>(hlb.2 i u x hu hx).ext ew⟩
  generalize hargsL:((V.c (.func (.yield Y.l) #[] #[]))::caps)=args at hvs
  generalize (#[Value.func (.yield l) #[] #[]]++lb)=vs at hvs
  have hal:args.length=caps.length+1:=by rw [<-hargsL];simp
  have hvl:vs.size=args.length:=by have:=hvs.1;simpa using this.symm
  refine callsIn_of_wp_marks (n:=0) hk.hf hk.hb trivial ?_ rfl
  have hw:=h Y
  rw [hargsL]at hw
  have hobj:∀id o,fm ins id=some o->500<=id/\id< 500+ins.length/\ins[id- 500]?=some o:=fun id o ho=>by
    unfold fm at ho
    split at ho
    · have:=(List.getElem?_eq_some_iff.1 ho).1
      exact⟨by omega,by omega,ho⟩
    · cases ho
  have hfrs:∀id,bV 1 id->ρ id=none:=fun id hid=>hnone id (by unfold bV at hid;omega)
  refine wpIn_mono (hw C _ _ _ W yc ⟨L,ρ,⟨⟨fun b hb=>⟨Nat.lt_of_lt_of_le (hL b hb) hsz,by rw [cLB];exact .inl hb⟩,fun b hb=>⟨by rw [cW];exact .inr hb,by rw [cLB];exact .inr (.inr (.inr hb))⟩,(fun id o ho=> ?_),fun i j x y k hij _ _=>hsep i j x y k hij,fun g=>(hgl g).mono (fun b hb=>⟨hb,hLW b (.inl hb)⟩) fun _ _ h=>h⟩,hfrs,fun t=> ?_,?_,?_,fun id x hp=>by rw [cd]at hp;cases hp⟩⟩ ?_) ?_
  · obtain⟨h1,h2,h3⟩:=hobj id o ho
    have h4:=hobs _ _ h3
    rw [show 500+(id- 500)=id by omega]at h4
    have h5:Real C.W w L ρ id o:=h4.wider fun b hb=>by rw [cW];exact .inl hb
    refine h5.keep ew fun x k hx hk=> ?_
    obtain⟨y,hy,hb⟩:=h4.lt
    rw [hx]at hy;injection hy with hy;subst hy
    obtain⟨q1,q2,q3⟩:=hb k hk
    exact⟨hLW k (.inr q2),q3⟩
  · by_cases ht:t< args.length
    · have h1:args[t]?=some args[t]:=List.getElem?_eq_getElem ht
      obtain⟨x,hx,hr⟩:=hvs.get h1
      have e1:args.getD t .any=args[t]:=by simp [List.getD_eq_getElem?_getD,h1]
      have e2:(vs++Array.replicate (fn.ntmps- vs.size) undef).getD t undef=x:=by
        rw [Array.getD_eq_getD_getElem?,Array.getElem?_append_left oM]
        have:vs[t]?=some x:=by simpa using hx
        rw [this];rfl
      show Go.Ab.R W L ρ (args.getD t .any) _
      rw [e1,e2];exact hr
    · have e1:args.getD t .any= .any:=by simp [List.getD_eq_getElem?_getD,List.getElem?_eq_none (Nat.le_of_not_lt ht)]
      show Go.Ab.R W L ρ (args.getD t .any) _
      rw [e1];exact .any _ _
  · have:=hk.hn
    simp;omega
  · exact⟨[],by rw [cd];rfl,by simp,by simp⟩
  · rw [yJ];exact h0
  · rintro e a' w' ⟨s',k,g,C',A',F',⟨he,hg1,hg2⟩,yc',⟨L',ρ',g'⟩,hj⟩
    obtain⟨Ds,d1,d2,d3⟩:=g'.defers
    rw [yc'.d,show rD.tl=[]from rfl,List.append_nil]at d1
    refine jJ Ds he d1 d2 (fun D hD=>(d3 D hD).1) fun w2 ht2=> ?_
    obtain⟨g2,e2⟩:=g'.g.marks ht2 d3
    obtain⟨x,hx,_⟩:=nX hT g2 (fun t=>(g'.tm t).ext e2) fn (v:= .tup []) (by rw [hres];rfl)
    have hj2:=Y.hJ k g A' F' _ _ hj yc'.A yc'.B (ht2.mono fun D hl hD=>by
      rcases(yc'.W D).1 (d3 D hD).2.1 with h |h
      · exact h
      · omega)
    rw [yJ]at hj2
    refine⟨x,hx,⟨x,rfl⟩,fun b=>A' b\/(w'.heap.size<=b/\b< w2.heap.size),F',fun b hb=> ?_,?_⟩
    rotate_left
    · cases g with
      |true=>
        have:=hg1 rfl;subst this
        exact .inl hj2
      |false=>exact .inr ⟨k,hg2 rfl,hj2⟩
    · rcases hb with hb |hb
      · have:=(yc'.A b (.inl hb)).1
        rw [yB,yU]at this;exact this
      · have:=yc'.B
        rw [yB]at this;exact .inr oM
end Go.Ab

namespace Go.Dw
open Go.RowKit Go.Shelf
def j8(r:Option Nat):Fence:={Fence.wide with round:=r}
section
variable {P:Program}{ops:Array Oper}{md:Region.Mode}{w:World}{r:Option Nat}{m:Nat}
theorem qw{o:Oper}{a:Act}{K:Act->Prop}{K':Act->World->Prop}{Q':Exit->Act->World->Prop}(h:∀a,K a->K' a w)(hh:o.still P a w K):o.wpIn (j8 r) m P a w K' Q':=by
  refine⟨fun _ _=>trivial,?_⟩
  have hs:o.semAt (j8 r).round a.eval=execOp a.eval o\/∃c,o.op= .defer c:=by
    cases r with
    |none=>exact .inl rfl
    |some l=>
      by_cases hd:∃c,o.op= .defer c
      · exact .inr hd
      · exact .inl (Oper.semAt_some l a.eval o (fun c e=>hd ⟨c,e⟩))
  unfold Oper.still at hh
  rcases hs with hs | ⟨c,hc⟩
  · rw [hs]
    generalize (execOp a.eval o).run P w=x at*
    cases x with
    |ok n w'=>
      cases n <;> simp only [Oper.stillUpon]at hh <;> simp only [Oper.uponIn]
      case enter f args=>
        obtain⟨rfl,v,hc,hn⟩:=hh
        refine⟨fun h=>by simp [j8,Fence.wide]at h,?_⟩
        show CallsIn Fence.wide (m- 1) P f args w' _
        exact callsIn_wide.2 (hc.mono fun e w'' ⟨he,hw⟩=>by subst he;subst hw;exact h _ hn)
      all_goals (obtain⟨rfl,h2⟩:=hh;exact h _ h2)
    |halt x w'=>simp only [Oper.stillUpon]at hh
  · exfalso
    unfold execOp at hh
    rw [hc]at hh
    simp only [Sem.run_bind]at hh
    generalize (resolve a.eval c o.type).run P w=x at hh
    cases x with
    |ok d w'=>simp [Result.andThen,Oper.stillUpon]at hh
    |halt x w'=>simp [Result.andThen,Oper.stillUpon]at hh
theorem s8{i:Nat}{a:Act}{K:Act->Prop}{K':Act->World->Prop}{Q':Exit->Act->World->Prop}(h:∀a,K a->K' a w)(hh:stOp P ops w i K a):wpOpIn (j8 r) m P ops Q' i K' a w:=by
 unfold stOp at hh;unfold wpOpIn;split;·rename_i ho;simp only [ho]at hh;exact h _ hh
 ·rename_i o ho;simp only [ho]at hh;split;·rename_i hw;simp only [hw,if_true]at hh;exact qw h hh
  ·rename_i hw;simp only [hw]at hh;exact⟨fun _ _=>trivial,h _ hh⟩
theorem j9{n g:Nat}{L:Array Bool->Act->Prop}{Q':Exit->Act->World->Prop}(hL:∀listed a,L listed a->wpAnyIn (j8 r) m P md ops Q' g listed a w) : ∀(f:Nat) (listed:Array Bool) (a:Act),wpAnyL P md ops w n L f listed a->wpAnyIn (j8 r) m P md ops Q' (f+g) listed a w
 |0,listed,a,h=>by rw [Nat.zero_add];exact hL _ _ h
 |f+1,listed,a,h=>by rw [show f+1+g=(f+g)+1 by omega];exact⟨fun h0=>absurd h0 h.1,fun i hi=>s8 (fun a' h'=>j9 hL f _ a' h') (h.2 i hi).2⟩
theorem lI{Q':Exit->Act->World->Prop}:∀(l:List Oper) (k:Nat) (listed:Array Bool) (a:Act) (w:World),(∀j,l[j]?=ops[k+j]?)-> Region.seqB md ops l.length k listed=true->wpListIn (j8 r) m P ops Q' l a w->wpAnyIn (j8 r) m P md ops Q' l.length listed a w
 | [],_,_,_,_,_,hB,h=>⟨by simpa [Region.seqB]using hB,h⟩
 |o::l,k,listed,a,w,hl,hB,h=>by
  have h0:ops[k]?=some o:=by simpa using (hl 0).symm
  simp only [List.length_cons,Region.seqB,Bool.and_eq_true,decide_eq_true_eq]at hB;refine⟨fun h1=>(by rw [hB.1]at h1;cases h1),fun i hi=> ?_⟩;rw [hB.1]at hi;have hik:i=k:=by simpa using hi
  subst hik;have hw:wpOpIn (j8 r) m P ops Q' i (wpListIn (j8 r) m P ops Q' l) a w:=by unfold wpOpIn;simp only [h0];exact h
  exact wpOpIn_mono (fun a' w' h'=>lI l (i+1) _ a' w' (fun j=>by have:=hl (j+1);simpa [Nat.add_assoc,Nat.add_comm 1 j]using this) hB.2 h') hw
theorem jy{id:Nat}{Q:Exit->Act->World->Prop}{a:Act}{w:World}{l:List Oper}(n:Nat)(hm:P.follows .mixedOrders=true)(hB:Region.lexTailB .any l.toArray n=true) (h:wpStill P l.toArray w.drew (fun a'=>wpListIn (j8 r) m P l.toArray Q (l.drop n) a' w.drew) (l.take n) a):(Code.region id l.toArray true).wpIn (j8 r) m P Q a w:=by
 simp only [Region.lexTailB,Bool.and_eq_true,decide_eq_true_eq]at hB;obtain⟨⟨⟨⟨hsel,hn⟩,hs⟩,hc⟩,hlex⟩:=hB;have hn':n< l.length:=by simpa using hn
 have htl:(l.take n).length=n:=by simp;omega
 have hdl:(l.drop n).length=l.toArray.size- n:=by simp
 have inv0:HeadInv .any l.toArray n (Array.replicate l.toArray.size false):= ⟨by simp,fun j oj _ hl=>(by rw [getD_replicate_false]at hl;cases hl),fun t _ ht=>getD_in (by simpa using ht) (getD_replicate_false _ _)⟩;have H:=wpAnyL_lex (md:= .any) (g:=l.toArray.size- n) hsel hs hc hn (l.take n) 0 _ a (fun j hj=>by
  have hj':j< n:=by rw [htl]at hj;exact hj
  simp [hj']) (by simpa using htl) inv0 (by rw [htl];exact hlex) h
 refine wpIn_region_any hm ?_;have:=j9 (r:=r) (m:=m) (Q':=Q) (g:=l.toArray.size- n) (fun listed a' hL=>by have:=lI (r:=r) (m:=m) (md:= .any) (Q':=Q) (l.drop n) n listed a' w.drew (fun j=>by simp [List.getElem?_drop]) (by rw [hdl];exact hL.1) hL.2;rwa [hdl]at this) _ _ _ H;rw [htl,show n+(l.toArray.size- n)=l.toArray.size by omega]at this;exact this
theorem kq{id lp:Nat}{Q:Exit->Act->World->Prop}{a:Act}{w:World}{l:List Oper}(n:Nat)(hm:P.follows .mixedOrders=true)(hB:Region.lexTailB .any l.toArray n=true)
 (h:wpStill P l.toArray w.drew (fun a'=>wpListIn (Fence.wide.inRound lp) m P l.toArray Q (l.drop n) a' w.drew) (l.take n) a):(Code.region id l.toArray true).wpIn (Fence.wide.inRound lp) m P Q a w:=
 jy (r:=some lp) n hm hB h
end
end Go.Dw

namespace Go.Proofs.YtjmbpjlojjgggaaGreatDoor
open Go.RowKit Go.Dw Go.Shelf
attribute [local go_sem] Oper.semAt_some
def cQ(u i:Nat):Nat:=max (u- i) (i- u)
def aL(i r:Nat):Nat:=i+1- r
def fC(i n r:Nat):Nat:=min n (i+r)- aL i r
def yq(i r k:Nat):Array Value:= #[.int .i64 ((aL i r:Int)+(k:Int)),.int .i64 (cQ (aL i r+k) i:Nat)]
def i9(i n r:Nat):List (Array Value):=(List.range (fC i n r)).map (yq i r)
theorem DU(bi br bn i n r:Nat)(hi:i<=65536)(hn:n<=65536)(hr:r<=65536)(w:World)(R:Nat->Prop)
  (h1:cM w bi 3 #[.int .i64 i]) (h2:cM w br 3 #[.int .i64 r]) (h3:cM w bn 3 #[.int .i64 n]) (r1:¬R bi) (r2:¬R br) (r3:¬R bn) :
  Iter Tryz.prog 182 #[.pointer (some ⟨bi,0,none⟩),.pointer (some ⟨br,0,none⟩),.pointer (some ⟨bn,0,none⟩)] (i9 i n r) R w:=by
 intro l J Jx W hT hl hlW hJ hJx hY h0
 have hb:∀wr,aZ (fun k=>R k\/k=l) W wr->wr.cell? ⟨bi,0,none⟩=some (.int .i64 i)/\wr.cell? ⟨br,0,none⟩=some (.int .i64 r)/\wr.cell? ⟨bn,0,none⟩=some (.int .i64 n):=fun wr ht=>
  ⟨(ht.box (hT.box h1 r1) (by rintro(e |e);exact r1 e;have:=h1.lt;omega)).cell 0,(ht.box (hT.box h2 r2) (by rintro(e |e);exact r2 e;have:=h2.lt;omega)).cell 0,
   (ht.box (hT.box h3 r3) (by rintro(e |e);exact r3 e;have:=h3.lt;omega)).cell 0⟩
 obtain⟨c1,c2,c3⟩:=hb W (aZ.refl _ _)
 have e1:max (0:Int) ((i:Int)- (r:Int)+1)=((aL i r:Nat):Int):=by unfold aL;omega
 refine callsIn_of_wp Tryz.func182 rfl trivial ?_ rfl
 simp only [Tryz.ntmps182,List.size_toArray,List.length_cons,List.length_nil,Nat.reduceAdd,Nat.reduceSub,Array.replicate_succ,Array.replicate_zero,List.push_toArray,List.append_toArray,List.nil_append,List.cons_append]
 gi_wp2
 gi_loopw [5] (fun u wr=>∃k:Nat,k<=fC i n r/\u= .int .i64 ((aL i r:Int)+(k:Int))/\J k wr/\aZ (fun k=>R k\/k=l) W wr) (fun u wr=>n- (intOf u).toNat)
 case atStart=>exact⟨0,Nat.zero_le _,rfl,h0,aZ.refl _ _⟩
 case round=>
  obtain⟨k,hk,rfl,hJk,hTk⟩:=hrel
  obtain⟨d1,d2,d3⟩:=hb wr hTk
  have e2:min (n:Int) ((i:Int)+(r:Int))=((min n (i+r):Nat):Int):=by omega
  by_cases hlt:k< fC i n r
  ·
   obtain⟨fn,tmps,assign,body,hy,hR⟩:=hY k (yq i r k) wr (by simp [i9,hlt]) hTk.size hJk
   have e3:max ((aL i r:Int)+(k:Int)- (i:Int)) ((i:Int)- ((aL i r:Int)+(k:Int)))=((cQ (aL i r+k) i:Nat):Int):=by unfold cQ;omega
   have hlt':aL i r+k< min n (i+r):=by unfold fC at hlt;omega
   unfold yq at hy
   gi_wp2
   refine hR.mono ?_
   rintro e W2 ⟨bb,rfl,hT2,hJ2,hJ3⟩
   cases bb
   rotate_left
   ·
    gi_wp2
    go_roundw
    case rel=>exact⟨k+1,by omega,by go_num,hJ2 (by simp),hTk.trans hT2⟩
    case measure=>simp [intOf];omega
   ·
    gi_wp2
    refine bodyPost_ret (results_none rfl _ _ _) rfl ?_
    exact⟨⟨_,rfl⟩,.inr ⟨k,by simpa [i9]using hlt,hJ3 (by simp)⟩⟩
  ·
   have hge:min n (i+r)<=aL i r+k:=by unfold fC at hlt;omega
   have hk2:k=fC i n r:=by omega
   subst hk2
   gi_wp2
   go_end0
   exact⟨⟨_,rfl⟩,.inl (by simpa [i9]using hJk)⟩
theorem Az(i n r:Int)(w:World):Calls Tryz.prog 159 #[.int .i64 i,.int .i64 n,.int .i64 r] w fun e w'=> e= .returned (.func (.func 182) #[] #[.pointer (some ⟨w.heap.size,0,none⟩),.pointer (some ⟨w.heap.size+2,0,none⟩),.pointer (some ⟨w.heap.size+1,0,none⟩)])/\ cM w' w.heap.size 3 #[.int .i64 i]/\cM w' (w.heap.size+2) 3 #[.int .i64 r]/\cM w' (w.heap.size+1) 3 #[.int .i64 n]/\Below w.heap.size w w'/\w'.heap.size=w.heap.size+3:=by
 go_enter Tryz.func159,Tryz.ntmps159
 go_wp2
 go_ret
 have b1:=cM.new w 3 #[.int .i64 i];have b2:=cM.new (w.alloc (.cells #[.int .i64 i] 3)) 3 #[.int .i64 n];have b3:=cM.new ((w.alloc (.cells #[.int .i64 i] 3)).alloc (.cells #[.int .i64 n] 3)) 3 #[.int .i64 r];simp only [World.size_alloc]at b2 b3;exact⟨rfl,(b1.alloc _).alloc _,b3,b2.alloc _,(((Below.refl _ _).alloc (Nat.le_refl _) _).alloc (by simp) _).alloc (by simp;omega) _,by simp⟩
def JH(h t:List Int)(down:Bool)(i k:Nat):Array Value:= #[.int .i64 (gi h (aL i t.length+k)+(if down then- gi t (cQ (aL i t.length+k) i)else gi t (cQ (aL i t.length+k) i)))]
def pY(h t:List Int)(down:Bool)(i:Nat):List (Array Value):=(List.range (fC i h.length t.length)).map (JH h t down i)
theorem nR(bi bh bt bd i:Nat)(Ah At:Option Addr)(n ch r ct:Nat)(h t:List Int)(down:Bool)(w:World)(R:Nat->Prop)
  (hi:i< n) (hn:n<=65536) (hr:r<=65536)
  (h1:cM w bi 3 #[.int .i64 i]) (h2:cM w bh 41 #[.slice Ah n ch]) (h3:cM w bt 59 #[.slice At r ct]) (h4:cM w bd 4 #[.bool down])
  (hh:dQ w Ah n h) (ht:dQ w At r t) (hhb:∀x∈h, -16777216<=x/\x<=16777216) (htb:∀x∈t,0<=x/\x<=16777216)
  (r1:¬R bi) (r2:¬R bh) (r3:¬R bt) (r4:¬R bd) (r5:∀b,Ah.map (·.block)=some b->¬R b) (r6:0< r->∀b,At.map (·.block)=some b->¬R b) (hR:∀k,R k->k< w.heap.size) :
  Iter Tryz.prog 158 #[.pointer (some ⟨bi,0,none⟩),.pointer (some ⟨bh,0,none⟩),.pointer (some ⟨bt,0,none⟩),.pointer (some ⟨bd,0,none⟩)] (pY h t down i) R w:=by
 intro l J Jx W hT hl hlW hJ hJx hY h0
 have nl:∀b,b< w.heap.size->b≠l:=fun b hb=>by omega
 have tb:∀ {wr:World}{b ty}{cs},aZ (fun k=>R k\/k=l) W wr->cM w b ty cs->¬R b->cM wr b ty cs:=fun ht hb hr=>ht.box (hT.box hb hr) (by rintro(e |e);exact hr e;exact nl _ hb.lt e)
 have c1:W.cell? ⟨bi,0,none⟩=some (.int .i64 i):=(hT.box h1 r1).cell 0
 have c2:W.cell? ⟨bh,0,none⟩=some (.slice Ah n ch):=(hT.box h2 r2).cell 0
 have c3:W.cell? ⟨bt,0,none⟩=some (.slice At r ct):=(hT.box h3 r3).cell 0
 have hbW:=cM.new W 161 #[.func (.yield l) #[] #[]]
 have hb0:=bC W (.cells #[.func (.yield l) #[] #[]] 161)
 have d1:=(World.cell?_alloc_lt W (.cells #[.func (.yield l) #[] #[]] 161) ⟨bi,0,none⟩ (by have:=(hT.box h1 r1).lt;exact this)).trans c1
 have d2:=(World.cell?_alloc_lt W (.cells #[.func (.yield l) #[] #[]] 161) ⟨bh,0,none⟩ (by have:=(hT.box h2 r2).lt;exact this)).trans c2
 have d3:=(World.cell?_alloc_lt W (.cells #[.func (.yield l) #[] #[]] 161) ⟨bt,0,none⟩ (by have:=(hT.box h3 r3).lt;exact this)).trans c3
 refine callsIn_of_wp_marks Tryz.func158 rfl trivial ?_ rfl
 simp only [Tryz.ntmps158,List.size_toArray,List.length_cons,List.length_nil,Nat.reduceAdd,Nat.reduceSub,Array.replicate_succ,Array.replicate_zero,List.push_toArray,List.append_toArray,List.nil_append,List.cons_append]
 gi_wp2_with (gi_at_call 159;refine(callsIn_wide.2 (Az _ _ _ _)).mono ?_;rintro e w' ⟨rfl,e1,e2,e3,e4,e5⟩)
 have hT':aZ (fun k=>R k\/k=l) W w':=aZ.jQ (ri hb0 e4 (by simp))
 have hBW:cM w' W.heap.size 161 #[.func (.yield l) #[] #[]]:=hbW.bz e4
 rw [World.size_alloc]at*
 refine zj (gf:=182) rfl (enters_of Tryz.func182 kR rfl)
  (DU _ _ _ i n r oM oM oM w' (fun k=>R k\/k=l) e1 e2 e3
   (by rintro(e |e);have:=hR _ e;have:=hT.size;omega;omega) (by rintro(e |e);have:=hR _ e;have:=hT.size;omega;omega) (by rintro(e |e);have:=hR _ e;have:=hT.size;omega;omega))
  (by rintro k (e |e);have:=hR _ e;have:=hT.size;omega;omega) (by intro x hx;simp [i9]at hx;obtain⟨k,_,rfl⟩:=hx;rfl)
  (fun k W'=>J k W'/\aZ (fun k=>R k\/k=l) W W'/\cM W' W.heap.size 161 #[.func (.yield l) #[] #[]]) (fun k c W'=>c= .ret/\Jx k W')
  (fun k W1 W2 h hb=>⟨hJ k W1 W2 h.1 (hb.mono oM),h.2.1.later hb oM,h.2.2.below hb oM⟩)
  (fun k c W1 W2 h hb=>⟨h.1,hJx k W1 W2 h.2 (hb.mono oM)⟩) ⟨hJ 0 W w' h0 (ri hb0 (by rw [World.size_alloc];exact e4) (by simp)),hT',hBW⟩ ?hround ?hdone ?hstop
 case hround=>
  rintro l2 k x W2 hl2 hl2' hx ⟨hJ2,hT2,hB2⟩
  obtain⟨hk,rfl⟩:k< fC i n r/\yq i r k=x:=by
   unfold i9 at hx
   rw [List.getElem?_map]at hx
   by_cases hk:k< fC i n r
   ·
    rw [List.getElem?_range hk]at hx;exact⟨hk,by simpa using hx⟩
   ·
    rw [List.getElem?_eq_none (by simpa using hk)]at hx;cases hx
  unfold yq
  gi_wp2
  refine⟨aZ.refl _ _,fun W3 hT3=> ?_⟩
  have hb3:Below w'.heap.size W2 W3:=hT3.below (by have:=hT2.size;omega) (fun q hq=>by omega)
  have hT3':aZ (fun q=>R q\/q=l) W W3:=hT2.later hb3 oM
  have hB3:=hB2.below hb3 oM
  have hJ3:=hJ k W2 W3.drew hJ2 (hb3.mono oM).drew
  have nl':∀ {A:Option Addr}{b},A.map (·.block)=some b->(∃b o,A=some (⟨b,o,none⟩:Addr)/\b< w.heap.size)->b≠l:=by
   rintro A b hA ⟨b',o,rfl,hb⟩;simp at hA;omega
  have hdk:cQ (aL i r+k) i< r:=by unfold cQ aL fC aL at *;omega
  have hlk:aL i r+k< n:=by unfold fC aL at *;omega
  obtain⟨bH,oH,rfl,hbH,hcH⟩:=ints_at hh hlk
  obtain⟨bT,oT,rfl,hbT,hcT⟩:=ints_at ht hdk
  have f1:W3.cell? ⟨bh,0,none⟩=some (.slice (some ⟨bH,oH,none⟩) n ch):=(tb hT3' h2 r2).cell 0
  have f2:W3.cell? ⟨bt,0,none⟩=some (.slice (some ⟨bT,oT,none⟩) r ct):=(tb hT3' h3 r3).cell 0
  have f3:W3.cell? ⟨bd,0,none⟩=some (.bool down):=(tb hT3' h4 r4).cell 0
  have f4:W3.cell? ⟨W.heap.size,0,none⟩=some (.func (.yield l) #[] #[]):=hB3.cell 0
  have f5:W3.cell? ⟨bH,oH+(aL i r+k),none⟩=some (.int .i64 (gi h (aL i r+k))):=
   ((hT3'.cell (p:=⟨bH,oH+(aL i r+k),none⟩) (by have:=hT.size;exact Nat.lt_of_lt_of_le hbH this) (by rintro(e |e);exact r5 _ rfl e;exact nl _ hbH e)).trans (hT.cell (p:=⟨bH,oH+(aL i r+k),none⟩) hbH (r5 _ rfl))).trans hcH
  have f6:W3.cell? ⟨bT,oT+cQ (aL i r+k) i,none⟩=some (.int .i64 (gi t (cQ (aL i r+k) i))):=
   ((hT3'.cell (p:=⟨bT,oT+cQ (aL i r+k) i,none⟩) (by have:=hT.size;exact Nat.lt_of_lt_of_le hbT this) (by rintro(e |e);exact r6 oM _ rfl e;exact nl _ hbT e)).trans (hT.cell (p:=⟨bT,oT+cQ (aL i r+k) i,none⟩) hbT (r6 oM _ rfl))).trans hcT
  have hl1:=hh.1
  have hl2:=ht.1
  have g1:=(fc.1 hhb) (aL i r+k) oM
  have g2:=(fc.1 htb) (cQ (aL i r+k) i) oM
  obtain⟨fn,tmps,assign,body,hy,hRd⟩:=hY k (JH h t down i k) W3.drew (by subst hl2;subst hl1;simp [pY,hk]) hT3'.size hJ3
  unfold JH at hy
  rw [hl2]at hy
  have hw1:IntKind.i64.wrap (gi h (aL i r+k)+gi t (cQ (aL i r+k) i))=gi h (aL i r+k)+gi t (cQ (aL i r+k) i):=IntWalk.i64_in _ oM
  have hw2:IntKind.i64.wrap (gi h (aL i r+k)+ -gi t (cQ (aL i r+k) i))=gi h (aL i r+k)+ -gi t (cQ (aL i r+k) i):=IntWalk.i64_in _ oM
  have x1:(0:Int)<=(aL i r:Int)+(k:Int):=by omega
  have x2:(aL i r:Int)+(k:Int)< (n:Int):=by omega
  have x3:((aL i r:Int)+(k:Int)).toNat=aL i r+k:=by omega
  have HL1:=Lib.hid hl1
  have HL2:=Lib.hid hl2
  clear hl1 hl2 hcH hcT c1 c2 c3 d1 d2 d3
  cases down
  all_goals
   simp only [Bool.false_eq_true,if_false,if_true]at hy
   gi_wp2
   refine kq 7 kR kR ?_
   simp only [List.take_succ_cons,List.take_zero,List.drop_succ_cons,List.drop_zero]
   repeat still_step
   refine wpStill_nil ?_
   gi_wp2
   refine(tX l2 hRd).mono ?_
   rintro e W4 ⟨bb,rfl,hT4,hJ4,hJ5⟩
   have hT4':aZ (fun k=>R k\/k=l) W3 W4:=⟨hT4.os,hT4.tape,hT4.output,hT4.size,hT4.block⟩
   cases bb
   ·
    gi_wp2
    exact⟨hT4',rfl,hJ5 (by simp)⟩
   ·
    gi_wp2
    exact⟨hT4',hJ4 (by simp),hT3'.trans hT4',hT4'.box hB3 (by rintro(e |e);have:=hR _ e;have:=hT.size;omega;omega)⟩
 case hdone=>
  rintro D W2 ⟨hJ2,hT2,hB2⟩ hD hDd
  gi_wp2
  refine oF [D] (.inl rfl) rfl (by simp) (by simpa using hDd) (fun w=>results_none rfl _ _ _) (fun w4 ht4=>⟨⟨_,rfl⟩,.inl ?_⟩)
  have e:(pY h t down i).length=(i9 i n r).length:=by simp [pY,i9,hh.1,ht.1]
  rw [e]
  exact hJ _ _ _ hJ2 (ht4.below (by have:=hT2.size;omega) (fun q hq=>by simp;omega))
 case hstop=>
  rintro D k c W2 hk ⟨rfl,hJ2⟩ hD hDd
  gi_wp2
  have hDl:D< W2.heap.size:=(Array.getElem?_eq_some_iff.1 hDd).1
  refine oF [D] (.inr rfl) rfl (by simp) (by simpa using hDd) (fun w=>results_none rfl _ _ _) (fun w4 ht4=>⟨⟨_,rfl⟩,.inr ⟨k,?_,?_⟩⟩)
  ·
   have e:(pY h t down i).length=(i9 i n r).length:=by simp [pY,i9,hh.1,ht.1]
   rw [e];exact hk
  ·
   exact hJx _ _ _ hJ2 (ht4.below oM (fun q hq=>by simp;omega))
theorem r7(a b:Int)(w:World):Calls Tryz.prog 162 #[.int .i64 a,.int .i64 b] w fun e w'=>e= .returned (.bool (decide (a< b)))/\w=w':=by
 go_enter Tryz.func162,Tryz.ntmps162
 go_wp2
 go_ret
 exact⟨rfl,rfl⟩
theorem si(a b:Int)(w:World):Calls Tryz.prog 161 #[.int .i64 a,.int .i64 b] w fun e w'=>e= .returned (.bool (decide (b< a)))/\w=w':=by
 go_enter Tryz.func161,Tryz.ntmps161
 go_wp2
 go_ret
 exact⟨rfl,rfl⟩
def iO(down:Bool)(x acc:Int):Int:=if down then max acc x else min acc x
def ir(down:Bool)(f:Int)(l:List Int):Int:=l.foldl (fun acc x=>iO down x acc) f
theorem rN(down:Bool)(bf:Nat)(hbf:bf=161/\down=true\/bf=162/\down=false)(f:Int)(vs:List Int)(gf:Nat)(lb:Array Value)(w:World)(eg:∀args w,(callFunc gf args).run Tryz.prog w= .ok (.enter gf args) w) (hit:∀R w',Below w.heap.size w w'->(∀k,R k->w.heap.size<=k/\k< w'.heap.size)->Iter Tryz.prog gf lb (vs.map fun v=> #[.int .i64 v]) R w') : Calls Tryz.prog 160 #[.int .i64 f,.func (.func gf) #[] lb,.func (.func bf) #[] #[]] w fun e w'=>e= .returned (.int .i64 (ir down f vs))/\Below w.heap.size w w':=by
 refine(callsIn_wide (n:=0)).1 ?_;refine callsIn_of_wp_marks Tryz.func160 rfl trivial ?_ rfl;simp only [Tryz.ntmps160,List.size_toArray,List.length_cons,List.length_nil,Nat.reduceAdd,Nat.reduceSub,Array.replicate_succ,Array.replicate_zero,List.push_toArray,List.append_toArray,List.nil_append,List.cons_append];gi_wp2
 have hb1:=cM.new w 2 #[.int .i64 f];have hb2:=cM.new (w.alloc (.cells #[.int .i64 f] 2)) 296 #[.func (.func bf) #[] #[]];have hb1':=hb1.alloc (.cells #[.func (.func bf) #[] #[]] 296);have hbl:=(bC w (.cells #[.int .i64 f] 2)).alloc (by simp) (.cells #[.func (.func bf) #[] #[]] 296);have hsz:((w.alloc (.cells #[.int .i64 f] 2)).alloc (.cells #[.func (.func bf) #[] #[]] 296)).heap.size=w.heap.size+2:=by simp
 rw [World.size_alloc]at hb2;generalize (w.alloc (.cells #[.int .i64 f] 2)).alloc (.cells #[.func (.func bf) #[] #[]] 296)=w0 at*;refine zj (gf:=gf) rfl eg (hit (· =w.heap.size) w0 hbl (by intro k e;omega)) (by intro k e;omega) (by intro x hx;simp at hx;obtain⟨v,_,rfl⟩:=hx;rfl)
  (fun k W=>cM W w.heap.size 2 #[.int .i64 (ir down f (vs.take k))]/\cM W (w.heap.size+1) 296 #[.func (.func bf) #[] #[]]/\Below w.heap.size w W) (fun _ _ _=>False)
  (fun k W1 W2 h hb=>⟨h.1.below hb oM,h.2.1.below hb oM,h.2.2.trans (hb.mono oM)⟩) (fun _ _ _ _ h _=>h) ⟨by simpa [ir]using hb1',hb2,hbl⟩ ?hround ?hdone (fun _ _ _ _ _ h=>h.elim)
 case hround=>
  rintro l k x W hl hl' hx ⟨h1,h2,h3⟩
  obtain⟨hk,rfl⟩:∃hk:k< vs.length,#[.int .i64 vs[k]]=x:=by
   rw [List.getElem?_map]at hx;by_cases hk:k< vs.length;·rw [List.getElem?_eq_getElem hk]at hx;exact⟨hk,by simpa using hx⟩
   ·rw [List.getElem?_eq_none oM]at hx;cases hx
  gi_wp2
  refine⟨aZ.refl _ _,fun W3 hT3=> ?_⟩
  have h1':=hT3.box h1 oM
  have h2':=hT3.box h2 oM
  have h3':Below w.heap.size w W3:=h3.trans (hT3.below (by have:=h3.size;omega) (fun q hq=>by omega))
  have c1:=h1'.cell 0
  have c2:=h2'.cell 0
  have c3:=h1'.frozen 0
  have hs:ir down f (vs.take (k+1))=iO down vs[k] (ir down f (vs.take k)):=by rw [List.take_succ_eq_append_getElem hk,ir,List.foldl_append];rfl
  have HS:=Lib.hid hs
  clear hs hx
  simp only [List.getElem?_toArray,List.getElem?_cons_zero]at c1 c2
  generalize hacc:ir down f (vs.take k)=acc at*
  generalize vs[k]=x at*
  have Hacc:=Lib.hid hacc
  clear hacc
  rcases hbf with⟨rfl,rfl⟩ | ⟨rfl,rfl⟩
  ·by_cases hlt:acc< x
   ·have hd:decide (acc< x)=true:=by simpa using hlt
    gi_wp2_with (gi_at_call 161;refine(callsIn_wide.2 (si _ _ _)).mono ?_;rintro e w' ⟨rfl,rfl⟩)
    refine⟨aZ.setCell (R:=(· =w.heap.size)) (p:=⟨w.heap.size,0,none⟩) (aZ.refl _ _) (fun _=>rfl) _,?_,h2'.Qq (by simp) _,h3'.setCell (Nat.le_refl _) _⟩;have hb:=h1'.set 0 (.int .i64 x);simp only [List.setIfInBounds_toArray,List.set_cons_zero]at hb;rw [HS.out,show iO true x acc=x by simp [iO];omega];exact hb
   ·have hd:decide (acc< x)=false:=by simpa using hlt
    gi_wp2_with (gi_at_call 161;refine(callsIn_wide.2 (si _ _ _)).mono ?_;rintro e w' ⟨rfl,rfl⟩)
    refine⟨aZ.refl _ _,?_,h2',h3'⟩;rw [HS.out,show iO true x acc=acc by simp [iO];omega];exact h1'
  ·by_cases hlt:x< acc
   ·have hd:decide (x< acc)=true:=by simpa using hlt
    gi_wp2_with (gi_at_call 162;refine(callsIn_wide.2 (r7 _ _ _)).mono ?_;rintro e w' ⟨rfl,rfl⟩)
    refine⟨aZ.setCell (R:=(· =w.heap.size)) (p:=⟨w.heap.size,0,none⟩) (aZ.refl _ _) (fun _=>rfl) _,?_,h2'.Qq (by simp) _,h3'.setCell (Nat.le_refl _) _⟩;have hb:=h1'.set 0 (.int .i64 x);simp only [List.setIfInBounds_toArray,List.set_cons_zero]at hb;rw [HS.out,show iO false x acc=x by simp [iO];omega];exact hb
   ·have hd:decide (x< acc)=false:=by simpa using hlt
    gi_wp2_with (gi_at_call 162;refine(callsIn_wide.2 (r7 _ _ _)).mono ?_;rintro e w' ⟨rfl,rfl⟩)
    refine⟨aZ.refl _ _,?_,h2',h3'⟩;rw [HS.out,show iO false x acc=acc by simp [iO];omega];exact h1'
 case hdone=>
  rintro D W ⟨h1,h2,h3⟩ hD hDd
  have c1:=h1.cell 0
  simp only [List.getElem?_toArray,List.getElem?_cons_zero,List.length_map,List.take_length]at c1
  gi_wp2
  refine oF [D] (.inr rfl) rfl (by simp) (by simpa using hDd) (fun w=>results_tmp rfl _ _ _) (fun w4 ht4=>⟨rfl,?_⟩)
  exact h3.trans (ht4.below (by have:=h3.size;omega) (fun q hq=>by simp;omega))
theorem FP:∃i,ua Tryz.prog 41 2 i (.int .i64 0) 1 8:=KF Tryz.underlying41 kR rfl (by decide)
def gH(t h:List Int)(down:Bool)(i:Nat):Int:= ir down (gi h i) ((List.range (fC i h.length t.length)).map fun k=>gi h (aL i t.length+k)+(if down then- gi t (cQ (aL i t.length+k) i)else gi t (cQ (aL i t.length+k) i)))
def jx(t h:List Int)(down:Bool):List Int:=(List.range h.length).map (gH t h down)
def fF(t h:List Int)(down:Bool)(k:Nat):List Int:=(List.range h.length).map fun i=>if i< k then gH t h down i else 0
theorem zg(t h:List Int)(down:Bool):fF t h down 0=List.replicate h.length 0:=by apply List.ext_getElem <;> simp [fF]
theorem Bc(t h:List Int)(down:Bool):fF t h down h.length=jx t h down:=by
 apply List.ext_getElem;·simp [fF,jx]
 ·intro i h1 h2;simp [fF,jx]at h1 ⊢;omega
theorem s7(t h:List Int)(down:Bool)(k:Nat):(fF t h down k).set k (gH t h down k)=fF t h down (k+1):=by
 apply List.ext_getElem;·simp [fF]
 ·intro i h1 h2;simp [fF]at h1 h2 ⊢;rw [List.getElem_set];by_cases e:k=i;·subst e;simp
  ·simp [e];by_cases h3:i< k;·simp [h3];intro h4;omega
   ·simp [h3];intro h4;omega
theorem mC(t h:List Int)(down:Bool)(k:Nat):(fF t h down k).length=h.length:=by simp [fF]
theorem yu(h t:List Int)(down:Bool)(i:Nat) : pY h t down i=((List.range (fC i h.length t.length)).map fun k=>gi h (aL i t.length+k)+(if down then- gi t (cQ (aL i t.length+k) i)else gi t (cQ (aL i t.length+k) i))).map fun v=> #[.int .i64 v]:=by simp [pY,JH]
theorem Bd(At Ah:Option Addr)(r ct n ch:Nat)(t h:List Int)(down:Bool)(w:World)(hn:n<=65536)(hr:r<=65536)(ht:dQ w At r t)(hh:dQ w Ah n h) (hhb:∀x∈h, -16777216<=x/\x<=16777216) (htb:∀x∈t,0<=x/\x<=16777216) : Calls Tryz.prog 118 #[.agg #[.slice At r ct],.slice Ah n ch,.bool down] w fun e w'=>∃g,w.heap.size<=g/\e= .returned (.slice (some ⟨g,0,none⟩) n n)/\ cM w' g 2 (bI (jx t h down))/\Below w.heap.size w w':=by
 obtain⟨i0,hel⟩:=FP;have hmk:=fun W=>DR hel n oM oM W;go_enter Tryz.func118,Tryz.ntmps118
 go_wp2
 have b1:=((cM.new w 59 #[.slice At r ct]).alloc (.cells #[.slice Ah n ch] 41)).alloc (.cells #[.bool down] 4) |>.alloc (.cells (bI (List.replicate n 0)) 2)
 have b2:=((cM.new (w.alloc (.cells #[.slice At r ct] 59)) 41 #[.slice Ah n ch]).alloc (.cells #[.bool down] 4)).alloc (.cells (bI (List.replicate n 0)) 2);have b3:=(cM.new ((w.alloc (.cells #[.slice At r ct] 59)).alloc (.cells #[.slice Ah n ch] 41)) 4 #[.bool down]).alloc (.cells (bI (List.replicate n 0)) 2);have b4:=cM.new (((w.alloc (.cells #[.slice At r ct] 59)).alloc (.cells #[.slice Ah n ch] 41)).alloc (.cells #[.bool down] 4)) 2 (bI (List.replicate n 0));have hb0:=(((bC w (.cells #[.slice At r ct] 59)).alloc (by simp) (.cells #[.slice Ah n ch] 41)).alloc (by simp;omega) (.cells #[.bool down] 4)).alloc (by simp;omega) (.cells (bI (List.replicate n 0)) 2);have hs0:((((w.alloc (.cells #[.slice At r ct] 59)).alloc (.cells #[.slice Ah n ch] 41)).alloc (.cells #[.bool down] 4)).alloc (.cells (bI (List.replicate n 0)) 2)).heap.size=w.heap.size+1+1+1+1:=by simp
 simp only [World.size_alloc]at b1 b2 b3 b4;generalize (((w.alloc (.cells #[.slice At r ct] 59)).alloc (.cells #[.slice Ah n ch] 41)).alloc (.cells #[.bool down] 4)).alloc (.cells (bI (List.replicate n 0)) 2)=w0 at*;have hl1:h.length=n:=hh.1;rw [<-hl1,<-zg t h down]at b4;have Hl1:=Lib.hid hl1;clear hl1 hmk;have hh0:=hh.bz hb0;have ht0:=ht.bz hb0;have nA:∀b,Ah.map (·.block)=some b->0< n->b< w.heap.size:=fun b hb hn0=>by obtain⟨b',o,rfl,hb',_⟩:=hh.2.2 hn0;simp at hb;omega
 go_loopw [16] (fun kv wr=>∃k:Nat,k<=n/\kv= .int .i64 k/\cM wr (w.heap.size+1+1+1) 2 (bI (fF t h down k))/\aZ (· =w.heap.size+1+1+1) w0 wr) (fun kv wr=>n- (intOf kv).toNat)
 case atStart=>exact⟨0,Nat.zero_le _,rfl,b4,aZ.refl _ _⟩
 case round=>
  obtain⟨k,hk,rfl,hbo,hT⟩:=hrel
  have c1:=hT.box b1 oM
  have c2:=hT.box b2 oM
  have c3:=hT.box b3 oM
  have hbw:Below w.heap.size w wr:=hb0.trans (hT.below oM (fun q hq=>by omega))
  by_cases hlt:k< n
  ·have hhw:=hh.bz hbw;have htw:=ht.bz hbw;obtain⟨bH,oH,rfl,hbH,hcH⟩:=ints_at hhw hlt;have d3:wr.cell? ⟨w.heap.size+1+1,0,none⟩=some (.bool down):=c3.cell 0;have d2:wr.cell? ⟨w.heap.size+1,0,none⟩=some (.slice (some ⟨bH,oH,none⟩) n ch):=c2.cell 0;have l1:=c1.lt;have l2:=c2.lt;have l3:=c3.lt;have l4:=hbo.lt;have hx1:cM (wr.alloc (.cells #[.int .i64 k] 3)) wr.heap.size 3 #[.int .i64 k]:=cM.new _ _ _;have hx2:=bC wr (.cells #[.int .i64 k] 3);have hx3:=HD wr (.cells #[.int .i64 k] 3);cases down
   ·go_wp2
    generalize wr.alloc (.cells #[.int .i64 k] 3)=wx at*;have e1:=c1.below hx2 l1;have e2:=c2.below hx2 l2;have e3:=c3.below hx2 l3;have e4:=hbo.below hx2 l4;have hi:wx.cell? ⟨wr.heap.size,0,none⟩=some (.int .i64 k):=hx1.cell 0;have hbx:Below w.heap.size w wx:=hbw.trans (hx2.mono oM);have hit:∀(R:Nat->Prop) (w':World),Below wx.drew.heap.size wx.drew w'->(∀k,R k->wx.drew.heap.size<=k/\k< w'.heap.size)->
     Iter Tryz.prog 158 #[.pointer (some ⟨wr.heap.size,0,none⟩),.pointer (some ⟨w.heap.size+1,0,none⟩),.pointer (some ⟨w.heap.size,0,none⟩),.pointer (some ⟨w.heap.size+1+1,0,none⟩)] (((List.range (fC k h.length t.length)).map fun q=>gi h (aL k t.length+q)+(if false then- gi t (cQ (aL k t.length+q) k)else gi t (cQ (aL k t.length+q) k))).map fun v=> #[.int .i64 v]) R w':=fun R w' hb hR=>by
     have hb':Below wx.heap.size wx w':=fy hb
     have hsx:∀q,q< wx.heap.size->¬R q:=fun q hq e=>by have:=(hR q e).1;have:wx.heap.size<=q:=this;omega
     have:=hx1.lt
     rw [<-yu]
     refine nR _ _ _ _ k (some ⟨bH,oH,none⟩) At n ch r ct h t false w' R hlt hn hr (hx1.below hb' oM) (e2.below hb' oM) (e1.below hb' oM) (e3.below hb' oM) ((hh.bz hbx).below hb' (Nat.le_refl _)) ((ht.bz hbx).below hb' (Nat.le_refl _)) hhb htb (hsx _ oM) (hsx _ oM) (hsx _ oM) (hsx _ oM) ?_ ?_ (fun q e=>(hR q e).2)
     ·intro b hb2;simp at hb2;exact hsx _ oM
     ·intro hr0 b hb2;obtain⟨b',o,rfl,hb3,_⟩:=ht.2.2 hr0;simp at hb2;exact hsx _ (by have:=hbx.size;omega)
    have Hit:=Lib.hid hit;clear hit;go_region_with (go_at_call 160;refine(rN false 162 (.inr ⟨rfl,rfl⟩) _ _ 158 _ wx.drew (enters_of Tryz.func158 kR rfl) Hit.out).mono ?_;rintro e w' ⟨rfl,hbw'⟩;have q1:w'.cell? ⟨wr.heap.size,0,none⟩=some (.int .i64 k):=(hx1.below (w:=wx.drew) hbw' hx1.lt).cell 0;have q2:w'.cell? ⟨w.heap.size+1+1+1,k,none⟩=some (.int .i64 (gi (fF t h false k) k)):=((e4.below (w:=wx.drew) hbw' e4.lt).cell k).trans (eK _ _ (by rw [mC,Hl1.out];exact hlt));have q3:w'.frozen? ⟨w.heap.size+1+1+1,k,none⟩=false:=(e4.below (w:=wx.drew) hbw' e4.lt).frozen k)
    all_goals
     have hbw2:Below wx.heap.size wx w':=fy hbw'
     go_wp2
     go_roundw
     case rel=>
      refine⟨k+1,by omega,by go_num,?_,?_⟩
      ·have hs:=(e4.below hbw2 e4.lt).set k (.int .i64 (gH t h false k));rw [gT,s7]at hs;simpa [gH]using hs
      ·exact((hT.trans (aZ.jQ hx2)).trans (aZ.jQ hbw2)).setCell (fun _=>rfl) _
     case measure=>simp [intOf];omega
   ·go_wp2
    generalize wr.alloc (.cells #[.int .i64 k] 3)=wx at*;have e1:=c1.below hx2 l1;have e2:=c2.below hx2 l2;have e3:=c3.below hx2 l3;have e4:=hbo.below hx2 l4;have hi:wx.cell? ⟨wr.heap.size,0,none⟩=some (.int .i64 k):=hx1.cell 0;have hbx:Below w.heap.size w wx:=hbw.trans (hx2.mono oM);have hit:∀(R:Nat->Prop) (w':World),Below wx.drew.heap.size wx.drew w'->(∀k,R k->wx.drew.heap.size<=k/\k< w'.heap.size)->
     Iter Tryz.prog 158 #[.pointer (some ⟨wr.heap.size,0,none⟩),.pointer (some ⟨w.heap.size+1,0,none⟩),.pointer (some ⟨w.heap.size,0,none⟩),.pointer (some ⟨w.heap.size+1+1,0,none⟩)] (((List.range (fC k h.length t.length)).map fun q=>gi h (aL k t.length+q)+(if true then- gi t (cQ (aL k t.length+q) k)else gi t (cQ (aL k t.length+q) k))).map fun v=> #[.int .i64 v]) R w':=fun R w' hb hR=>by
     have hb':Below wx.heap.size wx w':=fy hb
     have hsx:∀q,q< wx.heap.size->¬R q:=fun q hq e=>by have:=(hR q e).1;have:wx.heap.size<=q:=this;omega
     have:=hx1.lt
     rw [<-yu]
     refine nR _ _ _ _ k (some ⟨bH,oH,none⟩) At n ch r ct h t true w' R hlt hn hr (hx1.below hb' oM) (e2.below hb' oM) (e1.below hb' oM) (e3.below hb' oM) ((hh.bz hbx).below hb' (Nat.le_refl _)) ((ht.bz hbx).below hb' (Nat.le_refl _)) hhb htb (hsx _ oM) (hsx _ oM) (hsx _ oM) (hsx _ oM) ?_ ?_ (fun q e=>(hR q e).2)
     ·intro b hb2;simp at hb2;exact hsx _ oM
     ·intro hr0 b hb2;obtain⟨b',o,rfl,hb3,_⟩:=ht.2.2 hr0;simp at hb2;exact hsx _ (by have:=hbx.size;omega)
    have Hit:=Lib.hid hit;clear hit;go_region_with (go_at_call 160;refine(rN true 161 (.inl ⟨rfl,rfl⟩) _ _ 158 _ wx.drew (enters_of Tryz.func158 kR rfl) Hit.out).mono ?_;rintro e w' ⟨rfl,hbw'⟩;have q1:w'.cell? ⟨wr.heap.size,0,none⟩=some (.int .i64 k):=(hx1.below (w:=wx.drew) hbw' hx1.lt).cell 0;have q2:w'.cell? ⟨w.heap.size+1+1+1,k,none⟩=some (.int .i64 (gi (fF t h true k) k)):=((e4.below (w:=wx.drew) hbw' e4.lt).cell k).trans (eK _ _ (by rw [mC,Hl1.out];exact hlt));have q3:w'.frozen? ⟨w.heap.size+1+1+1,k,none⟩=false:=(e4.below (w:=wx.drew) hbw' e4.lt).frozen k)
    all_goals
     have hbw2:Below wx.heap.size wx w':=fy hbw'
     go_wp2
     go_roundw
     case rel=>
      refine⟨k+1,by omega,by go_num,?_,?_⟩
      ·have hs:=(e4.below hbw2 e4.lt).set k (.int .i64 (gH t h true k));rw [gT,s7]at hs;simpa [gH]using hs
      ·exact((hT.trans (aZ.jQ hx2)).trans (aZ.jQ hbw2)).setCell (fun _=>rfl) _
     case measure=>simp [intOf];omega
  ·obtain rfl:k=n:=by omega
   go_wp2
   go_ret
   refine⟨_,?_,rfl,?_,hbw⟩;·omega
   ·rw [<-Hl1.out,Bc]at hbo;exact hbo
def kz(inn:Bool)(p:Pt):Int:=if inn then- p.1 else p.2
def f8(inn:Bool)(n:Int):Int:=if inn then- n else n
theorem G9(a b:Int)(w:World):Calls Tryz.prog 248 #[.agg #[],.agg #[.int .i64 a,.int .i64 b]] w fun e w'=>e= .returned (.int .i64 (kz false (a,b)))/\Below w.heap.size w w':=by
 go_enter Tryz.func248,Tryz.ntmps248
 go_wp2
 go_ret
 exact⟨rfl,(bC _ _).alloc (by simp) _⟩
theorem AF(n:Int)(w:World):Calls Tryz.prog 247 #[.agg #[],.int .i64 n] w fun e w'=>e= .returned (.int .i64 (f8 false n))/\Below w.heap.size w w':=by
 go_enter Tryz.func247,Tryz.ntmps247
 go_wp2
 go_ret
 exact⟨rfl,bC _ _⟩
theorem Gp(a b:Int)(w:World)(h: -1099511627776<=a/\a<=1099511627776):Calls Tryz.prog 250 #[.agg #[],.agg #[.int .i64 a,.int .i64 b]] w fun e w'=>e= .returned (.int .i64 (kz true (a,b)))/\Below w.heap.size w w':=by
 go_enter Tryz.func250,Tryz.ntmps250
 go_wp2
 go_ret
 exact⟨rfl,(bC _ _).alloc (by simp) _⟩
theorem Ao(n:Int)(w:World)(h: -1099511627776<=n/\n<=1099511627776):Calls Tryz.prog 249 #[.agg #[],.int .i64 n] w fun e w'=>e= .returned (.int .i64 (f8 true n))/\Below w.heap.size w w':=by
 go_enter Tryz.func249,Tryz.ntmps249
 go_wp2
 go_ret
 exact⟨rfl,bC _ _⟩
theorem tT(w:World):(method 494 289 (.agg #[]) "deadwax/play.of").run Tryz.prog w= .ok (248,.agg #[]) w:=by kernel_rfl
theorem qo(w:World):(method 494 289 (.agg #[]) "deadwax/play.back").run Tryz.prog w= .ok (247,.agg #[]) w:=by kernel_rfl
theorem tS(w:World):(method 494 290 (.agg #[]) "deadwax/play.of").run Tryz.prog w= .ok (250,.agg #[]) w:=by kernel_rfl
theorem qn(w:World):(method 494 290 (.agg #[]) "deadwax/play.back").run Tryz.prog w= .ok (249,.agg #[]) w:=by kernel_rfl
def Np(tf:Nat)(lb:Array Value)(thr:List Int->List Int)(n:Nat)(h:List Int)(w:World):Prop:= ∀(A:Option Addr) (c:Nat) (W:World),Below w.heap.size w W->dQ W A n h-> Calls Tryz.prog tf (#[.slice A n c]++lb) W fun e W'=>∃g,W.heap.size<=g/\e= .returned (.slice (some ⟨g,0,none⟩) n n)/\cM W' g 2 (bI (thr h))/\Below W.heap.size W W'
def eO(inn:Bool)(l:List Int)(k:Nat):List Int:=(List.range l.length).map fun i=>if i< k then f8 inn (gi l i)else gi l i
theorem pK(inn:Bool)(l:List Int):eO inn l 0=l:=by
 apply List.ext_getElem;·simp [eO]
 ·intro i h1 h2;simp [eO,kU h2]
theorem qZ(inn:Bool)(l:List Int):eO inn l l.length=l.map (f8 inn):=by
 apply List.ext_getElem;·simp [eO]
 ·intro i h1 h2;simp at h2;simp [eO,kU h2,h2]
theorem iX(inn:Bool)(l:List Int)(k:Nat):(eO inn l k).length=l.length:=by simp [eO]
theorem uk(inn:Bool)(l:List Int)(k:Nat)(h:k< l.length):gi (eO inn l k) k=gi l k:=by rw [kU (by rw [iX];exact h)];simp [eO]
theorem rf(inn:Bool)(l:List Int)(k:Nat):(eO inn l k).set k (f8 inn (gi l k))=eO inn l (k+1):=by
 apply List.ext_getElem;·simp [eO]
 ·intro i h1 h2;simp [eO]at h1 h2 ⊢;rw [List.getElem_set];by_cases e:k=i;·subst e;simp
  ·simp [e];by_cases h3:i< k;·simp [h3];intro h4;omega
   ·simp [h3];intro h4;omega
theorem ru(inn:Bool)(it:Nat)(hit:it=290/\inn=true\/it=289/\inn=false)(a b:Nat)(A:Option Addr)(n c:Nat)(l:List Pt)(tf:Nat)(lb:Array Value)(thr:List Int->List Int)(w:World) (hl:l9 w A n l) (hn:n<=4096) (hlb:∀p∈l, -4194304<=p.1/\p.1<=4194304/\ -4194304<=p.2/\p.2<=4194304) (ba:cM w a 42 #[.slice A n c]) (bb:cM w b 164 #[.func (.func tf) #[] lb]) (eg:∀args w,(callFunc tf args).run Tryz.prog w= .ok (.enter tf args) w) (ht:Np tf lb thr n (l.map (kz inn)) w) (hth:(thr (l.map (kz inn))).length=n) (htb:∀x∈thr (l.map (kz inn)), -1099511627776<=x/\x<=1099511627776) : Calls Tryz.prog 157 #[.iface it (.agg #[]),.pointer (some ⟨a,0,none⟩),.pointer (some ⟨b,0,none⟩)] w fun e w'=>∃g,w.heap.size<=g/\e= .returned (.slice (some ⟨g,0,none⟩) n n)/\ cM w' g 2 (bI ((thr (l.map (kz inn))).map (f8 inn)))/\Below w.heap.size w w':=by
 obtain⟨i0,hel⟩:=FP;have la:=ba.lt;have lb':=bb.lt;have c1:w.cell? ⟨a,0,none⟩=some (.slice A n c):=ba.cell 0;have hl1:=hl.1;have Hl1:=Lib.hid hl1;clear hl1;go_enter Tryz.func157,Tryz.ntmps157
 go_wp2
 have Hit:=Lib.hid hit;clear hit;rcases Hit.out with⟨rfl,rfl⟩ | ⟨rfl,rfl⟩
 ·go_region
  go_wp2
  have hd0:Below w.heap.size w w.drew:=(Below.refl _ _).drew;generalize w.drew=w0 at*;go_loopw [7,19] (fun v kv wr=>∃k:Nat,k<=n/\kv= .int .i64 k/\wr.ownsRow w.heap.size 2 1 v k (((l.map (kz true)).take k).flatMap Ae)/\Below w.heap.size w wr) (fun v kv wr=>n- (intOf kv).toNat)
  case atStart=>exact⟨0,Nat.zero_le _,rfl,World.ownsRow_nil _ _ _ _,hd0⟩
  case round=>
   obtain⟨k,hk,rfl,hown,hbl⟩:=hrel
   by_cases hlt:k< n
   ·obtain⟨bP,oP,rfl,hbP,hc1,hc2⟩:=AL (hl.bz hbl) hlt;have hpb:=(uw.1 hlb) k (by rw [Hl1.out];exact hlt);have hx1:cM (wr.alloc (.cells #[.int .i64 (gp l k).1,.int .i64 (gp l k).2] 47)) wr.heap.size 47 #[.int .i64 (gp l k).1,.int .i64 (gp l k).2]:=cM.new _ _ _;have hx2:=bC wr (.cells #[.int .i64 (gp l k).1,.int .i64 (gp l k).2] 47);have m1:=fun w=>tS w;go_wp2_with (first
     | (go_at_call 250;refine(Gp _ _ _ oM).mono ?_;rintro e w1 ⟨rfl,hw1⟩;have hown1:=jS (jS hown hx2) hw1;have hbl1:=(hbl.trans (hx2.mono hbl.size)).trans (hw1.mono (by have:=hbl.size;simp;omega)))
     | (at_builtin;go_loud (refine qf hel rfl _ _ rfl rfl (hown1.alloc _) rfl (cM.new w1 2 _) rfl (by intro u hu;simp at hu;subst hu;rfl) oM (by decide) (by have:=hbl1.size;simp;omega) ?_);intro v' w2 hown2 hg2))
    go_roundw
    case rel=>
     refine⟨k+1,by omega,by go_num,?_,?_⟩
     ·have e:(l.map (kz true)).take (k+1)=(l.map (kz true)).take k++[kz true (gp l k)]:=by rw [List.take_succ_eq_append_getElem (by simp [Hl1.out,hlt])];simp [gL (l:=l) (k:=k) (by rw [Hl1.out];exact hlt)]
      rw [e,List.flatMap_append];simpa [Ae]using hown2
     ·exact(hbl1.alloc hbl1.size _).grown hg2 (by have:=hbl1.size;simp;omega) (fun g e=>by have:=hown1.lt g e;omega)
    case measure=>simp [intOf];omega
   ·obtain rfl:k=n:=by omega
    obtain⟨A',c',rfl⟩:=su hown;rw [List.take_of_length_le (by simp [Hl1.out])]at hown;have hin:dQ wr A' k (l.map (kz true)):=fZ.AD xO Nat.one_pos hown;have d2:wr.cell? ⟨b,0,none⟩=some (.func (.func tf) #[] lb):=(bb.bz hbl).cell 0;go_wp2_with fail
    refine(ht A' c' wr hbl hin).mono ?_;rintro e w1 ⟨g,hg,rfl,hbg,hb1⟩;have hb2:Below w.heap.size w w1:=hbl.trans (hb1.mono hbl.size);generalize hL:thr (l.map (kz true))=L at*;have HL:=Lib.hid hL;have Hth:=Lib.hid hth;clear hL hth ht;go_wp2
    go_loopw [35] (fun kv wr2=>∃q:Nat,q<=k/\kv= .int .i64 q/\cM wr2 g 2 (bI (eO true L q))/\Below w.heap.size w wr2) (fun kv wr2=>k- (intOf kv).toNat)
    case atStart=>exact⟨0,Nat.zero_le _,rfl,by rw [pK];exact hbg,hb2⟩
    case round=>
     obtain⟨q,hq,rfl,hbq,hbw⟩:=hrel
     by_cases hqk:q< k
     ·have f1:wr.cell? ⟨g,q,none⟩=some (.int .i64 (gi L q)):=by rw [hbq.cell,eK _ _ (by rw [iX,Hth.out];exact hqk),uk _ _ _ (by rw [Hth.out];exact hqk)]
      have hqb:=(fc.1 htb) q (by rw [Hth.out];exact hqk);have m2:=fun w=>qn w;have hbq2:∀w',Below wr.heap.size wr w'->w'.cell? ⟨g,q,none⟩=some (.int .i64 (gi L q))/\w'.frozen? ⟨g,q,none⟩=false:=fun w' hb=>⟨(hb.cell (p:=⟨g,q,none⟩) hbq.lt).trans f1,(hbq.bz hb).frozen q⟩;go_wp2_with (go_at_call 249;refine(Ao _ _ oM).mono ?_;rintro e w2 ⟨rfl,hw2⟩;obtain⟨f2,f3⟩:=hbq2 w2 hw2)
      go_roundw
      case rel=>
       refine⟨q+1,by omega,by go_num,?_,?_⟩
       ·have hs:=(hbq.bz hw2).set q (.int .i64 (f8 true (gi L q)));rw [gT,rf]at hs;exact hs
       ·exact(hbw.trans (hw2.mono hbw.size)).setCell (p:=⟨g,q,none⟩) (by have:=hbl.size;simp;omega) _
      case measure=>simp [intOf];omega
     ·obtain rfl:q=k:=by omega
      go_wp2
      go_ret
      refine⟨g,by have:=hbl.size;omega,rfl,?_,hbw⟩;have:=Hth.out;rw [<-this,qZ]at hbq;rw [HL.out];exact hbq
 ·go_region
  go_wp2
  have hd0:Below w.heap.size w w.drew:=(Below.refl _ _).drew;generalize w.drew=w0 at*;go_loopw [7,19] (fun v kv wr=>∃k:Nat,k<=n/\kv= .int .i64 k/\wr.ownsRow w.heap.size 2 1 v k (((l.map (kz false)).take k).flatMap Ae)/\Below w.heap.size w wr) (fun v kv wr=>n- (intOf kv).toNat)
  case atStart=>exact⟨0,Nat.zero_le _,rfl,World.ownsRow_nil _ _ _ _,hd0⟩
  case round=>
   obtain⟨k,hk,rfl,hown,hbl⟩:=hrel
   by_cases hlt:k< n
   ·obtain⟨bP,oP,rfl,hbP,hc1,hc2⟩:=AL (hl.bz hbl) hlt;have hpb:=(uw.1 hlb) k (by rw [Hl1.out];exact hlt);have hx1:cM (wr.alloc (.cells #[.int .i64 (gp l k).1,.int .i64 (gp l k).2] 47)) wr.heap.size 47 #[.int .i64 (gp l k).1,.int .i64 (gp l k).2]:=cM.new _ _ _;have hx2:=bC wr (.cells #[.int .i64 (gp l k).1,.int .i64 (gp l k).2] 47);have m1:=fun w=>tT w;go_wp2_with (first
     | (go_at_call 248;refine(G9 _ _ _).mono ?_;rintro e w1 ⟨rfl,hw1⟩;have hown1:=jS (jS hown hx2) hw1;have hbl1:=(hbl.trans (hx2.mono hbl.size)).trans (hw1.mono (by have:=hbl.size;simp;omega)))
     | (at_builtin;go_loud (refine qf hel rfl _ _ rfl rfl (hown1.alloc _) rfl (cM.new w1 2 _) rfl (by intro u hu;simp at hu;subst hu;rfl) oM (by decide) (by have:=hbl1.size;simp;omega) ?_);intro v' w2 hown2 hg2))
    go_roundw
    case rel=>
     refine⟨k+1,by omega,by go_num,?_,?_⟩
     ·have e:(l.map (kz false)).take (k+1)=(l.map (kz false)).take k++[kz false (gp l k)]:=by rw [List.take_succ_eq_append_getElem (by simp [Hl1.out,hlt])];simp [gL (l:=l) (k:=k) (by rw [Hl1.out];exact hlt)]
      rw [e,List.flatMap_append];simpa [Ae]using hown2
     ·exact(hbl1.alloc hbl1.size _).grown hg2 (by have:=hbl1.size;simp;omega) (fun g e=>by have:=hown1.lt g e;omega)
    case measure=>simp [intOf];omega
   ·obtain rfl:k=n:=by omega
    obtain⟨A',c',rfl⟩:=su hown;rw [List.take_of_length_le (by simp [Hl1.out])]at hown;have hin:dQ wr A' k (l.map (kz false)):=fZ.AD xO Nat.one_pos hown;have d2:wr.cell? ⟨b,0,none⟩=some (.func (.func tf) #[] lb):=(bb.bz hbl).cell 0;go_wp2_with fail
    refine(ht A' c' wr hbl hin).mono ?_;rintro e w1 ⟨g,hg,rfl,hbg,hb1⟩;have hb2:Below w.heap.size w w1:=hbl.trans (hb1.mono hbl.size);generalize hL:thr (l.map (kz false))=L at*;have HL:=Lib.hid hL;have Hth:=Lib.hid hth;clear hL hth ht;go_wp2
    go_loopw [35] (fun kv wr2=>∃q:Nat,q<=k/\kv= .int .i64 q/\cM wr2 g 2 (bI (eO false L q))/\Below w.heap.size w wr2) (fun kv wr2=>k- (intOf kv).toNat)
    case atStart=>exact⟨0,Nat.zero_le _,rfl,by rw [pK];exact hbg,hb2⟩
    case round=>
     obtain⟨q,hq,rfl,hbq,hbw⟩:=hrel
     by_cases hqk:q< k
     ·have f1:wr.cell? ⟨g,q,none⟩=some (.int .i64 (gi L q)):=by rw [hbq.cell,eK _ _ (by rw [iX,Hth.out];exact hqk),uk _ _ _ (by rw [Hth.out];exact hqk)]
      have hqb:=(fc.1 htb) q (by rw [Hth.out];exact hqk);have m2:=fun w=>qo w;have hbq2:∀w',Below wr.heap.size wr w'->w'.cell? ⟨g,q,none⟩=some (.int .i64 (gi L q))/\w'.frozen? ⟨g,q,none⟩=false:=fun w' hb=>⟨(hb.cell (p:=⟨g,q,none⟩) hbq.lt).trans f1,(hbq.bz hb).frozen q⟩;go_wp2_with (go_at_call 247;refine(AF _ _).mono ?_;rintro e w2 ⟨rfl,hw2⟩;obtain⟨f2,f3⟩:=hbq2 w2 hw2)
      go_roundw
      case rel=>
       refine⟨q+1,by omega,by go_num,?_,?_⟩
       ·have hs:=(hbq.bz hw2).set q (.int .i64 (f8 false (gi L q)));rw [gT,rf]at hs;exact hs
       ·exact(hbw.trans (hw2.mono hbw.size)).setCell (p:=⟨g,q,none⟩) (by have:=hbl.size;simp;omega) _
      case measure=>simp [intOf];omega
     ·obtain rfl:q=k:=by omega
      go_wp2
      go_ret
      refine⟨g,by have:=hbl.size;omega,rfl,?_,hbw⟩;have:=Hth.out;rw [<-this,qZ]at hbq;rw [HL.out];exact hbq
theorem NQ:∃i,ua Tryz.prog 42 47 i (.agg #[.int .i64 0,.int .i64 0]) 2 16:=KF Tryz.underlying42 kR rfl (by decide)
theorem Np.later{tf:Nat}{lb:Array Value}{thr:List Int->List Int}{n:Nat}{h:List Int}{w w':World}(ht:Np tf lb thr n h w)(hb:Below w.heap.size w w'):Np tf lb thr n h w':= fun A c W hW hi=>ht A c W (hb.trans (hW.mono hb.size)) hi
def e7(n:Nat)(li lo:List Int):List Pt:=(List.range n).map fun i=>(gi li i,gi lo i)
theorem zh(n:Nat)(li lo:List Int):e7 (n+1) li lo=e7 n li lo++[(gi li n,gi lo n)]:=by simp [e7,List.range_succ]
def fS(thr:List Int->List Int)(l:List Pt):List Pt:= e7 l.length ((thr (l.map (kz true))).map (f8 true)) ((thr (l.map (kz false))).map (f8 false))
theorem zi(A:Option Addr)(n c:Nat)(l:List Pt)(tf:Nat)(lb:Array Value)(thr:List Int->List Int)(w:World) (hl:l9 w A n l) (hn:n<=4096) (hlb:∀p∈l, -4194304<=p.1/\p.1<=4194304/\ -4194304<=p.2/\p.2<=4194304) (eg:∀args w,(callFunc tf args).run Tryz.prog w= .ok (.enter tf args) w) (ht:∀inn,Np tf lb thr n (l.map (kz inn)) w) (hth:∀inn,(thr (l.map (kz inn))).length=n) (htb:∀inn,∀x∈thr (l.map (kz inn)), -1099511627776<=x/\x<=1099511627776) : Calls Tryz.prog 116 #[.slice A n c,.func (.func tf) #[] lb] w fun e w'=>∃v,e= .returned v/\w'.ownsRow w.heap.size 47 2 v n ((fS thr l).flatMap oD)/\Below w.heap.size w w':=by
 obtain⟨i0,hel⟩:=NQ;have b1:=(cM.new w 42 #[.slice A n c]).alloc (.cells #[.func (.func tf) #[] lb] 164);have b2:=cM.new (w.alloc (.cells #[.slice A n c] 42)) 164 #[.func (.func tf) #[] lb];have hb:=(bC w (.cells #[.slice A n c] 42)).alloc (by simp) (.cells #[.func (.func tf) #[] lb] 164);have hs:((w.alloc (.cells #[.slice A n c] 42)).alloc (.cells #[.func (.func tf) #[] lb] 164)).heap.size=w.heap.size+1+1:=by simp
 simp only [World.size_alloc]at b2;have Heg:=Lib.hid eg;clear eg;go_enter Tryz.func116,Tryz.ntmps116
 go_wp2_with fail
 generalize (w.alloc (.cells #[.slice A n c] 42)).alloc (.cells #[.func (.func tf) #[] lb] 164)=w0 at*;refine(ru false _ (.inr ⟨rfl,rfl⟩) _ _ A n c l tf lb thr w0 (hl.bz hb) hn hlb b1 b2 Heg.out ((ht false).later hb) (hth false) (htb false)).mono ?_;rintro e w1 ⟨go,hgo,rfl,hbo,hb1⟩;have b1':=b1.bz hb1;have b2':=b2.bz hb1;have hb':Below w.heap.size w w1:=hb.trans (hb1.mono oM);go_wp2_with fail
 refine(ru true _ (.inl ⟨rfl,rfl⟩) _ _ A n c l tf lb thr w1 (hl.bz hb') hn hlb b1' b2' Heg.out ((ht true).later hb') (hth true) (htb true)).mono ?_;rintro e w2 ⟨gn,hgn,rfl,hbn,hb2⟩;have hbo2:=hbo.bz hb2;have hb'':Below w.heap.size w w2:=hb'.trans (hb2.mono hb'.size);generalize hLo:(thr (l.map (kz false))).map (f8 false)=Lo at*;generalize hLi:(thr (l.map (kz true))).map (f8 true)=Li at*;have HLo:=Lib.hid hLo;have HLi:=Lib.hid hLi;have hlo:Lo.length=n:=by rw [<-hLo];simp [hth]
 have hli:Li.length=n:=by rw [<-hLi];simp [hth]
 have Hlo:=Lib.hid hlo;have Hli:=Lib.hid hli;have Hht:=Lib.hid ht;have Hhth:=Lib.hid hth;have b1'':w2.cell? ⟨w.heap.size,0,none⟩=some (.slice A n c):=(b1'.bz hb2).cell 0;clear hLo hLi hlo hli ht hth;go_wp2
 have hg1:w.heap.size<=go:=by omega
 have hg2:w.heap.size<=gn:=by have:=hb1.size;omega
 go_loopw [8,21] (fun v kv wr=>∃k:Nat,k<=n/\kv= .int .i64 k/\wr.ownsRow w.heap.size 47 2 v k ((e7 k Li Lo).flatMap oD)/\cM wr go 2 (bI Lo)/\cM wr gn 2 (bI Li)/\Below w.heap.size w wr) (fun v kv wr=>n- (intOf kv).toNat)
 case atStart=>exact⟨0,Nat.zero_le _,rfl,World.ownsRow_nil _ _ _ _,hbo2,hbn,hb''⟩
 case round=>
  obtain⟨k,hk,rfl,hown,hbo,hbn,hbl⟩:=hrel
  by_cases hlt:k< n
  ·have f1:wr.cell? ⟨go,k,none⟩=some (.int .i64 (gi Lo k)):=(hbo.cell k).trans (eK _ _ (by rw [Hlo.out];exact hlt));have f2:wr.cell? ⟨gn,k,none⟩=some (.int .i64 (gi Li k)):=(hbn.cell k).trans (eK _ _ (by rw [Hli.out];exact hlt));go_wp2
   have hown1:wr.drew.ownsRow w.heap.size 47 2 u8 k ((e7 k Li Lo).flatMap oD):=hown;have hbo1:cM wr.drew go 2 (bI Lo):=hbo;have hbn1:cM wr.drew gn 2 (bI Li):=hbn;have hbl1:Below w.heap.size w wr.drew:=hbl.drew;go_region_law (refine En hel rfl _ _ rfl rfl (hown1.alloc _) rfl (cM.new wr.drew 47 _) rfl (by intro u hu;simp at hu;rcases hu with rfl |rfl <;> rfl) oM (by decide) (Nat.le_trans hbl1.size (by simp)) ?_;intro v' w2 hown2 hg2)
   all_goals
    go_wp2
    go_roundw
    case rel=>
     refine⟨k+1,by omega,by go_num,?_,?_,?_,?_⟩
     ·rw [zh,List.flatMap_append];exact hown2
     ·exact(hbo1.alloc _).grown hg2 (fun e=>Hf hown1 hbo1 (by decide) _ e.symm rfl)
     ·exact(hbn1.alloc _).grown hg2 (fun e=>Hf hown1 hbn1 (by decide) _ e.symm rfl)
     ·exact(hbl1.alloc hbl1.size _).grown hg2 (Nat.le_trans hbl1.size (by simp)) (fun g e=>by have:=hown1.lt g e;omega)
    case measure=>simp [intOf];omega
  ·obtain rfl:k=n:=by omega
   go_wp2
   go_ret
   refine⟨_,rfl,?_,hbl⟩;have e:fS thr l=e7 k Li Lo:=by rw [fS,HLo.out,HLi.out,hl.1]
   rw [e];exact hown
end Go.Proofs.YtjmbpjlojjgggaaGreatDoor
