/-
  Several texts in one: A row that is not written any more, seen also where a cell holds it; what is handed back out of cells. No condition. .. Iterators whose body is walked: what they hand out is known as values without addresses. Conditions: told in each theorem.
-/
import Derived.LoopNIn
import Derived.Test.YtjmbpjlojjgggaaGreatDoorMD
import Derived.Test.YtjmbpjlojjgggaaGreatDoorMB
import Derived.Test.YtjmbpjlojjgggaaGreatDoorAbs42
namespace Go.Ab
open Go.RowKit Go.Dw
def Ob.fz(id:Nat)(v:V):Ob->Ob
 | .box t cs=> .box t (V.oC id v cs)
 | .row e sz n r=> .row e sz n r
 | .mp s f=> .mp s (f.map (V.fz id v))
section
variable {P:Program}{b:Frame}{a:Act}{k:List Item}{cs:List Frame}{w:World}{F:Fence}{n:Nat}
theorem fu{c:Code}:step P (lone (b.atR a (.code (.scope c)::k)) cs w)= .next (lone (b.atR a (.code c:: .inScope c::k)) cs w):= step_lone_go (by simp [stepG,stepG.exec,Frame.atR])
theorem uu{c:Code}:step P (lone (b.atR a (.inScope c::k)) cs w)= .next (lone (b.atR a k) cs w):= step_lone_go (by simp [stepG,stepG.exec,Frame.atR])
def IG(Q:Exit->Act->World->Prop):Exit->Act->World->Prop
 | .goto _,_,_=>False
 |e,a,w=>Q e a w
theorem Bi{c:Code}{Q:Exit->Act->World->Prop}(h:c.wpIn F n P (IG Q) a w):(Code.scope c).wpIn F n P Q a w:=by
 intro b k cs hro hb hr;have h0:(lone (b.atR a (.code (.scope c)::k)) cs w).fenced P F:=fenced_calm hb hr rfl;obtain⟨e,a₁,w₁,hq,harr⟩:=h b (.inScope c::k) cs hro hb hr;cases e with
 |normal=>exact⟨.normal,a₁,w₁,hq,.head h0 fu (StepsIn.trans harr (.one (fenced_calm hb hr rfl) uu))⟩
 |exit id=>
  have hx:exitTo id (.inScope c::k)=exitTo id k:=by simp [exitTo]
  exact⟨.exit id,a₁,w₁,hq,fun k' hk=> .head h0 fu (harr.1 k' (by rw [hx];exact hk)),
   fun hr' hk=>let⟨k₁,h1,h2⟩:=harr.2 hr' (by rw [hx];exact hk);⟨k₁,h1,.head h0 fu h2⟩⟩
 |goto l=>exact hq.elim
 |ret=>exact⟨_,a₁,w₁,hq,.of_steps (.one h0 fu) harr⟩
 |panic ch=>exact⟨_,a₁,w₁,hq,.of_steps (.one h0 fu) harr⟩
 |outgrown=>exact⟨_,a₁,w₁,hq,.of_steps (.one h0 fu) harr⟩
end
def L7(Q:Exit->S->Prop):Exit->S->Prop
 | .goto _,_=>False
 |e,s=>Q e s
section
variable {P:Program}{N:Nat}{C:Cx P N}{Q:Exit->S->Prop}{s:S}{id:Nat}
theorem Fl{c:Code}(h:AW C c (L7 Q) s):AW C (.scope c) Q s:=by
 intro a w g;refine Bi (wpIn_mono (h a w g) ?_);rintro e a' w' ⟨s',q,g',t⟩;cases e with
 |goto l=>exact q.elim
 |_=>exact⟨s',q,g',t⟩
end
mutual
def V.ki(n:Nat):V->Bool
 | .agg cs=>V.cQ n cs
 | .tup cs=>V.cQ n cs
 | .fn _ a b=>V.cQ n a && V.cQ n b
 | .ifc _ v=>v.ki n
 | .gd _ v=>v.ki n
 | .alt _ v u=>v.ki n && u.ki n
 | .own i=>decide (500<=i) && decide (i< 500+n)
 | .ref i _=>decide (500<=i) && decide (i< 500+n)
 | .oel i _ _ _=>decide (500<=i) && decide (i< 500+n)
 | .osl i _ _ _=>decide (500<=i) && decide (i< 500+n)
 |_=>true
def V.cQ(n:Nat):List V->Bool
 | []=>true
 |v::l=>v.ki n && V.cQ n l
end
mutual
theorem lR(n:Nat):∀v:V,v.cj=true->v.ki n=true
 | .agg cs,h=>by rw [V.cj]at h;rw [V.ki];exact gH n cs h
 | .tup cs,h=>by rw [V.cj]at h;rw [V.ki];exact gH n cs h
 | .fn f a b,h=>by rw [V.cj,Bool.and_eq_true]at h;rw [V.ki,gH n a h.1,gH n b h.2];rfl
 | .ifc t v,h=>by rw [V.cj]at h;rw [V.ki];exact lR n v h
 | .gd q v,h=>by rw [V.cj]at h;rw [V.ki];exact lR n v h
 | .alt q v u,h=>by rw [V.cj,Bool.and_eq_true]at h;rw [V.ki,lR n v h.1,lR n u h.2];rfl
 | .own _,h=>by simp [V.cj]at h
 | .ref _ _,h=>by simp [V.cj]at h
 | .oel _ _ _ _,h=>by simp [V.cj]at h
 | .osl _ _ _ _,h=>by simp [V.cj]at h
 | .fset _ _,_=>rfl
 | .any,_=>rfl
 | .c _,_=>rfl
 | .nil,_=>rfl
 | .emp,_=>rfl
 | .sl _ _ _,_=>rfl
 | .ptr _,_=>rfl
theorem gH(n:Nat):∀l:List V,V.bp l=true->V.cQ n l=true
 | [],_=>rfl
 |v::l,h=>by rw [V.bp,Bool.and_eq_true]at h;rw [V.cQ,lR n v h.1,gH n l h.2];rfl
end
theorem V.iD{n:Nat}:∀ {l:List V}(_:V.cQ n l=true){i:Nat}{u:V}(_:l[i]?=some u),u.ki n=true
 |v::l,h,0,u,hu=>by simp at hu;subst hu;simp only [V.cQ,Bool.and_eq_true]at h;exact h.1
 |v::l,h,i+1,u,hu=>by simp only [V.cQ,Bool.and_eq_true]at h;exact V.iD h.2 (by simpa using hu)
theorem R.uc{n:Nat}{w:World}{L:Nat->Prop}{ρ:Nat->Option Value}{u:V}{x:Value}(h:R w L ρ u x):∀(_:u.ki n=true) (ρ':Nat->Option Value),(∀id v,500<=id->id< 500+n->ρ id=some v->ρ' id=some v)->R w L ρ' u x:=by
 induction h with
 |any=>exact fun _ _ _=> .any _ _
 |c=>exact fun _ _ _=> .c _ _
 |agg ρ cs xs f hl hf hr ih=>intro hi ρ' hρ;simp only [V.ki]at hi;exact .agg _ _ _ f hl hf fun i u hu=>ih i u hu (V.iD hi hu) ρ' hρ
 |tup ρ cs xs f hl hf hr ih=>intro hi ρ' hρ;simp only [V.ki]at hi;exact .tup _ _ _ f hl hf fun i u hu=>ih i u hu (V.iD hi hu) ρ' hρ
 |nil=>exact fun _ _ _=> .nil _
 |emp=>exact fun _ _ _=> .emp _ _
 |sl0=>exact fun _ _ _=> .sl0 _ _ _ _ _
 |sl ρ sz n row b o c f hb hcap hlen hf hr ih=>exact fun _ ρ' _=> .sl _ _ _ _ _ _ _ f hb hcap hlen hf hr
 |ptr ρ cs b o f hb hf hr ih=>exact fun _ ρ' _=> .ptr _ _ _ _ f hb hf hr
 |fset ρ str has b es cl hb hh hk hf=>exact fun _ ρ' _=> .fset _ _ _ b es cl hb hh hk hf
 |own ρ id x h h1=>intro hi ρ' hρ;simp only [V.ki,Bool.and_eq_true,decide_eq_true_eq]at hi;exact .own _ _ _ (hρ _ _ hi.1 hi.2 h) h1
 |ref ρ id off b h=>intro hi ρ' hρ;simp only [V.ki,Bool.and_eq_true,decide_eq_true_eq]at hi;exact .ref _ _ _ _ (hρ _ _ hi.1 hi.2 h)
 |oel ρ id sz i off b n c h=>intro hi ρ' hρ;simp only [V.ki,Bool.and_eq_true,decide_eq_true_eq]at hi;exact .oel _ _ _ _ _ _ n c (hρ _ _ hi.1 hi.2 h)
 |osl ρ id sz off k b m c c2 A h hn hA=>intro hi ρ' hρ;simp only [V.ki,Bool.and_eq_true,decide_eq_true_eq]at hi;exact .osl _ _ _ _ _ _ m c _ _ (hρ _ _ hi.1 hi.2 h) hn hA
 |fn ρ f fs cs xs ys g h hl hm hg hh hr hs ih1 ih2=>intro hi ρ' hρ;simp only [V.ki,Bool.and_eq_true]at hi;exact .fn _ _ _ _ _ _ g h hl hm hg hh (fun i u hu=>ih1 i u hu (V.iD hi.1 hu) ρ' hρ) fun i u hu=>ih2 i u hu (V.iD hi.2 hu) ρ' hρ
 |ifc ρ t u x h ih=>intro hi ρ' hρ;simp only [V.ki]at hi;exact .ifc _ _ _ _ (ih hi ρ' hρ)
 |gd ρ g u x h h' ih=>intro hi ρ' hρ;simp only [V.ki]at hi;exact .gd _ _ _ _ (fun hg=>ih hg hi ρ' hρ) h'
 |alt ρ g u v x h h' ih ih'=>intro hi ρ' hρ;simp only [V.ki,Bool.and_eq_true]at hi;exact .alt _ _ _ _ _ (fun hg=>ih hg hi.1 ρ' hρ) fun hg=>ih' hg hi.2 ρ' hρ
theorem RV.uc{n:Nat}{w:World}{L:Nat->Prop}{ρ ρ':Nat->Option Value}{us:List V}{xs:List Value}(h:RV w L ρ us xs)(hi:V.cQ n us=true)(hρ:∀id v,500<=id->id< 500+n->ρ id=some v->ρ' id=some v):RV w L ρ' us xs:= ⟨h.1,fun i u x hu hx=>(h.2 i u x hu hx).uc (V.iD hi hu) ρ' hρ⟩
theorem RL.uc{n:Nat}{w:World}{L:Nat->Prop}{ρ ρ':Nat->Option Value}{us:List V}{xs:List Value}(h:RL w L ρ us xs)(hi:V.cQ n us=true)(hρ:∀id v,500<=id->id< 500+n->ρ id=some v->ρ' id=some v):RL w L ρ' us xs:= ⟨h.1,fun i u x hu hx=>⟨(h.2 i u x hu hx).1.uc (V.iD hi hu) ρ' hρ,(h.2 i u x hu hx).2⟩⟩
theorem zw{w:World}{L:Nat->Prop}{ρ:Nat->Option Value}(g:Nat->Nat){us:List V}{xs:List Value}(h:RV w L ρ (V.aV g us) xs):RV w L (fun i=>ρ (g i)) us xs:= ⟨by rw [<-h.1,V.cZ],fun i u x hu hx=>mI g us i u x hu (h.2 i (u.bB g) x (by rw [V.cB,hu];rfl) hx)⟩
def Ob.ki(n:Nat):Ob->Prop
 | .box _ cs=>V.cQ n cs=true
 | .row _ _ m f=>∀i,i< m->V.cQ n (f i)=true
 | .mp _ f=>∀k u,f.look k=some u->V.ki n u=true
theorem V.qp{n:Nat}:∀ {l m:List V},V.cQ n l=true->V.cQ n m=true->V.cQ n (l++m)=true
 | [],m,_,h=>h
 |v::l,m,h,k=>by simp only [V.cQ,Bool.and_eq_true,List.cons_append]at h ⊢;exact⟨h.1,V.qp h.2 k⟩
theorem Ai{k:Nat}{row:Nat->List V}:∀n,(∀i,i< n->V.cQ k (row i)=true)->V.cQ k (aE n row).flatten=true:=by
 intro n h;have key:∀l:List (List V),(∀x∈l,V.cQ k x=true)->V.cQ k l.flatten=true:=by
  intro l;induction l with
  |nil=>intro _;rfl
  |cons x l ih=>intro h;rw [List.flatten_cons];exact V.qp (h x (by simp)) (ih fun y hy=>h y (by simp [hy]))
 refine key _ fun x hx=> ?_;simp only [aE,List.mem_map,List.mem_range]at hx;obtain⟨i,hi,rfl⟩:=hx;exact h i hi
def eD(ins:List Ob)(id:Nat):Option Ob:=if 500<=id then ins[id- 500]? else none
def gL(outs:List (Option Ob))(obs:List Ob)(id:Nat):Option Ob:=if 500<=id then(outs[id- 500]?).join else obs[id]?
def AM(P:Program)(f:FuncId)(args:List V)(ins:List Ob)(v:V)(outs:List (Option Ob))(obs:List Ob):Prop:=
  (∀(args:Array Value) (w:World),(callFunc f args).run P w= .ok (.enter f args) w)/\
  ∀(W LB L:Nat->Prop) (w:World) (ρ:Nat->Option Value) (vs:Array Value),(∀b,W b->LB b)->(∀b,W b->¬L b)->G W LB (eD ins) w L ρ->(∀id,(id< 500\/500+ins.length<=id)->ρ id=none)->RV w L ρ args vs.toList->
    Calls P f vs w fun e w'=>∃x,e= .returned x/\aS W w w'/\∃L' ρ',G W LB (gL outs obs) w' L' ρ'/\Ext w L ρ w' L' ρ'/\R w' L' ρ' v x/\∀j,obs.length<=j->(j< 500\/500+ins.length<=j)->ρ' j=none
def bw(k n nx i:Nat):Nat:=if i< k\/(500<=i/\i< 500+n)then i else nx*100000+i
def eX(T:List TI)(fn:Func)(n:Nat)(v:V)(outs:List (Option Ob))(obs:List Ob):Exit->S->Prop:=fun e s=>(e= .normal\/e= .ret)/\∃s',Le s s'/\qX T s' fn.results.toList=some v/\(∀i ob,obs[i]?=some ob->s'.σ i=some ob)/\(∀i ob,outs[i]?=some (some ob)->s'.σ (500+i)=some ob)/\ v.bB (bw obs.length n s'.nx)=v/\(∀ob∈obs,ob.bB (bw obs.length n s'.nx)=ob)/\(∀ob:Ob,some ob∈outs->ob.bB (bw obs.length n s'.nx)=ob)
theorem uA{T:List TI}{P:Program}(hT:aN T P)(hmx:P.follows .mixedOrders=true){f:FuncId}{fn:Func}{c:Code}{N:Nat}(hk:oI P f fn c N){args:List V}{ins:List Ob}{v:V}{outs:List (Option Ob)}{obs:List Ob}(hargs:args.length<=N)(hn:outs.length=ins.length)(hn4:ins.length<=400)(_:obs.length<=90)
    (h:∀C:Cx P N,C.F=Fence.wide->(∀id x,C.dfs.pin id=some x->500<=id/\id< 500+ins.length)->C.dfs.tl=[]->AW C c (eX T fn ins.length v outs obs) ⟨fun t=>args.getD t .any,eD ins,1⟩):AM P f args ins v outs obs:=by
  refine⟨hk.call,fun W LB L w ρ vs hwl hWL hG hρn hvs=> ?_⟩
  have hsome:∀i,i< ins.length->∃ob x,ins[i]?=some ob/\eD ins (500+i)=some ob/\ρ (500+i)=some x/\∀k,blk x=some k->k< w.heap.size/\W k/\¬L k:=by
    intro i hi
    have h1:ins[i]?=some ins[i]:=List.getElem?_eq_getElem hi
    have h2:eD ins (500+i)=some ins[i]:=by unfold eD;rw [if_pos oM,Nat.add_sub_cancel_left];exact h1
    obtain⟨x,hx,hx2⟩:=(hG.ob _ _ h2).lt
    exact⟨_,x,h1,h2,hx,hx2⟩
  obtain⟨C,hW,hLB,hd,hFw,htl⟩:∃C:Cx P N,C.W=W/\C.LB=LB/\C.dfs.pin=(fun id=>if 500<=id/\id< 500+ins.length then ρ id else none)/\C.F=Fence.wide/\C.dfs.tl=[]:=
    ⟨⟨W,LB,hwl,⟨[],fun id=>if 500<=id/\id< 500+ins.length then ρ id else none,fun id x hp=>by
      split at hp
      · omega
      · cases hp⟩,hmx,Fence.wide,.inl rfl⟩,rfl,rfl,rfl,rfl,rfl⟩
  have hvl:vs.size=args.length:=by have:=hvs.1;simpa using this.symm
  refine callsIn_wide.1 (callsIn_of_wp_marks (n:=0) hk.hf hk.hb trivial ?_ rfl)
  have hw:=h C hFw (fun id x hp=>by
    rw [hd]at hp
    simp only at hp
    split at hp
    · assumption
    · cases hp) htl
  unfold AW at hw
  rw [hFw]at hw
  refine wpIn_mono (hw _ w ⟨L,ρ,⟨?_,fun id hid=> ?_,fun t=> ?_,?_,?_,fun id x hp=> ?_⟩⟩) ?_
  · rw [hW,hLB];exact hG
  · have hid':1*100000<=id:=hid
    exact hρn id (.inr oM)
  · by_cases ht:t< args.length
    · have h1:args[t]?=some args[t]:=List.getElem?_eq_getElem ht
      obtain⟨x,hx,hr⟩:=hvs.get h1
      have e1:args.getD t .any=args[t]:=by simp [List.getD_eq_getElem?_getD,h1]
      have e2:(vs++Array.replicate (fn.ntmps- vs.size) undef).getD t undef=x:=by
        rw [Array.getD_eq_getD_getElem?,Array.getElem?_append_left oM]
        have:vs[t]?=some x:=by simpa using hx
        rw [this];rfl
      show R w L ρ (args.getD t .any) _
      rw [e1,e2];exact hr
    · have e1:args.getD t .any= .any:=by simp [List.getD_eq_getElem?_getD,List.getElem?_eq_none (Nat.le_of_not_lt ht)]
      show R w L ρ (args.getD t .any) _
      rw [e1];exact .any _ _
  · rw [<-hk.hn]at hargs ⊢
    simp;omega
  · exact⟨[],by rw [htl];rfl,by simp,by simp⟩
  · rw [hd]at hp
    simp only at hp
    split at hp
    · exact hp
    · cases hp
  · rintro e a' w' ⟨s',⟨he,s'',hle,hres,hob,hout,hcv,hco,hcu⟩,g',t⟩
    obtain⟨L',ρ',g''⟩:=hle C a' w' g'
    rw [hW]at t
    obtain⟨Ds,d1,d2,d3⟩:=g''.defers
    rw [htl,List.append_nil]at d1
    refine iz Ds he d1 d2 (fun D hD=>(d3 D hD).1) fun w2 ht2=> ?_
    obtain⟨g2,e2⟩:=g''.g.marks ht2 d3
    obtain⟨x,hx,hr⟩:=lg hT g2 (fun t=>(g''.tm t).ext e2) fn hres
    have hWD:∀D∈Ds,W D:=fun D hD=>by have:=(d3 D hD).2.1;rw [hW]at this;exact this
    have tt:aS W w w2:=t.trans (ht2.mono fun k _ hkD=>hWD k hkD)
    refine⟨x,hx,x,rfl,tt,?_⟩
    have hr2:R w2 L' (fun i=>ρ' (bw obs.length ins.length s''.nx i)) v x:=kH _ _ _ (by rw [hcv];exact hr)
    have hlt:∀i,i< obs.length->bw obs.length ins.length s''.nx i=i:=fun i hi=>by unfold bw;rw [if_pos (.inl hi)]
    have hlt5:∀i,500<=i->i< 500+ins.length->bw obs.length ins.length s''.nx i=i:=fun i h1 h2=>by unfold bw;rw [if_pos (.inr ⟨h1,h2⟩)]
    have hoF:∀id o,gL outs obs id=some o->s''.σ id=some o/\bw obs.length ins.length s''.nx id=id/\o.bB (bw obs.length ins.length s''.nx)=o:=by
      intro id o ho
      unfold gL at ho
      split at ho
      · rename_i h5
        have ho':outs[id- 500]?=some (some o):=by
          cases hq:outs[id- 500]? with
          |none=>rw [hq]at ho;cases ho
          |some q=>rw [hq]at ho;simp at ho;rw [ho]
        have hlt':=(List.getElem?_eq_some_iff.1 ho').1
        refine⟨?_,hlt5 id h5 oM,hcu o (List.mem_of_getElem? ho')⟩
        have:=hout (id- 500) o ho'
        rwa [show 500+(id- 500)=id by omega]at this
      · exact⟨hob id o ho,hlt id (List.getElem?_eq_some_iff.1 ho).1,hco o (List.mem_of_getElem? ho)⟩
    have hE2:Ext w2 L' (fun i=>ρ' (bw obs.length ins.length s''.nx i)) w2 (fun b=>L' b\/L b) (fun i=>ρ' (bw obs.length ins.length s''.nx i)):=⟨fun b hb=>⟨.inl hb,rfl⟩,fun _ _ h=>h⟩
    refine⟨fun b=>L' b\/L b,fun i=>ρ' (bw obs.length ins.length s''.nx i),⟨fun b hb=> ?_,fun b hb=> ?_,fun id o ho=> ?_,fun i j x y k hij hi hj=> ?_,g2.NV hE2.l⟩,⟨fun b hb=>⟨.inr hb,tt.block b (hG.ll b hb).1 fun hc=>hWL b hc hb⟩,fun id x hx=> ?_⟩,hr2.ext hE2,fun j hj hj5=> ?_⟩
    · rcases hb with hb |hb
      · have:=g2.ll b hb
        rw [hLB]at this
        exact⟨this.1,this.2⟩
      · exact⟨Nat.lt_of_lt_of_le (hG.ll b hb).1 tt.size,(hG.ll b hb).2⟩
    · exact hG.new b (Nat.le_trans tt.size hb)
    · obtain⟨q1,q2,q3⟩:=hoF id o ho
      have hr0:=g2.ob id o q1
      rw [hW]at hr0
      have hr:Real W w2 L' (fun i=>ρ' (bw obs.length ins.length s''.nx i)) id o:=Real.bB (by rw [q2,q3];exact hr0)
      obtain⟨y,hy,hy2⟩:=hr.lt
      refine hr.keep hE2 fun x k hx hk=> ?_
      rw [hx]at hy;injection hy with hy;subst hy
      refine⟨rfl,?_⟩
      rintro(h1 |h1)
      · exact(hy2 k hk).2.2 h1
      · exact hWL k (hy2 k hk).2.1 h1
    · have key:∀i,gL outs obs i≠none->s''.σ i≠none/\bw obs.length ins.length s''.nx i=i:=fun i hi=>by
        cases ho:gL outs obs i with
        |none=>exact absurd ho hi
        |some o=>obtain⟨q1,q2,_⟩:=hoF i o ho;exact⟨by rw [q1];simp,q2⟩
      simp only [(key i hi).2,(key j hj).2]
      exact g2.sep i j x y k hij (key i hi).1 (key j hj).1
    · show ρ' (bw obs.length ins.length s''.nx id)=some x
      by_cases h5:500<=id/\id< 500+ins.length
      · rw [hlt5 id h5.1 h5.2]
        exact g''.pin id x (by rw [hd];simp only;rw [if_pos h5];exact hx)
      · rw [hρn id oM]at hx;cases hx
    · have e3:bw obs.length ins.length s''.nx j=s''.nx*100000+j:=if_neg oM
      show ρ' (bw obs.length ins.length s''.nx j)=none
      rw [e3]
      exact g''.fr _ (by unfold bR;omega)
theorem aG{T:List TI}{P:Program}(hT:aN T P)(hmx:P.follows .mixedOrders=true){f:FuncId}{fn:Func}{c:Code}{N:Nat}(hk:oI P f fn c N){args:List V}{ins:List Ob}{v:V}{outs:List (Option Ob)}{obs:List Ob}(hargs:args.length<=N)(hn:outs.length=ins.length)(hn4:ins.length<=400)(ho:obs.length<=90)
 (h:∀C:Cx P N,C.F=Fence.wide->AW C c (eX T fn ins.length v outs obs) ⟨fun t=>args.getD t .any,eD ins,1⟩):AM P f args ins v outs obs:=
 uA hT hmx hk hargs hn hn4 ho fun C hF _ _=>h C hF
def aK(nx:Nat)(d:Option Tmp)(ns:List Nat)(id:Nat):Nat:=if 500<=id then ns.getD (id- 500) (nx*100000+1000*id+d.getD 0)else ax nx d id
def gO(g:Nat->Nat):List Nat->List (Option Ob)->List (Nat×Option Ob)
 |k::ks,o::os=>(k,o.map (Ob.bB g))::gO g ks os
 |_,_=>[]
def jm:List Nat->List Ob->List (Nat×Ob)
 |k::ks,o::os=>(k,o)::jm ks os
 |_,_=>[]
theorem lF(σ:Nat->Option Ob):∀l m:List (Nat×Option Ob),bI σ (l++m)=bI (bI σ l) m
 | [],m=>rfl
 | (k,o)::l,m=>by simp only [List.cons_append,bI];exact lF _ l m
theorem Ca(g:Nat->Nat):∀(ns:List Nat) (os:List (Option Ob)) (σ:Nat->Option Ob) (id:Nat) (o:Ob),ns.Nodup->os.length=ns.length->bI σ (gO g ns os) id=some o->(∃(i:Nat) (ob:Ob),ns[i]?=some id/\os[i]?=some (some ob)/\o=ob.bB g)\/(σ id=some o/\id∉ns)
  | [],os,σ,id,o,_,_,h=> .inr ⟨by simpa [gO,bI]using h,by simp⟩
  |n::ns,[],σ,id,o,_,hl,h=>by simp at hl
  |n::ns,x::os,σ,id,o,hn,hl,h=>by
    rw [gO,bI]at h
    have hn':=List.nodup_cons.1 hn
    rcases Ca g ns os _ id o hn'.2 (by simpa using hl) h with⟨i,ob,h1,h2,h3⟩ | ⟨h1,h2⟩
    · exact .inl ⟨i+1,ob,by simpa using h1,by simpa using h2,h3⟩
    · by_cases he:id=n
      · subst he
        rw [an]at h1
        cases x with
        |none=>cases h1
        |some x=>simp at h1;exact .inl ⟨0,x,rfl,rfl,h1.symm⟩
      · rw [ag _ _ he]at h1
        exact .inr ⟨h1,by simp [he,h2]⟩
theorem Cd:∀ {ns:List Nat}{os:List Ob}{i:Nat}{n:Nat}{o:Ob},ns[i]?=some n->os[i]?=some o->(n,o)∈jm ns os
 | [],_,_,_,_,h,_=>by simp at h
 |_::_,[],_,_,_,_,h=>by simp at h
 |a::ns,b::os,0,n,o,h,k=>by simp at h k;subst h k;simp [jm]
 |a::ns,b::os,i+1,n,o,h,k=>by simp at h k;exact List.mem_cons_of_mem _ (Cd h k)
section
variable {P:Program}{W LB:Nat->Prop}{d:Option Tmp}{ty:TypeId}{pos:String}{af:Array Edge}{gd:Option (Nat×Bool)}{ev:Operand->V}
def QJ(P:Program)(o:Oper)(ev:Operand->V)(f:FuncId)(as0:List V):Prop:= ∀(w:World) (L:Nat->Prop) (ρ:Nat->Option Value) (g:Operand->Value),(∀x∈o.op.operands,R w L ρ (ev x) (g x))->∃vs:Array Value,((∀(args:Array Value) (w:World),(callFunc f args).run P w= .ok (.enter f args) w)->(execOp g o).run P w= .ok (.enter f vs) w)/\RV w L ρ as0 vs.toList
theorem uB{o:Oper}{f:FuncId}{as0 args:List V}{ins ins':List Ob}{v:V}{outs:List (Option Ob)}{obs:List Ob}(hc:AM P f args ins v outs obs)(hwl:∀b,W b->LB b)(ns:List Nat)(hp:jY o.op=true)(hex:QJ P o ev f as0)(nx:Nat)
    (hargs:as0=V.aV (aK nx d ns) args) (hin:V.cQ ins.length args=true) (hd:d.all (fun t=>decide (t< 1000))=true) (hobs:obs.length<=90)
    (hns:ns.Nodup) (hnl:ns.length=ins.length) (hol:outs.length=ins.length) (hil:ins'.length=ins.length) (hins:∀(i:Nat) (o o':Ob),ins[i]?=some o->ins'[i]?=some o'->fy o' (o.bB (aK nx d ns))/\o.ki ins.length) :
    bg P W LB o ev (v.bB (aK nx d ns)) (jm ns ins') ((List.range obs.length).map (ax nx d)) (gO (aK nx d ns) ns outs++cn (aK nx d ns) 0 obs):=by
  intro σ w L ρ g hG hr hpre hnew
  obtain⟨vs,hrun0,hz⟩:=hex w L ρ g hr
  obtain⟨G0,hG0⟩:∃G0,G0=aK nx d ns:=⟨_,rfl⟩
  rw [<-hG0]at hargs hins ⊢
  obtain⟨n,hn⟩:∃n,n=ins.length:=⟨_,rfl⟩
  rw [<-hn]at hin hnl hol hil hins
  have gpin:∀i,i< n->∃m,ns[i]?=some m/\G0 (500+i)=m:=by
    intro i hi
    have h2:ns[i]?=some ns[i]:=List.getElem?_eq_getElem oM
    refine⟨_,h2,?_⟩
    rw [hG0];unfold aK
    rw [if_pos oM,Nat.add_sub_cancel_left,List.getD_eq_getElem?_getD,h2];rfl
  have gnew:∀j,j< 500->G0 j=ax nx d j:=fun j hj=>by rw [hG0];unfold aK;rw [if_neg oM]
  -- the objects that are handed
  have hobj:∀i,i< n->∃m o o' x,ns[i]?=some m/\G0 (500+i)=m/\ins[i]?=some o/\σ m=some o'/\fy o' (o.bB G0)/\o.ki n/\Real W w L ρ m o'/\ρ m=some x/\∀k,blk x=some k->k< w.heap.size/\W k/\¬L k:=by
    intro i hi
    obtain⟨m,hm,hgm⟩:=gpin i hi
    have h2:ins[i]?=some ins[i]:=List.getElem?_eq_getElem oM
    have h3:ins'[i]?=some ins'[i]:=List.getElem?_eq_getElem oM
    have h4:=hpre _ (Cd hm h3)
    obtain⟨h5,h6⟩:=hins i _ _ h2 h3
    have h7:=hG.ob m _ h4
    obtain⟨x,hx,hx2⟩:=h7.lt
    exact⟨m,_,_,x,hm,hgm,h2,h4,h5,h6,h7,hx,hx2⟩
  obtain⟨ρ1,hρ1⟩:∃ρ1:Nat->Option Value,∀id,ρ1 id=if 500<=id/\id< 500+n then ρ (G0 id)else none:=⟨_,fun _=>rfl⟩
  have hρ1p:∀i,i< n->ρ1 (500+i)=ρ (G0 (500+i)):=fun i hi=>by rw [hρ1,if_pos oM]
  have hinto:∀id v,500<=id->id< 500+n->(fun i=>ρ (G0 i)) id=some v->ρ1 id=some v:=fun id v h5 h6 h7=>by rw [hρ1,if_pos ⟨h5,h6⟩];exact h7
  have hrv:RV w L ρ1 args vs.toList:=by
    rw [hargs]at hz
    exact(zw G0 hz).uc hin hinto
  obtain⟨W1,hW1⟩:∃W1:Nat->Prop,∀b,W1 b<->(∃i x,i< n/\ρ1 (500+i)=some x/\blk x=some b)\/w.heap.size<=b:=⟨_,fun _=>Iff.rfl⟩
  have hW1old:∀b,W1 b->b< w.heap.size->W b/\¬L b/\∃i m x,i< n/\ns[i]?=some m/\σ m≠none/\ρ m=some x/\blk x=some b:=by
    intro b hb hlt
    rcases(hW1 b).1 hb with⟨i,x,hi,hx,hbx⟩ |h
    · obtain⟨m,o,o',x',q1,q2,q3,q4,q5,q6,q7,q8,q9⟩:=hobj i hi
      rw [hρ1p i hi,q2,q8]at hx
      injection hx with hx;subst hx
      exact⟨(q9 b hbx).2.1,(q9 b hbx).2.2,i,m,_,hi,q1,by rw [q4];simp,q8,hbx⟩
    · omega
  have hW1W:∀b,W1 b->W b:=fun b hb=>by
    by_cases hlt:b< w.heap.size
    · exact(hW1old b hb hlt).1
    · exact(hG.new b oM).1
  have hW1L:∀b,W1 b->¬L b:=fun b hb hL=>by
    have hlt:=(hG.ll b hL).1
    exact(hW1old b hb hlt).2.1 hL
  -- the callee's own view
  have hinsF:∀id o,eD ins id=some o->∃i,i< n/\id=500+i/\ins[i]?=some o:=by
    intro id o ho
    unfold eD at ho
    split at ho
    · exact⟨id- 500,by rw [hn];exact(List.getElem?_eq_some_iff.1 ho).1,by omega,ho⟩
    · cases ho
  have hG1:G W1 (fun b=>L b\/W1 b) (eD ins) w L ρ1:=by
    refine⟨fun b hb=>⟨(hG.ll b hb).1,.inl hb⟩,fun b hb=> ?_,fun id o ho=> ?_,fun i j x y k hij hi hj hx hy hk=> ?_,hG.gl⟩
    · have:W1 b:=(hW1 b).2 (.inr hb)
      exact⟨this,.inr this⟩
    · obtain⟨i,hi,rfl,hio⟩:=hinsF id o ho
      obtain⟨m,o2,o',x,q1,q2,q3,q4,q5,q6,q7,q8,q9⟩:=hobj i hi
      rw [hio]at q3;injection q3 with q3;subst q3
      have hre:Real W w L (fun i=>ρ (G0 i)) (500+i) o:=Real.bB (by rw [q2];exact q7.eq q5)
      have hbW:∀k,blk x=some k->W1 k/\¬L k:=fun k hk=>⟨(hW1 k).2 (.inl ⟨i,x,hi,by rw [hρ1p i hi,q2];exact q8,hk⟩),(q9 k hk).2.2⟩
      have hxe:(fun i=>ρ (G0 i)) (500+i)=some x:=by show ρ (G0 (500+i))=some x;rw [q2];exact q8
      cases o with
      |box t cs=>
        obtain⟨b,ys',r1,r2,r3,r4,r5⟩:=hre
        have e0:=r1
        rw [hxe]at e0;injection e0 with e0
        have:=hbW b (by rw [e0];rfl)
        exact⟨b,ys',hinto _ _ oM oM r1,this.1,r3,r4,r5.uc q6 hinto⟩
      |row e sz nn row=>
        obtain⟨y,ys',r1,r2,r3,r4,r5⟩:=hre
        have e0:=r1
        rw [hxe]at e0;injection e0 with e0;subst e0
        exact⟨_,ys',hinto _ _ oM oM r1,r2,r3,r4.uc (Ai _ q6) hinto,fun k hk=>hbW k hk⟩
      |mp str f=>
        obtain⟨b,es,cl,r1,r2,r3,r4,r5⟩:=hre
        have e0:=r1
        rw [hxe]at e0;injection e0 with e0
        have:=hbW b (by rw [e0];rfl)
        exact⟨b,es,cl,hinto _ _ oM oM r1,this.1,r3,r4,r5.imp fun i u x hu hr=>hr.uc (q6 i u hu) _ hinto⟩
    · cases hoi:eD ins i with
      |none=>exact absurd hoi hi
      |some oi=>
        cases hoj:eD ins j with
        |none=>exact absurd hoj hj
        |some oj=>
          obtain⟨a,ha,rfl,_⟩:=hinsF i oi hoi
          obtain⟨b,hb,rfl,_⟩:=hinsF j oj hoj
          obtain⟨m,o2,o',x',q1,q2,q3,q4,q5,q6,q7,q8,q9⟩:=hobj a ha
          obtain⟨m',o2',o'',x'',p1,p2,p3,p4,p5,p6,p7,p8,p9⟩:=hobj b hb
          rw [hρ1p a ha,q2]at hx
          rw [hρ1p b hb,p2]at hy
          refine hG.sep m m' x y k (fun e=>hij ?_) (by rw [q4];simp) (by rw [p4];simp) hx hy hk
          subst e
          have l1:=List.getElem?_eq_some_iff.1 q1
          have l2:=List.getElem?_eq_some_iff.1 p1
          obtain⟨l1a,l1b⟩:=l1
          obtain⟨l2a,l2b⟩:=l2
          have pw:=List.pairwise_iff_getElem.1 hns
          have:a=b:=by
            rcases Nat.lt_trichotomy a b with h |h |h
            · exact absurd (l1b.trans l2b.symm) (pw a b l1a l2a h)
            · exact h
            · exact absurd (l2b.trans l1b.symm) (pw b a l2a l1a h)
          rw [this]
  have hrun:=hrun0 hc.1
  refine bq.enter hp hrun ((hc.2 W1 (fun b=>L b\/W1 b) L w ρ1 _ (fun b h=> .inr h) hW1L hG1 (fun id hid=>by rw [hρ1,if_neg (by rw [<-hn]at hid;omega)]) hrv).mono ?_)
  rintro e w' ⟨x,rfl,tt,L',ρ',hG',hE',hv,hnn⟩
  obtain⟨D,hD,hd'⟩:∃D:Nat,d.getD 0=D/\D< 1000:=⟨_,rfl,by cases d with |none=>decide |some t=>simpa using hd⟩
  have ginj:∀i j,ax nx d i=ax nx d j->i=j:=fun i j h=>by unfold ax at h;rw [hD]at h;omega
  have hpinE:∀i,i< n->ρ' (500+i)=ρ (G0 (500+i)):=by
    intro i hi
    obtain⟨m,o,o',x',q1,q2,q3,q4,q5,q6,q7,q8,q9⟩:=hobj i hi
    rw [q2,q8]
    exact hE'.r _ _ (by rw [hρ1p i hi,q2];exact q8)
  obtain⟨ρ2,hρ2⟩:∃ρ2:Nat->Option Value,ρ2=fun id=>if id∈(List.range obs.length).map (ax nx d)then ρ' ((id- nx*100000) / 1000)else ρ id:=⟨_,rfl⟩
  have hgi:∀j,j< obs.length->ρ2 (ax nx d j)=ρ' j:=by
    intro j hj
    have:(ax nx d j- nx*100000) / 1000=j:=by unfold ax;rw [hD];omega
    rw [hρ2]
    simp only
    rw [if_pos (List.mem_map.2 ⟨j,by simpa using hj,rfl⟩),this]
  have hout:∀id,id∉(List.range obs.length).map (ax nx d)->ρ2 id=ρ id:=by
    intro id hid;rw [hρ2];simp only;rw [if_neg hid]
  have hkeep:∀id y,ρ id=some y->ρ2 id=some y:=fun id y hy=>by
    rw [hout id (fun hc=>by rw [hnew id hc]at hy;cases hy)];exact hy
  have hon:∀j y,ρ' j=some y->ρ2 (G0 j)=some y:=by
    intro j y hy
    by_cases hj:j< obs.length
    · rw [gnew j oM,hgi j hj];exact hy
    · by_cases h5:500<=j/\j< 500+n
      · have e5:j=500+(j- 500):=by omega
        rw [e5,hpinE (j- 500) oM]at hy
        rw [e5]
        exact hkeep _ _ hy
      · rw [hnn j oM (by rw [<-hn];omega)]at hy;cases hy
  have ex:Ext w L ρ w' L' ρ2:=⟨hE'.l,hkeep⟩
  have hLL:∀b,L' b->L b\/W1 b:=fun b hb=>(hG'.ll b hb).2
  have hofD:∀D',w.heap[D']?=some (.deferred (some []))->¬W1 D':=fun D' hD' hc=>by
    have hlt:=(Array.getElem?_eq_some_iff.1 hD').1
    obtain⟨_,_,i,m,y,_,_,hs,hy,hbk⟩:=hW1old D' hc hlt
    cases hso:σ m with
    |none=>exact hs hso
    |some o=>exact(hG.ob m o hso).eH hy hbk hD'
  have names:∀(id:Nat) (o:Ob),bI σ (gO G0 ns outs++cn G0 0 obs) id=some o->(∃j ob,gL outs obs j=some ob/\id=G0 j/\o=ob.bB G0)\/(σ id=some o/\id∉ns/\id∉(List.range obs.length).map (ax nx d)):=by
    intro id o ho
    rw [lF]at ho
    have key:∀(obs':List Ob) (j0:Nat) (σ:Nat->Option Ob),bI σ (cn G0 j0 obs') id=some o->(∃j ob,obs'[j]?=some ob/\id=G0 (j0+j)/\o=ob.bB G0)\/(σ id=some o/\∀j,j< obs'.length->id≠G0 (j0+j)):=by
      intro obs'
      induction obs' with
      |nil=>intro j0 σ ho;exact .inr ⟨ho,fun j hj=>by simp at hj⟩
      |cons ob obs' ih=>
        intro j0 σ ho
        rw [cn,bI]at ho
        rcases ih (j0+1) _ ho with⟨j,ob',h1,h2,h3⟩ | ⟨h1,h2⟩
        · exact .inl ⟨j+1,ob',by simpa using h1,by rw [h2];congr 1;omega,h3⟩
        · by_cases he:id=G0 j0
          · subst he
            rw [an]at h1;injection h1 with h1
            exact .inl ⟨0,ob,rfl,rfl,h1.symm⟩
          · rw [ag _ _ he]at h1
            refine .inr ⟨h1,fun j hj=> ?_⟩
            cases j with
            |zero=>exact he
            |succ j=>have:=h2 j (by simpa using hj);rwa [show j0+(j+1)=j0+1+j by omega]
    rcases key obs 0 _ ho with⟨j,ob,h1,h2,h3⟩ | ⟨h1,h2⟩
    · have hj:=(List.getElem?_eq_some_iff.1 h1).1
      refine .inl ⟨j,ob,?_,by rw [h2,Nat.zero_add],h3⟩
      unfold gL;rw [if_neg oM];exact h1
    · rcases Ca G0 ns outs σ id o hns oM h1 with⟨i,ob,p1,p2,p3⟩ | ⟨p1,p2⟩
      · have hi:i< n:=by have:=(List.getElem?_eq_some_iff.1 p1).1;omega
        obtain⟨m,hm,hgm⟩:=gpin i hi
        rw [p1]at hm;injection hm with hm
        refine .inl ⟨500+i,ob,?_,by rw [hgm,hm],p3⟩
        unfold gL;rw [if_pos oM,Nat.add_sub_cancel_left,p2];rfl
      · refine .inr ⟨p1,p2,fun hc=> ?_⟩
        obtain⟨j,hj,rfl⟩:=List.mem_map.1 hc
        have hj':j< obs.length:=by simpa using hj
        exact h2 j hj' (by rw [Nat.zero_add,gnew j oM])
  -- what was not handed stands
  have oldb:∀i y k,σ i≠none->i∉ns->ρ i=some y->blk y=some k->k< w.heap.size/\¬W1 k:=by
    intro i y k hs hni hy hk
    cases ho:σ i with
    |none=>exact absurd ho hs
    |some o=>
      obtain⟨y',hy',hlt⟩:=(hG.ob i o ho).lt
      rw [hy]at hy';injection hy' with hy';subst hy'
      refine⟨(hlt k hk).1,fun hc=> ?_⟩
      obtain⟨_,_,a,m,z,_,hm,hsm,hz,hbz⟩:=hW1old k hc (hlt k hk).1
      exact hG.sep i m y z k (fun e=>hni (by rw [e];exact List.mem_of_getElem? hm)) hs hsm hy hz hk hbz
  refine⟨x,rfl,L',ρ2,⟨fun b hbl=> ?_,fun b hbs=>hG.new b (Nat.le_trans tt.size hbs),fun id o ho=> ?_,?_,hG.qO ex⟩,nj _ hon hv,tt.mono fun k _ hk=>hW1W k hk,ex,fun id hid=>hout id hid,fun D' hD'=>⟨(tt.block D' (Array.getElem?_eq_some_iff.1 hD').1 (hofD D' hD')).trans hD',fun hl=>(hLL D' hl).resolve_right (hofD D' hD')⟩⟩
  · refine⟨(hG'.ll b hbl).1,?_⟩
    rcases hLL b hbl with h |h
    · exact(hG.ll b h).2
    · exact hwl b (hW1W b h)
  · rcases names id o ho with⟨j,ob,h1,h2,h3⟩ | ⟨h1,h2,h2'⟩
    · subst h2 h3
      exact(hG'.ob j ob h1).LF _ hon hW1W
    · have hk:=hG.ob id o h1
      refine hk.keep ex fun y k hy hk2=> ?_
      obtain⟨y',hy',hlt⟩:=hk.lt
      rw [hy]at hy';injection hy' with hy';subst hy'
      obtain⟨l1,l2,l3⟩:=hlt k hk2
      have hnw:=(oldb id y k (by rw [h1];simp) h2 hy hk2).2
      exact⟨tt.block k l1 hnw,fun hc=>(hLL k hc).elim l3 hnw⟩
  · intro i j y z k hij hi hj hyi hzj hk hkz
    have cases':∀i,bI σ (gO G0 ns outs++cn G0 0 obs) i≠none->(∃q ob,gL outs obs q=some ob/\i=G0 q)\/(σ i≠none/\i∉ns/\i∉(List.range obs.length).map (ax nx d)):=by
      intro i hi
      cases ho:bI σ (gO G0 ns outs++cn G0 0 obs) i with
      |none=>exact absurd ho hi
      |some o=>
        rcases names i o ho with⟨q,ob,h1,h2,h3⟩ | ⟨h1,h2,h3⟩
        · exact .inl ⟨q,ob,h1,h2⟩
        · exact .inr ⟨by rw [h1];simp,h2,h3⟩
    have newb:∀q ob y k,gL outs obs q=some ob->ρ2 (G0 q)=some y->blk y=some k->ρ' q=some y/\W1 k:=by
      intro q ob y k ho hy hk
      obtain⟨y',hy',hlt⟩:=(hG'.ob q ob ho).lt
      have:=hon q y' hy'
      rw [hy]at this;injection this with this;subst this
      exact⟨hy',(hlt k hk).2.1⟩
    rcases cases' i hi with⟨q,ob,h1,rfl⟩ | ⟨h1,h2,h3⟩
    · rcases cases' j hj with⟨q',ob',h1',rfl⟩ | ⟨h1',h2',h3'⟩
      · have a1:=newb q ob y k h1 hyi hk
        have a2:=newb q' ob' z k h1' hzj hkz
        exact hG'.sep q q' y z k (fun e=>hij (by rw [e])) (by rw [h1];simp) (by rw [h1'];simp) a1.1 a2.1 hk hkz
      · have a1:=newb q ob y k h1 hyi hk
        rw [hout j h3']at hzj
        exact(oldb j z k h1' h2' hzj hkz).2 a1.2
    · rcases cases' j hj with⟨q',ob',h1',rfl⟩ | ⟨h1',h2',h3'⟩
      · have a1:=newb q' ob' z k h1' hzj hkz
        rw [hout i h3]at hyi
        exact(oldb i y k h1 h2 hyi hk).2 a1.2
      · rw [hout i h3]at hyi
        rw [hout j h3']at hzj
        exact hG.sep i j y z k hij h1 h1' hyi hzj hk hkz
theorem nu{fo:Operand}{ar:Array Operand}{ats:Array TypeId}{f:FuncId}{first caps args:List V}{ins ins':List Ob}{v:V}{outs:List (Option Ob)}{obs:List Ob}(hc:AM P f args ins v outs obs)(hwl:∀b,W b->LB b)(ns:List Nat)(hf:ev fo= .fn (.func f) first caps)(nx:Nat) (hargs:first++ar.toList.map ev++caps=V.aV (aK nx d ns) args) (hin:V.cQ ins.length args=true) (hd:d.all (fun t=>decide (t< 1000))=true) (hobs:obs.length<=90) (hns:ns.Nodup) (hnl:ns.length=ins.length) (hol:outs.length=ins.length) (hil:ins'.length=ins.length) (hins:∀(i:Nat) (o o':Ob),ins[i]?=some o->ins'[i]?=some o'->fy o' (o.bB (aK nx d ns))/\o.ki ins.length) : bg P W LB ⟨d,.call {callee:= .value fo,args:=ar,argTypes:=ats},ty,pos,af,gd⟩ ev (v.bB (aK nx d ns)) (jm ns ins') ((List.range obs.length).map (ax nx d)) (gO (aK nx d ns) ns outs++cn (aK nx d ns) 0 obs):=by
 refine uB hc hwl ns rfl (as0:=first++ar.toList.map ev++caps) (fun w L ρ g hr=> ?_) nx hargs hin hd hobs hns hnl hol hil hins;have h1:=hr fo (by simp [Op.operands,Call.operands]);rw [hf]at h1;obtain⟨xs,ys,e1,hx,hy⟩:=h1.jP;have hz:RV w L ρ (ar.toList.map ev) (ar.map g).toList:=by refine⟨by simp,fun i u x hu hx=> ?_⟩;simp only [List.getElem?_map,Option.map_eq_some_iff,Array.toList_map]at hu hx;obtain⟨p,hp,rfl⟩:=hu;obtain⟨q,hq,rfl⟩:=hx;rw [hp]at hq;injection hq with hq;subst hq;exact hr p (by simp only [Op.operands,Call.operands];have:=List.mem_of_getElem? hp;simp at this ⊢;exact .inr this)
 refine⟨xs++ar.map g++ys,fun hcf=> ?_,?_⟩;·simp [execOp,resolve,Deferred.ofValue,invoke,e1,hcf]
 ·have:=(hx.append hz).append hy;simpa using this
end
end Go.Ab

namespace Go.Ab
open Go.RowKit Go.Dw
inductive fC(g:Nat->Nat)(n:Nat):List Ob->List Ob->Prop
  |nil:fC g n [] []
  |box {t:TypeId}{cs cs':List V}{l l':List Ob}(h:cs'=V.aV g cs) (hi:V.cQ n cs=true) (k:fC g n l l'):fC g n (.box t cs::l) (.box t cs'::l')
  |row {e sz m m':Nat}{f f':Nat->List V}{l l':List Ob}(hm:m'=m) (h:∀i,i< m'->f' i=V.aV g (f i)) (hi:∀i,i< m->V.cQ n (f i)=true) (k:fC g n l l'):fC g n (.row e sz m f::l) (.row e sz m' f'::l')
  |mp {s:Bool×Nat}{f f':MF}{l l':List Ob}(h:∀k,f'.look k=(f.map (V.bB g)).look k) (hi:∀k u,f.look k=some u->V.ki n u=true) (k:fC g n l l'):fC g n (.mp s f::l) (.mp s f'::l')
theorem fC.get{g:Nat->Nat}{n:Nat}{l l':List Ob}(h:fC g n l l'):l'.length=l.length/\∀(i:Nat) (o o':Ob),l[i]?=some o->l'[i]?=some o'->fy o' (o.bB g)/\o.ki n:=by
 induction h with
 |nil=>exact⟨rfl,fun i o o' h=>by simp at h⟩
 |box h hi k ih=>
  refine⟨by simp [ih.1],fun i o o' h1 h2=> ?_⟩;cases i with
  |zero=>simp at h1 h2;subst h1 h2;exact⟨⟨rfl,h⟩,hi⟩
  |succ i=>exact ih.2 i o o' (by simpa using h1) (by simpa using h2)
 |row hm h hi k ih=>
  refine⟨by simp [ih.1],fun i o o' h1 h2=> ?_⟩;cases i with
  |zero=>simp at h1 h2;subst h1 h2;exact⟨⟨rfl,rfl,hm,h⟩,hi⟩
  |succ i=>exact ih.2 i o o' (by simpa using h1) (by simpa using h2)
 |mp h hi k ih=>
  refine⟨by simp [ih.1],fun i o o' h1 h2=> ?_⟩;cases i with
  |zero=>simp at h1 h2;subst h1 h2;exact⟨⟨rfl,h⟩,hi⟩
  |succ i=>exact ih.2 i o o' (by simpa using h1) (by simpa using h2)
def sP(σ:Nat->Option Ob):List Nat->List (Option Ob)
 | []=>[]
 |n::ns=>σ n::sP σ ns
theorem pg{σ:Nat->Option Ob}:∀ {ns:List Nat}{l:List Ob},sP σ ns=l.map some->∀p∈jm ns l,σ p.1=some p.2
 | [],l,_,p,hp=>by simp [jm]at hp
 |n::ns,[],h,p,hp=>by simp [sP]at h
 |n::ns,o::l,h,p,hp=>by
  simp only [sP,List.map_cons,List.cons.injEq]at h;rcases List.mem_cons.1 hp with rfl |hp;·exact h.1
  ·exact pg h.2 p hp
section
variable {P:Program}{N:Nat}{C:Cx P N}{T:List TI}{ops:Array Oper}{nx:Nat}{o:Oper}{os:List Oper}{tm:Nat->V}{σ:Nat->Option Ob}{ks:List (List Nat×List Nat)}{K:(Nat->V)->(Nat->Option Ob)->List (List Nat×List Nat)->Prop}{ty:TypeId}{pos:String}{af:Array Edge}
theorem dY{d:Nat}{fo:Operand}{ar:Array Operand}{ats:Array TypeId}{f:FuncId}{first caps args:List V}{ins ins':List Ob}{v v':V}{outs:List (Option Ob)}{obs:List Ob}{δ:List (Nat×Option Ob)}{kp:List Nat}(ns:List Nat)(hc:AM P f args ins v outs obs)(hf:ev tm fo= .fn (.func f) first caps) (hargs:first++ar.toList.map (ev tm)++caps=V.aV (aK nx (some d) ns) args) (hin:V.cQ ins.length args=true) (hd:decide (d< 1000)=true) (hobs:decide (obs.length<=90)=true) (hns:decide ns.Nodup=true) (hnl:ns.length=ins.length) (hol:outs.length=ins.length) (hσ:sP σ ns=ins'.map some) (hins:fC (aK nx (some d) ns) ins.length ins ins') (hv:v.bB (aK nx (some d) ns)=v') (hδ:gO (aK nx (some d) ns) ns outs++cn (aK nx (some d) ns) 0 obs=δ) (hkp:eF (jm ns ins')=kp) (hk:bC C ops nx os (bO tm d v') (bI σ δ) (ks++[(bk δ,kp++bk δ)]) K):bC C ops nx (⟨some d,.call {callee:= .value fo,args:=ar,argTypes:=ats},ty,pos,af,none⟩::os) tm σ ks K:=by
 subst hv hδ hkp;have hd':d< 1000:=of_decide_eq_true hd;refine eN rfl (nu (d:=some d) hc C.wl ns hf nx hargs hin (by simpa using hd') (of_decide_eq_true hobs) (of_decide_eq_true hns) hnl hol hins.get.1 hins.get.2) (pg hσ) ?_ hk;intro id hid;have hob:obs.length<=90:=of_decide_eq_true hobs;obtain⟨j,hj,rfl⟩:=List.mem_map.1 hid;have hj':j< obs.length:=by simpa using hj
 refine⟨d,rfl,?_,?_,?_⟩ <;> simp only [ax,Option.getD_some] <;> omega
theorem pU:∀(l:List (Nat×Option Ob)) (σ:Nat->Option Ob),(∀p∈l,σ p.1=p.2)->bI σ l=σ
 | [],σ,_=>rfl
 | (k,o)::l,σ,h=>by
  have e:bO σ k o=σ:=by
   funext i;by_cases hi:i=k;·subst hi;rw [an];exact(h (i,o) (by simp)).symm
   ·rw [ag _ _ hi]
  rw [bI,e];exact pU l σ fun p hp=>h p (by simp [hp])
theorem yI{g:Nat->Nat}{σ:Nat->Option Ob}:∀ {ns:List Nat}{ins ins':List Ob},ins.map (Ob.bB g)=ins'->(∀p∈jm ns ins',σ p.1=some p.2)->∀p∈gO g ns (ins.map some),σ p.1=p.2
 | [],ins,_,_,_,p,hp=>by simp [gO]at hp
 |n::ns,[],_,_,_,p,hp=>by simp [gO]at hp
 |n::ns,o::ins,[],h,_,p,hp=>by simp at h
 |n::ns,o::ins,o'::ins',h,k,p,hp=>by
  simp only [List.map_cons,List.cons.injEq]at h;simp only [List.map_cons,gO,List.mem_cons]at hp;rcases hp with rfl |hp;·have:=k (n,o') (by simp [jm]);simpa [h.1]using this
  ·exact yI h.2 (fun q hq=>k q (by simp [jm,hq])) p hp
theorem fC.of_map{g:Nat->Nat}{n:Nat}:∀ {ins ins':List Ob},ins.map (Ob.bB g)=ins'->(∀o∈ins,o.ki n)->fC g n ins ins'
 | [],_,rfl,_=> .nil
 | .box t cs::l,_,rfl,h=> .box rfl (show V.cQ n cs=true from h (.box t cs) (by simp)) (fC.of_map rfl fun o ho=>h o (by simp [ho]))
 | .row e sz m f::l,_,rfl,h=> .row rfl (fun _ _=>rfl) (show ∀i,i< m->V.cQ n (f i)=true from h (.row e sz m f) (by simp)) (fC.of_map rfl fun o ho=>h o (by simp [ho]))
 | .mp s f::l,_,rfl,h=> .mp (fun _=>rfl) (show ∀k u,f.look k=some u->V.ki n u=true from h (.mp s f) (by simp)) (fC.of_map rfl fun o ho=>h o (by simp [ho]))
def xg(n:Nat):List Ob->Prop
 | []=>True
 | .box _ cs::l=>V.cQ n cs=true/\xg n l
 | .row _ _ m f::l=>(∀i,i< m->V.cQ n (f i)=true)/\xg n l
 | .mp _ f::l=>(∀k u,f.look k=some u->V.ki n u=true)/\xg n l
theorem lM{n:Nat}:∀ {l:List Ob},xg n l->∀o∈l,o.ki n
 | .box _ _::l,h,o,ho=>by
  rcases List.mem_cons.1 ho with rfl |ho;·exact h.1
  ·exact lM h.2 o ho
 | .row _ _ _ _::l,h,o,ho=>by
  rcases List.mem_cons.1 ho with rfl |ho;·exact h.1
  ·exact lM h.2 o ho
 | .mp _ _::l,h,o,ho=>by
  rcases List.mem_cons.1 ho with rfl |ho;·exact h.1
  ·exact lM h.2 o ho
theorem bl{d:Nat}{fo:Operand}{ar:Array Operand}{ats:Array TypeId}{f:FuncId}{first caps args:List V}{ins ins':List Ob}{v v':V}{outs:List (Option Ob)}{obs:List Ob}{δ:List (Nat×Option Ob)}{kp:List Nat}(ns:List Nat)(hc:AM P f args ins v outs obs)(hou:outs=ins.map some)(hf:ev tm fo= .fn (.func f) first caps) (hargs:first++ar.toList.map (ev tm)++caps=V.aV (aK nx (some d) ns) args) (hin:V.cQ ins.length args=true) (hd:decide (d< 1000)=true) (hobs:decide (obs.length<=90)=true) (hns:decide ns.Nodup=true) (hnl:ns.length=ins.length) (hσ:sP σ ns=ins'.map some) (hins:ins.map (Ob.bB (aK nx (some d) ns))=ins') (hi2:xg ins.length ins) (hv:v.bB (aK nx (some d) ns)=v') (hδ:cn (aK nx (some d) ns) 0 obs=δ) (hkp:eF (jm ns ins')=kp) (hk:bC C ops nx os (bO tm d v') (bI σ δ) (ks++[(bk δ,kp++bk δ)]) K):bC C ops nx (⟨some d,.call {callee:= .value fo,args:=ar,argTypes:=ats},ty,pos,af,none⟩::os) tm σ ks K:=by
 subst hv hδ hkp hou;have hd':d< 1000:=of_decide_eq_true hd;have hI:=fC.of_map (n:=ins.length) hins (lM hi2);have st:=nu (W:=C.W) (LB:=C.LB) (ty:=ty) (pos:=pos) (af:=af) (gd:=none) (ats:=ats) (d:=some d) hc C.wl ns hf nx hargs hin (by simpa using hd') (of_decide_eq_true hobs) (of_decide_eq_true hns) hnl (by simp) hI.get.1 hI.get.2;refine eN rfl (pre:=jm ns ins') (nw:=(List.range obs.length).map (ax nx (some d))) (δ:=cn (aK nx (some d) ns) 0 obs) ?_ (pg hσ) ?_ hk;·intro σ' w L ρ q hG hr hp hn;have:=st σ' w L ρ q hG hr hp hn;rwa [lF,pU _ σ' (yI hins hp)]at this
 ·intro id hid;have hob:obs.length<=90:=of_decide_eq_true hobs;obtain⟨j,hj,rfl⟩:=List.mem_map.1 hid;have hj':j< obs.length:=by simpa using hj
  refine⟨d,rfl,?_,?_,?_⟩ <;> simp only [ax,Option.getD_some] <;> omega
end
section
variable {P:Program}{N:Nat}{C:Cx P N}{T:List TI}{M:List Nat}{ops:Array Oper}{nx:Nat}{o:Oper}{os:List Oper}{tm:Nat->V}{σ:Nat->Option Ob}{ks:List (List Nat×List Nat)}{K:(Nat->V)->(Nat->Option Ob)->List (List Nat×List Nat)->Prop}
end
def kn:Nat->List (Option Ob)->List (Nat×Ob)
 |_,[]=>[]
 |k,none::os=>kn (k+1) os
 |k,some o::os=>(k,o)::kn (k+1) os
theorem gj:∀(os:List (Option Ob)) (k:Nat) (l:List (Nat×Ob)) (i:Nat),(i< k\/k+os.length<=i->cO (kn k os++l) i=cO l i)/\∀(j:Nat) (ob:Ob),os[j]?=some (some ob)->cO (kn k os++l) (k+j)=some ob
 | [],k,l,i=>⟨fun _=>rfl,fun j ob h=>by simp at h⟩
 |none::os,k,l,i=>by
  refine⟨fun h=>(gj os (k+1) l i).1 (by simp at h;omega),fun j ob h=> ?_⟩;cases j with
  |zero=>simp at h
  |succ j=>have:=(gj os (k+1) l i).2 j ob (by simpa using h);rwa [show k+(j+1)=k+1+j by omega]
 |some o::os,k,l,i=>by
  have e:∀i,i≠k->cO (kn k (some o::os)++l) i=cO (kn (k+1) os++l) i:=fun i hi=>by show bO (cO (kn (k+1) os++l)) k (some o) i=_;rw [ag _ _ hi]
  refine⟨fun h=> ?_,fun j ob h=> ?_⟩;·rw [e i (by simp at h;omega)];exact(gj os (k+1) l i).1 (by simp at h;omega)
  ·cases j with
   |zero=>simp at h;subst h;show bO (cO (kn (k+1) os++l)) k (some o) k=_;exact an _ _ _
   |succ j=>rw [e _ oM,show k+(j+1)=k+1+j by omega];exact(gj os (k+1) l i).2 j ob (by simpa using h)
def Ly(g:Nat->Nat):List (Option Ob)->List (Option Ob):=List.map fun o=>o.map (Ob.bB g)
theorem cC{T:List TI}{fn:Func}{n:Nat}{v v':V}{outs:List (Option Ob)}{obs:List Ob}{e:Exit}{tm:Nat->V}{σ:Nat->Option Ob}{nx:Nat}(gl:List (Nat×Nat))(tl:List (Nat×V))(he:e= .normal\/e= .ret) (htm:lK (fun p=>tm p.1=p.2.bB (aH gl nx)) tl) (hσ:lK (fun p=>∃ob,σ (aH gl nx p.1)=some ob/\fy ob (p.2.bB (aH gl nx))) (kn 0 (obs.map some)++kn 500 outs)) (hinj:decide (((kn 0 (obs.map some)++kn 500 outs).map fun p=>aH gl nx p.1).Nodup)=true) (hid:gl.all (fun p=>decide (p.1< 500))=true) (hob:decide (obs.length<=90)=true) (hres:qX T ⟨gJ tl,cO (kn 0 (obs.map some)++kn 500 outs),1⟩ fn.results.toList=some v') (hv:v'=v) (hcv:v'.bB (bw obs.length n 1)=v') (hco:Ly (bw obs.length n 1) (obs.map some++outs)=obs.map some++outs):eX T fn n v outs obs e ⟨tm,σ,nx⟩:=by
 subst hv;have hob:=of_decide_eq_true hob;have hren:∀o:Ob,some o∈obs.map some++outs->o.bB (bw obs.length n 1)=o:=by
  intro o ho;obtain⟨i,hi⟩:=List.getElem?_of_mem ho;have h1:(Ly (bw obs.length n 1) (obs.map some++outs))[i]?=some (some (o.bB (bw obs.length n 1))):=by unfold Ly;rw [List.getElem?_map,hi];rfl
  rw [hco,hi]at h1;injection h1 with h1;injection h1 with h1;exact h1.symm
 refine⟨he,_,aF gl (tl:=tl) (sl:=kn 0 (obs.map some)++kn 500 outs) htm hσ hinj hid,hres,fun i ob hi=> ?_,fun i ob hi=> ?_,hcv,fun ob hm=>hren ob (by simp [hm]),fun ob hm=>hren ob (by simp [hm])⟩;·have:=(gj (obs.map some) 0 (kn 500 outs) 0).2 i ob (by simp [hi]);simpa using this
 ·have hi':=(List.getElem?_eq_some_iff.1 hi).1;show cO (kn 0 (obs.map some)++kn 500 outs) (500+i)=some ob;rw [(gj (obs.map some) 0 (kn 500 outs) (500+i)).1 (by right;simp;omega)];have:=(gj outs 500 [] 0).2 i ob hi;simpa using this
theorem OR{T:List TI}{fn:Func}{n:Nat}{v v':V}{outs:List (Option Ob)}{obs:List Ob}{e:Exit}{tm:Nat->V}{σ:Nat->Option Ob}{nx:Nat}(gl:List (Nat×Nat))(tl:List (Nat×V))(ex:List (Nat×Ob))(he:e= .normal\/e= .ret) (htm:lK (fun p=>tm p.1=p.2.bB (aH gl nx)) tl) (hσ:lK (fun p=>∃ob,σ (aH gl nx p.1)=some ob/\fy ob (p.2.bB (aH gl nx))) (kn 0 (obs.map some)++(kn 500 outs++ex))) (hinj:decide (((kn 0 (obs.map some)++(kn 500 outs++ex)).map fun p=>aH gl nx p.1).Nodup)=true) (hid:gl.all (fun p=>decide (p.1< 500))=true) (hob:decide (obs.length<=90)=true) (hres:qX T ⟨gJ tl,cO (kn 0 (obs.map some)++(kn 500 outs++ex)),1⟩ fn.results.toList=some v') (hv:v'=v) (hcv:v'.bB (bw obs.length n 1)=v') (hco:Ly (bw obs.length n 1) (obs.map some++outs)=obs.map some++outs):eX T fn n v outs obs e ⟨tm,σ,nx⟩:=by
 subst hv;have hob:=of_decide_eq_true hob;have hren:∀o:Ob,some o∈obs.map some++outs->o.bB (bw obs.length n 1)=o:=by
  intro o ho;obtain⟨i,hi⟩:=List.getElem?_of_mem ho;have h1:(Ly (bw obs.length n 1) (obs.map some++outs))[i]?=some (some (o.bB (bw obs.length n 1))):=by unfold Ly;rw [List.getElem?_map,hi];rfl
  rw [hco,hi]at h1;injection h1 with h1;injection h1 with h1;exact h1.symm
 refine⟨he,_,aF gl (tl:=tl) (sl:=kn 0 (obs.map some)++(kn 500 outs++ex)) htm hσ hinj hid,hres,fun i ob hi=> ?_,fun i ob hi=> ?_,hcv,fun ob hm=>hren ob (by simp [hm]),fun ob hm=>hren ob (by simp [hm])⟩;·have:=(gj (obs.map some) 0 (kn 500 outs++ex) 0).2 i ob (by simp [hi]);simpa using this
 ·have hi':=(List.getElem?_eq_some_iff.1 hi).1;show cO (kn 0 (obs.map some)++(kn 500 outs++ex)) (500+i)=some ob;rw [(gj (obs.map some) 0 (kn 500 outs++ex) (500+i)).1 (by right;simp;omega)];exact(gj outs 500 ex 0).2 i ob hi
theorem cK{T:List TI}{fn:Func}{n:Nat}{v:V}{outs:List (Option Ob)}{obs:List Ob}{e:Exit}{s s':S}(hle:Le s s')(h:eX T fn n v outs obs e s'):eX T fn n v outs obs e s:=by obtain⟨he,s'',hle',h1⟩:=h;exact⟨he,s'',Le.trans hle hle',h1⟩
theorem AC.res{P:Program}{f:FuncId}{args:List V}{v v':V}(h:AC P f args v [])(hi:v.cj=true)(k:cG v v'):AC P f args v' []:=by refine⟨h.1,fun L w vs hL hgl hv=>(h.2 L w vs hL hgl hv).mono ?_⟩;rintro e w' ⟨x,he,hb,L',ρ',hG,hLL,hr,hn⟩;exact⟨x,he,hb,L',ρ',hG,hLL,(k _ _ _ (hr.free hi ρ0)).M4,hn⟩
theorem cG.PW{us' us:List V}(h:A2 us' us):cG (.agg us') (.agg us):=by intro w L x hx;obtain⟨xs,rfl,hl⟩:=hx.eY;have hv:=h.rv hl.rv;exact .l7 ⟨hv.1,fun i u x hu hx=>⟨hv.2 i u x hu hx,hl.one x (List.mem_of_getElem? hx)⟩⟩
section
variable {P:Program}{N:Nat}{C:Cx P N}{ops:Array Oper}{nx:Nat}{o:Oper}{os:List Oper}{tm:Nat->V}{σ:Nat->Option Ob}{ks:List (List Nat×List Nat)}{K:(Nat->V)->(Nat->Option Ob)->List (List Nat×List Nat)->Prop}
theorem rY{t:Nat}(hg:eU (ops.toList.map (·.dst)) tm o=some (some false))(ht:o.dst=some t)(hk:bC C ops nx os (bO tm t (.gd false (.b false))) σ (ks++[([],[])]) K):bC C ops nx (o::os) tm σ ks K:=by
 have hw:=gG hg;have e:eJ tm o.dst (.gd false (.b false))=bO tm t (.gd false (.b false)):=by rw [ht];rfl
 refine⟨⟨false,.gd false (.b false),[],[],[]⟩,⟨hw,by simp,fun _=>⟨fun _ _ _=> .gd _ _ _ _ (fun e=>by cases e) fun _=>rfl,rfl,rfl⟩⟩,?_⟩;rw [e];exact hk
end
def KY{P:Program}{N:Nat}(C:Cx P N)(c:Code)(Q:Exit->S->Prop):Nat->S->Prop
 |0,_=>False
 |m+1,s=>AW C c (dS (KY C c Q m) Q) s
section
variable {P:Program}{N:Nat}{C:Cx P N}{Q:Exit->S->Prop}{s:S}{c:Code}
theorem gu{m:Nat}(h:∀K:S->Prop,(∀s',KY C c Q m s'->K s')->AW C c (dS K Q) s):KY C c Q (m+1) s:=h _ fun _ h=>h
theorem oR(m:Nat)(h:KY C c Q m s):AW C (.loop c) Q s:=by
 intro a w g;refine wpIn_loop_rounds m ?_;have key:∀m s a w0 w,aS C.W w0 w->KY C c Q m s->Gm C s a w->Code.roundsIn C.F 0 P c (fun e a' w'=>∃s',Q e s'/\Gm C s' a' w'/\aS C.W w0 w') m a w:=by
  intro m;induction m with
  |zero=>intro s a w0 w _ h;exact h.elim
  |succ m ih=>
   intro s a w0 w t0 h g;refine wpIn_mono (h a w g) ?_;rintro e a' w' ⟨s',q,g',t⟩;cases e with
   |normal=>exact ih s' a' w0 w' (t0.trans t) q g'
   |_=>exact⟨s',q,g',t0.trans t⟩
 exact key m s a w w (aS.refl _ _) h g
end
inductive PQ where
  |tt
  |le (a b:Int)
  |lt (a b:Int)
  |nle (a b:Nat)
  |nlt (a b:Nat)
  |ne (a b:Int)
  |re (v:V)
  |and (p q:PQ)
def PQ.den:PQ->Prop
 | .tt=>True
 | .le a b=>a<=b
 | .lt a b=>a< b
 | .nle a b=>a<=b
 | .nlt a b=>a< b
 | .ne a b=>a≠b
 | .re v=>v=v
 | .and p q=>p.den/\q.den
def PQ.dec:PQ->Bool
 | .tt=>true
 | .le a b=>decide (a<=b)
 | .lt a b=>decide (a< b)
 | .nle a b=>Nat.ble a b
 | .nlt a b=>Nat.blt a b
 | .ne a b=> !decide (a=b)
 | .re _=>true
 | .and p q=>match p.dec with
  |true=>q.dec
  |false=>false
theorem PQ.ok:∀ {p:PQ},p.dec=true->p.den
 | .tt,_=>trivial
 | .le a b,h=>of_decide_eq_true (p:=a<=b) h
 | .lt a b,h=>of_decide_eq_true (p:=a< b) h
 | .nle a b,h=>Nat.le_of_ble_eq_true h
 | .nlt a b,h=>Nat.le_of_ble_eq_true (n:=a+1) h
 | .ne a b,h=>by simp only [PQ.dec,Bool.not_eq_true',decide_eq_false_iff_not]at h;exact h
 | .re _,_=>rfl
 | .and p q,h=>by
  simp only [PQ.dec]at h;split at h;·rename_i hp;exact⟨PQ.ok hp,PQ.ok h⟩
  ·cases h
def wm(k:IntKind)(n:Int):PQ:=match k with
 | .i8=> .and (.le (-128) n) (.le n 127)
 | .i16=> .and (.le (-32768) n) (.le n 32767)
 | .i32=> .and (.le (-2147483648) n) (.le n 2147483647)
 | .i64=> .and (.le (-9223372036854775808) n) (.le n 9223372036854775807)
 | .u8=> .and (.le 0 n) (.le n 255)
 | .u16=> .and (.le 0 n) (.le n 65535)
 | .u32=> .and (.le 0 n) (.le n 4294967295)
 | .u64=> .and (.le 0 n) (.le n 18446744073709551615)
def JI(i:Int)(n:Nat):PQ:= .and (.le 0 i) (.lt i n)
def NX(e:Operand->V)(lo hi:Option Operand)(n:Nat)(z:Bool):PQ:=match m0 e lo,kB e n hi with
 |some l,some h=> .and (.le 0 l) (.and (.le l h) (match z with |true=> .and (.le h n) (.nlt 0 n) |false=> .le h n))
 |_,_=> .tt
def BL(T:List TI)(wr:Bool)(o:Oper)(e:Operand->V)(σ:Nat->Option Ob):PQ:=
 match o.op with
  | .binOp op _ x y _=>match e x,e y with
   | .c (.int k a),.c (.int _ b)=>match op with
    | .add=>match wr with |true=> .tt |false=>wm k (a+b)
    | .sub=>match wr with |true=> .tt |false=>wm k (a- b)
    | .mul=>match wr with |true=> .tt |false=>wm k (a*b)
    | .quo=>match wr with |true=> .ne b 0 |false=> .and (.lt 0 b) (wm k a)
    | .rem=> .ne b 0
    | .shl=>match wr with |true=> .le 0 b |false=> .and (.le 0 b) (.and (.le b k.bits) (wm k (a*2 ^ b.toNat)))
    | .shr=> .le 0 b
    |_=> .tt
   | .sl _ n _,.nil=> .nlt 0 n
   | .nil,.sl _ n _=> .nlt 0 n
   |_,_=> .tt
  | .unOp .neg _ x=>match e x with
   | .c (.int k a)=>match wr with |true=> .tt |false=>wm k (-a)
   |_=> .tt
  | .convert _ t x=>match e x with
   | .c (.int _ a)=>match (T.getD t bF).kind with
    |some k=>match wr with |true=> .tt |false=>wm k a
    |none=> .tt
   |_=> .tt
  | .indexAddr t x ix=>match e ix with
   | .c (.int _ i)=>match e x with
    | .sl _ n _=>JI i n
    | .own id=>match σ id with
     |some (.row _ _ n _)=>JI i n
     |_=> .tt
    |_=>match (T.getD t bF).arr with
     |some (n,_)=>JI i n
     |none=> .tt
   |_=> .tt
  | .index t x ix=>match e ix with
   | .c (.int _ i)=>match e x with
    | .c (.string b)=>JI i b.size
    |_=>match (T.getD t bF).arr with
     |some (n,_)=>JI i n
     |none=> .tt
   |_=> .tt
  | .load _ x=>match e x with
   | .ref id o=>match σ id with
    |some (.box _ cs)=> .nle o cs.length
    |_=> .tt
   | .oel id _ i o=>match σ id with
    |some (.row _ _ n row)=> .and (.nlt i n) (.nle o (row i).length)
    |_=> .tt
   |_=> .tt
  | .store _ x y=>match b7 (e y)with
   |some us=>match e x with
    | .ref id o=>match σ id with
     |some (.box _ cs)=> .nle (o+us.length) cs.length
     |_=> .tt
    | .oel id _ i o=>match σ id with
     |some (.row _ _ n row)=> .and (.nlt i n) (.nle (o+us.length) (row i).length)
     |_=> .tt
    |_=> .tt
   |none=> .tt
  | .slice _ x lo hi none=>match e x with
   | .sl _ n _=>NX e lo hi n false
   | .own id=>match σ id with
    |some (.row _ _ n _)=>NX e lo hi n true
    |_=> .tt
   | .c (.string b)=>NX e lo hi b.size false
   |_=> .tt
  | .makeSlice _ x y=>match e x,e y with
   | .c (.int _ l),.c (.int _ c)=> .and (.le 0 l) (.and (.le l c) (.le c 1099511627776))
   |_,_=> .tt
  | .call c=>match c.callee with
   | .builtin .append=>match c.args with
    | ⟨[s,x]⟩=>match e x with
     | .sl _ m _=>match e s with
      | .nil=> .nle m 1099511627776
      | .own id=>match σ id with
       |some (.row _ _ n _)=> .nle (n+m) 1099511627776
       |_=> .tt
      |_=> .tt
     |_=> .tt
    |_=> .tt
   |_=> .tt
  |_=> .tt
structure ZR where
  g:Option Bool
  c:Prop
  ps:List (Bool×Bool)
  v:V
  pre:List (Nat×Ob)
  δ:List (Nat×Option Ob)
def QO(g:Option Bool)(v:V):V:=match g with
 |none=>v
 |some g=> .gd g v
def xZ(g:Option Bool)(c:Prop):Prop:=match g with
 |none=>c
 |some g=>g=true->c
def Ga(g:Bool):V->List (Bool×Bool)
 | .gd g' _=>[(g',g)]
 |_=>[]
def x4(g:Bool):List V->List (Bool×Bool)
 | []=>[]
 | .gd g' _::l=>(g',g)::x4 g l
 |_::l=>x4 g l
def Bu(l:List (Bool×Bool)):Prop:=∀p∈l,p.1=p.2
theorem Bu.l{a b:List (Bool×Bool)}(h:Bu (a++b)):Bu a:=fun p hp=>h p (List.mem_append_left _ hp)
theorem Bu.r{a b:List (Bool×Bool)}(h:Bu (a++b)):Bu b:=fun p hp=>h p (List.mem_append_right _ hp)
theorem Gb{g g':Bool}{v:V}(h:Bu (Ga g (.gd g' v))):g'=g:=h (g',g) (List.mem_cons_self ..)
theorem MB{g:Bool}{v:V}(h:Bu (Ga g v)):tF g v:=by cases v <;> first |trivial | (intro hg;exact(Gb h).trans hg)
theorem nQ{t b:Bool}{v:V}(h:Bu (Ga (t == b) v)):fJ t b v:=by cases v <;> first |trivial | (intro hg;exact(Gb h).trans (by rw [hg];simp))
theorem uM{g t b:Bool}{v:V}(h:Bu (Ga (g && (t == b)) v))(hg:g=true):fJ t b v:=by cases v <;> first |trivial | (intro ht;exact(Gb h).trans (by rw [hg,ht];simp))
theorem rB{g:Bool}:∀ {l:List V},Bu (x4 g l)->NZ g l
 | [],_=>trivial
 |v::l,h=>by
  cases v;case gd g' u=>
   have h1:=h (g',g) (by simp [x4])
   exact⟨fun hg=>by simp only at h1;rw [h1];exact hg,rB fun p hp=>h p (by simp [x4,hp])⟩
  all_goals exact⟨trivial,rB fun p hp=>h p (by simpa [x4]using hp)⟩
def mB(T:List TI)(wr:Bool)(M:List Nat)(nx:Nat)(ds:List (Option Tmp))(tm:Nat->V)(σ:Nat->Option Ob)(o:Oper):Option ZR:=
 match o.guard with
  |none=>match o.op with
   | .pick x a b=>match ev tm x with
    | .c (.bool t)=>match mY t (ug (ev tm a)) (ug (ev tm b))with
     |some v=>if iX o then some ⟨none,True,Ga (t == true) (ev tm a)++Ga (t == false) (ev tm b),v,[],[]⟩else none
     |none=>none
    |_=>none
   |_=>if ke o && sS (opsV tm o)then(match kM T wr M nx o (fun x=>ug (ev tm x)) σ with
    |some r=>some ⟨none,r.c,[],r.v,r.pre,r.δ⟩
    |none=>none)else none
  |some _=>match eU ds tm o with
   |some (some g)=>match o.op with
    | .pick x a b=>match ug (ev tm x)with
     | .c (.bool t)=>match mY t (ug (ev tm a)) (ug (ev tm b))with
      |some v=>if iX o then some ⟨some g,True,Ga g (ev tm x)++(Ga (g && (t == true)) (ev tm a)++Ga (g && (t == false)) (ev tm b)),v,[],[]⟩else none
      |none=>none
     |_=>none
    |_=>if ke o && iX o then(match kM T wr M nx o (fun x=>ug (ev tm x)) σ with
     |some ⟨c,v,pre,[],[]⟩=>some ⟨some g,c,x4 g (opsV tm o),v,pre,[]⟩
     |_=>none)else none
   |_=>none
theorem Kl{T:List TI}{wr:Bool}{M:List Nat}{nx:Nat}{ds:List (Option Tmp)}{tm:Nat->V}{σ:Nat->Option Ob}{o:Oper}{z:ZR}(h:mB T wr M nx ds tm σ o=some z) : ∃q,nS T wr M nx ds tm σ o=some q/\q.v=QO z.g z.v/\q.pre=z.pre/\q.δ=z.δ/\(Bu z.ps->xZ z.g z.c->q.c):=by
 unfold mB at h;unfold nS;split at h
 ·rename_i hg;split at h
  ·rename_i x a b hop;simp only [hg,hop];split at h
   ·rename_i t hx;simp only [hx];split at h
    ·rename_i v hv;simp only [hv];split at h;·rename_i hd;injection h with h;subst h;rw [if_pos hd];exact⟨_,rfl,rfl,rfl,rfl,fun hp _=>⟨nQ hp.l,nQ hp.r⟩⟩
     ·cases h
    ·cases h
   ·cases h
  ·rename_i hop;split at h
   ·rename_i hd;split at h;·rename_i r hr;injection h with h;subst h;refine⟨r,?_,rfl,rfl,rfl,fun _ hc=>hc⟩;simp only [hg];rw [if_pos hd];exact hr
    ·cases h
   ·cases h
 ·rename_i gd' hg;split at h
  ·rename_i g hgv;split at h
   ·rename_i x a b hop;simp only [hg,hop,hgv];split at h
    ·rename_i t hx;simp only [hx];split at h
     ·rename_i v hv;simp only [hv];split at h;·rename_i hd;injection h with h;subst h;rw [if_pos hd];exact⟨_,rfl,rfl,rfl,rfl,fun hp _=>⟨MB hp.l,fun hg=>uM hp.r.l hg,fun hg=>uM hp.r.r hg⟩⟩
      ·cases h
     ·cases h
    ·cases h
   ·rename_i hop;split at h
    ·rename_i hd;split at h;·rename_i c v pre hr;injection h with h;subst h;refine⟨⟨NZ g (opsV tm o)/\(g=true->c),.gd g v,pre,[],[]⟩,?_,rfl,rfl,rfl,fun hp hc=>⟨rB hp,hc⟩⟩;simp only [hg,hgv];rw [if_pos hd,hr]
     ·cases h
    ·cases h
  ·cases h
inductive It(P:Program) where
  |c (p:Prop) (h:p)
  |g (g:Bool) (p:Prop) (h:g=true->p)
  |d
  |w
  |wc (p:Prop) (h:p)
  |q (p:Prop) (h:p)
  |f
  |cl (f:FuncId) (args:List V) (v:V) (h:AC P f args v [])
  |clg (g:Bool) (f:FuncId) (args:List V) (v:V) (h:g=true->AC P f args v [])
  |clo (f:FuncId) (args:List V) (v:V) (obs:List Ob) (h:AC P f args v obs)
inductive CE where
  |p (p:Prop)
  |b (b:Bool)
  |a (f:FuncId) (args:List V)
  |vs (l:List V)
  |n (f:Nat->List CE)
  |ys (f:Nat->Option (List (List V)))
inductive Fr where
  |c (y:Code)
  |b (id:Nat)
  |l (y:Code) (m:Nat)
  |s
inductive Bt where
  |code (c:Code) (k:List Fr) (s:S)
  |ops (ol:List Oper) (dr:Bool) (rest:List Oper) (tm:Nat->V) (σ:Nat->Option Ob) (nx:Nat) (ks:List (List Nat×List Nat)) (k:List Fr)
  |done (e:Exit) (k:List Fr) (s:S)
structure Pm where
  T:List TI
  N:Nat
  M:List Nat
  u:Nat
  lit:Bool
structure Nx(P:Program) where
  n:Nat
  l:List (Nat×It P)
  g:Bt
  e:List (CE×CE)
def Hi:List (Bool×Bool)->List (CE×CE)
 | []=>[]
 | (a,b)::l=>(.b a,.b b)::Hi l
def iM(l:List (CE×CE)):Prop:=∀p∈l,p.1=p.2
theorem iM.l{a b:List (CE×CE)}(h:iM (a++b)):iM a:=fun p hp=>h p (List.mem_append_left _ hp)
theorem iM.r{a b:List (CE×CE)}(h:iM (a++b)):iM b:=fun p hp=>h p (List.mem_append_right _ hp)
theorem iM.hd{x y:CE}{l:List (CE×CE)}(h:iM ((x,y)::l)):x=y:=h (x,y) (List.mem_cons_self ..)
theorem iM.tl{x:CE×CE}{l:List (CE×CE)}(h:iM (x::l)):iM l:=fun p hp=>h p (List.mem_cons_of_mem _ hp)
theorem iM.ps:∀ {l:List (Bool×Bool)},iM (Hi l)->Bu l
 | [],_=>fun p hp=>by cases hp
 | (a,b)::l,h=>fun p hp=>by
  rcases List.mem_cons.1 hp with rfl |hp;·have:=h.hd;injection this
  ·exact iM.ps h.tl p hp
def sk(e:Operand->V)(o:Oper):Option (FuncId×List V):=match o.op with
 | .call c=>match c.callee with
  | .value fo=>match e fo with
   | .fn (.func f) first caps=>some (f,first++c.args.toList.map e++caps)
   |_=>none
  |_=>none
 |_=>none
section
variable {P:Program}(pm:Pm) (n:Nat) (l:List (Nat×It P)) (ol:List Oper) (dr:Bool) (o:Oper) (os:List Oper) (tm:Nat->V) (σ:Nat->Option Ob) (nx:Nat) (ks:List (List Nat×List Nat)) (k:List Fr)
def QV(v:V)(pre:List (Nat×Ob))(δ:List (Nat×Option Ob)):Bt:= .ops ol dr os (eJ tm o.dst v) (bI σ δ) nx (ks++[(bk δ,eF pre++bk δ)]) k
def Lw(z:ZR):Bt:=QV ol dr o os tm σ nx ks k (QO z.g z.v) z.pre z.δ
def B8:Option (Nx P):=match mB pm.T false pm.M nx (ol.map (·.dst)) tm σ o with
 |some z=>match (BL pm.T false o (fun x=>ug (ev tm x)) σ).dec with
  |true=>some ⟨n,l,Lw ol dr o os tm σ nx ks k z,(.p z.c,.p (BL pm.T false o (fun x=>ug (ev tm x)) σ).den)::Hi z.ps⟩
  |false=>none
 |none=>none
def rF:Option (Nx P):=match pm.lit with
 |false=>match mB pm.T false pm.M nx (ol.map (·.dst)) tm σ o with
  |some z=>some ⟨n,l,Lw ol dr o os tm σ nx ks k z,(.p z.c,.p True)::Hi z.ps⟩
  |none=>none
 |true=>match eU (ol.map (·.dst)) tm o with
  |some (some g)=>match g with
   |false=>match o.dst with
    |some t=>some ⟨n,l,.ops ol dr os (bO tm t (.gd false (.b false))) σ nx (ks++[([],[])]) k,[]⟩
    |none=>none
   |true=>B8 pm n l ol dr o os tm σ nx ks k
  |_=>B8 pm n l ol dr o os tm σ nx ks k
def AB(it:It P):Option (Nx P):=match it with
 | .c p _=>match mB pm.T false pm.M nx (ol.map (·.dst)) tm σ o with
  |some z=>some ⟨n,l,Lw ol dr o os tm σ nx ks k z,(.p z.c,.p p)::Hi z.ps⟩
  |none=>none
 | .g g p _=>match mB pm.T false pm.M nx (ol.map (·.dst)) tm σ o with
  |some z=>match z.g with
   |some g0=>some ⟨n,l,Lw ol dr o os tm σ nx ks k z,(.b g0,.b g)::(.p z.c,.p p)::Hi z.ps⟩
   |none=>none
  |none=>none
 | .d=>match mB pm.T false pm.M nx (ol.map (·.dst)) tm σ o with
  |some z=>some ⟨n,l,Lw ol dr o os tm σ nx ks k z,(.b (BL pm.T false o (fun x=>ug (ev tm x)) σ).dec,.b true)::(.p z.c,.p (BL pm.T false o (fun x=>ug (ev tm x)) σ).den)::Hi z.ps⟩
  |none=>none
 | .w=>match mB pm.T true pm.M nx (ol.map (·.dst)) tm σ o with
  |some z=>some ⟨n,l,Lw ol dr o os tm σ nx ks k z,(.p z.c,.p True)::Hi z.ps⟩
  |none=>none
 | .wc p _=>match mB pm.T true pm.M nx (ol.map (·.dst)) tm σ o with
  |some z=>some ⟨n,l,Lw ol dr o os tm σ nx ks k z,(.p z.c,.p p)::Hi z.ps⟩
  |none=>none
 | .q p _=>match nS pm.T false pm.M nx (ol.map (·.dst)) tm σ o with
  |some z=>some ⟨n,l,QV ol dr o os tm σ nx ks k z.v z.pre z.δ,[(.p z.c,.p p)]⟩
  |none=>none
 | .f=>match eU (ol.map (·.dst)) tm o with
  |some (some g)=>match o.dst with
   |some t=>some ⟨n,l,.ops ol dr os (bO tm t (.gd false (.b false))) σ nx (ks++[([],[])]) k,[(.b g,.b false)]⟩
   |none=>none
  |_=>none
 | .cl f args v _=>match o.guard with
  |none=>match o.dst with
   |some t=>match sk (ev tm) o with
    |some (f',as')=>match decide (t< 1000) && (V.bp args && v.cj)with
     |true=>some ⟨n,l,.ops ol dr os (bO tm t v) σ nx (ks++[([],[])]) k,[(.a f' as',.a f args)]⟩
     |false=>none
    |none=>none
   |none=>none
  |some _=>none
 | .clg g f args v _=>match eU (ol.map (·.dst)) tm o with
  |some (some g0)=>match o.dst with
   |some t=>match sk (fun x=>ug (ev tm x)) o with
    |some (f',as')=>match decide (t< 1000) && (V.bp args && v.cj)with
     |true=>some ⟨n,l,.ops ol dr os (bO tm t (.gd g0 v)) σ nx (ks++[([],[])]) k,(.b g0,.b g)::(.a f' as',.a f args)::Hi (x4 g0 (opsV tm o))⟩
     |false=>none
    |none=>none
   |none=>none
  |_=>none
 | .clo f args v obs _=>match o.guard with
  |none=>match o.dst with
   |some t=>match sk (ev tm) o with
    |some (f',as')=>match decide (t< 1000) && (V.bp args && Nat.ble obs.length 90)with
     |true=>some ⟨n,l,.ops ol dr os (bO tm t (v.bB (ax nx (some t)))) (bI σ (cn (ax nx (some t)) 0 obs)) nx (ks++[(bk (cn (ax nx (some t)) 0 obs),bk (cn (ax nx (some t)) 0 obs))]) k,[(.a f' as',.a f args)]⟩
     |false=>none
    |none=>none
   |none=>none
  |some _=>none
def wz:Option (Nx P):=match l with
 | []=>rF pm n [] ol dr o os tm σ nx ks k
 | (j,it)::l'=>match j with
  |0=>AB pm n l' ol dr o os tm σ nx ks k it
  |j+1=>rF pm n ((j,it)::l') ol dr o os tm σ nx ks k
end
section
variable {P:Program}{N:Nat}(C:Cx P N) (Q:Exit->S->Prop)
end
abbrev KT:Type:=List Oper->Bool->Nat->List Fr->(Nat->V)->(Nat->Option Ob)->List (List Nat×List Nat)->Prop
def HG{P:Program}{N:Nat}(C:Cx P N)(KK:KT)(R:Bt->Prop):Bt->Prop
 | .ops ol dr rest tm σ nx ks k=>bC C ol.toArray nx rest tm σ ks (KK ol dr nx k)
 | .code c k s=>R (.code c k s)
 | .done e k s=>R (.done e k s)
section
variable {P:Program}{N:Nat}{C:Cx P N}{Q:Exit->S->Prop}{KK:KT}{R:Bt->Prop}{pm:Pm}{n:Nat}{l:List (Nat×It P)}
section
variable {ol:List Oper}{dr:Bool}{o:Oper}{os:List Oper}{tm:Nat->V}{σ:Nat->Option Ob}{nx:Nat}{ks:List (List Nat×List Nat)}{k:List Fr}{r:Nx P}
theorem bC.mono{ops:Array Oper}{K K':(Nat->V)->(Nat->Option Ob)->List (List Nat×List Nat)->Prop}:∀ {os:List Oper}{tm:Nat->V}{σ:Nat->Option Ob}{ks:List (List Nat×List Nat)},bC C ops nx os tm σ ks K->(∀a b c,K a b c->K' a b c)->bC C ops nx os tm σ ks K'
 | [],_,_,_,h,hk=>hk _ _ _ h
 |_::_,_,_,_,⟨e,h1,h2⟩,hk=>⟨e,h1,bC.mono h2 hk⟩
theorem Ag(hT:aN pm.T P){wr:Bool}{z:ZR}(hz:mB pm.T wr pm.M nx (ol.map (·.dst)) tm σ o=some z)(hp:Bu z.ps)(hc:xZ z.g z.c)(h:HG C KK R (Lw ol dr o os tm σ nx ks k z)):HG C KK R (.ops ol dr (o::os) tm σ nx ks k):=by obtain⟨q,hq,e1,e2,e3,hqc⟩:=Kl hz;have h1:=hqc hp hc;unfold HG;refine vw hT (wr:=wr) (M:=pm.M) (r:=q) (by simpa using hq) h1 ?_;rw [e1,e2,e3];exact h
theorem Oq{t:Nat}(hg:eU (ol.map (·.dst)) tm o=some (some false))(ht:o.dst=some t)(h:HG C KK R (.ops ol dr os (bO tm t (.gd false (.b false))) σ nx (ks++[([],[])]) k)):HG C KK R (.ops ol dr (o::os) tm σ nx ks k):=by unfold HG;exact rY (by simpa using hg) ht h
theorem Gi(hT:aN pm.T P)(h:B8 pm n l ol dr o os tm σ nx ks k=some r)(he:iM r.e)(hk:HG C KK R r.g):HG C KK R (.ops ol dr (o::os) tm σ nx ks k):=by
 unfold B8 at h;split at h
 ·rename_i z hz;split at h
  ·rename_i hd;injection h with h;subst h;refine Ag hT hz he.tl.ps ?_ hk;have h1:=he.hd;injection h1 with h1;have h2:=PQ.ok hd;rw [<-h1]at h2;unfold xZ;split;·exact h2
   ·exact fun _=>h2
  ·cases h
 ·cases h
theorem kS{g:Option Bool}{c p:Prop}(h:CE.p c=CE.p p)(hp:p):xZ g c:=by
 injection h with h;rw [<-h]at hp;unfold xZ;split;·exact hp
 ·exact fun _=>hp
theorem x8(hT:aN pm.T P)(h:rF pm n l ol dr o os tm σ nx ks k=some r)(he:iM r.e)(hk:HG C KK R r.g):HG C KK R (.ops ol dr (o::os) tm σ nx ks k):=by
 unfold rF at h;split at h
 ·split at h;·rename_i z hz;injection h with h;subst h;exact Ag hT hz he.tl.ps (kS he.hd trivial) hk
  ·cases h
 ·split at h
  ·rename_i g hg;split at h
   ·split at h;·rename_i t ht;injection h with h;subst h;exact Oq hg ht hk
    ·cases h
   ·exact Gi hT h he hk
  ·exact Gi hT h he hk
theorem jL{e:Operand->V}{f:FuncId}{as0:List V}(h:sk e o=some (f,as0)):∃d fo ar ats ty pos af gd first caps,o=⟨d,.call {callee:= .value fo,args:=ar,argTypes:=ats},ty,pos,af,gd⟩/\e fo= .fn (.func f) first caps/\first++ar.toList.map e++caps=as0:=by
 obtain⟨d,op,ty,pos,af,gd⟩:=o;unfold sk at h;simp only at h;split at h
 ·rename_i c;obtain⟨callee,args,ats⟩:=c;simp only at h;split at h
  ·rename_i fo;split at h
   ·rename_i f' first caps hf
    injection h with h;injection h with h1 h2;subst h1;exact⟨d,fo,args,ats,ty,pos,af,gd,first,caps,rfl,hf,h2⟩
   ·cases h
  ·cases h
 ·cases h
theorem JD(hT:aN pm.T P){it:It P}(h:AB pm n l ol dr o os tm σ nx ks k it=some r)(he:iM r.e)(hk:HG C KK R r.g):HG C KK R (.ops ol dr (o::os) tm σ nx ks k):=by
 unfold AB at h;split at h
 ·rename_i p hp;split at h;·rename_i z hz;injection h with h;subst h;exact Ag hT hz he.tl.ps (kS he.hd hp) hk
  ·cases h
 ·rename_i g p hp;split at h
  ·rename_i z hz;split at h;·rename_i g0 hg0;injection h with h;subst h;refine Ag hT hz he.tl.tl.ps ?_ hk;have h1:=he.hd;have h2:=he.tl.hd;injection h1 with h1;injection h2 with h2;rw [hg0,h1,h2];exact hp
   ·cases h
  ·cases h
 ·split at h;·rename_i z hz;injection h with h;subst h;have h1:=he.hd;injection h1 with h1;exact Ag hT hz he.tl.tl.ps (kS he.tl.hd (PQ.ok h1)) hk
  ·cases h
 ·split at h;·rename_i z hz;injection h with h;subst h;exact Ag hT hz he.tl.ps (kS he.hd trivial) hk
  ·cases h
 ·rename_i p hp;split at h;·rename_i z hz;injection h with h;subst h;exact Ag hT hz he.tl.ps (kS he.hd hp) hk
  ·cases h
 ·rename_i p hp;split at h;·rename_i z hz;injection h with h;subst h;have h1:=he.hd;injection h1 with h1;unfold HG;exact vw hT (wr:=false) (M:=pm.M) (r:=z) (by simpa using hz) (by rw [h1];exact hp) hk
  ·cases h
 ·split at h
  ·rename_i g hg;split at h;·rename_i t ht;injection h with h;subst h;have h1:=he.hd;injection h1 with h1;subst h1;exact Oq hg ht hk
   ·cases h
  ·cases h
 ·rename_i f args v hc;split at h
  ·rename_i hg;split at h
   ·rename_i t ht;split at h
    ·rename_i f' as' hq;split at h;·rename_i hb;injection h with h;subst h;obtain⟨d,fo,ar,ats,ty,pos,af,gd,first,caps,rfl,hf,ha⟩:=jL hq;simp only at ht hg;subst ht hg;have h1:=he.hd;injection h1 with h1 h2;subst h1 h2;simp only [Bool.and_eq_true]at hb;unfold HG;exact e8 hc hf ha hb.2.1 hb.2.2 hb.1 hk
     ·cases h
    ·cases h
   ·cases h
  ·cases h
 ·rename_i g f args v hc;split at h
  ·rename_i g0 hg;split at h
   ·rename_i t ht;split at h
    ·rename_i f' as' hq;split at h;·rename_i hb;injection h with h;subst h;have hps:=he.tl.tl.ps;obtain⟨d,fo,ar,ats,ty,pos,af,gd,first,caps,rfl,hf,ha⟩:=jL hq;simp only at ht;subst ht;have h0:=he.hd;have h1:=he.tl.hd;injection h0 with h0;injection h1 with h1 h2;subst h0 h1 h2;simp only [Bool.and_eq_true,decide_eq_true_eq]at hb;unfold HG;refine mL (pre:=[]) (by simpa using hg) (fun x hx=>ov (rB hps) _ (jz hx)) (fun hg'=> ?_) hk;have:=vB (W:=C.W) (LB:=C.LB) (d:=some t) (ty:=ty) (pos:=pos) (af:=af) (gd:=gd) (ats:=ats) (ev:=fun x=>ug (ev tm x)) (hc hg') hf ha hb.2.1 nx (by simpa using hb.1) (by simp);rw [V.eZ _ _ hb.2.2]at this;exact⟨this,by simp⟩
     ·cases h
    ·cases h
   ·cases h
  ·cases h
 ·rename_i f args v obs hc;split at h
  ·rename_i hg;split at h
   ·rename_i t ht;split at h
    ·rename_i f' as' hq;split at h;·rename_i hb;injection h with h;subst h;obtain⟨d,fo,ar,ats,ty,pos,af,gd,first,caps,rfl,hf,ha⟩:=jL hq;simp only at ht hg;subst ht hg;have h1:=he.hd;injection h1 with h1 h2;subst h1 h2;simp only [Bool.and_eq_true,decide_eq_true_eq]at hb;unfold HG;exact oN hc hf ha hb.2.1 (by simpa using hb.1) rfl (Nat.le_of_ble_eq_true hb.2.2) hk
     ·cases h
    ·cases h
   ·cases h
  ·cases h
theorem JE(hT:aN pm.T P)(h:wz pm n l ol dr o os tm σ nx ks k=some r)(he:iM r.e)(hk:HG C KK R r.g):HG C KK R (.ops ol dr (o::os) tm σ nx ks k):=by
 unfold wz at h;split at h;·exact x8 hT h he hk
 ·split at h;·exact JD hT h he hk
  ·exact x8 hT h he hk
end
theorem vX:∀ {l:List (CE×CE)},l.map Prod.fst=l.map Prod.snd->iM l
 | [],_=>fun p hp=>by cases hp
 |x::l,h=>by
  simp only [List.map_cons,List.cons.injEq]at h;intro p hp;rcases List.mem_cons.1 hp with rfl |hp;·exact h.1
  ·exact vX h.2 p hp
def Lz(pm:Pm):Nat->List (Nat×It P)->Bt->Bt
 |0,_,g=>g
 |n+1,l,g=>match g with
  | .ops ol dr (o::os) tm σ nx ks k=>match wz pm n l ol dr o os tm σ nx ks k with
   |some r=>Lz pm n r.l r.g
   |none=> .ops ol dr (o::os) tm σ nx ks k
  |g=>g
def OI(pm:Pm):Nat->List (Nat×It P)->Bt->List (CE×CE)
 |0,_,_=>[]
 |n+1,l,g=>match g with
  | .ops ol dr (o::os) tm σ nx ks k=>match wz pm n l ol dr o os tm σ nx ks k with
   |some r=>r.e++OI pm n r.l r.g
   |none=>[]
  |_=>[]
theorem yF(hT:aN pm.T P):∀ {n:Nat}{l:List (Nat×It P)}{g:Bt},iM (OI pm n l g)->HG C KK R (Lz pm n l g)->HG C KK R g
 |0,_,_,_,h=>h
 |n+1,l,g,he,h=>by
  unfold OI at he;unfold Lz at h;split at h
  ·split at h;·rename_i r hr;simp only [hr]at he;exact JE hT hr he.l (yF hT he.r h)
   ·exact h
  ·exact h
end
def QY:Bt->S
 | .code _ _ s=>s
 | .ops _ _ _ tm σ nx _ _=>⟨tm,σ,nx⟩
 | .done _ _ s=>s
def Rd:Bt->List (List Nat×List Nat)
 | .ops _ _ _ _ _ _ ks _=>ks
 |_=>[]
def QX:Bt->Option (List Oper×Nat×List Oper)
 | .ops ol _ rest _ _ nx _ _=>some (ol,nx,rest)
 |_=>none
def tl:Nat->Code->Code
 |0,c=>c
 |j+1,.seq _ y=>tl j y
 |_+1,c=>c
section
variable {P:Program}{N:Nat}{C:Cx P N}{T:List TI}{Q:Exit->S->Prop}{c:Code}{tm:Nat->V}{σ:Nat->Option Ob}{nx:Nat}
theorem aY(hT:aN T P)(n:Nat)(l:List (Nat×It P)){ol os:List Oper}{ks:List (List Nat×List Nat)}{K:(Nat->V)->(Nat->Option Ob)->List (List Nat×List Nat)->Prop} (hk:bC C ol.toArray nx (os.drop n) (QY (Lz ⟨T,N,[],0,false⟩ n l (.ops ol false os tm σ nx ks []))).tm (QY (Lz ⟨T,N,[],0,false⟩ n l (.ops ol false os tm σ nx ks []))).σ (Rd (Lz ⟨T,N,[],0,false⟩ n l (.ops ol false os tm σ nx ks []))) K) (he:(OI ⟨T,N,[],0,false⟩ n l (.ops ol false os tm σ nx ks [])).map Prod.fst=(OI ⟨T,N,[],0,false⟩ n l (.ops ol false os tm σ nx ks [])).map Prod.snd:=by kernel_rfl) (hc:QX (Lz ⟨T,N,[],0,false⟩ n l (.ops ol false os tm σ nx ks []))=some (ol,nx,os.drop n):=by kernel_rfl):bC C ol.toArray nx os tm σ ks K:=by
 refine yF (C:=C) (KK:=fun _ _ _ _=>K) (R:=fun _=>False) (g:= .ops ol false os tm σ nx ks []) hT (vX he) ?_;revert hc hk;generalize Lz _ _ _ _=g;intro hk hc;unfold QX at hc;split at hc;·injection hc with hc;injection hc with h1 h2;injection h2 with h2 h3;subst h1 h2 h3;exact hk
 ·cases hc
end
abbrev iR(x:Int):Prop:= -9223372036854775808<=x/\x<=9223372036854775807
theorem oS{σ:Nat->Option Ob}{k:Nat}{o:Ob}{f:Nat->Nat}(h:σ k=some (o.bB f):=by kernel_rfl):∃ob,σ k=some ob/\fy ob (o.bB f):=by
 refine⟨_,h,?_⟩;cases o with
 |box t cs=>exact⟨rfl,rfl⟩
 |row e sz n row=>exact⟨rfl,rfl,rfl,fun _ _=>rfl⟩
 |mp s f=>exact⟨rfl,fun _=>rfl⟩
inductive Bz(n:Nat):List Ob->Prop
  |nil:Bz n []
  |b {t:TypeId}{cs:List V}{l:List Ob}(k:Bz n l) (h:V.cQ n cs=true):Bz n (.box t cs::l)
  |r {e sz m:Nat}{f:Nat->List V}{l:List Ob}(k:Bz n l) (h:∀i,i< m->V.cQ n (f i)=true):Bz n (.row e sz m f::l)
  |m {s:Bool×Nat}{f:MF}{l:List Ob}(k:Bz n l) (h:∀k u,f.look k=some u->V.ki n u=true):Bz n (.mp s f::l)
theorem iB{n:Nat}{t:TypeId}{cs:List V}{l:List Ob}(k:Bz n l)(h:V.cQ n cs=true:=by kernel_rfl):Bz n (.box t cs::l):= .b k h
theorem iW{n:Nat}{e sz m:Nat}{f:Nat->List V}{l:List Ob}(k:Bz n l)(h:∀i,i< m->V.cQ n (f i)=true:=by exact fun _ _=>rfl):Bz n (.row e sz m f::l):= .r k h
theorem Bz.ok{g:Nat->Nat}{n:Nat}:∀ {l:List Ob},Bz n l->fC g n l (l.map (Ob.bB g))
 |_,.nil=> .nil
 |_,.b k h=> .box rfl h k.ok
 |_,.r k h=> .row rfl (fun _ _=>rfl) h k.ok
 |_,.m k h=> .mp (fun _=>rfl) h k.ok
section
variable {P:Program}{N:Nat}{C:Cx P N}{nx:Nat}{ops:Array Oper}{os:List Oper}{tm:Nat->V}{σ:Nat->Option Ob}{ks:List (List Nat×List Nat)}{K:(Nat->V)->(Nat->Option Ob)->List (List Nat×List Nat)->Prop}{ty:TypeId}{pos:String}{af:Array Edge}
theorem eM{d:Nat}{fo:Operand}{ar:Array Operand}{ats:Array TypeId}{f:FuncId}{args:List V}{ins:List Ob}{v:V}{outs:List (Option Ob)}{obs:List Ob}(ns:List Nat)(hc:AM P f args ins v outs obs)(hi:Bz ins.length ins)
 (hk:bC C ops nx os (bO tm d (v.bB (aK nx (some d) ns))) (bI σ (gO (aK nx (some d) ns) ns outs++cn (aK nx (some d) ns) 0 obs)) (ks++[(bk (gO (aK nx (some d) ns) ns outs++cn (aK nx (some d) ns) 0 obs),eF (jm ns (ins.map (Ob.bB (aK nx (some d) ns))))++bk (gO (aK nx (some d) ns) ns outs++cn (aK nx (some d) ns) 0 obs))]) K)
 (hf:ev tm fo= .fn (.func f) [] []:=by kernel_rfl) (hargs:[]++ar.toList.map (ev tm)++[]=V.aV (aK nx (some d) ns) args:=by kernel_rfl) (hin:V.cQ ins.length args=true:=by kernel_rfl) (hd:decide (d< 1000)=true:=by kernel_rfl) (hobs:decide (obs.length<=90)=true:=by kernel_rfl) (hns:decide ns.Nodup=true:=by kernel_rfl) (hnl:ns.length=ins.length:=by rfl) (hol:outs.length=ins.length:=by rfl)
 (hσ:sP σ ns=(ins.map (Ob.bB (aK nx (some d) ns))).map some:=by kernel_rfl):bC C ops nx (⟨some d,.call {callee:= .value fo,args:=ar,argTypes:=ats},ty,pos,af,none⟩::os) tm σ ks K:=
 dY ns hc hf hargs hin hd hobs hns hnl hol hσ hi.ok rfl rfl rfl hk
end
end Go.Ab

namespace Go.Dw
open Go.RowKit Go.Shelf
structure mG(U:Nat->Prop)(B:Nat)(w w':World):Prop where
  os:w'.os=w.os
  tape:w'.tape=w.tape
  output:w'.output=w.output
  size:w.heap.size<=w'.heap.size
  block:∀k,k< B->¬U k->w'.heap[k]?=w.heap[k]?
theorem mG.of{U:Nat->Prop}{B:Nat}{w w':World}(h:Below B w w'):mG U B w w':=⟨h.os,h.tape,h.output,h.size,fun k hk _=>h.block k hk⟩
theorem mG.no{U:Nat->Prop}{B:Nat}{w w':World}(h:mG U B w w')(hU:∀k,¬U k):Below B w w':=⟨h.os,h.tape,h.output,h.size,fun k hk=>h.block k hk (hU k)⟩
theorem mG.mono{U:Nat->Prop}{B B':Nat}{w w':World}(h:mG U B w w')(hB:B'<=B):mG U B' w w':=⟨h.os,h.tape,h.output,h.size,fun k hk=>h.block k oM⟩
theorem aS.De{R U:Nat->Prop}{B:Nat}{w w':World}(h:aS R w w')(hB:B<=w.heap.size)(hR:∀k,k< B->R k->U k):mG U B w w':=⟨h.os,h.tape,h.output,h.size,fun k hk hU=>h.block k oM fun hr=>hU (hR k hk hr)⟩
theorem aS.GB{R U:Nat->Prop}{B:Nat}{w w' w'':World}(h:aS R w w')(k:mG U B w' w'')(hB:w.heap.size<=B)(hU:∀i,U i->R i):aS R w w'':= ⟨k.os.trans h.os,k.tape.trans h.tape,k.output.trans h.output,Nat.le_trans h.size k.size,fun i hi hr=>(k.block i oM fun hu=>hr (hU i hu)).trans (h.block i hi hr)⟩
def EH(P:Program)(f:FuncId)(lb:Array Value)(n:Nat)(E:Nat->Nat->Array Value->World->Prop)(R U:Nat->Prop)(w:World):Prop:=
  ∀(l:Nat) (J Jx:Nat->World->Prop) (W:World),aS R w W->w.heap.size<=l->l< W.heap.size->
    (∀k W1 W2,J k W1->mG U W.heap.size W1 W2->J k W2)->(∀k W1 W2,Jx k W1->mG U W.heap.size W1 W2->Jx k W2)->
    (∀k x W1,k< n->E l k x W1->W.heap.size<=W1.heap.size->J k W1->YieldAt Fence.wide 0 P l x W1 fun e W2=>∃b:Bool,e= .returned (.bool b)/\aS (fun i=>R i\/i=l) W1 W2/\(b=true->J (k+1) W2)/\(b=false->Jx k W2))->
    J 0 W->
    CallsIn Fence.wide 0 P f (#[.func (.yield l) #[] #[]]++lb) W fun e W'=>(∃v,e= .returned v)/\(J n W'\/∃k,k< n/\Jx k W')
def N0(P:Program)(f:FuncId)(lb:Array Value)(n:Nat)(E:Nat->Nat->Array Value->World->Prop)(R:Nat->Prop)(w:World):Prop:=
  ∀(l:Nat) (J Jx:Nat->World->Prop) (W:World),aS R w W->w.heap.size<=l->l< W.heap.size->
    (∀k W1 W2,J k W1->Below W.heap.size W1 W2->J k W2)->(∀k W1 W2,Jx k W1->Below W.heap.size W1 W2->Jx k W2)->
    (∀k x W1,k< n->E l k x W1->W.heap.size<=W1.heap.size->J k W1->YieldAt Fence.wide 0 P l x W1 fun e W2=>∃b:Bool,e= .returned (.bool b)/\aS (fun i=>R i\/i=l) W1 W2/\(b=true->J (k+1) W2)/\(b=false->Jx k W2))->
    J 0 W->
    CallsIn Fence.wide 0 P f (#[.func (.yield l) #[] #[]]++lb) W fun e W'=>(∃v,e= .returned v)/\(J n W'\/∃k,k< n/\Jx k W')
theorem Bj{P:Program}{g:Operand}{ps:Array Tmp}{assign body:Code}{Q:Exit->Act->World->Prop}{a:Act}{w:World} {gf:Nat}{lb:Array Value}(hg:a.eval g= .func (.func gf) #[] lb) (eg:∀args w,(callFunc gf args).run P w= .ok (.enter gf args) w) {n:Nat}{E:Nat->Nat->Array Value->World->Prop}{R U:Nat->Prop}(hit:EH P gf lb n E R U w) (hR:∀i,R i->i< w.heap.size) (hU:∀i,U i->i< w.heap.size) (hps:∀l k x W,E l k x W->x.size=ps.size) (J:Nat->World->Prop) (Jx:Nat->Code->World->Prop) (hJ:∀k W1 W2,J k W1->mG U w.heap.size W1 W2->J k W2) (hJx:∀k c W1 W2,Jx k c W1->mG U w.heap.size W1 W2->Jx k c W2) (h0:J 0 w) (hround:∀(l k:Nat) (x:Array Value) (W:World),w.heap.size<=l->l< W.heap.size->k< n->E l k x W->J k W-> assign.wpIn (Fence.wide.inRound l) 0 P (Exit.then (fun a₁ W1=>aS R W W1/\∀W2,aS (· =l) W1 W2->body.wpIn (Fence.wide.inRound l) 0 P (yW (fun i=>R i\/W.heap.size<=i) J Jx k W2) a₁ W2) (fun _ _ _=>False)) {tmps:=(ps.zip x).foldl (fun t (p,v)=>t.setIfInBounds p v) a.tmps,defers:=[]} W) (hdone:∀(D:Nat) (W:World),J n W->w.heap.size<=D->W.heap[D]?=some (.deferred (some []))->Q .normal {a with defers:={target:= .collected D,args:= #[]}::a.defers} W) (hstop:∀(D k:Nat) (c:Code) (W:World),k< n->Jx k c W->w.heap.size<=D->W.heap[D]?=some (.deferred (some []))->c.wpIn Fence.wide 0 P Q {a with defers:={target:= .collected D,args:= #[]}::a.defers} W) : (Code.rangeFunc g ps assign body).wpIn Fence.wide 0 P Q a w:=by
 refine wpIn_rangeFunc ?_;intro fn hfn;obtain⟨rec,hrec⟩:∃rec:LoopState->Option Code->Loop,rec=fun st pe=>{state:=st,pending:=pe,fn,tmps:=a.tmps,params:=ps,assign,body,defers:=w.heap.size}:=⟨_,rfl⟩;obtain⟨W1,hW1⟩:∃W1,(w.alloc (.deferred (some []))).alloc (.loop (rec .ready none))=W1:=⟨_,rfl⟩;have hL1:W1.heap[w.heap.size+1]?=some (.loop (rec .ready none)):=by rw [<-hW1];have:=World.alloc_heap_new (w.alloc (.deferred (some []))) (.loop (rec .ready none));rwa [World.size_alloc]at this
 have hK1:W1.heap[w.heap.size]?=some (.deferred (some [])):=by rw [<-hW1];exact(Below.heap_alloc _ _ _ (by simp)).trans (World.alloc_heap_new w _)
 have hs1:W1.heap.size=w.heap.size+2:=by rw [<-hW1];simp
 have hb1:Below w.heap.size w W1:=by rw [<-hW1];exact((Below.refl _ w).alloc (Nat.le_refl _) _).alloc (by simp) _
 refine⟨w.heap.size+1,[{target:= .collected w.heap.size,args:= #[]}],W1,{target:= .fn (.func gf) lb,args:= #[.func (.yield (w.heap.size+1)) #[] #[]]},W1,gf,#[.func (.yield (w.heap.size+1)) #[] #[]]++lb,W1,?_,?_,fun _ _=>trivial,?_,fun h=>by simp [Fence.wide]at h,?_⟩;·rw [<-hW1,hrec];exact run_enterLoop_outer _ _ _ _ _
 ·simp only [resolve,hg];simp [go_sem]
 ·simp [invoke,go_sem,eg]
 ·refine(hit (w.heap.size+1)
   (fun k W=>J k W/\W.heap[w.heap.size+1]?=some (.loop (rec .ready none))/\W.heap[w.heap.size]?=some (.deferred (some [])))
   (fun k W=>∃c,Jx k c W/\W.heap[w.heap.size+1]?=some (.loop (rec .done (some c)))/\W.heap[w.heap.size]?=some (.deferred (some [])))
   W1 (aS.jk hb1) oM oM
   (fun k A B hs hb=>⟨hJ k A B hs.1 (hb.mono oM),(hb.block _ oM fun h=>by have:=hU _ h;omega).trans hs.2.1,(hb.block _ oM fun h=>by have:=hU _ h;omega).trans hs.2.2⟩)
   (fun k A B hs hb=>by obtain⟨c,hc,hl,hk⟩:=hs;exact⟨c,hJx k c A B hc (hb.mono oM),(hb.block _ oM fun h=>by have:=hU _ h;omega).trans hl,(hb.block _ oM fun h=>by have:=hU _ h;omega).trans hk⟩)
   ?_ ⟨hJ 0 w W1 h0 (.of hb1),hL1,hK1⟩).mono ?_
  ·rintro k x W hkn hx hsz ⟨hi,hl,hk⟩;have hlt:w.heap.size+1< W.heap.size:=(Array.getElem?_eq_some_iff.1 hl).1;have hy:=run_yield (P:=P) (args:=x) hl (by rw [hrec];exact hps _ k x _ hx);rw [hrec]at hy;have hnR1:¬R (w.heap.size+1):=fun e=>by have:=hR _ e;omega
   have hnR0:¬R w.heap.size:=fun e=>by have:=hR _ e;omega
   refine⟨fn,_,assign,body,hy,roundIn_of_wpIn hfn (wpIn_mono (hround (w.heap.size+1) k x W oM hlt hkn hx hi) ?_)⟩;rintro e a3 W3 hp;cases e with
   |normal=>
    obtain⟨ht3,hbody⟩:=hp;have hl3:W3.heap[w.heap.size+1]?=some (.loop (rec .ready none)):=(ht3.block _ hlt hnR1).trans hl;have hk3:W3.heap[w.heap.size]?=some (.deferred (some [])):=(ht3.block _ oM hnR0).trans hk;have hlt3:w.heap.size+1< W3.heap.size:=(Array.getElem?_eq_some_iff.1 hl3).1;refine⟨_,run_beginRound hl3 (by rw [hrec]),?_⟩;obtain⟨W4,hW4⟩:∃W4,W3.putObj (w.heap.size+1) (.loop {rec .ready none with state:= .busy})=W4:=⟨_,rfl⟩;have ht4:aS (· =w.heap.size+1) W3 W4:=by rw [<-hW4];exact(aS.refl _ _).putObj _ fun _=>rfl
    have hl4:W4.heap[w.heap.size+1]?=some (.loop {rec .ready none with state:= .busy}):=by rw [<-hW4];exact World.putObj_heap_same hlt3
    have hk4:W4.heap[w.heap.size]?=some (.deferred (some [])):=(ht4.block _ oM oM).trans hk3;rw [hW4];refine wpIn_mono (hbody W4 ht4) ?_;have hsz4:W4.heap.size=W3.heap.size:=by rw [<-hW4];simp
    have fin:∀(jump:Option Code) (W5:World),aS (fun i=>R i\/W.heap.size<=i) W4 W5->
     (Instr.endRound (w.heap.size+1) jump).run P W5= .ok (.bool jump.isNone) (W5.putObj (w.heap.size+1) (.loop (rec (if jump.isNone then .ready else .done) jump)))/\
     (W5.putObj (w.heap.size+1) (.loop (rec (if jump.isNone then .ready else .done) jump))).heap[w.heap.size+1]?=some (.loop (rec (if jump.isNone then .ready else .done) jump))/\
     (W5.putObj (w.heap.size+1) (.loop (rec (if jump.isNone then .ready else .done) jump))).heap[w.heap.size]?=some (.deferred (some []))/\
     aS (fun i=>R i\/i=w.heap.size+1) W (W5.putObj (w.heap.size+1) (.loop (rec (if jump.isNone then .ready else .done) jump))):=fun jump W5 ht5=>by
     have hl5:=(ht5.block _ (Array.getElem?_eq_some_iff.1 hl4).1 (by rintro(e |e);exact hnR1 e;omega)).trans hl4
     have hr:=run_endRound (P:=P) jump hl5
     rw [hrec]at hr ⊢
     refine⟨hr,World.putObj_heap_same (Array.getElem?_eq_some_iff.1 hl5).1,(World.putObj_heap_other oM).trans ((ht5.block _ oM (by rintro(e |e);exact hnR0 e;omega)).trans hk4),?_⟩
     refine aS.mono (R:=fun i=>(R i\/W.heap.size<=i)\/i=w.heap.size+1) (((((ht3.mono fun k _ h=>Or.inl (Or.inl h)).trans (ht4.mono fun k _ h=>Or.inr h)).trans (ht5.mono fun k _ h=>Or.inl h)).putObj _ fun _=>Or.inr rfl)) fun k hk h=> ?_
     rcases h with(h |h) |h
     ·exact .inl h
     ·omega
     ·exact .inr h
    rintro e a5 W5 hp;cases e with
    |normal=>obtain⟨ht5,hi5⟩:=hp;obtain⟨hr,hl6,hk6,ht6⟩:=fin none W5 ht5;exact⟨_,_,hr,_,rfl,ht6,fun _=>⟨hJ _ _ _ hi5 (.of (bW _ _ oM)),hl6,hk6⟩,fun h=>by simp at h⟩
    |ret=>obtain⟨ht5,hi5⟩:=hp;obtain⟨hr,hl6,hk6,ht6⟩:=fin (some .ret) W5 ht5;exact⟨_,_,hr,_,rfl,ht6,fun h=>by simp at h,fun _=>⟨.ret,hJx _ _ _ _ hi5 (.of (bW _ _ oM)),hl6,hk6⟩⟩
    |exit id=>obtain⟨ht5,hi5⟩:=hp;obtain⟨hr,hl6,hk6,ht6⟩:=fin (some (.exit id)) W5 ht5;exact⟨_,_,hr,_,rfl,ht6,fun h=>by simp at h,fun _=>⟨.exit id,hJx _ _ _ _ hi5 (.of (bW _ _ oM)),hl6,hk6⟩⟩
    |goto t=>obtain⟨ht5,hi5⟩:=hp;obtain⟨hr,hl6,hk6,ht6⟩:=fin (some (.goto t)) W5 ht5;exact⟨_,_,hr,_,rfl,ht6,fun h=>by simp at h,fun _=>⟨.goto t,hJx _ _ _ _ hi5 (.of (bW _ _ oM)),hl6,hk6⟩⟩
    |panic ch=>exact hp.elim
    |outgrown=>exact hp.elim
   |ret=>exact hp.elim
   |exit id=>exact hp.elim
   |goto t=>exact hp.elim
   |panic ch=>exact hp.elim
   |outgrown=>exact hp.elim
  ·rintro e W2 ⟨⟨v,rfl⟩,(⟨hi,hl,hk⟩ | ⟨k,hk',c,hi,hl,hk⟩)⟩;·exact⟨none,_,by have:=run_endLoop (P:=P) hl (by rw [hrec];simp);rw [hrec]at this;exact this,hdone _ _ (hJ _ _ _ hi (.of (bW _ _ oM))) (Nat.le_refl _) ((World.putObj_heap_other oM).trans hk)⟩
   ·exact⟨some c,_,by have:=run_endLoop (P:=P) hl (by rw [hrec];simp);rw [hrec]at this;exact this,hstop _ k c _ hk' (hJx _ _ _ _ hi (.of (bW _ _ oM))) (Nat.le_refl _) ((World.putObj_heap_other oM).trans hk)⟩
end Go.Dw
namespace Go.Ab
open Go.RowKit Go.Dw Go.Shelf
def PA(es:List (List V))(L:Nat->Prop)(w:World)(l k:Nat)(x:Array Value)(W:World):Prop:= ∃v,es[k]?=some v/\∃L1:Nat->Prop,(∀b,L1 b->L b\/(w.heap.size<=b/\b< W.heap.size/\b≠l))/\RV W L1 ρ0 v x.toList
def LU(P:Program)(gf:FuncId)(caps:List V)(es:List (List V)):Prop:=
 (∀(args:Array Value) (w:World),(callFunc gf args).run P w= .ok (.enter gf args) w)/\
 ∀(L:Nat->Prop) (w:World) (lb:Array Value),(∀b,L b->b< w.heap.size)->(∀g,R w L ρ0 (jx g) (qP g))->RV w L ρ0 caps lb.toList->∀R:Nat->Prop,(∀b,R b->b< w.heap.size/\¬L b)->N0 P gf lb es.length (PA es L w) R w
def w6(P:Program)(gf:FuncId)(caps:List V)(ins:List Ob)(es:List (List V)):Prop:=
  (∀(args:Array Value) (w:World),(callFunc gf args).run P w= .ok (.enter gf args) w)/\
  ∀(L U:Nat->Prop) (w:World) (ρ:Nat->Option Value) (lb:Array Value),(∀b,L b->b< w.heap.size)->(∀b,U b->b< w.heap.size/\¬L b)->(∀g,R w L ρ0 (jx g) (qP g))->
    (∀i o,ins[i]?=some o->Real U w L ρ (500+i) o)->(∀i j x y k,i≠j->ρ i=some x->ρ j=some y->blk x=some k->blk y≠some k)->(∀id,(id< 500\/500+ins.length<=id)->ρ id=none)->RV w L ρ caps lb.toList->
    ∀R:Nat->Prop,(∀b,R b->b< w.heap.size/\¬L b/\¬U b)->EH P gf lb es.length (PA es (fun b=>L b\/U b) w) R U w
theorem pH:∀ {l:List Nat}{i j:Nat},l.Nodup->i< l.length->l[i]?=l[j]?->i=j
 | [],i,j,_,h,_=>by simp at h
 |a::l,0,0,_,_,_=>rfl
 |a::l,0,j+1,hd,_,he=>by rw [List.getElem?_cons_zero,List.getElem?_cons_succ]at he;exact absurd (List.mem_of_getElem? he.symm) (List.nodup_cons.1 hd).1
 |a::l,i+1,0,hd,_,he=>by rw [List.getElem?_cons_zero,List.getElem?_cons_succ]at he;exact absurd (List.mem_of_getElem? he) (List.nodup_cons.1 hd).1
 |a::l,i+1,j+1,hd,h,he=>by rw [List.getElem?_cons_succ,List.getElem?_cons_succ]at he;have:=pH (List.nodup_cons.1 hd).2 (by simpa using h) he;omega
def DI:Ob->Bool
 | .box _ cs=>V.bp cs
 |_=>false
def oa(ns:List Nat)(i:Nat):Nat:=if 500<=i then ns.getD (i- 500) i else i
theorem LU.u{P:Program}{gf:FuncId}{caps:List V}{es:List (List V)}(h:LU P gf caps es):w6 P gf caps [] es:=by refine⟨h.1,fun L U w ρ lb hL hU hg _ _ hρ hv R hR=> ?_⟩;have e:ρ=ρ0:=funext fun id=>hρ id (by simp only [List.length_nil];omega);subst e;have:=h.2 L w lb hL hg hv R fun b hb=>⟨(hR b hb).1,(hR b hb).2.1⟩;exact fun l J Jx W hT hl hlW hJ hJx hY h0=>this l J Jx W hT hl hlW (fun k W1 W2 hj hb=>hJ k W1 W2 hj (.of hb)) (fun k W1 W2 hj hb=>hJx k W1 W2 hj (.of hb)) (fun k x W1 hk hE=>hY k x W1 hk (by obtain⟨v,hv,L1,h1,h2⟩:=hE;exact⟨v,hv,L1,fun b hb=>(h1 b hb).imp .inl id,h2⟩)) h0
theorem zc{P:Program}{N:Nat}{C:Cx P N}{Q:Exit->S->Prop}{tm:Nat->V}{σ:Nat->Option Ob}{nx:Nat}{g:Operand}{ps:Array Tmp}{assign body:Code}{gf:FuncId}{caps:List V}{ins:List Ob}{es:List (List V)}(ns:List Nat)
    (hF:C.F=Fence.wide) (hd:C.dfs=oB) (it:w6 P gf caps ins es) (hg:ev tm g= .fn (.func gf) [] (V.aV (oa ns) caps)) (hidf:V.cQ ins.length caps=true) (hns:ns.length=ins.length) (hnd:ns.Nodup) (hins:∀(i k:Nat) (o:Ob),ns[i]?=some k->ins[i]?=some o->σ k=some o/\DI o=true) (hlen:∀x∈es,x.length=ps.size) (hps:ps.toList.all (fun p=>decide (p< N))=true)
    (pn:List Nat) (gl:List (Nat×Nat)) (tl:List (Nat×V)) (ok:Nat->Prop) (sl:Nat->List Ob) (X:Nat->Code->List Ob->Prop) (hok0:ok 0)
    (hpn:pn.all (fun p=>decide (500<=p/\p< 1000))=true) (hl0:(sl 0).length=pn.length) (hid:gl.all (fun p=>decide (p.1< 1000))=true)
    (htm:lK (fun p=>tm p.1=p.2.bB (aH gl nx)) tl) (hσ:lK (fun p=>∃ob,σ (aH gl nx p.1)=some ob/\fy ob (p.2.bB (aH gl nx))) (pn.zip (sl 0)))
    (hinj:decide (((pn.zip (sl 0)).map fun p=>aH gl nx p.1).Nodup)=true) (hdis:∀p∈pn.zip (sl 0),aH gl nx p.1∉ns)
    (hfl:∀k,∀o∈sl k,o.cg pn) (hfx:∀k c sx,X k c sx->∀o∈sx,o.cg pn)
    (round:∀C':Cx P N,(∃l,C'.F=Fence.wide.inRound l)->∀k x,es[k]?=some x->ok k->AW C' assign (dS (fun s'=>AW C' body (mg pn ok sl X k) s') (fun _ _=>False)) ⟨mb (gJ tl) ps.toList x,cO (pn.zip (sl k)),1⟩)
    (hdone:ok es.length->Q .normal ⟨gJ tl,cO (pn.zip (sl es.length)),1⟩)
    (hstop:∀k c sx,k< es.length->X k c sx->AW C c Q ⟨gJ tl,cO (pn.zip sx),1⟩):AW C (.rangeFunc g ps assign body) Q ⟨tm,σ,nx⟩:=by
  intro a w ⟨L,ρ',g00⟩
  have g0:=qK.bB (s:=⟨tm,σ,nx⟩) tl (pn.zip (sl 0)) gl htm.mem hσ.mem (of_decide_eq_true hinj) (by simpa using hid) (fun p _=>by rw [hd];rfl) g00
  have hfn:=g00.tm.eval g00.g.gl g
  generalize hρe:(fun i=>ρ' (aH gl nx i))=ρ at g0
  have hρi:∀i,ρ i=ρ' (aH gl nx i):=fun i=>by rw [<-hρe]
  clear hρe
  rw [hg]at hfn
  obtain⟨xs',lb,eg,hxs,hlb⟩:=hfn.jP
  have hxs0:xs'= #[]:=by have:=hxs.1;simpa using this.symm
  subst hxs0
  have hpn':∀p∈pn,500<=p/\p< 1000:=by simpa using hpn
  have hps':∀p∈ps.toList,p< N:=fun p hp=>of_decide_eq_true (List.all_eq_true.1 hps p hp)
  obtain⟨Ds,dd1,dd2,dd3⟩:=g0.defers
  obtain⟨it1,it2⟩:=it
  have hobU:∀i,i< ins.length->∃t cs b xs,ins[i]?=some (.box t cs)/\V.bp cs=true/\ns[i]?=some (oa ns (500+i))/\σ (oa ns (500+i))=some (.box t cs)/\ρ' (oa ns (500+i))=some (.pointer (some ⟨b,0,none⟩))/\C.W b/\¬L b/\w.heap[b]?=some (.cells xs t (0,0))/\RL w L ρ' cs xs.toList:=by
    intro i hi
    have h1:ins[i]?=some ins[i]:=List.getElem?_eq_getElem hi
    have h2:ns[i]?=some ns[i]:=List.getElem?_eq_getElem oM
    have h3:oa ns (500+i)=ns[i]:=by
      unfold oa
      rw [if_pos oM,Nat.add_sub_cancel_left,List.getD_eq_getElem?_getD,h2];rfl
    obtain⟨h4,h5⟩:=hins i _ _ h2 h1
    rw [h3]
    cases ho:ins[i]with
    |box t cs=>
      rw [ho]at h1 h4 h5
      obtain⟨b,xs,q1,q2,q3,q4,q5⟩:=g00.g.ob _ _ h4
      exact⟨t,cs,b,xs,h1,h5,h2,h4,q1,q2,q3,q4,q5⟩
    |row e sz n f=>rw [ho]at h5;cases h5
    |mp str f=>rw [ho]at h5;cases h5
  obtain⟨U,hUi⟩:∃U:Nat->Prop,∀b,U b<->∃i,i< ins.length/\ρ' (oa ns (500+i))=some (.pointer (some ⟨b,0,none⟩)):=⟨_,fun _=>Iff.rfl⟩
  have hUw:∀b,U b->b< w.heap.size/\C.W b/\¬L b/\b∉Ds:=by
    intro b hb
    obtain⟨i,hi,hx⟩:=(hUi b).1 hb
    obtain⟨t,cs,b',xs,_,_,_,h4,q1,q2,q3,q4,q5⟩:=hobU i hi
    rw [hx]at q1
    simp only [Option.some.injEq,Value.pointer.injEq,Addr.mk.injEq,and_true]at q1
    subst q1
    exact⟨(Array.getElem?_eq_some_iff.1 q4).1,q2,q3,fun hD=>(g00.g.ob _ _ h4).eH hx rfl (dd3 b hD).1⟩
  obtain⟨ρu,hρu⟩:∃ρu:Nat->Option Value,∀id,ρu id=if 500<=id/\id< 500+ins.length then ρ' (oa ns id)else none:=⟨_,fun _=>rfl⟩
  have hρuS:∀id x,ρu id=some x->500<=id/\id< 500+ins.length/\ρ' (oa ns id)=some x:=by
    intro id x hx
    rw [hρu]at hx
    split at hx
    · rename_i h;exact⟨h.1,h.2,hx⟩
    · cases hx
  have hnm:∀i j,i< ins.length->j< ins.length->oa ns (500+i)=oa ns (500+j)->i=j:=by
    intro i j hi hj he
    obtain⟨_,_,_,_,_,_,h1,_⟩:=hobU i hi
    obtain⟨_,_,_,_,_,_,h2,_⟩:=hobU j hj
    rw [<-he]at h2
    exact pH hnd oM (h1.trans h2.symm)
  have hit:=it2 L U w ρu lb (fun b hb=>(g0.g.ll b hb).1) (fun b hb=>⟨(hUw b hb).1,(hUw b hb).2.2.1⟩) g0.g.gl (fun i o ho=>by
      have hi:=(List.getElem?_eq_some_iff.1 ho).1
      obtain⟨t,cs,b,xs,h1,h2,_,_,q1,q2,q3,q4,q5⟩:=hobU i hi
      rw [ho]at h1;injection h1 with h1;subst h1
      exact⟨b,xs,by rw [hρu,if_pos ⟨by omega,by omega⟩];exact q1,(hUi b).2 ⟨i,hi,q1⟩,q3,q4,q5.free h2⟩)
    (fun i j x y k hij hx hy=>by
      obtain⟨a1,a2,a3⟩:=hρuS i x hx
      obtain⟨b1,b2,b3⟩:=hρuS j y hy
      obtain⟨i',rfl⟩:∃i',i=500+i':=⟨i- 500,by omega⟩
      obtain⟨j',rfl⟩:∃j',j=500+j':=⟨j- 500,by omega⟩
      obtain⟨_,_,_,_,_,_,_,e1,_⟩:=hobU i' oM
      obtain⟨_,_,_,_,_,_,_,e2,_⟩:=hobU j' oM
      exact g00.g.sep _ _ x y k (fun he=>hij (by rw [hnm i' j' oM oM he])) (by simp only at e1 ⊢;rw [e1];simp) (by simp only at e2 ⊢;rw [e2];simp) a3 b3)
    (fun id hid=>by rw [hρu,if_neg oM]) ((zw (oa ns) hlb).uc hidf fun id v h1 h2 hv=>by rw [hρu,if_pos ⟨h1,h2⟩];exact hv)
  obtain⟨R,hR⟩:∃R:Nat->Prop,R=fun b=>b< w.heap.size/\C.W b/\¬L b/\b∉Ds/\¬U b:=⟨_,rfl⟩
  have hRi:∀b,R b<->b< w.heap.size/\C.W b/\¬L b/\b∉Ds/\¬U b:=fun b=>by rw [hR]
  obtain⟨R2,hR2⟩:∃R2:Nat->Prop,∀b,R2 b<->R b\/U b:=⟨_,fun _=>Iff.rfl⟩
  have hR2w:∀b,R2 b->b< w.heap.size/\C.W b/\¬L b/\b∉Ds:=fun b hb=>by
    rcases(hR2 b).1 hb with h |h
    · have:=(hRi b).1 h;exact⟨this.1,this.2.1,this.2.2.1,this.2.2.2.1⟩
    · exact hUw b h
  have hxlen:∀l k x W,PA es (fun b=>L b\/U b) w l k x W->x.size=ps.size:=by
    rintro l k x W ⟨v,hv,L1,_,h1⟩
    have:=h1.1
    rw [hlen v (List.mem_of_getElem? hv)]at this
    simpa using this.symm
  -- the objects' values stand for good
  have hblk:∀id,id∈pn->∃x,ρ id=some x/\∀k,blk x=some k->R k:=by
    intro id hi
    cases ho:cO (pn.zip (sl 0)) id with
    |none=>exact absurd ho (jV hl0 hi)
    |some o=>
      have hr:=g0.g.ob id o ho
      obtain⟨x,hx,hx2⟩:=hr.lt
      refine⟨x,hx,fun k hk=>(hRi k).2 ⟨(hx2 k hk).1,(hx2 k hk).2.1,(hx2 k hk).2.2,fun hD=>hr.eH hx hk (dd3 k hD).1,fun hU=> ?_⟩⟩
      obtain⟨i,hi',hxu⟩:=(hUi k).1 hU
      obtain⟨_,_,_,_,_,_,h3,h4,_⟩:=hobU i hi'
      obtain⟨j,hj,hjid⟩:=List.getElem_of_mem hi
      have hz:(id,(sl 0)[j]'oM)∈pn.zip (sl 0):=by
        rw [<-hjid]
        refine List.mem_of_getElem? (i:=j) ?_
        rw [List.getElem?_zip_eq_some]
        exact⟨List.getElem?_eq_getElem hj,List.getElem?_eq_getElem oM⟩
      obtain⟨ob,hob,_⟩:=hσ.mem _ hz
      have hne:=hdis _ hz
      simp only at hob hne
      rw [hρi]at hx
      exact g00.g.sep (aH gl nx id) (oa ns (500+i)) x _ k (fun he=>hne (by rw [he];exact List.mem_of_getElem? h3)) (by simp only;rw [hob];simp) (by simp only at h4 ⊢;rw [h4];simp) hx hxu hk rfl
  have hsep:∀i j x y k,i≠j->i∈pn->j∈pn->ρ i=some x->ρ j=some y->blk x=some k->blk y≠some k:=
    fun i j x y k hij hi hj=>g0.g.sep i j x y k hij (jV hl0 hi) (jV hl0 hj)
  have frame:∀ {W1:World},aS R2 w W1->∀b,L b->W1.heap[b]?=w.heap[b]?:=fun ht b hb=>ht.block b (g0.g.ll b hb).1 fun hc=>(hR2w b hc).2.2.1 hb
  have mkG:∀(W1:World) (l:List Ob) (W' L':Nat->Prop) (ρ1:Nat->Option Value) (LB':Nat->Prop),(∀o∈l,o.cg pn)->aS R2 w W1->G W' LB' (cO (pn.zip l)) W1 L' ρ1->(∀id,id∈pn->ρ1 id=ρ id)->G C.W C.LB (cO (pn.zip l)) W1 L ρ:=by
    intro W1 l W' L' ρ1 LB' hf ht hG hp
    refine⟨fun b hb=>⟨Nat.lt_of_lt_of_le (g0.g.ll b hb).1 ht.size,(g0.g.ll b hb).2⟩,fun b hb=>g0.g.new b (Nat.le_trans ht.size hb),fun id o ho=> ?_,fun i j x y k hij hi hj=>hsep i j x y k hij (fm hi) (fm hj),g0.g.NV fun b hb=>⟨hb,frame ht b hb⟩⟩
    have hi:id∈pn:=fm (by rw [ho];simp)
    refine(hG.ob id o ho).cg (hf o (mV ho)) (fun j hj v hv=>by rw [<-hp j hj];exact hv) (hp id hi).symm fun x k hx hk=>⟨rfl,?_⟩
    obtain⟨x',hx',hb⟩:=hblk id hi
    rw [hp id hi,hx']at hx;injection hx with hx;subst hx
    exact⟨((hRi k).1 (hb k hk)).2.1,((hRi k).1 (hb k hk)).2.2.1⟩
  have keepG:∀(W1 W2:World) (l:List Ob),(∀o∈l,o.cg pn)->aS R2 w W1->mG U w.heap.size W1 W2->G C.W C.LB (cO (pn.zip l)) W1 L ρ->G C.W C.LB (cO (pn.zip l)) W2 L ρ:=by
    intro W1 W2 l hf ht hb hG
    refine⟨fun b hbl=>⟨Nat.lt_of_lt_of_le (hG.ll b hbl).1 hb.size,(hG.ll b hbl).2⟩,fun b hbl=>hG.new b (Nat.le_trans hb.size hbl),fun id o ho=> ?_,hG.sep,hG.NV fun b hbl=>⟨hbl,hb.block b (g0.g.ll b hbl).1 fun hu=>(hUw b hu).2.2.1 hbl⟩⟩
    have hi:id∈pn:=fm (by rw [ho];simp)
    refine(hG.ob id o ho).cg (hf o (mV ho)) (fun _ _ _ hv=>hv) rfl fun x k hx hk=> ?_
    obtain⟨x',hx',hb'⟩:=hblk id hi
    rw [hx']at hx;injection hx with hx;subst hx
    have:=(hRi k).1 (hb' k hk)
    exact⟨hb.block k this.1 this.2.2.2.2,this.2.1,this.2.2.1⟩
  have frD:∀ {W1:World},aS R2 w W1->∀D∈Ds,W1.heap[D]?=some (.deferred (some [])):=fun ht D hD=>
    (ht.block D (Array.getElem?_eq_some_iff.1 (dd3 D hD).1).1 fun hc=>(hR2w D hc).2.2.2 hD).trans (dd3 D hD).1
  have mkGam:∀(D:Nat) (W1:World) (l:List Ob),G C.W C.LB (cO (pn.zip l)) W1 L ρ->aS R2 w W1->w.heap.size<=D->W1.heap[D]?=some (.deferred (some []))->
      Gm C ⟨gJ tl,cO (pn.zip l),1⟩ {a with defers:={target:= .collected D,args:= #[]}::a.defers} W1:=by
    intro D W1 l hG ht hD hDl
    refine⟨L,ρ,⟨hG,g0.fr,fun t=>(g0.tm t).ext ⟨fun b hb=>⟨hb,frame ht b hb⟩,fun _ _ h=>h⟩,g0.size,⟨D::Ds,?_,List.nodup_cons.2 ⟨fun hc=> ?_,dd2⟩,fun E hE=> ?_⟩,g0.pin⟩⟩
    · simp only [marks,List.map_cons,dd1,List.cons_append]
    · have:=(Array.getElem?_eq_some_iff.1 (dd3 D hc).1).1
      omega
    · rcases List.mem_cons.1 hE with rfl |hE
      · exact⟨hDl,(g0.g.new E hD).1,fun hc=>by have:=(g0.g.ll E hc).1;omega⟩
      · exact⟨frD ht E hE,(dd3 E hE).2⟩
  rw [hF]
  refine Bj (gf:=gf) (lb:=lb) eg it1 (hit R fun b hb=>⟨((hRi b).1 hb).1,((hRi b).1 hb).2.2.1,((hRi b).1 hb).2.2.2.2⟩) (fun b hb=>((hRi b).1 hb).1) (fun b hb=>(hUw b hb).1) hxlen
    (fun k W=>(ok k/\G C.W C.LB (cO (pn.zip (sl k))) W L ρ)/\aS R2 w W) (fun k c W=>∃sx,X k c sx/\G C.W C.LB (cO (pn.zip sx)) W L ρ/\aS R2 w W)
    (fun k W1 W2 h hb=>⟨⟨h.1.1,keepG W1 W2 _ (hfl k) h.2 hb h.1.2⟩,h.2.GB hb (Nat.le_refl _) fun i hi=>(hR2 i).2 (.inr hi)⟩)
    (fun k c W1 W2 h hb=>by obtain⟨sx,h1,h2,h3⟩:=h;exact⟨sx,h1,keepG W1 W2 _ (hfx k c sx h1) h3 hb h2,h3.GB hb (Nat.le_refl _) fun i hi=>(hR2 i).2 (.inr hi)⟩)
    ⟨⟨hok0,g0.g⟩,aS.refl _ _⟩ ?hround ?hdone ?hstop
  case hdone=>
    rintro D W ⟨⟨hok,hG⟩,hT⟩ hD hDl
    exact⟨_,hdone hok,mkGam D W _ hG hT hD hDl,hT.mono fun k _ h=>(hR2w k h).2.1⟩
  case hstop=>
    rintro D k c W hk ⟨sx,hX,hG,hT⟩ hD hDl
    have hst:=hstop k c sx hk hX
    unfold AW at hst
    rw [hF]at hst
    refine wpIn_mono (hst _ W (mkGam D W sx hG hT hD hDl)) ?_
    rintro e a' w' ⟨s',q,g',t⟩
    exact⟨s',q,g',(hT.mono fun k _ h=>(hR2w k h).2.1).trans t⟩
  case hround=>
    rintro l k x W hl hlW hkl ⟨v,hv,L1,hL1,hxr⟩ ⟨⟨hok,hG⟩,hT⟩
    obtain rfl:v=es[k]:=by
      have:es[k]?=some es[k]:=List.getElem?_eq_getElem hkl
      rw [hv]at this;injection this
    have e12:Ext W L1 ρ0 W (fun b=>L b\/L1 b) ρ:=⟨fun b hb=>⟨.inr hb,rfl⟩,fun _ _ h=>by cases h⟩
    have e02:∀ {u:V}{y:Value},Go.Ab.R w L ρ u y->Go.Ab.R W (fun b=>L b\/L1 b) ρ u y:=fun h=>h.ext ⟨fun b hb=>⟨.inl hb,frame hT b hb⟩,fun _ _ h=>h⟩
    have eLL:Ext W L ρ W (fun b=>L b\/L1 b) ρ:=⟨fun b hb=>⟨.inl hb,rfl⟩,fun _ _ h=>h⟩
    obtain⟨C',e1,e2,e3,e4,e4t⟩:∃C':Cx P N,C'.W=(fun b=>R b\/W.heap.size<=b)/\C'.LB=(fun b=>((C.LB b/\b< w.heap.size)\/W.heap.size<=b)\/L1 b)/\C'.F=Fence.wide.inRound l/\(∀id,C'.dfs.pin id=if id∈pn then ρ id else none)/\C'.dfs.tl=[]:=
      ⟨⟨fun b=>R b\/W.heap.size<=b,fun b=>((C.LB b/\b< w.heap.size)\/W.heap.size<=b)\/L1 b,fun b hb=>by
          rcases hb with hb |hb
          · exact .inl (.inl ⟨C.wl b ((hRi b).1 hb).2.1,((hRi b).1 hb).1⟩)
          · exact .inl (.inr hb),
        ⟨[],fun id=>if id∈pn then ρ id else none,fun id x h=>by
          by_cases hi:id∈pn
          · exact hpn' id hi
          · rw [if_neg hi]at h;cases h⟩,C.mx,Fence.wide.inRound l,.inr ⟨l,rfl⟩⟩,rfl,rfl,rfl,fun _=>rfl,rfl⟩
    have hr:=round C' ⟨l,e3⟩ k _ hv hok
    unfold AW at hr
    rw [e3]at hr
    obtain⟨z1,z2⟩:=tj (w:=W) (L:=fun b=>L b\/L1 b) (ρ:=ρ) ps.toList es[k] x.toList (gJ tl) a.tmps (fun p hp=>by rw [g0.size];exact hps' p hp)
      ⟨hxr.1,fun i u y hu hy=>(hxr.2 i u y hu hy).ext e12⟩
      (fun i=>e02 (g0.tm i))
    have ez:((ps.toList.zip x.toList).foldl (fun t (p,v)=>t.setIfInBounds p v) a.tmps)=(ps.zip x).foldl (fun t (p,v)=>t.setIfInBounds p v) a.tmps:=by
      rw [<-Array.toList_zip,Array.foldl_toList]
    rw [ez]at z1 z2
    have gm:Gm C' ⟨mb (gJ tl) ps.toList es[k],cO (pn.zip (sl k)),1⟩ {tmps:=(ps.zip x).foldl (fun t (p,v)=>t.setIfInBounds p v) a.tmps,defers:=[]} W:=by
      refine⟨fun b=>L b\/L1 b,ρ,⟨⟨fun b hb=> ?_,fun b hb=> ?_,fun id o ho=> ?_,hG.sep,hG.qO eLL⟩,g0.fr,z2,z1.trans g0.size,⟨[],by rw [e4t];rfl,by simp,by simp⟩,fun id y hp=> ?_⟩⟩
      · rw [e2]
        rcases hb with hb |hb
        · exact⟨(hG.ll b hb).1,.inl (.inl ⟨(hG.ll b hb).2,(g0.g.ll b hb).1⟩)⟩
        · refine⟨?_,.inr hb⟩
          rcases hL1 b hb with(h |h) |h
          · exact(hG.ll b h).1
          · exact Nat.lt_of_lt_of_le (hUw b h).1 hT.size
          · exact h.2.1
      · rw [e1,e2];exact⟨.inr hb,.inl (.inr hb)⟩
      · have ho:cO (pn.zip (sl k)) id=some o:=ho
        have hi:id∈pn:=fm (by rw [ho];simp)
        refine(hG.ob id o ho).cg (hfl k o (mV ho)) (fun _ _ _ hv=>hv) rfl fun y j hy hj=>⟨rfl,?_⟩
        obtain⟨x',hx',hb⟩:=hblk id hi
        rw [hx']at hy;injection hy with hy;subst hy
        rw [e1]
        refine⟨.inl (hb j hj),?_⟩
        rintro(h |h)
        · exact((hRi j).1 (hb j hj)).2.2.1 h
        · have q:=(hRi j).1 (hb j hj)
          rcases hL1 j h with(h |h) |h
          · exact q.2.2.1 h
          · exact q.2.2.2.2 h
          · omega
      · rw [e4]at hp
        split at hp
        · exact hp
        · cases hp
    refine wpIn_mono (hr _ W gm) ?_
    rintro e a1 W1 ⟨s1,hq,gm1,t1⟩
    rw [e1]at t1
    cases e with
    |normal=>
      have t1':aS R W W1:=t1.mono fun j hj h=>by
        rcases h with h |h
        · exact h
        · omega
      refine⟨t1',fun W2 ht2=> ?_⟩
      have gm2:Gm C' s1 a1 W2:=by
        obtain⟨L1,ρ1,g1⟩:=gm1
        have hnL:¬L1 l:=fun hc=>by
          have:=(g1.g.ll l hc).2
          rw [e2]at this
          rcases this with(h |h) |h
          · omega
          · omega
          · rcases hL1 l h with(h |h) |h
            · have:=(g0.g.ll l h).1;omega
            · have:=(hUw l h).1;omega
            · omega
        have hnW:¬C'.W l:=fun hc=>by
          rw [e1]at hc
          rcases hc with h |h
          · have:=((hRi l).1 h).1;omega
          · omega
        have ex:Ext W1 L1 ρ1 W2 L1 ρ1:=⟨fun b hb=>⟨hb,ht2.block b (g1.g.ll b hb).1 (by rintro rfl;exact hnL hb)⟩,fun _ _ h=>h⟩
        refine⟨L1,ρ1,⟨⟨fun b hb=>⟨Nat.lt_of_lt_of_le (g1.g.ll b hb).1 ht2.size,(g1.g.ll b hb).2⟩,fun b hb=>g1.g.new b (Nat.le_trans ht2.size hb),fun id o ho=> ?_,g1.g.sep,g1.g.qO ex⟩,g1.fr,fun t=>(g1.tm t).ext ex,g1.size,?_,g1.pin⟩⟩
        · have hr1:=g1.g.ob id o ho
          obtain⟨y,hy,hy2⟩:=hr1.lt
          refine hr1.keep ex fun x j hx hj=> ?_
          rw [hx]at hy;injection hy with hy;subst hy
          exact⟨ht2.block j (hy2 j hj).1 (by rintro rfl;exact hnW (hy2 _ hj).2.1),(hy2 j hj).2.2⟩
        · obtain⟨Es,q1,q2,q3⟩:=g1.defers
          exact⟨Es,q1,q2,fun D hD=>⟨(ht2.block D (Array.getElem?_eq_some_iff.1 (q3 D hD).1).1 (by rintro rfl;exact hnW (q3 _ hD).2.1)).trans (q3 D hD).1,(q3 D hD).2⟩⟩
      have hbw:=hq a1 W2 gm2
      have fin:∀(e5:Exit) (a5:Act) (W5:World) (s5:S) (l5:List Ob),Gm C' s5 a5 W5->aS C'.W W2 W5->(∀o∈l5,o.cg pn)->Le s5 ⟨fun _=> .any,cO (pn.zip l5),1⟩->aS (fun i=>R i\/W.heap.size<=i) W2 W5/\G C.W C.LB (cO (pn.zip l5)) W5 L ρ/\aS R2 w W5:=by
        intro e5 a5 W5 s5 l5 gm5 t5 hf5 hle
        rw [e1]at t5
        have tw:aS R2 w W5:=by
          have b1:=(hT.trans (t1'.mono fun k _ h=>(hR2 k).2 (.inl h))).later (ht2.below (B:=w.heap.size) (Nat.le_trans hT.size t1'.size) (fun j hj=>by omega)) (Nat.le_refl _)
          refine aS.mono (R:=fun i=>R2 i\/W.heap.size<=i) ((b1.mono fun j _ h=> .inl h).trans (t5.mono fun j _ h=>h.imp (fun h=>(hR2 j).2 (.inl h)) id)) fun j hj h=> ?_
          rcases h with h |h
          · exact h
          · have:=hT.size;omega
        obtain⟨L5,ρ5,g5⟩:=hle C' a5 W5 gm5
        refine⟨t5,mkG W5 l5 C'.W L5 ρ5 C'.LB hf5 tw g5.g fun id hi=> ?_,tw⟩
        obtain⟨x',hx',_⟩:=hblk id hi
        rw [hx']
        exact g5.pin id x' (by rw [e4,if_pos hi,hx'])
      refine wpIn_mono hbw ?_
      rintro e5 a5 W5 ⟨s5,hp5,gm5,t5⟩
      cases e5 with
      |normal=>exact⟨(fin .normal a5 W5 s5 _ gm5 t5 (hfl _) hp5.2).1,⟨hp5.1,(fin .normal a5 W5 s5 _ gm5 t5 (hfl _) hp5.2).2.1⟩,(fin .normal a5 W5 s5 _ gm5 t5 (hfl _) hp5.2).2.2⟩
      |ret=>obtain⟨sx,hX,hle⟩:=hp5;exact⟨(fin .ret a5 W5 s5 _ gm5 t5 (hfx _ _ _ hX) hle).1,sx,hX,(fin .ret a5 W5 s5 _ gm5 t5 (hfx _ _ _ hX) hle).2⟩
      |exit id=>obtain⟨sx,hX,hle⟩:=hp5;exact⟨(fin .ret a5 W5 s5 _ gm5 t5 (hfx _ _ _ hX) hle).1,sx,hX,(fin .ret a5 W5 s5 _ gm5 t5 (hfx _ _ _ hX) hle).2⟩
      |goto t=>obtain⟨sx,hX,hle⟩:=hp5;exact⟨(fin .ret a5 W5 s5 _ gm5 t5 (hfx _ _ _ hX) hle).1,sx,hX,(fin .ret a5 W5 s5 _ gm5 t5 (hfx _ _ _ hX) hle).2⟩
      |panic c=>exact hp5.elim
      |outgrown=>exact hp5.elim
    |ret=>exact hq.elim
    |exit id=>exact hq.elim
    |goto t=>exact hq.elim
    |panic c=>exact hq.elim
    |outgrown=>exact hq.elim
theorem Ia{P:Program}{N:Nat}{C:Cx P N}{Q:Exit->S->Prop}{tm:Nat->V}{σ:Nat->Option Ob}{nx:Nat}{g:Operand}{ps:Array Tmp}{assign body:Code}{gf:FuncId}{caps:List V}{es:List (List V)}
 (hF:C.F=Fence.wide) (hd:C.dfs=oB) (it:LU P gf caps es) (hg:ev tm g= .fn (.func gf) [] caps) (hidf:V.bp caps=true) (hlen:∀x∈es,x.length=ps.size) (hps:ps.toList.all (fun p=>decide (p< N))=true)
 (pn:List Nat) (gl:List (Nat×Nat)) (tl:List (Nat×V)) (ok:Nat->Prop) (sl:Nat->List Ob) (X:Nat->Code->List Ob->Prop) (hok0:ok 0)
 (hpn:pn.all (fun p=>decide (500<=p/\p< 1000))=true) (hl0:(sl 0).length=pn.length) (hid:gl.all (fun p=>decide (p.1< 1000))=true)
 (htm:lK (fun p=>tm p.1=p.2.bB (aH gl nx)) tl) (hσ:lK (fun p=>∃ob,σ (aH gl nx p.1)=some ob/\fy ob (p.2.bB (aH gl nx))) (pn.zip (sl 0)))
 (hinj:decide (((pn.zip (sl 0)).map fun p=>aH gl nx p.1).Nodup)=true)
 (hfl:∀k,∀o∈sl k,o.cg pn) (hfx:∀k c sx,X k c sx->∀o∈sx,o.cg pn)
 (round:∀C':Cx P N,(∃l,C'.F=Fence.wide.inRound l)->∀k x,es[k]?=some x->ok k->AW C' assign (dS (fun s'=>AW C' body (mg pn ok sl X k) s') (fun _ _=>False)) ⟨mb (gJ tl) ps.toList x,cO (pn.zip (sl k)),1⟩)
 (hdone:ok es.length->Q .normal ⟨gJ tl,cO (pn.zip (sl es.length)),1⟩)
 (hstop:∀k c sx,k< es.length->X k c sx->AW C c Q ⟨gJ tl,cO (pn.zip sx),1⟩):AW C (.rangeFunc g ps assign body) Q ⟨tm,σ,nx⟩:=
 zc (ins:=[]) [] hF hd it.u (by rw [V.dN _ _ hidf];exact hg) (gH 0 caps hidf) rfl .nil (fun i k o h=>by simp at h) hlen hps pn gl tl ok sl X hok0 hpn hl0 hid htm hσ hinj (fun _ _=>by simp) hfl hfx round hdone hstop
end Go.Ab
