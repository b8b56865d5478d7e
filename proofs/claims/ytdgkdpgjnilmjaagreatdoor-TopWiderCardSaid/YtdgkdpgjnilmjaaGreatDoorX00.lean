/-
  Several texts in one: A row that is not written any more, seen also where a cell holds it; what is handed back out of cells. No condition. .. A contract that reads what a pointer points at, for a box of the caller's. No condition.
-/
import Derived.Test.YtdgkdpgjnilmjaaGreatDoorMD
namespace Go.Ab
open Go.RowKit Go.Dw
def Ob.fz(id:Nat)(v:V):Ob->Ob
 | .box t cs=> .box t (V.lz id v cs)
 | .row e sz n r=> .row e sz n r
 | .mp s f=> .mp s (f.map (V.fz id v))
section
variable {P:Program}{b:Frame}{a:Act}{k:List Item}{cs:List Frame}{w:World}{F:Fence}{n:Nat}
theorem dy{c:Code}:step P (lone (b.atR a (.code (.scope c)::k)) cs w)= .next (lone (b.atR a (.code c:: .inScope c::k)) cs w):= step_lone_go (by simp [stepG,stepG.exec,Frame.atR])
theorem pM{c:Code}:step P (lone (b.atR a (.inScope c::k)) cs w)= .next (lone (b.atR a k) cs w):= step_lone_go (by simp [stepG,stepG.exec,Frame.atR])
def Ca(Q:Exit->Act->World->Prop):Exit->Act->World->Prop
 | .goto _,_,_=>False
 |e,a,w=>Q e a w
theorem vZ{c:Code}{Q:Exit->Act->World->Prop}(h:c.wpIn F n P (Ca Q) a w):(Code.scope c).wpIn F n P Q a w:=by
 intro b k cs hro hb hr;have h0:(lone (b.atR a (.code (.scope c)::k)) cs w).fenced P F:=fenced_calm hb hr rfl;obtain⟨e,a₁,w₁,hq,harr⟩:=h b (.inScope c::k) cs hro hb hr;cases e with
 |normal=>exact⟨.normal,a₁,w₁,hq,.head h0 dy (StepsIn.trans harr (.one (fenced_calm hb hr rfl) pM))⟩
 |exit id=>
  have hx:exitTo id (.inScope c::k)=exitTo id k:=by simp [exitTo]
  exact⟨.exit id,a₁,w₁,hq,fun k' hk=> .head h0 dy (harr.1 k' (by rw [hx];exact hk)),
   fun hr' hk=>let⟨k₁,h1,h2⟩:=harr.2 hr' (by rw [hx];exact hk);⟨k₁,h1,.head h0 dy h2⟩⟩
 |goto l=>exact hq.elim
 |ret=>exact⟨_,a₁,w₁,hq,.of_steps (.one h0 dy) harr⟩
 |panic ch=>exact⟨_,a₁,w₁,hq,.of_steps (.one h0 dy) harr⟩
 |outgrown=>exact⟨_,a₁,w₁,hq,.of_steps (.one h0 dy) harr⟩
end
def Eu(Q:Exit->S->Prop):Exit->S->Prop
 | .goto _,_=>False
 |e,s=>Q e s
section
variable {P:Program}{N:Nat}{C:Cx P N}{Q:Exit->S->Prop}{s:S}{id:Nat}
theorem zT{c:Code}(h:AW C c (Eu Q) s):AW C (.scope c) Q s:=by
 intro a w g;refine vZ (wpIn_mono (h a w g) ?_);rintro e a' w' ⟨s',q,g',t⟩;cases e with
 |goto l=>exact q.elim
 |_=>exact⟨s',q,g',t⟩
end
mutual
def V.iL(n:Nat):V->Bool
 | .agg cs=>V.cB n cs
 | .tup cs=>V.cB n cs
 | .fn _ a b=>V.cB n a && V.cB n b
 | .ifc _ v=>v.iL n
 | .gd _ v=>v.iL n
 | .alt _ v u=>v.iL n && u.iL n
 | .own i=>decide (500<=i) && decide (i< 500+n)
 | .ref i _=>decide (500<=i) && decide (i< 500+n)
 | .oel i _ _ _=>decide (500<=i) && decide (i< 500+n)
 | .osl i _ _ _=>decide (500<=i) && decide (i< 500+n)
 |_=>true
def V.cB(n:Nat):List V->Bool
 | []=>true
 |v::l=>v.iL n && V.cB n l
end
mutual
theorem jx(n:Nat):∀v:V,v.bX=true->v.iL n=true
 | .agg cs,h=>by rw [V.bX]at h;rw [V.iL];exact fD n cs h
 | .tup cs,h=>by rw [V.bX]at h;rw [V.iL];exact fD n cs h
 | .fn f a b,h=>by rw [V.bX,Bool.and_eq_true]at h;rw [V.iL,fD n a h.1,fD n b h.2];rfl
 | .ifc t v,h=>by rw [V.bX]at h;rw [V.iL];exact jx n v h
 | .gd q v,h=>by rw [V.bX]at h;rw [V.iL];exact jx n v h
 | .alt q v u,h=>by rw [V.bX,Bool.and_eq_true]at h;rw [V.iL,jx n v h.1,jx n u h.2];rfl
 | .own _,h=>by simp [V.bX]at h
 | .ref _ _,h=>by simp [V.bX]at h
 | .oel _ _ _ _,h=>by simp [V.bX]at h
 | .osl _ _ _ _,h=>by simp [V.bX]at h
 | .fset _ _,_=>rfl
 | .any,_=>rfl
 | .c _,_=>rfl
 | .nil,_=>rfl
 | .emp,_=>rfl
 | .sl _ _ _,_=>rfl
 | .ptr _,_=>rfl
theorem fD(n:Nat):∀l:List V,V.aZ l=true->V.cB n l=true
 | [],_=>rfl
 |v::l,h=>by rw [V.aZ,Bool.and_eq_true]at h;rw [V.cB,jx n v h.1,fD n l h.2];rfl
end
theorem V.fE{n:Nat}:∀ {l:List V}(_:V.cB n l=true){i:Nat}{u:V}(_:l[i]?=some u),u.iL n=true
 |v::l,h,0,u,hu=>by simp at hu;subst hu;simp only [V.cB,Bool.and_eq_true]at h;exact h.1
 |v::l,h,i+1,u,hu=>by simp only [V.cB,Bool.and_eq_true]at h;exact V.fE h.2 (by simpa using hu)
theorem R.rj{n:Nat}{w:World}{L:Nat->Prop}{ρ:Nat->Option Value}{u:V}{x:Value}(h:R w L ρ u x):∀(_:u.iL n=true) (ρ':Nat->Option Value),(∀id v,500<=id->id< 500+n->ρ id=some v->ρ' id=some v)->R w L ρ' u x:=by
 induction h with
 |any=>exact fun _ _ _=> .any _ _
 |c=>exact fun _ _ _=> .c _ _
 |agg ρ cs xs f hl hf hr ih=>intro hi ρ' hρ;simp only [V.iL]at hi;exact .agg _ _ _ f hl hf fun i u hu=>ih i u hu (V.fE hi hu) ρ' hρ
 |tup ρ cs xs f hl hf hr ih=>intro hi ρ' hρ;simp only [V.iL]at hi;exact .tup _ _ _ f hl hf fun i u hu=>ih i u hu (V.fE hi hu) ρ' hρ
 |nil=>exact fun _ _ _=> .nil _
 |emp=>exact fun _ _ _=> .emp _ _
 |sl0=>exact fun _ _ _=> .sl0 _ _ _ _ _
 |sl ρ sz n row b o c f hb hcap hlen hf hr ih=>exact fun _ ρ' _=> .sl _ _ _ _ _ _ _ f hb hcap hlen hf hr
 |ptr ρ cs b o f hb hf hr ih=>exact fun _ ρ' _=> .ptr _ _ _ _ f hb hf hr
 |fset ρ str has b es cl hb hh hk hf=>exact fun _ ρ' _=> .fset _ _ _ b es cl hb hh hk hf
 |own ρ id x h h1=>intro hi ρ' hρ;simp only [V.iL,Bool.and_eq_true,decide_eq_true_eq]at hi;exact .own _ _ _ (hρ _ _ hi.1 hi.2 h) h1
 |ref ρ id off b h=>intro hi ρ' hρ;simp only [V.iL,Bool.and_eq_true,decide_eq_true_eq]at hi;exact .ref _ _ _ _ (hρ _ _ hi.1 hi.2 h)
 |oel ρ id sz i off b n c h=>intro hi ρ' hρ;simp only [V.iL,Bool.and_eq_true,decide_eq_true_eq]at hi;exact .oel _ _ _ _ _ _ n c (hρ _ _ hi.1 hi.2 h)
 |osl ρ id sz off k b m c c2 A h hn hA=>intro hi ρ' hρ;simp only [V.iL,Bool.and_eq_true,decide_eq_true_eq]at hi;exact .osl _ _ _ _ _ _ m c _ _ (hρ _ _ hi.1 hi.2 h) hn hA
 |fn ρ f fs cs xs ys g h hl hm hg hh hr hs ih1 ih2=>intro hi ρ' hρ;simp only [V.iL,Bool.and_eq_true]at hi;exact .fn _ _ _ _ _ _ g h hl hm hg hh (fun i u hu=>ih1 i u hu (V.fE hi.1 hu) ρ' hρ) fun i u hu=>ih2 i u hu (V.fE hi.2 hu) ρ' hρ
 |ifc ρ t u x h ih=>intro hi ρ' hρ;simp only [V.iL]at hi;exact .ifc _ _ _ _ (ih hi ρ' hρ)
 |gd ρ g u x h h' ih=>intro hi ρ' hρ;simp only [V.iL]at hi;exact .gd _ _ _ _ (fun hg=>ih hg hi ρ' hρ) h'
 |alt ρ g u v x h h' ih ih'=>intro hi ρ' hρ;simp only [V.iL,Bool.and_eq_true]at hi;exact .alt _ _ _ _ _ (fun hg=>ih hg hi.1 ρ' hρ) fun hg=>ih' hg hi.2 ρ' hρ
theorem RV.rj{n:Nat}{w:World}{L:Nat->Prop}{ρ ρ':Nat->Option Value}{us:List V}{xs:List Value}(h:RV w L ρ us xs)(hi:V.cB n us=true)(hρ:∀id v,500<=id->id< 500+n->ρ id=some v->ρ' id=some v):RV w L ρ' us xs:= ⟨h.1,fun i u x hu hx=>(h.2 i u x hu hx).rj (V.fE hi hu) ρ' hρ⟩
theorem RL.rj{n:Nat}{w:World}{L:Nat->Prop}{ρ ρ':Nat->Option Value}{us:List V}{xs:List Value}(h:RL w L ρ us xs)(hi:V.cB n us=true)(hρ:∀id v,500<=id->id< 500+n->ρ id=some v->ρ' id=some v):RL w L ρ' us xs:= ⟨h.1,fun i u x hu hx=>⟨(h.2 i u x hu hx).1.rj (V.fE hi hu) ρ' hρ,(h.2 i u x hu hx).2⟩⟩
theorem zq{w:World}{L:Nat->Prop}{ρ:Nat->Option Value}(g:Nat->Nat){us:List V}{xs:List Value}(h:RV w L ρ (V.aP g us) xs):RV w L (fun i=>ρ (g i)) us xs:= ⟨by rw [<-h.1,V.cv],fun i u x hu hx=>j4 g us i u x hu (h.2 i (u.bg g) x (by rw [V.b9,hu];rfl) hx)⟩
def Ob.iL(n:Nat):Ob->Prop
 | .box _ cs=>V.cB n cs=true
 | .row _ _ m f=>∀i,i< m->V.cB n (f i)=true
 | .mp _ f=>∀k u,f.look k=some u->V.iL n u=true
theorem V.mH{n:Nat}:∀ {l m:List V},V.cB n l=true->V.cB n m=true->V.cB n (l++m)=true
 | [],m,_,h=>h
 |v::l,m,h,k=>by simp only [V.cB,Bool.and_eq_true,List.cons_append]at h ⊢;exact⟨h.1,V.mH h.2 k⟩
theorem vk{k:Nat}{row:Nat->List V}:∀n,(∀i,i< n->V.cB k (row i)=true)->V.cB k (aF n row).flatten=true:=by
 intro n h;have key:∀l:List (List V),(∀x∈l,V.cB k x=true)->V.cB k l.flatten=true:=by
  intro l;induction l with
  |nil=>intro _;rfl
  |cons x l ih=>intro h;rw [List.flatten_cons];exact V.mH (h x (by simp)) (ih fun y hy=>h y (by simp [hy]))
 refine key _ fun x hx=> ?_;simp only [aF,List.mem_map,List.mem_range]at hx;obtain⟨i,hi,rfl⟩:=hx;exact h i hi
def dz(ins:List Ob)(id:Nat):Option Ob:=if 500<=id then ins[id- 500]? else none
def eT(outs:List (Option Ob))(obs:List Ob)(id:Nat):Option Ob:=if 500<=id then(outs[id- 500]?).join else obs[id]?
def AM(P:Program)(f:FuncId)(args:List V)(ins:List Ob)(v:V)(outs:List (Option Ob))(obs:List Ob):Prop:=
  (∀(args:Array Value) (w:World),(callFunc f args).run P w= .ok (.enter f args) w)/\
  ∀(W LB L:Nat->Prop) (w:World) (ρ:Nat->Option Value) (vs:Array Value),(∀b,W b->LB b)->(∀b,W b->¬L b)->G W LB (dz ins) w L ρ->(∀id,(id< 500\/500+ins.length<=id)->ρ id=none)->RV w L ρ args vs.toList->
    Calls P f vs w fun e w'=>∃x,e= .returned x/\aU W w w'/\∃L' ρ',G W LB (eT outs obs) w' L' ρ'/\Ext w L ρ w' L' ρ'/\R w' L' ρ' v x/\∀j,obs.length<=j->(j< 500\/500+ins.length<=j)->ρ' j=none
def aT(k n nx i:Nat):Nat:=if i< k\/(500<=i/\i< 500+n)then i else nx*100000+i
def c7(T:List TI)(fn:Func)(n:Nat)(v:V)(outs:List (Option Ob))(obs:List Ob):Exit->S->Prop:=fun e s=>(e= .normal\/e= .ret)/\∃s',Le s s'/\nc T s' fn.results.toList=some v/\(∀i ob,obs[i]?=some ob->s'.σ i=some ob)/\(∀i ob,outs[i]?=some (some ob)->s'.σ (500+i)=some ob)/\ v.bg (aT obs.length n s'.nx)=v/\(∀ob∈obs,ob.bg (aT obs.length n s'.nx)=ob)/\(∀ob:Ob,some ob∈outs->ob.bg (aT obs.length n s'.nx)=ob)
theorem pT{T:List TI}{P:Program}(hT:aO T P)(hmx:P.follows .mixedOrders=true){f:FuncId}{fn:Func}{c:Code}{N:Nat}(hk:nC P f fn c N){args:List V}{ins:List Ob}{v:V}{outs:List (Option Ob)}{obs:List Ob}(hargs:args.length<=N)(hn:outs.length=ins.length)(hn4:ins.length<=400)(_:obs.length<=90)
    (h:∀C:Cx P N,C.F=Fence.wide->(∀id x,C.dfs.pin id=some x->500<=id/\id< 500+ins.length)->C.dfs.tl=[]->AW C c (c7 T fn ins.length v outs obs) ⟨fun t=>args.getD t .any,dz ins,1⟩):AM P f args ins v outs obs:=by
  refine⟨hk.call,fun W LB L w ρ vs hwl hWL hG hρn hvs=> ?_⟩
  have hsome:∀i,i< ins.length->∃ob x,ins[i]?=some ob/\dz ins (500+i)=some ob/\ρ (500+i)=some x/\∀k,blk x=some k->k< w.heap.size/\W k/\¬L k:=by
    intro i hi
    have h1:ins[i]?=some ins[i]:=List.getElem?_eq_getElem hi
    have h2:dz ins (500+i)=some ins[i]:=by unfold dz;rw [if_pos oM,Nat.add_sub_cancel_left];exact h1
    obtain⟨x,hx,hx2⟩:=(hG.ob _ _ h2).lt
    exact⟨_,x,h1,h2,hx,hx2⟩
  obtain⟨C,hW,hLB,hd,hFw,htl⟩:∃C:Cx P N,C.W=W/\C.LB=LB/\C.dfs.pin=(fun id=>if 500<=id/\id< 500+ins.length then ρ id else none)/\C.F=Fence.wide/\C.dfs.tl=[]:=
    ⟨⟨W,LB,hwl,⟨[],fun id=>if 500<=id/\id< 500+ins.length then ρ id else none,fun id x hp=>by
      split at hp
      · omega
      · cases hp⟩,hmx,Fence.wide,.inl rfl⟩,rfl,rfl,rfl,rfl,rfl⟩
  have hvl:vs.size=args.length:=by have:=hvs.1;simpa using this.symm
  refine callsIn_wide.1 (callsIn_of_wp_marks (n:=0) hk.hf hk.hb trivial ?_ rfl)
  have hw:=h C hFw (fun id x hp=>by
    rw [hd]at hp
    simp only at hp
    split at hp
    · assumption
    · cases hp) htl
  unfold AW at hw
  rw [hFw]at hw
  refine wpIn_mono (hw _ w ⟨L,ρ,⟨?_,fun id hid=> ?_,fun t=> ?_,?_,?_,fun id x hp=> ?_⟩⟩) ?_
  · rw [hW,hLB];exact hG
  · have hid':1*100000<=id:=hid
    exact hρn id (.inr oM)
  · by_cases ht:t< args.length
    · have h1:args[t]?=some args[t]:=List.getElem?_eq_getElem ht
      obtain⟨x,hx,hr⟩:=hvs.get h1
      have e1:args.getD t .any=args[t]:=by simp [List.getD_eq_getElem?_getD,h1]
      have e2:(vs++Array.replicate (fn.ntmps- vs.size) undef).getD t undef=x:=by
        rw [Array.getD_eq_getD_getElem?,Array.getElem?_append_left oM]
        have:vs[t]?=some x:=by simpa using hx
        rw [this];rfl
      show R w L ρ (args.getD t .any) _
      rw [e1,e2];exact hr
    · have e1:args.getD t .any= .any:=by simp [List.getD_eq_getElem?_getD,List.getElem?_eq_none (Nat.le_of_not_lt ht)]
      show R w L ρ (args.getD t .any) _
      rw [e1];exact .any _ _
  · rw [<-hk.hn]at hargs ⊢
    simp;omega
  · exact⟨[],by rw [htl];rfl,by simp,by simp⟩
  · rw [hd]at hp
    simp only at hp
    split at hp
    · exact hp
    · cases hp
  · rintro e a' w' ⟨s',⟨he,s'',hle,hres,hob,hout,hcv,hco,hcu⟩,g',t⟩
    obtain⟨L',ρ',g''⟩:=hle C a' w' g'
    rw [hW]at t
    obtain⟨Ds,d1,d2,d3⟩:=g''.defers
    rw [htl,List.append_nil]at d1
    refine gV Ds he d1 d2 (fun D hD=>(d3 D hD).1) fun w2 ht2=> ?_
    obtain⟨g2,e2⟩:=g''.g.marks ht2 d3
    obtain⟨x,hx,hr⟩:=kY hT g2 (fun t=>(g''.tm t).ext e2) fn hres
    have hWD:∀D∈Ds,W D:=fun D hD=>by have:=(d3 D hD).2.1;rw [hW]at this;exact this
    have tt:aU W w w2:=t.trans (ht2.mono fun k _ hkD=>hWD k hkD)
    refine⟨x,hx,x,rfl,tt,?_⟩
    have hr2:R w2 L' (fun i=>ρ' (aT obs.length ins.length s''.nx i)) v x:=iR _ _ _ (by rw [hcv];exact hr)
    have hlt:∀i,i< obs.length->aT obs.length ins.length s''.nx i=i:=fun i hi=>by unfold aT;rw [if_pos (.inl hi)]
    have hlt5:∀i,500<=i->i< 500+ins.length->aT obs.length ins.length s''.nx i=i:=fun i h1 h2=>by unfold aT;rw [if_pos (.inr ⟨h1,h2⟩)]
    have hoF:∀id o,eT outs obs id=some o->s''.σ id=some o/\aT obs.length ins.length s''.nx id=id/\o.bg (aT obs.length ins.length s''.nx)=o:=by
      intro id o ho
      unfold eT at ho
      split at ho
      · rename_i h5
        have ho':outs[id- 500]?=some (some o):=by
          cases hq:outs[id- 500]? with
          |none=>rw [hq]at ho;cases ho
          |some q=>rw [hq]at ho;simp at ho;rw [ho]
        have hlt':=(List.getElem?_eq_some_iff.1 ho').1
        refine⟨?_,hlt5 id h5 oM,hcu o (List.mem_of_getElem? ho')⟩
        have:=hout (id- 500) o ho'
        rwa [show 500+(id- 500)=id by omega]at this
      · exact⟨hob id o ho,hlt id (List.getElem?_eq_some_iff.1 ho).1,hco o (List.mem_of_getElem? ho)⟩
    have hE2:Ext w2 L' (fun i=>ρ' (aT obs.length ins.length s''.nx i)) w2 (fun b=>L' b\/L b) (fun i=>ρ' (aT obs.length ins.length s''.nx i)):=⟨fun b hb=>⟨.inl hb,rfl⟩,fun _ _ h=>h⟩
    refine⟨fun b=>L' b\/L b,fun i=>ρ' (aT obs.length ins.length s''.nx i),⟨fun b hb=> ?_,fun b hb=> ?_,fun id o ho=> ?_,fun i j x y k hij hi hj=> ?_,g2.FQ hE2.l⟩,⟨fun b hb=>⟨.inr hb,tt.block b (hG.ll b hb).1 fun hc=>hWL b hc hb⟩,fun id x hx=> ?_⟩,hr2.ext hE2,fun j hj hj5=> ?_⟩
    · rcases hb with hb |hb
      · have:=g2.ll b hb
        rw [hLB]at this
        exact⟨this.1,this.2⟩
      · exact⟨Nat.lt_of_lt_of_le (hG.ll b hb).1 tt.size,(hG.ll b hb).2⟩
    · exact hG.new b (Nat.le_trans tt.size hb)
    · obtain⟨q1,q2,q3⟩:=hoF id o ho
      have hr0:=g2.ob id o q1
      rw [hW]at hr0
      have hr:Real W w2 L' (fun i=>ρ' (aT obs.length ins.length s''.nx i)) id o:=Real.bg (by rw [q2,q3];exact hr0)
      obtain⟨y,hy,hy2⟩:=hr.lt
      refine hr.keep hE2 fun x k hx hk=> ?_
      rw [hx]at hy;injection hy with hy;subst hy
      refine⟨rfl,?_⟩
      rintro(h1 |h1)
      · exact(hy2 k hk).2.2 h1
      · exact hWL k (hy2 k hk).2.1 h1
    · have key:∀i,eT outs obs i≠none->s''.σ i≠none/\aT obs.length ins.length s''.nx i=i:=fun i hi=>by
        cases ho:eT outs obs i with
        |none=>exact absurd ho hi
        |some o=>obtain⟨q1,q2,_⟩:=hoF i o ho;exact⟨by rw [q1];simp,q2⟩
      simp only [(key i hi).2,(key j hj).2]
      exact g2.sep i j x y k hij (key i hi).1 (key j hj).1
    · show ρ' (aT obs.length ins.length s''.nx id)=some x
      by_cases h5:500<=id/\id< 500+ins.length
      · rw [hlt5 id h5.1 h5.2]
        exact g''.pin id x (by rw [hd];simp only;rw [if_pos h5];exact hx)
      · rw [hρn id oM]at hx;cases hx
    · have e3:aT obs.length ins.length s''.nx j=s''.nx*100000+j:=if_neg oM
      show ρ' (aT obs.length ins.length s''.nx j)=none
      rw [e3]
      exact g''.fr _ (by unfold bN;omega)
theorem bR{T:List TI}{P:Program}(hT:aO T P)(hmx:P.follows .mixedOrders=true){f:FuncId}{fn:Func}{c:Code}{N:Nat}(hk:nC P f fn c N){args:List V}{ins:List Ob}{v:V}{outs:List (Option Ob)}{obs:List Ob}(hargs:args.length<=N)(hn:outs.length=ins.length)(hn4:ins.length<=400)(ho:obs.length<=90)
 (h:∀C:Cx P N,C.F=Fence.wide->AW C c (c7 T fn ins.length v outs obs) ⟨fun t=>args.getD t .any,dz ins,1⟩):AM P f args ins v outs obs:=
 pT hT hmx hk hargs hn hn4 ho fun C hF _ _=>h C hF
def aI(nx:Nat)(d:Option Tmp)(ns:List Nat)(id:Nat):Nat:=if 500<=id then ns.getD (id- 500) (nx*100000+1000*id+d.getD 0)else ay nx d id
def gG(g:Nat->Nat):List Nat->List (Option Ob)->List (Nat×Option Ob)
 |k::ks,o::os=>(k,o.map (Ob.bg g))::gG g ks os
 |_,_=>[]
def gI:List Nat->List Ob->List (Nat×Ob)
 |k::ks,o::os=>(k,o)::gI ks os
 |_,_=>[]
theorem jl(σ:Nat->Option Ob):∀l m:List (Nat×Option Ob),bA σ (l++m)=bA (bA σ l) m
 | [],m=>rfl
 | (k,o)::l,m=>by simp only [List.cons_append,bA];exact jl _ l m
theorem wT(g:Nat->Nat):∀(ns:List Nat) (os:List (Option Ob)) (σ:Nat->Option Ob) (id:Nat) (o:Ob),ns.Nodup->os.length=ns.length->bA σ (gG g ns os) id=some o->(∃(i:Nat) (ob:Ob),ns[i]?=some id/\os[i]?=some (some ob)/\o=ob.bg g)\/(σ id=some o/\id∉ns)
  | [],os,σ,id,o,_,_,h=> .inr ⟨by simpa [gG,bA]using h,by simp⟩
  |n::ns,[],σ,id,o,_,hl,h=>by simp at hl
  |n::ns,x::os,σ,id,o,hn,hl,h=>by
    rw [gG,bA]at h
    have hn':=List.nodup_cons.1 hn
    rcases wT g ns os _ id o hn'.2 (by simpa using hl) h with⟨i,ob,h1,h2,h3⟩ | ⟨h1,h2⟩
    · exact .inl ⟨i+1,ob,by simpa using h1,by simpa using h2,h3⟩
    · by_cases he:id=n
      · subst he
        rw [av]at h1
        cases x with
        |none=>cases h1
        |some x=>simp at h1;exact .inl ⟨0,x,rfl,rfl,h1.symm⟩
      · rw [ak _ _ he]at h1
        exact .inr ⟨h1,by simp [he,h2]⟩
theorem wX:∀ {ns:List Nat}{os:List Ob}{i:Nat}{n:Nat}{o:Ob},ns[i]?=some n->os[i]?=some o->(n,o)∈gI ns os
 | [],_,_,_,_,h,_=>by simp at h
 |_::_,[],_,_,_,_,h=>by simp at h
 |a::ns,b::os,0,n,o,h,k=>by simp at h k;subst h k;simp [gI]
 |a::ns,b::os,i+1,n,o,h,k=>by simp at h k;exact List.mem_cons_of_mem _ (wX h k)
section
variable {P:Program}{W LB:Nat->Prop}{d:Option Tmp}{ty:TypeId}{pos:String}{af:Array Edge}{gd:Option (Nat×Bool)}{ev:Operand->V}
def IY(P:Program)(o:Oper)(ev:Operand->V)(f:FuncId)(as0:List V):Prop:= ∀(w:World) (L:Nat->Prop) (ρ:Nat->Option Value) (g:Operand->Value),(∀x∈o.op.operands,R w L ρ (ev x) (g x))->∃vs:Array Value,((∀(args:Array Value) (w:World),(callFunc f args).run P w= .ok (.enter f args) w)->(execOp g o).run P w= .ok (.enter f vs) w)/\RV w L ρ as0 vs.toList
theorem pX{o:Oper}{f:FuncId}{as0 args:List V}{ins ins':List Ob}{v:V}{outs:List (Option Ob)}{obs:List Ob}(hc:AM P f args ins v outs obs)(hwl:∀b,W b->LB b)(ns:List Nat)(hp:ij o.op=true)(hex:IY P o ev f as0)(nx:Nat)
    (hargs:as0=V.aP (aI nx d ns) args) (hin:V.cB ins.length args=true) (hd:d.all (fun t=>decide (t< 1000))=true) (hobs:obs.length<=90)
    (hns:ns.Nodup) (hnl:ns.length=ins.length) (hol:outs.length=ins.length) (hil:ins'.length=ins.length) (hins:∀(i:Nat) (o o':Ob),ins[i]?=some o->ins'[i]?=some o'->dQ o' (o.bg (aI nx d ns))/\o.iL ins.length) :
    aQ P W LB o ev (v.bg (aI nx d ns)) (gI ns ins') ((List.range obs.length).map (ay nx d)) (gG (aI nx d ns) ns outs++ck (aI nx d ns) 0 obs):=by
  intro σ w L ρ g hG hr hpre hnew
  obtain⟨vs,hrun0,hz⟩:=hex w L ρ g hr
  obtain⟨G0,hG0⟩:∃G0,G0=aI nx d ns:=⟨_,rfl⟩
  rw [<-hG0]at hargs hins ⊢
  obtain⟨n,hn⟩:∃n,n=ins.length:=⟨_,rfl⟩
  rw [<-hn]at hin hnl hol hil hins
  have gpin:∀i,i< n->∃m,ns[i]?=some m/\G0 (500+i)=m:=by
    intro i hi
    have h2:ns[i]?=some ns[i]:=List.getElem?_eq_getElem oM
    refine⟨_,h2,?_⟩
    rw [hG0];unfold aI
    rw [if_pos oM,Nat.add_sub_cancel_left,List.getD_eq_getElem?_getD,h2];rfl
  have gnew:∀j,j< 500->G0 j=ay nx d j:=fun j hj=>by rw [hG0];unfold aI;rw [if_neg oM]
  -- the objects that are handed
  have hobj:∀i,i< n->∃m o o' x,ns[i]?=some m/\G0 (500+i)=m/\ins[i]?=some o/\σ m=some o'/\dQ o' (o.bg G0)/\o.iL n/\Real W w L ρ m o'/\ρ m=some x/\∀k,blk x=some k->k< w.heap.size/\W k/\¬L k:=by
    intro i hi
    obtain⟨m,hm,hgm⟩:=gpin i hi
    have h2:ins[i]?=some ins[i]:=List.getElem?_eq_getElem oM
    have h3:ins'[i]?=some ins'[i]:=List.getElem?_eq_getElem oM
    have h4:=hpre _ (wX hm h3)
    obtain⟨h5,h6⟩:=hins i _ _ h2 h3
    have h7:=hG.ob m _ h4
    obtain⟨x,hx,hx2⟩:=h7.lt
    exact⟨m,_,_,x,hm,hgm,h2,h4,h5,h6,h7,hx,hx2⟩
  obtain⟨ρ1,hρ1⟩:∃ρ1:Nat->Option Value,∀id,ρ1 id=if 500<=id/\id< 500+n then ρ (G0 id)else none:=⟨_,fun _=>rfl⟩
  have hρ1p:∀i,i< n->ρ1 (500+i)=ρ (G0 (500+i)):=fun i hi=>by rw [hρ1,if_pos oM]
  have hinto:∀id v,500<=id->id< 500+n->(fun i=>ρ (G0 i)) id=some v->ρ1 id=some v:=fun id v h5 h6 h7=>by rw [hρ1,if_pos ⟨h5,h6⟩];exact h7
  have hrv:RV w L ρ1 args vs.toList:=by
    rw [hargs]at hz
    exact(zq G0 hz).rj hin hinto
  obtain⟨W1,hW1⟩:∃W1:Nat->Prop,∀b,W1 b<->(∃i x,i< n/\ρ1 (500+i)=some x/\blk x=some b)\/w.heap.size<=b:=⟨_,fun _=>Iff.rfl⟩
  have hW1old:∀b,W1 b->b< w.heap.size->W b/\¬L b/\∃i m x,i< n/\ns[i]?=some m/\σ m≠none/\ρ m=some x/\blk x=some b:=by
    intro b hb hlt
    rcases(hW1 b).1 hb with⟨i,x,hi,hx,hbx⟩ |h
    · obtain⟨m,o,o',x',q1,q2,q3,q4,q5,q6,q7,q8,q9⟩:=hobj i hi
      rw [hρ1p i hi,q2,q8]at hx
      injection hx with hx;subst hx
      exact⟨(q9 b hbx).2.1,(q9 b hbx).2.2,i,m,_,hi,q1,by rw [q4];simp,q8,hbx⟩
    · omega
  have hW1W:∀b,W1 b->W b:=fun b hb=>by
    by_cases hlt:b< w.heap.size
    · exact(hW1old b hb hlt).1
    · exact(hG.new b oM).1
  have hW1L:∀b,W1 b->¬L b:=fun b hb hL=>by
    have hlt:=(hG.ll b hL).1
    exact(hW1old b hb hlt).2.1 hL
  -- the callee's own view
  have hinsF:∀id o,dz ins id=some o->∃i,i< n/\id=500+i/\ins[i]?=some o:=by
    intro id o ho
    unfold dz at ho
    split at ho
    · exact⟨id- 500,by rw [hn];exact(List.getElem?_eq_some_iff.1 ho).1,by omega,ho⟩
    · cases ho
  have hG1:G W1 (fun b=>L b\/W1 b) (dz ins) w L ρ1:=by
    refine⟨fun b hb=>⟨(hG.ll b hb).1,.inl hb⟩,fun b hb=> ?_,fun id o ho=> ?_,fun i j x y k hij hi hj hx hy hk=> ?_,hG.gl⟩
    · have:W1 b:=(hW1 b).2 (.inr hb)
      exact⟨this,.inr this⟩
    · obtain⟨i,hi,rfl,hio⟩:=hinsF id o ho
      obtain⟨m,o2,o',x,q1,q2,q3,q4,q5,q6,q7,q8,q9⟩:=hobj i hi
      rw [hio]at q3;injection q3 with q3;subst q3
      have hre:Real W w L (fun i=>ρ (G0 i)) (500+i) o:=Real.bg (by rw [q2];exact q7.eq q5)
      have hbW:∀k,blk x=some k->W1 k/\¬L k:=fun k hk=>⟨(hW1 k).2 (.inl ⟨i,x,hi,by rw [hρ1p i hi,q2];exact q8,hk⟩),(q9 k hk).2.2⟩
      have hxe:(fun i=>ρ (G0 i)) (500+i)=some x:=by show ρ (G0 (500+i))=some x;rw [q2];exact q8
      cases o with
      |box t cs=>
        obtain⟨b,ys',r1,r2,r3,r4,r5⟩:=hre
        have e0:=r1
        rw [hxe]at e0;injection e0 with e0
        have:=hbW b (by rw [e0];rfl)
        exact⟨b,ys',hinto _ _ oM oM r1,this.1,r3,r4,r5.rj q6 hinto⟩
      |row e sz nn row=>
        obtain⟨y,ys',r1,r2,r3,r4,r5⟩:=hre
        have e0:=r1
        rw [hxe]at e0;injection e0 with e0;subst e0
        exact⟨_,ys',hinto _ _ oM oM r1,r2,r3,r4.rj (vk _ q6) hinto,fun k hk=>hbW k hk⟩
      |mp str f=>
        obtain⟨b,es,cl,r1,r2,r3,r4,r5⟩:=hre
        have e0:=r1
        rw [hxe]at e0;injection e0 with e0
        have:=hbW b (by rw [e0];rfl)
        exact⟨b,es,cl,hinto _ _ oM oM r1,this.1,r3,r4,r5.imp fun i u x hu hr=>hr.rj (q6 i u hu) _ hinto⟩
    · cases hoi:dz ins i with
      |none=>exact absurd hoi hi
      |some oi=>
        cases hoj:dz ins j with
        |none=>exact absurd hoj hj
        |some oj=>
          obtain⟨a,ha,rfl,_⟩:=hinsF i oi hoi
          obtain⟨b,hb,rfl,_⟩:=hinsF j oj hoj
          obtain⟨m,o2,o',x',q1,q2,q3,q4,q5,q6,q7,q8,q9⟩:=hobj a ha
          obtain⟨m',o2',o'',x'',p1,p2,p3,p4,p5,p6,p7,p8,p9⟩:=hobj b hb
          rw [hρ1p a ha,q2]at hx
          rw [hρ1p b hb,p2]at hy
          refine hG.sep m m' x y k (fun e=>hij ?_) (by rw [q4];simp) (by rw [p4];simp) hx hy hk
          subst e
          have l1:=List.getElem?_eq_some_iff.1 q1
          have l2:=List.getElem?_eq_some_iff.1 p1
          obtain⟨l1a,l1b⟩:=l1
          obtain⟨l2a,l2b⟩:=l2
          have pw:=List.pairwise_iff_getElem.1 hns
          have:a=b:=by
            rcases Nat.lt_trichotomy a b with h |h |h
            · exact absurd (l1b.trans l2b.symm) (pw a b l1a l2a h)
            · exact h
            · exact absurd (l2b.trans l1b.symm) (pw b a l2a l1a h)
          rw [this]
  have hrun:=hrun0 hc.1
  refine aS.enter hp hrun ((hc.2 W1 (fun b=>L b\/W1 b) L w ρ1 _ (fun b h=> .inr h) hW1L hG1 (fun id hid=>by rw [hρ1,if_neg (by rw [<-hn]at hid;omega)]) hrv).mono ?_)
  rintro e w' ⟨x,rfl,tt,L',ρ',hG',hE',hv,hnn⟩
  obtain⟨D,hD,hd'⟩:∃D:Nat,d.getD 0=D/\D< 1000:=⟨_,rfl,by cases d with |none=>decide |some t=>simpa using hd⟩
  have ginj:∀i j,ay nx d i=ay nx d j->i=j:=fun i j h=>by unfold ay at h;rw [hD]at h;omega
  have hpinE:∀i,i< n->ρ' (500+i)=ρ (G0 (500+i)):=by
    intro i hi
    obtain⟨m,o,o',x',q1,q2,q3,q4,q5,q6,q7,q8,q9⟩:=hobj i hi
    rw [q2,q8]
    exact hE'.r _ _ (by rw [hρ1p i hi,q2];exact q8)
  obtain⟨ρ2,hρ2⟩:∃ρ2:Nat->Option Value,ρ2=fun id=>if id∈(List.range obs.length).map (ay nx d)then ρ' ((id- nx*100000) / 1000)else ρ id:=⟨_,rfl⟩
  have hgi:∀j,j< obs.length->ρ2 (ay nx d j)=ρ' j:=by
    intro j hj
    have:(ay nx d j- nx*100000) / 1000=j:=by unfold ay;rw [hD];omega
    rw [hρ2]
    simp only
    rw [if_pos (List.mem_map.2 ⟨j,by simpa using hj,rfl⟩),this]
  have hout:∀id,id∉(List.range obs.length).map (ay nx d)->ρ2 id=ρ id:=by
    intro id hid;rw [hρ2];simp only;rw [if_neg hid]
  have hkeep:∀id y,ρ id=some y->ρ2 id=some y:=fun id y hy=>by
    rw [hout id (fun hc=>by rw [hnew id hc]at hy;cases hy)];exact hy
  have hon:∀j y,ρ' j=some y->ρ2 (G0 j)=some y:=by
    intro j y hy
    by_cases hj:j< obs.length
    · rw [gnew j oM,hgi j hj];exact hy
    · by_cases h5:500<=j/\j< 500+n
      · have e5:j=500+(j- 500):=by omega
        rw [e5,hpinE (j- 500) oM]at hy
        rw [e5]
        exact hkeep _ _ hy
      · rw [hnn j oM (by rw [<-hn];omega)]at hy;cases hy
  have ex:Ext w L ρ w' L' ρ2:=⟨hE'.l,hkeep⟩
  have hLL:∀b,L' b->L b\/W1 b:=fun b hb=>(hG'.ll b hb).2
  have hofD:∀D',w.heap[D']?=some (.deferred (some []))->¬W1 D':=fun D' hD' hc=>by
    have hlt:=(Array.getElem?_eq_some_iff.1 hD').1
    obtain⟨_,_,i,m,y,_,_,hs,hy,hbk⟩:=hW1old D' hc hlt
    cases hso:σ m with
    |none=>exact hs hso
    |some o=>exact(hG.ob m o hso).fV hy hbk hD'
  have names:∀(id:Nat) (o:Ob),bA σ (gG G0 ns outs++ck G0 0 obs) id=some o->(∃j ob,eT outs obs j=some ob/\id=G0 j/\o=ob.bg G0)\/(σ id=some o/\id∉ns/\id∉(List.range obs.length).map (ay nx d)):=by
    intro id o ho
    rw [jl]at ho
    have key:∀(obs':List Ob) (j0:Nat) (σ:Nat->Option Ob),bA σ (ck G0 j0 obs') id=some o->(∃j ob,obs'[j]?=some ob/\id=G0 (j0+j)/\o=ob.bg G0)\/(σ id=some o/\∀j,j< obs'.length->id≠G0 (j0+j)):=by
      intro obs'
      induction obs' with
      |nil=>intro j0 σ ho;exact .inr ⟨ho,fun j hj=>by simp at hj⟩
      |cons ob obs' ih=>
        intro j0 σ ho
        rw [ck,bA]at ho
        rcases ih (j0+1) _ ho with⟨j,ob',h1,h2,h3⟩ | ⟨h1,h2⟩
        · exact .inl ⟨j+1,ob',by simpa using h1,by rw [h2];congr 1;omega,h3⟩
        · by_cases he:id=G0 j0
          · subst he
            rw [av]at h1;injection h1 with h1
            exact .inl ⟨0,ob,rfl,rfl,h1.symm⟩
          · rw [ak _ _ he]at h1
            refine .inr ⟨h1,fun j hj=> ?_⟩
            cases j with
            |zero=>exact he
            |succ j=>have:=h2 j (by simpa using hj);rwa [show j0+(j+1)=j0+1+j by omega]
    rcases key obs 0 _ ho with⟨j,ob,h1,h2,h3⟩ | ⟨h1,h2⟩
    · have hj:=(List.getElem?_eq_some_iff.1 h1).1
      refine .inl ⟨j,ob,?_,by rw [h2,Nat.zero_add],h3⟩
      unfold eT;rw [if_neg oM];exact h1
    · rcases wT G0 ns outs σ id o hns oM h1 with⟨i,ob,p1,p2,p3⟩ | ⟨p1,p2⟩
      · have hi:i< n:=by have:=(List.getElem?_eq_some_iff.1 p1).1;omega
        obtain⟨m,hm,hgm⟩:=gpin i hi
        rw [p1]at hm;injection hm with hm
        refine .inl ⟨500+i,ob,?_,by rw [hgm,hm],p3⟩
        unfold eT;rw [if_pos oM,Nat.add_sub_cancel_left,p2];rfl
      · refine .inr ⟨p1,p2,fun hc=> ?_⟩
        obtain⟨j,hj,rfl⟩:=List.mem_map.1 hc
        have hj':j< obs.length:=by simpa using hj
        exact h2 j hj' (by rw [Nat.zero_add,gnew j oM])
  -- what was not handed stands
  have oldb:∀i y k,σ i≠none->i∉ns->ρ i=some y->blk y=some k->k< w.heap.size/\¬W1 k:=by
    intro i y k hs hni hy hk
    cases ho:σ i with
    |none=>exact absurd ho hs
    |some o=>
      obtain⟨y',hy',hlt⟩:=(hG.ob i o ho).lt
      rw [hy]at hy';injection hy' with hy';subst hy'
      refine⟨(hlt k hk).1,fun hc=> ?_⟩
      obtain⟨_,_,a,m,z,_,hm,hsm,hz,hbz⟩:=hW1old k hc (hlt k hk).1
      exact hG.sep i m y z k (fun e=>hni (by rw [e];exact List.mem_of_getElem? hm)) hs hsm hy hz hk hbz
  refine⟨x,rfl,L',ρ2,⟨fun b hbl=> ?_,fun b hbs=>hG.new b (Nat.le_trans tt.size hbs),fun id o ho=> ?_,?_,hG.td ex⟩,kD _ hon hv,tt.mono fun k _ hk=>hW1W k hk,ex,fun id hid=>hout id hid,fun D' hD'=>⟨(tt.block D' (Array.getElem?_eq_some_iff.1 hD').1 (hofD D' hD')).trans hD',fun hl=>(hLL D' hl).resolve_right (hofD D' hD')⟩⟩
  · refine⟨(hG'.ll b hbl).1,?_⟩
    rcases hLL b hbl with h |h
    · exact(hG.ll b h).2
    · exact hwl b (hW1W b h)
  · rcases names id o ho with⟨j,ob,h1,h2,h3⟩ | ⟨h1,h2,h2'⟩
    · subst h2 h3
      exact(hG'.ob j ob h1).Ed _ hon hW1W
    · have hk:=hG.ob id o h1
      refine hk.keep ex fun y k hy hk2=> ?_
      obtain⟨y',hy',hlt⟩:=hk.lt
      rw [hy]at hy';injection hy' with hy';subst hy'
      obtain⟨l1,l2,l3⟩:=hlt k hk2
      have hnw:=(oldb id y k (by rw [h1];simp) h2 hy hk2).2
      exact⟨tt.block k l1 hnw,fun hc=>(hLL k hc).elim l3 hnw⟩
  · intro i j y z k hij hi hj hyi hzj hk hkz
    have cases':∀i,bA σ (gG G0 ns outs++ck G0 0 obs) i≠none->(∃q ob,eT outs obs q=some ob/\i=G0 q)\/(σ i≠none/\i∉ns/\i∉(List.range obs.length).map (ay nx d)):=by
      intro i hi
      cases ho:bA σ (gG G0 ns outs++ck G0 0 obs) i with
      |none=>exact absurd ho hi
      |some o=>
        rcases names i o ho with⟨q,ob,h1,h2,h3⟩ | ⟨h1,h2,h3⟩
        · exact .inl ⟨q,ob,h1,h2⟩
        · exact .inr ⟨by rw [h1];simp,h2,h3⟩
    have newb:∀q ob y k,eT outs obs q=some ob->ρ2 (G0 q)=some y->blk y=some k->ρ' q=some y/\W1 k:=by
      intro q ob y k ho hy hk
      obtain⟨y',hy',hlt⟩:=(hG'.ob q ob ho).lt
      have:=hon q y' hy'
      rw [hy]at this;injection this with this;subst this
      exact⟨hy',(hlt k hk).2.1⟩
    rcases cases' i hi with⟨q,ob,h1,rfl⟩ | ⟨h1,h2,h3⟩
    · rcases cases' j hj with⟨q',ob',h1',rfl⟩ | ⟨h1',h2',h3'⟩
      · have a1:=newb q ob y k h1 hyi hk
        have a2:=newb q' ob' z k h1' hzj hkz
        exact hG'.sep q q' y z k (fun e=>hij (by rw [e])) (by rw [h1];simp) (by rw [h1'];simp) a1.1 a2.1 hk hkz
      · have a1:=newb q ob y k h1 hyi hk
        rw [hout j h3']at hzj
        exact(oldb j z k h1' h2' hzj hkz).2 a1.2
    · rcases cases' j hj with⟨q',ob',h1',rfl⟩ | ⟨h1',h2',h3'⟩
      · have a1:=newb q' ob' z k h1' hzj hkz
        rw [hout i h3]at hyi
        exact(oldb i y k h1 h2 hyi hk).2 a1.2
      · rw [hout i h3]at hyi
        rw [hout j h3']at hzj
        exact hG.sep i j y z k hij h1 h1' hyi hzj hk hkz
theorem kH{fo:Operand}{ar:Array Operand}{ats:Array TypeId}{f:FuncId}{first caps args:List V}{ins ins':List Ob}{v:V}{outs:List (Option Ob)}{obs:List Ob}(hc:AM P f args ins v outs obs)(hwl:∀b,W b->LB b)(ns:List Nat)(hf:ev fo= .fn (.func f) first caps)(nx:Nat) (hargs:first++ar.toList.map ev++caps=V.aP (aI nx d ns) args) (hin:V.cB ins.length args=true) (hd:d.all (fun t=>decide (t< 1000))=true) (hobs:obs.length<=90) (hns:ns.Nodup) (hnl:ns.length=ins.length) (hol:outs.length=ins.length) (hil:ins'.length=ins.length) (hins:∀(i:Nat) (o o':Ob),ins[i]?=some o->ins'[i]?=some o'->dQ o' (o.bg (aI nx d ns))/\o.iL ins.length) : aQ P W LB ⟨d,.call {callee:= .value fo,args:=ar,argTypes:=ats},ty,pos,af,gd⟩ ev (v.bg (aI nx d ns)) (gI ns ins') ((List.range obs.length).map (ay nx d)) (gG (aI nx d ns) ns outs++ck (aI nx d ns) 0 obs):=by
 refine pX hc hwl ns rfl (as0:=first++ar.toList.map ev++caps) (fun w L ρ g hr=> ?_) nx hargs hin hd hobs hns hnl hol hil hins;have h1:=hr fo (by simp [Op.operands,Call.operands]);rw [hf]at h1;obtain⟨xs,ys,e1,hx,hy⟩:=h1.i4;have hz:RV w L ρ (ar.toList.map ev) (ar.map g).toList:=by refine⟨by simp,fun i u x hu hx=> ?_⟩;simp only [List.getElem?_map,Option.map_eq_some_iff,Array.toList_map]at hu hx;obtain⟨p,hp,rfl⟩:=hu;obtain⟨q,hq,rfl⟩:=hx;rw [hp]at hq;injection hq with hq;subst hq;exact hr p (by simp only [Op.operands,Call.operands];have:=List.mem_of_getElem? hp;simp at this ⊢;exact .inr this)
 refine⟨xs++ar.map g++ys,fun hcf=> ?_,?_⟩;·simp [execOp,resolve,Deferred.ofValue,invoke,e1,hcf]
 ·have:=(hx.append hz).append hy;simpa using this
end
end Go.Ab

namespace Go.Ab
open Go.RowKit Go.Dw
inductive dP(g:Nat->Nat)(n:Nat):List Ob->List Ob->Prop
  |nil:dP g n [] []
  |box {t:TypeId}{cs cs':List V}{l l':List Ob}(h:cs'=V.aP g cs) (hi:V.cB n cs=true) (k:dP g n l l'):dP g n (.box t cs::l) (.box t cs'::l')
  |row {e sz m m':Nat}{f f':Nat->List V}{l l':List Ob}(hm:m'=m) (h:∀i,i< m'->f' i=V.aP g (f i)) (hi:∀i,i< m->V.cB n (f i)=true) (k:dP g n l l'):dP g n (.row e sz m f::l) (.row e sz m' f'::l')
  |mp {s:Bool×Nat}{f f':MF}{l l':List Ob}(h:∀k,f'.look k=(f.map (V.bg g)).look k) (hi:∀k u,f.look k=some u->V.iL n u=true) (k:dP g n l l'):dP g n (.mp s f::l) (.mp s f'::l')
theorem dP.get{g:Nat->Nat}{n:Nat}{l l':List Ob}(h:dP g n l l'):l'.length=l.length/\∀(i:Nat) (o o':Ob),l[i]?=some o->l'[i]?=some o'->dQ o' (o.bg g)/\o.iL n:=by
 induction h with
 |nil=>exact⟨rfl,fun i o o' h=>by simp at h⟩
 |box h hi k ih=>
  refine⟨by simp [ih.1],fun i o o' h1 h2=> ?_⟩;cases i with
  |zero=>simp at h1 h2;subst h1 h2;exact⟨⟨rfl,h⟩,hi⟩
  |succ i=>exact ih.2 i o o' (by simpa using h1) (by simpa using h2)
 |row hm h hi k ih=>
  refine⟨by simp [ih.1],fun i o o' h1 h2=> ?_⟩;cases i with
  |zero=>simp at h1 h2;subst h1 h2;exact⟨⟨rfl,rfl,hm,h⟩,hi⟩
  |succ i=>exact ih.2 i o o' (by simpa using h1) (by simpa using h2)
 |mp h hi k ih=>
  refine⟨by simp [ih.1],fun i o o' h1 h2=> ?_⟩;cases i with
  |zero=>simp at h1 h2;subst h1 h2;exact⟨⟨rfl,h⟩,hi⟩
  |succ i=>exact ih.2 i o o' (by simpa using h1) (by simpa using h2)
def qi(σ:Nat->Option Ob):List Nat->List (Option Ob)
 | []=>[]
 |n::ns=>σ n::qi σ ns
theorem lQ{σ:Nat->Option Ob}:∀ {ns:List Nat}{l:List Ob},qi σ ns=l.map some->∀p∈gI ns l,σ p.1=some p.2
 | [],l,_,p,hp=>by simp [gI]at hp
 |n::ns,[],h,p,hp=>by simp [qi]at h
 |n::ns,o::l,h,p,hp=>by
  simp only [qi,List.map_cons,List.cons.injEq]at h;rcases List.mem_cons.1 hp with rfl |hp;·exact h.1
  ·exact lQ h.2 p hp
section
variable {P:Program}{N:Nat}{C:Cx P N}{T:List TI}{ops:Array Oper}{nx:Nat}{o:Oper}{os:List Oper}{tm:Nat->V}{σ:Nat->Option Ob}{ks:List (List Nat×List Nat)}{K:(Nat->V)->(Nat->Option Ob)->List (List Nat×List Nat)->Prop}{ty:TypeId}{pos:String}{af:Array Edge}
theorem fu{d:Nat}{fo:Operand}{ar:Array Operand}{ats:Array TypeId}{f:FuncId}{first caps args:List V}{ins ins':List Ob}{v v':V}{outs:List (Option Ob)}{obs:List Ob}{δ:List (Nat×Option Ob)}{kp:List Nat}(ns:List Nat)(hc:AM P f args ins v outs obs)(hf:ev tm fo= .fn (.func f) first caps) (hargs:first++ar.toList.map (ev tm)++caps=V.aP (aI nx (some d) ns) args) (hin:V.cB ins.length args=true) (hd:decide (d< 1000)=true) (hobs:decide (obs.length<=90)=true) (hns:decide ns.Nodup=true) (hnl:ns.length=ins.length) (hol:outs.length=ins.length) (hσ:qi σ ns=ins'.map some) (hins:dP (aI nx (some d) ns) ins.length ins ins') (hv:v.bg (aI nx (some d) ns)=v') (hδ:gG (aI nx (some d) ns) ns outs++ck (aI nx (some d) ns) 0 obs=δ) (hkp:cU (gI ns ins')=kp) (hk:bq C ops nx os (bU tm d v') (bA σ δ) (ks++[(aR δ,kp++aR δ)]) K):bq C ops nx (⟨some d,.call {callee:= .value fo,args:=ar,argTypes:=ats},ty,pos,af,none⟩::os) tm σ ks K:=by
 subst hv hδ hkp;have hd':d< 1000:=of_decide_eq_true hd;refine dR rfl (kH (d:=some d) hc C.wl ns hf nx hargs hin (by simpa using hd') (of_decide_eq_true hobs) (of_decide_eq_true hns) hnl hol hins.get.1 hins.get.2) (lQ hσ) ?_ hk;intro id hid;have hob:obs.length<=90:=of_decide_eq_true hobs;obtain⟨j,hj,rfl⟩:=List.mem_map.1 hid;have hj':j< obs.length:=by simpa using hj
 refine⟨d,rfl,?_,?_,?_⟩ <;> simp only [ay,Option.getD_some] <;> omega
theorem mj:∀(l:List (Nat×Option Ob)) (σ:Nat->Option Ob),(∀p∈l,σ p.1=p.2)->bA σ l=σ
 | [],σ,_=>rfl
 | (k,o)::l,σ,h=>by
  have e:bU σ k o=σ:=by
   funext i;by_cases hi:i=k;·subst hi;rw [av];exact(h (i,o) (by simp)).symm
   ·rw [ak _ _ hi]
  rw [bA,e];exact mj l σ fun p hp=>h p (by simp [hp])
theorem tP{g:Nat->Nat}{σ:Nat->Option Ob}:∀ {ns:List Nat}{ins ins':List Ob},ins.map (Ob.bg g)=ins'->(∀p∈gI ns ins',σ p.1=some p.2)->∀p∈gG g ns (ins.map some),σ p.1=p.2
 | [],ins,_,_,_,p,hp=>by simp [gG]at hp
 |n::ns,[],_,_,_,p,hp=>by simp [gG]at hp
 |n::ns,o::ins,[],h,_,p,hp=>by simp at h
 |n::ns,o::ins,o'::ins',h,k,p,hp=>by
  simp only [List.map_cons,List.cons.injEq]at h;simp only [List.map_cons,gG,List.mem_cons]at hp;rcases hp with rfl |hp;·have:=k (n,o') (by simp [gI]);simpa [h.1]using this
  ·exact tP h.2 (fun q hq=>k q (by simp [gI,hq])) p hp
theorem dP.of_map{g:Nat->Nat}{n:Nat}:∀ {ins ins':List Ob},ins.map (Ob.bg g)=ins'->(∀o∈ins,o.iL n)->dP g n ins ins'
 | [],_,rfl,_=> .nil
 | .box t cs::l,_,rfl,h=> .box rfl (show V.cB n cs=true from h (.box t cs) (by simp)) (dP.of_map rfl fun o ho=>h o (by simp [ho]))
 | .row e sz m f::l,_,rfl,h=> .row rfl (fun _ _=>rfl) (show ∀i,i< m->V.cB n (f i)=true from h (.row e sz m f) (by simp)) (dP.of_map rfl fun o ho=>h o (by simp [ho]))
 | .mp s f::l,_,rfl,h=> .mp (fun _=>rfl) (show ∀k u,f.look k=some u->V.iL n u=true from h (.mp s f) (by simp)) (dP.of_map rfl fun o ho=>h o (by simp [ho]))
def sq(n:Nat):List Ob->Prop
 | []=>True
 | .box _ cs::l=>V.cB n cs=true/\sq n l
 | .row _ _ m f::l=>(∀i,i< m->V.cB n (f i)=true)/\sq n l
 | .mp _ f::l=>(∀k u,f.look k=some u->V.iL n u=true)/\sq n l
theorem js{n:Nat}:∀ {l:List Ob},sq n l->∀o∈l,o.iL n
 | .box _ _::l,h,o,ho=>by
  rcases List.mem_cons.1 ho with rfl |ho;·exact h.1
  ·exact js h.2 o ho
 | .row _ _ _ _::l,h,o,ho=>by
  rcases List.mem_cons.1 ho with rfl |ho;·exact h.1
  ·exact js h.2 o ho
 | .mp _ _::l,h,o,ho=>by
  rcases List.mem_cons.1 ho with rfl |ho;·exact h.1
  ·exact js h.2 o ho
theorem gR{d:Nat}{fo:Operand}{ar:Array Operand}{ats:Array TypeId}{f:FuncId}{first caps args:List V}{ins ins':List Ob}{v v':V}{outs:List (Option Ob)}{obs:List Ob}{δ:List (Nat×Option Ob)}{kp:List Nat}(ns:List Nat)(hc:AM P f args ins v outs obs)(hou:outs=ins.map some)(hf:ev tm fo= .fn (.func f) first caps) (hargs:first++ar.toList.map (ev tm)++caps=V.aP (aI nx (some d) ns) args) (hin:V.cB ins.length args=true) (hd:decide (d< 1000)=true) (hobs:decide (obs.length<=90)=true) (hns:decide ns.Nodup=true) (hnl:ns.length=ins.length) (hσ:qi σ ns=ins'.map some) (hins:ins.map (Ob.bg (aI nx (some d) ns))=ins') (hi2:sq ins.length ins) (hv:v.bg (aI nx (some d) ns)=v') (hδ:ck (aI nx (some d) ns) 0 obs=δ) (hkp:cU (gI ns ins')=kp) (hk:bq C ops nx os (bU tm d v') (bA σ δ) (ks++[(aR δ,kp++aR δ)]) K):bq C ops nx (⟨some d,.call {callee:= .value fo,args:=ar,argTypes:=ats},ty,pos,af,none⟩::os) tm σ ks K:=by
 subst hv hδ hkp hou;have hd':d< 1000:=of_decide_eq_true hd;have hI:=dP.of_map (n:=ins.length) hins (js hi2);have st:=kH (W:=C.W) (LB:=C.LB) (ty:=ty) (pos:=pos) (af:=af) (gd:=none) (ats:=ats) (d:=some d) hc C.wl ns hf nx hargs hin (by simpa using hd') (of_decide_eq_true hobs) (of_decide_eq_true hns) hnl (by simp) hI.get.1 hI.get.2;refine dR rfl (pre:=gI ns ins') (nw:=(List.range obs.length).map (ay nx (some d))) (δ:=ck (aI nx (some d) ns) 0 obs) ?_ (lQ hσ) ?_ hk;·intro σ' w L ρ q hG hr hp hn;have:=st σ' w L ρ q hG hr hp hn;rwa [jl,mj _ σ' (tP hins hp)]at this
 ·intro id hid;have hob:obs.length<=90:=of_decide_eq_true hobs;obtain⟨j,hj,rfl⟩:=List.mem_map.1 hid;have hj':j< obs.length:=by simpa using hj
  refine⟨d,rfl,?_,?_,?_⟩ <;> simp only [ay,Option.getD_some] <;> omega
end
section
variable {P:Program}{N:Nat}{C:Cx P N}{T:List TI}{M:List Nat}{ops:Array Oper}{nx:Nat}{o:Oper}{os:List Oper}{tm:Nat->V}{σ:Nat->Option Ob}{ks:List (List Nat×List Nat)}{K:(Nat->V)->(Nat->Option Ob)->List (List Nat×List Nat)->Prop}
end
def iG:Nat->List (Option Ob)->List (Nat×Ob)
 |_,[]=>[]
 |k,none::os=>iG (k+1) os
 |k,some o::os=>(k,o)::iG (k+1) os
theorem ec:∀(os:List (Option Ob)) (k:Nat) (l:List (Nat×Ob)) (i:Nat),(i< k\/k+os.length<=i->cE (iG k os++l) i=cE l i)/\∀(j:Nat) (ob:Ob),os[j]?=some (some ob)->cE (iG k os++l) (k+j)=some ob
 | [],k,l,i=>⟨fun _=>rfl,fun j ob h=>by simp at h⟩
 |none::os,k,l,i=>by
  refine⟨fun h=>(ec os (k+1) l i).1 (by simp at h;omega),fun j ob h=> ?_⟩;cases j with
  |zero=>simp at h
  |succ j=>have:=(ec os (k+1) l i).2 j ob (by simpa using h);rwa [show k+(j+1)=k+1+j by omega]
 |some o::os,k,l,i=>by
  have e:∀i,i≠k->cE (iG k (some o::os)++l) i=cE (iG (k+1) os++l) i:=fun i hi=>by show bU (cE (iG (k+1) os++l)) k (some o) i=_;rw [ak _ _ hi]
  refine⟨fun h=> ?_,fun j ob h=> ?_⟩;·rw [e i (by simp at h;omega)];exact(ec os (k+1) l i).1 (by simp at h;omega)
  ·cases j with
   |zero=>simp at h;subst h;show bU (cE (iG (k+1) os++l)) k (some o) k=_;exact av _ _ _
   |succ j=>rw [e _ oM,show k+(j+1)=k+1+j by omega];exact(ec os (k+1) l i).2 j ob (by simpa using h)
def Ea(g:Nat->Nat):List (Option Ob)->List (Option Ob):=List.map fun o=>o.map (Ob.bg g)
theorem iw{T:List TI}{fn:Func}{n:Nat}{v v':V}{outs:List (Option Ob)}{obs:List Ob}{e:Exit}{tm:Nat->V}{σ:Nat->Option Ob}{nx:Nat}(gl:List (Nat×Nat))(tl:List (Nat×V))(he:e= .normal\/e= .ret) (htm:lu (fun p=>tm p.1=p.2.bg (aL gl nx)) tl) (hσ:lu (fun p=>∃ob,σ (aL gl nx p.1)=some ob/\dQ ob (p.2.bg (aL gl nx))) (iG 0 (obs.map some)++iG 500 outs)) (hinj:decide (((iG 0 (obs.map some)++iG 500 outs).map fun p=>aL gl nx p.1).Nodup)=true) (hid:gl.all (fun p=>decide (p.1< 500))=true) (hob:decide (obs.length<=90)=true) (hres:nc T ⟨jz tl,cE (iG 0 (obs.map some)++iG 500 outs),1⟩ fn.results.toList=some v') (hv:v'=v) (hcv:v'.bg (aT obs.length n 1)=v') (hco:Ea (aT obs.length n 1) (obs.map some++outs)=obs.map some++outs):c7 T fn n v outs obs e ⟨tm,σ,nx⟩:=by
 subst hv;have hob:=of_decide_eq_true hob;have hren:∀o:Ob,some o∈obs.map some++outs->o.bg (aT obs.length n 1)=o:=by
  intro o ho;obtain⟨i,hi⟩:=List.getElem?_of_mem ho;have h1:(Ea (aT obs.length n 1) (obs.map some++outs))[i]?=some (some (o.bg (aT obs.length n 1))):=by unfold Ea;rw [List.getElem?_map,hi];rfl
  rw [hco,hi]at h1;injection h1 with h1;injection h1 with h1;exact h1.symm
 refine⟨he,_,eV gl (tl:=tl) (sl:=iG 0 (obs.map some)++iG 500 outs) htm hσ hinj hid,hres,fun i ob hi=> ?_,fun i ob hi=> ?_,hcv,fun ob hm=>hren ob (by simp [hm]),fun ob hm=>hren ob (by simp [hm])⟩;·have:=(ec (obs.map some) 0 (iG 500 outs) 0).2 i ob (by simp [hi]);simpa using this
 ·have hi':=(List.getElem?_eq_some_iff.1 hi).1;show cE (iG 0 (obs.map some)++iG 500 outs) (500+i)=some ob;rw [(ec (obs.map some) 0 (iG 500 outs) (500+i)).1 (by right;simp;omega)];have:=(ec outs 500 [] 0).2 i ob hi;simpa using this
theorem GK{T:List TI}{fn:Func}{n:Nat}{v v':V}{outs:List (Option Ob)}{obs:List Ob}{e:Exit}{tm:Nat->V}{σ:Nat->Option Ob}{nx:Nat}(gl:List (Nat×Nat))(tl:List (Nat×V))(ex:List (Nat×Ob))(he:e= .normal\/e= .ret) (htm:lu (fun p=>tm p.1=p.2.bg (aL gl nx)) tl) (hσ:lu (fun p=>∃ob,σ (aL gl nx p.1)=some ob/\dQ ob (p.2.bg (aL gl nx))) (iG 0 (obs.map some)++(iG 500 outs++ex))) (hinj:decide (((iG 0 (obs.map some)++(iG 500 outs++ex)).map fun p=>aL gl nx p.1).Nodup)=true) (hid:gl.all (fun p=>decide (p.1< 500))=true) (hob:decide (obs.length<=90)=true) (hres:nc T ⟨jz tl,cE (iG 0 (obs.map some)++(iG 500 outs++ex)),1⟩ fn.results.toList=some v') (hv:v'=v) (hcv:v'.bg (aT obs.length n 1)=v') (hco:Ea (aT obs.length n 1) (obs.map some++outs)=obs.map some++outs):c7 T fn n v outs obs e ⟨tm,σ,nx⟩:=by
 subst hv;have hob:=of_decide_eq_true hob;have hren:∀o:Ob,some o∈obs.map some++outs->o.bg (aT obs.length n 1)=o:=by
  intro o ho;obtain⟨i,hi⟩:=List.getElem?_of_mem ho;have h1:(Ea (aT obs.length n 1) (obs.map some++outs))[i]?=some (some (o.bg (aT obs.length n 1))):=by unfold Ea;rw [List.getElem?_map,hi];rfl
  rw [hco,hi]at h1;injection h1 with h1;injection h1 with h1;exact h1.symm
 refine⟨he,_,eV gl (tl:=tl) (sl:=iG 0 (obs.map some)++(iG 500 outs++ex)) htm hσ hinj hid,hres,fun i ob hi=> ?_,fun i ob hi=> ?_,hcv,fun ob hm=>hren ob (by simp [hm]),fun ob hm=>hren ob (by simp [hm])⟩;·have:=(ec (obs.map some) 0 (iG 500 outs++ex) 0).2 i ob (by simp [hi]);simpa using this
 ·have hi':=(List.getElem?_eq_some_iff.1 hi).1;show cE (iG 0 (obs.map some)++(iG 500 outs++ex)) (500+i)=some ob;rw [(ec (obs.map some) 0 (iG 500 outs++ex) (500+i)).1 (by right;simp;omega)];exact(ec outs 500 ex 0).2 i ob hi
theorem dg{T:List TI}{fn:Func}{n:Nat}{v:V}{outs:List (Option Ob)}{obs:List Ob}{e:Exit}{s s':S}(hle:Le s s')(h:c7 T fn n v outs obs e s'):c7 T fn n v outs obs e s:=by obtain⟨he,s'',hle',h1⟩:=h;exact⟨he,s'',Le.trans hle hle',h1⟩
end Go.Ab

namespace Go.Dw
open Go.RowKit Go.Shelf
structure jY(U:Nat->Prop)(B:Nat)(w w':World):Prop where
  os:w'.os=w.os
  tape:w'.tape=w.tape
  output:w'.output=w.output
  size:w.heap.size<=w'.heap.size
  block:∀k,k< B->¬U k->w'.heap[k]?=w.heap[k]?
theorem jY.of{U:Nat->Prop}{B:Nat}{w w':World}(h:Below B w w'):jY U B w w':=⟨h.os,h.tape,h.output,h.size,fun k hk _=>h.block k hk⟩
theorem jY.no{U:Nat->Prop}{B:Nat}{w w':World}(h:jY U B w w')(hU:∀k,¬U k):Below B w w':=⟨h.os,h.tape,h.output,h.size,fun k hk=>h.block k hk (hU k)⟩
theorem jY.mono{U:Nat->Prop}{B B':Nat}{w w':World}(h:jY U B w w')(hB:B'<=B):jY U B' w w':=⟨h.os,h.tape,h.output,h.size,fun k hk=>h.block k oM⟩
theorem aU.xY{R U:Nat->Prop}{B:Nat}{w w':World}(h:aU R w w')(hB:B<=w.heap.size)(hR:∀k,k< B->R k->U k):jY U B w w':=⟨h.os,h.tape,h.output,h.size,fun k hk hU=>h.block k oM fun hr=>hU (hR k hk hr)⟩
theorem aU.A1{R U:Nat->Prop}{B:Nat}{w w' w'':World}(h:aU R w w')(k:jY U B w' w'')(hB:w.heap.size<=B)(hU:∀i,U i->R i):aU R w w'':= ⟨k.os.trans h.os,k.tape.trans h.tape,k.output.trans h.output,Nat.le_trans h.size k.size,fun i hi hr=>(k.block i oM fun hu=>hr (hU i hu)).trans (h.block i hi hr)⟩
def zj(P:Program)(f:FuncId)(lb:Array Value)(n:Nat)(E:Nat->Nat->Array Value->World->Prop)(R U:Nat->Prop)(w:World):Prop:=
  ∀(l:Nat) (J Jx:Nat->World->Prop) (W:World),aU R w W->w.heap.size<=l->l< W.heap.size->
    (∀k W1 W2,J k W1->jY U W.heap.size W1 W2->J k W2)->(∀k W1 W2,Jx k W1->jY U W.heap.size W1 W2->Jx k W2)->
    (∀k x W1,k< n->E l k x W1->W.heap.size<=W1.heap.size->J k W1->YieldAt Fence.wide 0 P l x W1 fun e W2=>∃b:Bool,e= .returned (.bool b)/\aU (fun i=>R i\/i=l) W1 W2/\(b=true->J (k+1) W2)/\(b=false->Jx k W2))->
    J 0 W->
    CallsIn Fence.wide 0 P f (#[.func (.yield l) #[] #[]]++lb) W fun e W'=>(∃v,e= .returned v)/\(J n W'\/∃k,k< n/\Jx k W')
def FV(P:Program)(f:FuncId)(lb:Array Value)(n:Nat)(E:Nat->Nat->Array Value->World->Prop)(R:Nat->Prop)(w:World):Prop:=
  ∀(l:Nat) (J Jx:Nat->World->Prop) (W:World),aU R w W->w.heap.size<=l->l< W.heap.size->
    (∀k W1 W2,J k W1->Below W.heap.size W1 W2->J k W2)->(∀k W1 W2,Jx k W1->Below W.heap.size W1 W2->Jx k W2)->
    (∀k x W1,k< n->E l k x W1->W.heap.size<=W1.heap.size->J k W1->YieldAt Fence.wide 0 P l x W1 fun e W2=>∃b:Bool,e= .returned (.bool b)/\aU (fun i=>R i\/i=l) W1 W2/\(b=true->J (k+1) W2)/\(b=false->Jx k W2))->
    J 0 W->
    CallsIn Fence.wide 0 P f (#[.func (.yield l) #[] #[]]++lb) W fun e W'=>(∃v,e= .returned v)/\(J n W'\/∃k,k< n/\Jx k W')
theorem v8{P:Program}{g:Operand}{ps:Array Tmp}{assign body:Code}{Q:Exit->Act->World->Prop}{a:Act}{w:World} {gf:Nat}{lb:Array Value}(hg:a.eval g= .func (.func gf) #[] lb) (eg:∀args w,(callFunc gf args).run P w= .ok (.enter gf args) w) {n:Nat}{E:Nat->Nat->Array Value->World->Prop}{R U:Nat->Prop}(hit:zj P gf lb n E R U w) (hR:∀i,R i->i< w.heap.size) (hU:∀i,U i->i< w.heap.size) (hps:∀l k x W,E l k x W->x.size=ps.size) (J:Nat->World->Prop) (Jx:Nat->Code->World->Prop) (hJ:∀k W1 W2,J k W1->jY U w.heap.size W1 W2->J k W2) (hJx:∀k c W1 W2,Jx k c W1->jY U w.heap.size W1 W2->Jx k c W2) (h0:J 0 w) (hround:∀(l k:Nat) (x:Array Value) (W:World),w.heap.size<=l->l< W.heap.size->k< n->E l k x W->J k W-> assign.wpIn (Fence.wide.inRound l) 0 P (Exit.then (fun a₁ W1=>aU R W W1/\∀W2,aU (· =l) W1 W2->body.wpIn (Fence.wide.inRound l) 0 P (tX (fun i=>R i\/W.heap.size<=i) J Jx k W2) a₁ W2) (fun _ _ _=>False)) {tmps:=(ps.zip x).foldl (fun t (p,v)=>t.setIfInBounds p v) a.tmps,defers:=[]} W) (hdone:∀(D:Nat) (W:World),J n W->w.heap.size<=D->W.heap[D]?=some (.deferred (some []))->Q .normal {a with defers:={target:= .collected D,args:= #[]}::a.defers} W) (hstop:∀(D k:Nat) (c:Code) (W:World),k< n->Jx k c W->w.heap.size<=D->W.heap[D]?=some (.deferred (some []))->c.wpIn Fence.wide 0 P Q {a with defers:={target:= .collected D,args:= #[]}::a.defers} W) : (Code.rangeFunc g ps assign body).wpIn Fence.wide 0 P Q a w:=by
 refine wpIn_rangeFunc ?_;intro fn hfn;obtain⟨rec,hrec⟩:∃rec:LoopState->Option Code->Loop,rec=fun st pe=>{state:=st,pending:=pe,fn,tmps:=a.tmps,params:=ps,assign,body,defers:=w.heap.size}:=⟨_,rfl⟩;obtain⟨W1,hW1⟩:∃W1,(w.alloc (.deferred (some []))).alloc (.loop (rec .ready none))=W1:=⟨_,rfl⟩;have hL1:W1.heap[w.heap.size+1]?=some (.loop (rec .ready none)):=by rw [<-hW1];have:=World.alloc_heap_new (w.alloc (.deferred (some []))) (.loop (rec .ready none));rwa [World.size_alloc]at this
 have hK1:W1.heap[w.heap.size]?=some (.deferred (some [])):=by rw [<-hW1];exact(Below.heap_alloc _ _ _ (by simp)).trans (World.alloc_heap_new w _)
 have hs1:W1.heap.size=w.heap.size+2:=by rw [<-hW1];simp
 have hb1:Below w.heap.size w W1:=by rw [<-hW1];exact((Below.refl _ w).alloc (Nat.le_refl _) _).alloc (by simp) _
 refine⟨w.heap.size+1,[{target:= .collected w.heap.size,args:= #[]}],W1,{target:= .fn (.func gf) lb,args:= #[.func (.yield (w.heap.size+1)) #[] #[]]},W1,gf,#[.func (.yield (w.heap.size+1)) #[] #[]]++lb,W1,?_,?_,fun _ _=>trivial,?_,fun h=>by simp [Fence.wide]at h,?_⟩;·rw [<-hW1,hrec];exact run_enterLoop_outer _ _ _ _ _
 ·simp only [resolve,hg];simp [go_sem]
 ·simp [invoke,go_sem,eg]
 ·refine(hit (w.heap.size+1)
   (fun k W=>J k W/\W.heap[w.heap.size+1]?=some (.loop (rec .ready none))/\W.heap[w.heap.size]?=some (.deferred (some [])))
   (fun k W=>∃c,Jx k c W/\W.heap[w.heap.size+1]?=some (.loop (rec .done (some c)))/\W.heap[w.heap.size]?=some (.deferred (some [])))
   W1 (aU.ic hb1) oM oM
   (fun k A B hs hb=>⟨hJ k A B hs.1 (hb.mono oM),(hb.block _ oM fun h=>by have:=hU _ h;omega).trans hs.2.1,(hb.block _ oM fun h=>by have:=hU _ h;omega).trans hs.2.2⟩)
   (fun k A B hs hb=>by obtain⟨c,hc,hl,hk⟩:=hs;exact⟨c,hJx k c A B hc (hb.mono oM),(hb.block _ oM fun h=>by have:=hU _ h;omega).trans hl,(hb.block _ oM fun h=>by have:=hU _ h;omega).trans hk⟩)
   ?_ ⟨hJ 0 w W1 h0 (.of hb1),hL1,hK1⟩).mono ?_
  ·rintro k x W hkn hx hsz ⟨hi,hl,hk⟩;have hlt:w.heap.size+1< W.heap.size:=(Array.getElem?_eq_some_iff.1 hl).1;have hy:=run_yield (P:=P) (args:=x) hl (by rw [hrec];exact hps _ k x _ hx);rw [hrec]at hy;have hnR1:¬R (w.heap.size+1):=fun e=>by have:=hR _ e;omega
   have hnR0:¬R w.heap.size:=fun e=>by have:=hR _ e;omega
   refine⟨fn,_,assign,body,hy,roundIn_of_wpIn hfn (wpIn_mono (hround (w.heap.size+1) k x W oM hlt hkn hx hi) ?_)⟩;rintro e a3 W3 hp;cases e with
   |normal=>
    obtain⟨ht3,hbody⟩:=hp;have hl3:W3.heap[w.heap.size+1]?=some (.loop (rec .ready none)):=(ht3.block _ hlt hnR1).trans hl;have hk3:W3.heap[w.heap.size]?=some (.deferred (some [])):=(ht3.block _ oM hnR0).trans hk;have hlt3:w.heap.size+1< W3.heap.size:=(Array.getElem?_eq_some_iff.1 hl3).1;refine⟨_,run_beginRound hl3 (by rw [hrec]),?_⟩;obtain⟨W4,hW4⟩:∃W4,W3.putObj (w.heap.size+1) (.loop {rec .ready none with state:= .busy})=W4:=⟨_,rfl⟩;have ht4:aU (· =w.heap.size+1) W3 W4:=by rw [<-hW4];exact(aU.refl _ _).putObj _ fun _=>rfl
    have hl4:W4.heap[w.heap.size+1]?=some (.loop {rec .ready none with state:= .busy}):=by rw [<-hW4];exact World.putObj_heap_same hlt3
    have hk4:W4.heap[w.heap.size]?=some (.deferred (some [])):=(ht4.block _ oM oM).trans hk3;rw [hW4];refine wpIn_mono (hbody W4 ht4) ?_;have hsz4:W4.heap.size=W3.heap.size:=by rw [<-hW4];simp
    have fin:∀(jump:Option Code) (W5:World),aU (fun i=>R i\/W.heap.size<=i) W4 W5->
     (Instr.endRound (w.heap.size+1) jump).run P W5= .ok (.bool jump.isNone) (W5.putObj (w.heap.size+1) (.loop (rec (if jump.isNone then .ready else .done) jump)))/\
     (W5.putObj (w.heap.size+1) (.loop (rec (if jump.isNone then .ready else .done) jump))).heap[w.heap.size+1]?=some (.loop (rec (if jump.isNone then .ready else .done) jump))/\
     (W5.putObj (w.heap.size+1) (.loop (rec (if jump.isNone then .ready else .done) jump))).heap[w.heap.size]?=some (.deferred (some []))/\
     aU (fun i=>R i\/i=w.heap.size+1) W (W5.putObj (w.heap.size+1) (.loop (rec (if jump.isNone then .ready else .done) jump))):=fun jump W5 ht5=>by
     have hl5:=(ht5.block _ (Array.getElem?_eq_some_iff.1 hl4).1 (by rintro(e |e);exact hnR1 e;omega)).trans hl4
     have hr:=run_endRound (P:=P) jump hl5
     rw [hrec]at hr ⊢
     refine⟨hr,World.putObj_heap_same (Array.getElem?_eq_some_iff.1 hl5).1,(World.putObj_heap_other oM).trans ((ht5.block _ oM (by rintro(e |e);exact hnR0 e;omega)).trans hk4),?_⟩
     refine aU.mono (R:=fun i=>(R i\/W.heap.size<=i)\/i=w.heap.size+1) (((((ht3.mono fun k _ h=>Or.inl (Or.inl h)).trans (ht4.mono fun k _ h=>Or.inr h)).trans (ht5.mono fun k _ h=>Or.inl h)).putObj _ fun _=>Or.inr rfl)) fun k hk h=> ?_
     rcases h with(h |h) |h
     ·exact .inl h
     ·omega
     ·exact .inr h
    rintro e a5 W5 hp;cases e with
    |normal=>obtain⟨ht5,hi5⟩:=hp;obtain⟨hr,hl6,hk6,ht6⟩:=fin none W5 ht5;exact⟨_,_,hr,_,rfl,ht6,fun _=>⟨hJ _ _ _ hi5 (.of (bG _ _ oM)),hl6,hk6⟩,fun h=>by simp at h⟩
    |ret=>obtain⟨ht5,hi5⟩:=hp;obtain⟨hr,hl6,hk6,ht6⟩:=fin (some .ret) W5 ht5;exact⟨_,_,hr,_,rfl,ht6,fun h=>by simp at h,fun _=>⟨.ret,hJx _ _ _ _ hi5 (.of (bG _ _ oM)),hl6,hk6⟩⟩
    |exit id=>obtain⟨ht5,hi5⟩:=hp;obtain⟨hr,hl6,hk6,ht6⟩:=fin (some (.exit id)) W5 ht5;exact⟨_,_,hr,_,rfl,ht6,fun h=>by simp at h,fun _=>⟨.exit id,hJx _ _ _ _ hi5 (.of (bG _ _ oM)),hl6,hk6⟩⟩
    |goto t=>obtain⟨ht5,hi5⟩:=hp;obtain⟨hr,hl6,hk6,ht6⟩:=fin (some (.goto t)) W5 ht5;exact⟨_,_,hr,_,rfl,ht6,fun h=>by simp at h,fun _=>⟨.goto t,hJx _ _ _ _ hi5 (.of (bG _ _ oM)),hl6,hk6⟩⟩
    |panic ch=>exact hp.elim
    |outgrown=>exact hp.elim
   |ret=>exact hp.elim
   |exit id=>exact hp.elim
   |goto t=>exact hp.elim
   |panic ch=>exact hp.elim
   |outgrown=>exact hp.elim
  ·rintro e W2 ⟨⟨v,rfl⟩,(⟨hi,hl,hk⟩ | ⟨k,hk',c,hi,hl,hk⟩)⟩;·exact⟨none,_,by have:=run_endLoop (P:=P) hl (by rw [hrec];simp);rw [hrec]at this;exact this,hdone _ _ (hJ _ _ _ hi (.of (bG _ _ oM))) (Nat.le_refl _) ((World.putObj_heap_other oM).trans hk)⟩
   ·exact⟨some c,_,by have:=run_endLoop (P:=P) hl (by rw [hrec];simp);rw [hrec]at this;exact this,hstop _ k c _ hk' (hJx _ _ _ _ hi (.of (bG _ _ oM))) (Nat.le_refl _) ((World.putObj_heap_other oM).trans hk)⟩
end Go.Dw
namespace Go.Ab
open Go.RowKit Go.Dw Go.Shelf
def Hv(es:List (List V))(L:Nat->Prop)(w:World)(l k:Nat)(x:Array Value)(W:World):Prop:= ∃v,es[k]?=some v/\∃L1:Nat->Prop,(∀b,L1 b->L b\/(w.heap.size<=b/\b< W.heap.size/\b≠l))/\RV W L1 ρ0 v x.toList
def Hu(P:Program)(gf:FuncId)(caps:List V)(es:List (List V)):Prop:=
 (∀(args:Array Value) (w:World),(callFunc gf args).run P w= .ok (.enter gf args) w)/\
 ∀(L:Nat->Prop) (w:World) (lb:Array Value),(∀b,L b->b< w.heap.size)->(∀g,R w L ρ0 (fC g) (n8 g))->RV w L ρ0 caps lb.toList->∀R:Nat->Prop,(∀b,R b->b< w.heap.size/\¬L b)->FV P gf lb es.length (Hv es L w) R w
def sg(P:Program)(gf:FuncId)(caps:List V)(ins:List Ob)(es:List (List V)):Prop:=
  (∀(args:Array Value) (w:World),(callFunc gf args).run P w= .ok (.enter gf args) w)/\
  ∀(L U:Nat->Prop) (w:World) (ρ:Nat->Option Value) (lb:Array Value),(∀b,L b->b< w.heap.size)->(∀b,U b->b< w.heap.size/\¬L b)->(∀g,R w L ρ0 (fC g) (n8 g))->
    (∀i o,ins[i]?=some o->Real U w L ρ (500+i) o)->(∀i j x y k,i≠j->ρ i=some x->ρ j=some y->blk x=some k->blk y≠some k)->(∀id,(id< 500\/500+ins.length<=id)->ρ id=none)->RV w L ρ caps lb.toList->
    ∀R:Nat->Prop,(∀b,R b->b< w.heap.size/\¬L b/\¬U b)->zj P gf lb es.length (Hv es (fun b=>L b\/U b) w) R U w
theorem qm:∀ {l:List Nat}{i j:Nat},l.Nodup->i< l.length->l[i]?=l[j]?->i=j
 | [],i,j,_,h,_=>by simp at h
 |a::l,0,0,_,_,_=>rfl
 |a::l,0,j+1,hd,_,he=>by rw [List.getElem?_cons_zero,List.getElem?_cons_succ]at he;exact absurd (List.mem_of_getElem? he.symm) (List.nodup_cons.1 hd).1
 |a::l,i+1,0,hd,_,he=>by rw [List.getElem?_cons_zero,List.getElem?_cons_succ]at he;exact absurd (List.mem_of_getElem? he) (List.nodup_cons.1 hd).1
 |a::l,i+1,j+1,hd,h,he=>by rw [List.getElem?_cons_succ,List.getElem?_cons_succ]at he;have:=qm (List.nodup_cons.1 hd).2 (by simpa using h) he;omega
def AH:Ob->Bool
 | .box _ cs=>V.aZ cs
 |_=>false
def uv(ns:List Nat)(i:Nat):Nat:=if 500<=i then ns.getD (i- 500) i else i
theorem Hu.u{P:Program}{gf:FuncId}{caps:List V}{es:List (List V)}(h:Hu P gf caps es):sg P gf caps [] es:=by refine⟨h.1,fun L U w ρ lb hL hU hg _ _ hρ hv R hR=> ?_⟩;have e:ρ=ρ0:=funext fun id=>hρ id (by simp only [List.length_nil];omega);subst e;have:=h.2 L w lb hL hg hv R fun b hb=>⟨(hR b hb).1,(hR b hb).2.1⟩;exact fun l J Jx W hT hl hlW hJ hJx hY h0=>this l J Jx W hT hl hlW (fun k W1 W2 hj hb=>hJ k W1 W2 hj (.of hb)) (fun k W1 W2 hj hb=>hJx k W1 W2 hj (.of hb)) (fun k x W1 hk hE=>hY k x W1 hk (by obtain⟨v,hv,L1,h1,h2⟩:=hE;exact⟨v,hv,L1,fun b hb=>(h1 b hb).imp .inl id,h2⟩)) h0
theorem BW{P:Program}{N:Nat}{C:Cx P N}{Q:Exit->S->Prop}{tm:Nat->V}{σ:Nat->Option Ob}{nx:Nat}{g:Operand}{ps:Array Tmp}{assign body:Code}{gf:FuncId}{caps:List V}{ins:List Ob}{es:List (List V)}(ns:List Nat)
    (hF:C.F=Fence.wide) (hd:C.dfs=r9) (it:sg P gf caps ins es) (hg:ev tm g= .fn (.func gf) [] (V.aP (uv ns) caps)) (hidf:V.cB ins.length caps=true) (hns:ns.length=ins.length) (hnd:ns.Nodup) (hins:∀(i k:Nat) (o:Ob),ns[i]?=some k->ins[i]?=some o->σ k=some o/\AH o=true) (hlen:∀x∈es,x.length=ps.size) (hps:ps.toList.all (fun p=>decide (p< N))=true)
    (pn:List Nat) (gl:List (Nat×Nat)) (tl:List (Nat×V)) (ok:Nat->Prop) (sl:Nat->List Ob) (X:Nat->Code->List Ob->Prop) (hok0:ok 0)
    (hpn:pn.all (fun p=>decide (500<=p/\p< 1000))=true) (hl0:(sl 0).length=pn.length) (hid:gl.all (fun p=>decide (p.1< 1000))=true)
    (htm:lu (fun p=>tm p.1=p.2.bg (aL gl nx)) tl) (hσ:lu (fun p=>∃ob,σ (aL gl nx p.1)=some ob/\dQ ob (p.2.bg (aL gl nx))) (pn.zip (sl 0)))
    (hinj:decide (((pn.zip (sl 0)).map fun p=>aL gl nx p.1).Nodup)=true) (hdis:∀p∈pn.zip (sl 0),aL gl nx p.1∉ns)
    (hfl:∀k,∀o∈sl k,o.bW pn) (hfx:∀k c sx,X k c sx->∀o∈sx,o.bW pn)
    (round:∀C':Cx P N,(∃l,C'.F=Fence.wide.inRound l)->∀k x,es[k]?=some x->ok k->AW C' assign (eH (fun s'=>AW C' body (mz pn ok sl X k) s') (fun _ _=>False)) ⟨l6 (jz tl) ps.toList x,cE (pn.zip (sl k)),1⟩)
    (hdone:ok es.length->Q .normal ⟨jz tl,cE (pn.zip (sl es.length)),1⟩)
    (hstop:∀k c sx,k< es.length->X k c sx->AW C c Q ⟨jz tl,cE (pn.zip sx),1⟩):AW C (.rangeFunc g ps assign body) Q ⟨tm,σ,nx⟩:=by
  intro a w ⟨L,ρ',g00⟩
  have g0:=nD.bg (s:=⟨tm,σ,nx⟩) tl (pn.zip (sl 0)) gl htm.mem hσ.mem (of_decide_eq_true hinj) (by simpa using hid) (fun p _=>by rw [hd];rfl) g00
  have hfn:=g00.tm.eval g00.g.gl g
  generalize hρe:(fun i=>ρ' (aL gl nx i))=ρ at g0
  have hρi:∀i,ρ i=ρ' (aL gl nx i):=fun i=>by rw [<-hρe]
  clear hρe
  rw [hg]at hfn
  obtain⟨xs',lb,eg,hxs,hlb⟩:=hfn.i4
  have hxs0:xs'= #[]:=by have:=hxs.1;simpa using this.symm
  subst hxs0
  have hpn':∀p∈pn,500<=p/\p< 1000:=by simpa using hpn
  have hps':∀p∈ps.toList,p< N:=fun p hp=>of_decide_eq_true (List.all_eq_true.1 hps p hp)
  obtain⟨Ds,dd1,dd2,dd3⟩:=g0.defers
  obtain⟨it1,it2⟩:=it
  have hobU:∀i,i< ins.length->∃t cs b xs,ins[i]?=some (.box t cs)/\V.aZ cs=true/\ns[i]?=some (uv ns (500+i))/\σ (uv ns (500+i))=some (.box t cs)/\ρ' (uv ns (500+i))=some (.pointer (some ⟨b,0,none⟩))/\C.W b/\¬L b/\w.heap[b]?=some (.cells xs t (0,0))/\RL w L ρ' cs xs.toList:=by
    intro i hi
    have h1:ins[i]?=some ins[i]:=List.getElem?_eq_getElem hi
    have h2:ns[i]?=some ns[i]:=List.getElem?_eq_getElem oM
    have h3:uv ns (500+i)=ns[i]:=by
      unfold uv
      rw [if_pos oM,Nat.add_sub_cancel_left,List.getD_eq_getElem?_getD,h2];rfl
    obtain⟨h4,h5⟩:=hins i _ _ h2 h1
    rw [h3]
    cases ho:ins[i]with
    |box t cs=>
      rw [ho]at h1 h4 h5
      obtain⟨b,xs,q1,q2,q3,q4,q5⟩:=g00.g.ob _ _ h4
      exact⟨t,cs,b,xs,h1,h5,h2,h4,q1,q2,q3,q4,q5⟩
    |row e sz n f=>rw [ho]at h5;cases h5
    |mp str f=>rw [ho]at h5;cases h5
  obtain⟨U,hUi⟩:∃U:Nat->Prop,∀b,U b<->∃i,i< ins.length/\ρ' (uv ns (500+i))=some (.pointer (some ⟨b,0,none⟩)):=⟨_,fun _=>Iff.rfl⟩
  have hUw:∀b,U b->b< w.heap.size/\C.W b/\¬L b/\b∉Ds:=by
    intro b hb
    obtain⟨i,hi,hx⟩:=(hUi b).1 hb
    obtain⟨t,cs,b',xs,_,_,_,h4,q1,q2,q3,q4,q5⟩:=hobU i hi
    rw [hx]at q1
    simp only [Option.some.injEq,Value.pointer.injEq,Addr.mk.injEq,and_true]at q1
    subst q1
    exact⟨(Array.getElem?_eq_some_iff.1 q4).1,q2,q3,fun hD=>(g00.g.ob _ _ h4).fV hx rfl (dd3 b hD).1⟩
  obtain⟨ρu,hρu⟩:∃ρu:Nat->Option Value,∀id,ρu id=if 500<=id/\id< 500+ins.length then ρ' (uv ns id)else none:=⟨_,fun _=>rfl⟩
  have hρuS:∀id x,ρu id=some x->500<=id/\id< 500+ins.length/\ρ' (uv ns id)=some x:=by
    intro id x hx
    rw [hρu]at hx
    split at hx
    · rename_i h;exact⟨h.1,h.2,hx⟩
    · cases hx
  have hnm:∀i j,i< ins.length->j< ins.length->uv ns (500+i)=uv ns (500+j)->i=j:=by
    intro i j hi hj he
    obtain⟨_,_,_,_,_,_,h1,_⟩:=hobU i hi
    obtain⟨_,_,_,_,_,_,h2,_⟩:=hobU j hj
    rw [<-he]at h2
    exact qm hnd oM (h1.trans h2.symm)
  have hit:=it2 L U w ρu lb (fun b hb=>(g0.g.ll b hb).1) (fun b hb=>⟨(hUw b hb).1,(hUw b hb).2.2.1⟩) g0.g.gl (fun i o ho=>by
      have hi:=(List.getElem?_eq_some_iff.1 ho).1
      obtain⟨t,cs,b,xs,h1,h2,_,_,q1,q2,q3,q4,q5⟩:=hobU i hi
      rw [ho]at h1;injection h1 with h1;subst h1
      exact⟨b,xs,by rw [hρu,if_pos ⟨by omega,by omega⟩];exact q1,(hUi b).2 ⟨i,hi,q1⟩,q3,q4,q5.free h2⟩)
    (fun i j x y k hij hx hy=>by
      obtain⟨a1,a2,a3⟩:=hρuS i x hx
      obtain⟨b1,b2,b3⟩:=hρuS j y hy
      obtain⟨i',rfl⟩:∃i',i=500+i':=⟨i- 500,by omega⟩
      obtain⟨j',rfl⟩:∃j',j=500+j':=⟨j- 500,by omega⟩
      obtain⟨_,_,_,_,_,_,_,e1,_⟩:=hobU i' oM
      obtain⟨_,_,_,_,_,_,_,e2,_⟩:=hobU j' oM
      exact g00.g.sep _ _ x y k (fun he=>hij (by rw [hnm i' j' oM oM he])) (by simp only at e1 ⊢;rw [e1];simp) (by simp only at e2 ⊢;rw [e2];simp) a3 b3)
    (fun id hid=>by rw [hρu,if_neg oM]) ((zq (uv ns) hlb).rj hidf fun id v h1 h2 hv=>by rw [hρu,if_pos ⟨h1,h2⟩];exact hv)
  obtain⟨R,hR⟩:∃R:Nat->Prop,R=fun b=>b< w.heap.size/\C.W b/\¬L b/\b∉Ds/\¬U b:=⟨_,rfl⟩
  have hRi:∀b,R b<->b< w.heap.size/\C.W b/\¬L b/\b∉Ds/\¬U b:=fun b=>by rw [hR]
  obtain⟨R2,hR2⟩:∃R2:Nat->Prop,∀b,R2 b<->R b\/U b:=⟨_,fun _=>Iff.rfl⟩
  have hR2w:∀b,R2 b->b< w.heap.size/\C.W b/\¬L b/\b∉Ds:=fun b hb=>by
    rcases(hR2 b).1 hb with h |h
    · have:=(hRi b).1 h;exact⟨this.1,this.2.1,this.2.2.1,this.2.2.2.1⟩
    · exact hUw b h
  have hxlen:∀l k x W,Hv es (fun b=>L b\/U b) w l k x W->x.size=ps.size:=by
    rintro l k x W ⟨v,hv,L1,_,h1⟩
    have:=h1.1
    rw [hlen v (List.mem_of_getElem? hv)]at this
    simpa using this.symm
  -- the objects' values stand for good
  have hblk:∀id,id∈pn->∃x,ρ id=some x/\∀k,blk x=some k->R k:=by
    intro id hi
    cases ho:cE (pn.zip (sl 0)) id with
    |none=>exact absurd ho (ia hl0 hi)
    |some o=>
      have hr:=g0.g.ob id o ho
      obtain⟨x,hx,hx2⟩:=hr.lt
      refine⟨x,hx,fun k hk=>(hRi k).2 ⟨(hx2 k hk).1,(hx2 k hk).2.1,(hx2 k hk).2.2,fun hD=>hr.fV hx hk (dd3 k hD).1,fun hU=> ?_⟩⟩
      obtain⟨i,hi',hxu⟩:=(hUi k).1 hU
      obtain⟨_,_,_,_,_,_,h3,h4,_⟩:=hobU i hi'
      obtain⟨j,hj,hjid⟩:=List.getElem_of_mem hi
      have hz:(id,(sl 0)[j]'oM)∈pn.zip (sl 0):=by
        rw [<-hjid]
        refine List.mem_of_getElem? (i:=j) ?_
        rw [List.getElem?_zip_eq_some]
        exact⟨List.getElem?_eq_getElem hj,List.getElem?_eq_getElem oM⟩
      obtain⟨ob,hob,_⟩:=hσ.mem _ hz
      have hne:=hdis _ hz
      simp only at hob hne
      rw [hρi]at hx
      exact g00.g.sep (aL gl nx id) (uv ns (500+i)) x _ k (fun he=>hne (by rw [he];exact List.mem_of_getElem? h3)) (by simp only;rw [hob];simp) (by simp only at h4 ⊢;rw [h4];simp) hx hxu hk rfl
  have hsep:∀i j x y k,i≠j->i∈pn->j∈pn->ρ i=some x->ρ j=some y->blk x=some k->blk y≠some k:=
    fun i j x y k hij hi hj=>g0.g.sep i j x y k hij (ia hl0 hi) (ia hl0 hj)
  have frame:∀ {W1:World},aU R2 w W1->∀b,L b->W1.heap[b]?=w.heap[b]?:=fun ht b hb=>ht.block b (g0.g.ll b hb).1 fun hc=>(hR2w b hc).2.2.1 hb
  have mkG:∀(W1:World) (l:List Ob) (W' L':Nat->Prop) (ρ1:Nat->Option Value) (LB':Nat->Prop),(∀o∈l,o.bW pn)->aU R2 w W1->G W' LB' (cE (pn.zip l)) W1 L' ρ1->(∀id,id∈pn->ρ1 id=ρ id)->G C.W C.LB (cE (pn.zip l)) W1 L ρ:=by
    intro W1 l W' L' ρ1 LB' hf ht hG hp
    refine⟨fun b hb=>⟨Nat.lt_of_lt_of_le (g0.g.ll b hb).1 ht.size,(g0.g.ll b hb).2⟩,fun b hb=>g0.g.new b (Nat.le_trans ht.size hb),fun id o ho=> ?_,fun i j x y k hij hi hj=>hsep i j x y k hij (eP hi) (eP hj),g0.g.FQ fun b hb=>⟨hb,frame ht b hb⟩⟩
    have hi:id∈pn:=eP (by rw [ho];simp)
    refine(hG.ob id o ho).bW (hf o (kj ho)) (fun j hj v hv=>by rw [<-hp j hj];exact hv) (hp id hi).symm fun x k hx hk=>⟨rfl,?_⟩
    obtain⟨x',hx',hb⟩:=hblk id hi
    rw [hp id hi,hx']at hx;injection hx with hx;subst hx
    exact⟨((hRi k).1 (hb k hk)).2.1,((hRi k).1 (hb k hk)).2.2.1⟩
  have keepG:∀(W1 W2:World) (l:List Ob),(∀o∈l,o.bW pn)->aU R2 w W1->jY U w.heap.size W1 W2->G C.W C.LB (cE (pn.zip l)) W1 L ρ->G C.W C.LB (cE (pn.zip l)) W2 L ρ:=by
    intro W1 W2 l hf ht hb hG
    refine⟨fun b hbl=>⟨Nat.lt_of_lt_of_le (hG.ll b hbl).1 hb.size,(hG.ll b hbl).2⟩,fun b hbl=>hG.new b (Nat.le_trans hb.size hbl),fun id o ho=> ?_,hG.sep,hG.FQ fun b hbl=>⟨hbl,hb.block b (g0.g.ll b hbl).1 fun hu=>(hUw b hu).2.2.1 hbl⟩⟩
    have hi:id∈pn:=eP (by rw [ho];simp)
    refine(hG.ob id o ho).bW (hf o (kj ho)) (fun _ _ _ hv=>hv) rfl fun x k hx hk=> ?_
    obtain⟨x',hx',hb'⟩:=hblk id hi
    rw [hx']at hx;injection hx with hx;subst hx
    have:=(hRi k).1 (hb' k hk)
    exact⟨hb.block k this.1 this.2.2.2.2,this.2.1,this.2.2.1⟩
  have frD:∀ {W1:World},aU R2 w W1->∀D∈Ds,W1.heap[D]?=some (.deferred (some [])):=fun ht D hD=>
    (ht.block D (Array.getElem?_eq_some_iff.1 (dd3 D hD).1).1 fun hc=>(hR2w D hc).2.2.2 hD).trans (dd3 D hD).1
  have mkGam:∀(D:Nat) (W1:World) (l:List Ob),G C.W C.LB (cE (pn.zip l)) W1 L ρ->aU R2 w W1->w.heap.size<=D->W1.heap[D]?=some (.deferred (some []))->
      Gm C ⟨jz tl,cE (pn.zip l),1⟩ {a with defers:={target:= .collected D,args:= #[]}::a.defers} W1:=by
    intro D W1 l hG ht hD hDl
    refine⟨L,ρ,⟨hG,g0.fr,fun t=>(g0.tm t).ext ⟨fun b hb=>⟨hb,frame ht b hb⟩,fun _ _ h=>h⟩,g0.size,⟨D::Ds,?_,List.nodup_cons.2 ⟨fun hc=> ?_,dd2⟩,fun E hE=> ?_⟩,g0.pin⟩⟩
    · simp only [marks,List.map_cons,dd1,List.cons_append]
    · have:=(Array.getElem?_eq_some_iff.1 (dd3 D hc).1).1
      omega
    · rcases List.mem_cons.1 hE with rfl |hE
      · exact⟨hDl,(g0.g.new E hD).1,fun hc=>by have:=(g0.g.ll E hc).1;omega⟩
      · exact⟨frD ht E hE,(dd3 E hE).2⟩
  rw [hF]
  refine v8 (gf:=gf) (lb:=lb) eg it1 (hit R fun b hb=>⟨((hRi b).1 hb).1,((hRi b).1 hb).2.2.1,((hRi b).1 hb).2.2.2.2⟩) (fun b hb=>((hRi b).1 hb).1) (fun b hb=>(hUw b hb).1) hxlen
    (fun k W=>(ok k/\G C.W C.LB (cE (pn.zip (sl k))) W L ρ)/\aU R2 w W) (fun k c W=>∃sx,X k c sx/\G C.W C.LB (cE (pn.zip sx)) W L ρ/\aU R2 w W)
    (fun k W1 W2 h hb=>⟨⟨h.1.1,keepG W1 W2 _ (hfl k) h.2 hb h.1.2⟩,h.2.A1 hb (Nat.le_refl _) fun i hi=>(hR2 i).2 (.inr hi)⟩)
    (fun k c W1 W2 h hb=>by obtain⟨sx,h1,h2,h3⟩:=h;exact⟨sx,h1,keepG W1 W2 _ (hfx k c sx h1) h3 hb h2,h3.A1 hb (Nat.le_refl _) fun i hi=>(hR2 i).2 (.inr hi)⟩)
    ⟨⟨hok0,g0.g⟩,aU.refl _ _⟩ ?hround ?hdone ?hstop
  case hdone=>
    rintro D W ⟨⟨hok,hG⟩,hT⟩ hD hDl
    exact⟨_,hdone hok,mkGam D W _ hG hT hD hDl,hT.mono fun k _ h=>(hR2w k h).2.1⟩
  case hstop=>
    rintro D k c W hk ⟨sx,hX,hG,hT⟩ hD hDl
    have hst:=hstop k c sx hk hX
    unfold AW at hst
    rw [hF]at hst
    refine wpIn_mono (hst _ W (mkGam D W sx hG hT hD hDl)) ?_
    rintro e a' w' ⟨s',q,g',t⟩
    exact⟨s',q,g',(hT.mono fun k _ h=>(hR2w k h).2.1).trans t⟩
  case hround=>
    rintro l k x W hl hlW hkl ⟨v,hv,L1,hL1,hxr⟩ ⟨⟨hok,hG⟩,hT⟩
    obtain rfl:v=es[k]:=by
      have:es[k]?=some es[k]:=List.getElem?_eq_getElem hkl
      rw [hv]at this;injection this
    have e12:Ext W L1 ρ0 W (fun b=>L b\/L1 b) ρ:=⟨fun b hb=>⟨.inr hb,rfl⟩,fun _ _ h=>by cases h⟩
    have e02:∀ {u:V}{y:Value},Go.Ab.R w L ρ u y->Go.Ab.R W (fun b=>L b\/L1 b) ρ u y:=fun h=>h.ext ⟨fun b hb=>⟨.inl hb,frame hT b hb⟩,fun _ _ h=>h⟩
    have eLL:Ext W L ρ W (fun b=>L b\/L1 b) ρ:=⟨fun b hb=>⟨.inl hb,rfl⟩,fun _ _ h=>h⟩
    obtain⟨C',e1,e2,e3,e4,e4t⟩:∃C':Cx P N,C'.W=(fun b=>R b\/W.heap.size<=b)/\C'.LB=(fun b=>((C.LB b/\b< w.heap.size)\/W.heap.size<=b)\/L1 b)/\C'.F=Fence.wide.inRound l/\(∀id,C'.dfs.pin id=if id∈pn then ρ id else none)/\C'.dfs.tl=[]:=
      ⟨⟨fun b=>R b\/W.heap.size<=b,fun b=>((C.LB b/\b< w.heap.size)\/W.heap.size<=b)\/L1 b,fun b hb=>by
          rcases hb with hb |hb
          · exact .inl (.inl ⟨C.wl b ((hRi b).1 hb).2.1,((hRi b).1 hb).1⟩)
          · exact .inl (.inr hb),
        ⟨[],fun id=>if id∈pn then ρ id else none,fun id x h=>by
          by_cases hi:id∈pn
          · exact hpn' id hi
          · rw [if_neg hi]at h;cases h⟩,C.mx,Fence.wide.inRound l,.inr ⟨l,rfl⟩⟩,rfl,rfl,rfl,fun _=>rfl,rfl⟩
    have hr:=round C' ⟨l,e3⟩ k _ hv hok
    unfold AW at hr
    rw [e3]at hr
    obtain⟨z1,z2⟩:=t7 (w:=W) (L:=fun b=>L b\/L1 b) (ρ:=ρ) ps.toList es[k] x.toList (jz tl) a.tmps (fun p hp=>by rw [g0.size];exact hps' p hp)
      ⟨hxr.1,fun i u y hu hy=>(hxr.2 i u y hu hy).ext e12⟩
      (fun i=>e02 (g0.tm i))
    have ez:((ps.toList.zip x.toList).foldl (fun t (p,v)=>t.setIfInBounds p v) a.tmps)=(ps.zip x).foldl (fun t (p,v)=>t.setIfInBounds p v) a.tmps:=by
      rw [<-Array.toList_zip,Array.foldl_toList]
    rw [ez]at z1 z2
    have gm:Gm C' ⟨l6 (jz tl) ps.toList es[k],cE (pn.zip (sl k)),1⟩ {tmps:=(ps.zip x).foldl (fun t (p,v)=>t.setIfInBounds p v) a.tmps,defers:=[]} W:=by
      refine⟨fun b=>L b\/L1 b,ρ,⟨⟨fun b hb=> ?_,fun b hb=> ?_,fun id o ho=> ?_,hG.sep,hG.td eLL⟩,g0.fr,z2,z1.trans g0.size,⟨[],by rw [e4t];rfl,by simp,by simp⟩,fun id y hp=> ?_⟩⟩
      · rw [e2]
        rcases hb with hb |hb
        · exact⟨(hG.ll b hb).1,.inl (.inl ⟨(hG.ll b hb).2,(g0.g.ll b hb).1⟩)⟩
        · refine⟨?_,.inr hb⟩
          rcases hL1 b hb with(h |h) |h
          · exact(hG.ll b h).1
          · exact Nat.lt_of_lt_of_le (hUw b h).1 hT.size
          · exact h.2.1
      · rw [e1,e2];exact⟨.inr hb,.inl (.inr hb)⟩
      · have ho:cE (pn.zip (sl k)) id=some o:=ho
        have hi:id∈pn:=eP (by rw [ho];simp)
        refine(hG.ob id o ho).bW (hfl k o (kj ho)) (fun _ _ _ hv=>hv) rfl fun y j hy hj=>⟨rfl,?_⟩
        obtain⟨x',hx',hb⟩:=hblk id hi
        rw [hx']at hy;injection hy with hy;subst hy
        rw [e1]
        refine⟨.inl (hb j hj),?_⟩
        rintro(h |h)
        · exact((hRi j).1 (hb j hj)).2.2.1 h
        · have q:=(hRi j).1 (hb j hj)
          rcases hL1 j h with(h |h) |h
          · exact q.2.2.1 h
          · exact q.2.2.2.2 h
          · omega
      · rw [e4]at hp
        split at hp
        · exact hp
        · cases hp
    refine wpIn_mono (hr _ W gm) ?_
    rintro e a1 W1 ⟨s1,hq,gm1,t1⟩
    rw [e1]at t1
    cases e with
    |normal=>
      have t1':aU R W W1:=t1.mono fun j hj h=>by
        rcases h with h |h
        · exact h
        · omega
      refine⟨t1',fun W2 ht2=> ?_⟩
      have gm2:Gm C' s1 a1 W2:=by
        obtain⟨L1,ρ1,g1⟩:=gm1
        have hnL:¬L1 l:=fun hc=>by
          have:=(g1.g.ll l hc).2
          rw [e2]at this
          rcases this with(h |h) |h
          · omega
          · omega
          · rcases hL1 l h with(h |h) |h
            · have:=(g0.g.ll l h).1;omega
            · have:=(hUw l h).1;omega
            · omega
        have hnW:¬C'.W l:=fun hc=>by
          rw [e1]at hc
          rcases hc with h |h
          · have:=((hRi l).1 h).1;omega
          · omega
        have ex:Ext W1 L1 ρ1 W2 L1 ρ1:=⟨fun b hb=>⟨hb,ht2.block b (g1.g.ll b hb).1 (by rintro rfl;exact hnL hb)⟩,fun _ _ h=>h⟩
        refine⟨L1,ρ1,⟨⟨fun b hb=>⟨Nat.lt_of_lt_of_le (g1.g.ll b hb).1 ht2.size,(g1.g.ll b hb).2⟩,fun b hb=>g1.g.new b (Nat.le_trans ht2.size hb),fun id o ho=> ?_,g1.g.sep,g1.g.td ex⟩,g1.fr,fun t=>(g1.tm t).ext ex,g1.size,?_,g1.pin⟩⟩
        · have hr1:=g1.g.ob id o ho
          obtain⟨y,hy,hy2⟩:=hr1.lt
          refine hr1.keep ex fun x j hx hj=> ?_
          rw [hx]at hy;injection hy with hy;subst hy
          exact⟨ht2.block j (hy2 j hj).1 (by rintro rfl;exact hnW (hy2 _ hj).2.1),(hy2 j hj).2.2⟩
        · obtain⟨Es,q1,q2,q3⟩:=g1.defers
          exact⟨Es,q1,q2,fun D hD=>⟨(ht2.block D (Array.getElem?_eq_some_iff.1 (q3 D hD).1).1 (by rintro rfl;exact hnW (q3 _ hD).2.1)).trans (q3 D hD).1,(q3 D hD).2⟩⟩
      have hbw:=hq a1 W2 gm2
      have fin:∀(e5:Exit) (a5:Act) (W5:World) (s5:S) (l5:List Ob),Gm C' s5 a5 W5->aU C'.W W2 W5->(∀o∈l5,o.bW pn)->Le s5 ⟨fun _=> .any,cE (pn.zip l5),1⟩->aU (fun i=>R i\/W.heap.size<=i) W2 W5/\G C.W C.LB (cE (pn.zip l5)) W5 L ρ/\aU R2 w W5:=by
        intro e5 a5 W5 s5 l5 gm5 t5 hf5 hle
        rw [e1]at t5
        have tw:aU R2 w W5:=by
          have b1:=(hT.trans (t1'.mono fun k _ h=>(hR2 k).2 (.inl h))).later (ht2.below (B:=w.heap.size) (Nat.le_trans hT.size t1'.size) (fun j hj=>by omega)) (Nat.le_refl _)
          refine aU.mono (R:=fun i=>R2 i\/W.heap.size<=i) ((b1.mono fun j _ h=> .inl h).trans (t5.mono fun j _ h=>h.imp (fun h=>(hR2 j).2 (.inl h)) id)) fun j hj h=> ?_
          rcases h with h |h
          · exact h
          · have:=hT.size;omega
        obtain⟨L5,ρ5,g5⟩:=hle C' a5 W5 gm5
        refine⟨t5,mkG W5 l5 C'.W L5 ρ5 C'.LB hf5 tw g5.g fun id hi=> ?_,tw⟩
        obtain⟨x',hx',_⟩:=hblk id hi
        rw [hx']
        exact g5.pin id x' (by rw [e4,if_pos hi,hx'])
      refine wpIn_mono hbw ?_
      rintro e5 a5 W5 ⟨s5,hp5,gm5,t5⟩
      cases e5 with
      |normal=>exact⟨(fin .normal a5 W5 s5 _ gm5 t5 (hfl _) hp5.2).1,⟨hp5.1,(fin .normal a5 W5 s5 _ gm5 t5 (hfl _) hp5.2).2.1⟩,(fin .normal a5 W5 s5 _ gm5 t5 (hfl _) hp5.2).2.2⟩
      |ret=>obtain⟨sx,hX,hle⟩:=hp5;exact⟨(fin .ret a5 W5 s5 _ gm5 t5 (hfx _ _ _ hX) hle).1,sx,hX,(fin .ret a5 W5 s5 _ gm5 t5 (hfx _ _ _ hX) hle).2⟩
      |exit id=>obtain⟨sx,hX,hle⟩:=hp5;exact⟨(fin .ret a5 W5 s5 _ gm5 t5 (hfx _ _ _ hX) hle).1,sx,hX,(fin .ret a5 W5 s5 _ gm5 t5 (hfx _ _ _ hX) hle).2⟩
      |goto t=>obtain⟨sx,hX,hle⟩:=hp5;exact⟨(fin .ret a5 W5 s5 _ gm5 t5 (hfx _ _ _ hX) hle).1,sx,hX,(fin .ret a5 W5 s5 _ gm5 t5 (hfx _ _ _ hX) hle).2⟩
      |panic c=>exact hp5.elim
      |outgrown=>exact hp5.elim
    |ret=>exact hq.elim
    |exit id=>exact hq.elim
    |goto t=>exact hq.elim
    |panic c=>exact hq.elim
    |outgrown=>exact hq.elim
structure YE(P:Program)(es:List (List V)) where
  l:Nat
  J:Nat->Bool->World->Prop
  L0:Nat->Prop
  w0:World
  R0:Nat->Prop
  B:Nat
  U:Nat->Prop
  hY:∀k x W1,k< es.length->Hv es (fun b=>L0 b\/U b) w0 l k x W1->B<=W1.heap.size->J k true W1->YieldAt Fence.wide 0 P l x W1 fun e W2=>∃b:Bool,e= .returned (.bool b)/\aU (fun i=>R0 i\/i=l) W1 W2/\(b=true->J (k+1) true W2)/\(b=false->J k false W2)
  hJ:∀k g W1 W2,J k g W1->jY U B W1 W2->J k g W2
  hB:w0.heap.size<=B
  hl:w0.heap.size<=l/\l< B
  hR:∀b,R0 b->b< w0.heap.size/\¬L0 b
  hL:∀b,L0 b->b< w0.heap.size
  hU:∀b,U b->b< w0.heap.size/\¬L0 b/\¬R0 b
structure YC{P:Program}{N:Nat}{es:List (List V)}(C:Cx P N)(Y:YE P es):Prop where
  F:C.F=Fence.wide
  W:∀b,C.W b->Y.B<=b\/Y.U b
  LB:∀b,C.LB b->(Y.L0 b\/Y.U b)\/Y.B<=b
def oY{P:Program}{N:Nat}{es:List (List V)}(C:Cx P N)(Y:YE P es)(c:Code)(Q:Exit->S->Nat->Bool->Prop)(s:S)(k:Nat)(g:Bool):Prop:= ∀a w,Gm C s a w->Y.J k g w->Y.B<=w.heap.size->c.wpIn Fence.wide 0 P (fun e a' w'=>∃s' k' g',Q e s' k' g'/\Gm C s' a' w'/\Y.J k' g' w'/\Y.B<=w'.heap.size) a w
def nG(next:S->Nat->Bool->Prop)(Q:Exit->S->Nat->Bool->Prop):Exit->S->Nat->Bool->Prop
 | .normal,s,k,g=>next s k g
 |e,s,k,g=>Q e s k g
def gQ(id:Nat)(Q:Exit->S->Nat->Bool->Prop):Exit->S->Nat->Bool->Prop
 | .exit id',s,k,g=>if id'=id then Q .normal s k g else Q (.exit id') s k g
 |e,s,k,g=>Q e s k g
section
variable {P:Program}{N:Nat}{es:List (List V)}{C:Cx P N}{Y:YE P es}{Q:Exit->S->Nat->Bool->Prop}{s:S}{k:Nat}{g:Bool}
theorem zU(hC:YC C Y){c:Code}(h:AW C c (fun e s'=>Q e s' k g) s):oY C Y c Q s k g:=by intro a w gm hj hb;have:=h a w gm;rw [hC.F]at this;refine wpIn_mono this ?_;rintro e a' w' ⟨s',q,gm',t⟩;exact⟨s',k,g,q,gm',Y.hJ _ _ _ _ hj (t.xY hb fun j hj hW=>(hC.W j hW).resolve_left oM),Nat.le_trans hb t.size⟩
theorem Ct{x y:Code}(h:oY C Y x (nG (fun s' k' g'=>oY C Y y Q s' k' g') Q) s k g):oY C Y (.seq x y) Q s k g:=by
 intro a w gm hj hb;refine wpIn_seq (wpIn_mono (h a w gm hj hb) ?_);rintro e a' w' ⟨s',k',g',q,gm',hj',hb'⟩;cases e with
 |normal=>exact q a' w' gm' hj' hb'
 |_=>exact⟨s',k',g',q,gm',hj',hb'⟩
theorem xW{id:Nat}{c:Code}(h:oY C Y c (gQ id Q) s k g):oY C Y (.block id c) Q s k g:=by
 intro a w gm hj hb;refine wpIn_block (wpIn_mono (h a w gm hj hb) ?_);rintro e a' w' ⟨s',k',g',q,gm',hj',hb'⟩;cases e with
 |exit id'=>
  simp only [Exit.inBlock,gQ]at q ⊢;split at q;·rename_i h;rw [if_pos h];exact⟨s',k',g',q,gm',hj',hb'⟩
  ·rename_i h;rw [if_neg h];exact⟨s',k',g',q,gm',hj',hb'⟩
 |_=>exact⟨s',k',g',q,gm',hj',hb'⟩
theorem sH{c:Operand}{x y:Code}{t:Bool}(hc:ev s.tm c= .b t)(h1:t=true->oY C Y x Q s k g)(h2:t=false->oY C Y y Q s k g):oY C Y (.cond c x y) Q s k g:=by
 intro a w gm hj hb;obtain⟨L,ρ,g'⟩:=gm;have:=g'.tm.eval g'.g.gl c;rw [hc]at this;refine wpIn_cond this.aJ ?_;cases t with
 |true=>exact h1 rfl a w ⟨L,ρ,g'⟩ hj hb
 |false=>exact h2 rfl a w ⟨L,ρ,g'⟩ hj hb
theorem Cs(h:Q .ret s k g):oY C Y .ret Q s k g:=fun _ _ gm hj hb=>wpIn_ret ⟨s,k,g,h,gm,hj,hb⟩
theorem zV{id:Nat}(h:Q (.exit id) s k g):oY C Y (.exit id) Q s k g:=fun _ _ gm hj hb=>wpIn_exit ⟨s,k,g,h,gm,hj,hb⟩
theorem zW(h:Q .normal s k g):oY C Y .skip Q s k g:=fun _ _ gm hj hb=>wpIn_skip ⟨s,k,g,h,gm,hj,hb⟩
end
section
variable {next:S->Nat->Bool->Prop}{Q:Exit->S->Nat->Bool->Prop}{s:S}{k:Nat}{g:Bool}{id id':Nat}
theorem B3(h:Q .normal s k g):gQ id Q (.exit id) s k g:=by simpa [gQ]using h
theorem FN(hne:(id' == id)=false)(h:Q (.exit id') s k g):gQ id Q (.exit id') s k g:=by
 have:¬id'=id:=by simpa using hne
 simpa [gQ,this]using h
end
theorem rH{P:Program}{W LB:Nat->Prop}{ops:Array Oper}{nx N:Nat}{dfs:Dp}{F:Fence}(hF:FW F){Q:Exit->Act->World->Prop}(hd:∀o∈ops.toList,∀t,o.dst=some t->t< N)(rest:List Oper) :
    ∀(os:List Oper) (i:Nat) (tr:List TE) (tm tm':Nat->V) (σ σ':Nat->Option Ob) (a:Act) (w w0:World) (L:Nat->Prop) (ρ:Nat->Option Value) (fresh:Nat->Prop),
      (∀j,(os++rest)[j]?=ops[i+j]?)->DM P W LB ops nx os tr tm σ tm' σ'->nD W LB N dfs fresh tm σ a w L ρ->(∀o∈os++rest,∀t,o.dst=some t->∀id,nx*100000<=id->id% 1000=t->id< (nx+1)*100000->fresh id)->(∀id,bN (nx+1) id->fresh id)->((os++rest).filterMap (·.dst)).Nodup->aU W w0 w->
      (∀a' w' L' ρ' fresh',nD W LB N dfs fresh' tm' σ' a' w' L' ρ'->(∀o∈rest,∀t,o.dst=some t->∀id,nx*100000<=id->id% 1000=t->id< (nx+1)*100000->fresh' id)->(∀id,bN (nx+1) id->fresh' id)->aU W w0 w'->wpOpsIn F 0 P ops Q (List.range' (i+os.length) rest.length) a' w')->
      wpOpsIn F 0 P ops Q (List.range' i (os.length+rest.length)) a w:=by
  intro os
  induction os with
  |nil=>
    intro i tr tm tm' σ σ' a w w0 L ρ fresh _ hr h hfr1 hfr _ ht hQ
    cases tr with
    |cons=>exact hr.elim
    |nil=>
      obtain⟨rfl,rfl⟩:=hr
      have:=hQ a w L ρ fresh h (fun o ho=>hfr1 o (by simpa using ho)) hfr ht
      simpa using this
  |cons o os ih=>
    intro i tr tm tm' σ σ' a w w0 L ρ fresh hj hr h hfr1 hfr hnd ht hQ
    cases tr with
    |nil=>exact hr.elim
    |cons e tr=>
      obtain⟨⟨hw,hs,hn⟩,hr⟩:=hr
      have hi:ops[i]?=some o:=by have:=hj 0;simpa using this.symm
      rw [List.length_cons,Nat.add_right_comm,List.range'_succ,wpOpsIn_cons]
      refine rN (fresh':=fun id=>fresh id/\id∉e.nw) hF h hi (hd o (by have:=Array.mem_of_getElem? hi;simpa using this)) hw (fun he=>⟨(hs he).1,(hs he).2.1,fun id hid=>by
        obtain⟨t,h1,h2,h3,h4⟩:=(hs he).2.2 id hid
        exact hfr1 o (by simp) t h1 id h2 h4 h3⟩) (fun _ _=>rfl) hn (fun id h=>h) ?_
      intro a' w' L' ρ' h' ht' _
      have f1:∀o'∈os++rest,∀t,o'.dst=some t->∀id,nx*100000<=id->id% 1000=t->id< (nx+1)*100000->id∉e.nw:=by
        intro o' ho' t ht id h1 h2 h3 hc
        cases hrun:e.run with
        |false=>rw [(hn hrun).2.1]at hc;simp at hc
        |true=>
          obtain⟨t',g1,g2,g3,g4⟩:=(hs hrun).2.2 id hc
          have htt:t=t':=by rw [<-h2,<-g4]
          subst htt
          rw [List.cons_append]at hnd
          simp only [List.filterMap_cons,g1,List.nodup_cons]at hnd
          exact hnd.1 (List.mem_filterMap.2 ⟨o',ho',ht⟩)
      have f2:∀id,bN (nx+1) id->id∉e.nw:=by
        intro id hid hc
        cases hrun:e.run with
        |false=>rw [(hn hrun).2.1]at hc;simp at hc
        |true=>
          obtain⟨t',g1,g2,g3,g4⟩:=(hs hrun).2.2 id hc
          unfold bN at hid
          omega
      refine ih (i+1) tr _ _ _ _ a' w' w0 L' ρ' _ (fun j=>by have:=hj (j+1);simpa [Nat.add_assoc,Nat.add_comm 1 j]using this) hr h' (fun o' ho' t ht id h1 h2 h3=>⟨hfr1 o' (by rw [List.cons_append];exact List.mem_cons_of_mem _ ho') t ht id h1 h2 h3,f1 o' ho' t ht id h1 h2 h3⟩) (fun id hid=>⟨hfr id hid,f2 id hid⟩) ?_ (ht.trans ht') (fun a2 w2 L2 ρ2 fr2 g2 q1 q2 q3=> ?_)
      · rw [List.cons_append]at hnd
        cases hdst:o.dst with
        |none=>simpa [List.filterMap_cons,hdst]using hnd
        |some t=>simp only [List.filterMap_cons,hdst,List.nodup_cons]at hnd;exact hnd.2
      · have:=hQ a2 w2 L2 ρ2 fr2 g2 q1 q2 q3
        rwa [show i+1+os.length=i+(o::os).length by simp;omega]
structure YS{P:Program}{N:Nat}{es:List (List V)}(C:Cx P N)(Y:YE P es)(ops:Array Oper)(nx:Nat)(os:List Oper)(fo:Operand)(ar:Array Operand)(d:Nat)(Q:Exit->S->Nat->Bool->Prop)(k:Nat)(tm:Nat->V)(σ:Nat->Option Ob):Prop where
  hf:ev tm fo= .c (.func (.yield Y.l) #[] #[])
  hv:∃v,es[k]?=some v/\A2 (ar.toList.map (ev tm)) v
  bX:V.aZ (ar.toList.map (ev tm))=true
  t:bq C ops nx os (bU tm d (.b true)) σ [] fun tm' σ' _=>Q .normal ⟨tm',σ',nx+1⟩ (k+1) true
  f:bq C ops nx os (bU tm d (.b false)) σ [] fun tm' σ' _=>Q .normal ⟨tm',σ',nx+1⟩ k false
theorem xX{P:Program}{N:Nat}{es:List (List V)}{C:Cx P N}{Y:YE P es}{Q:Exit->S->Nat->Bool->Prop}(hC:YC C Y){id nx k:Nat}{ol:List Oper}{tm:Nat->V}{σ:Nat->Option Ob}(n:Nat){fo:Operand}{ar:Array Operand}{ats:Array TypeId}{d:Nat}{ty:TypeId}{pos:String}{af:Array Edge} (hok:fK N ol=true) (hy:ol[n]?=some ⟨some d,.call {callee:= .value fo,args:=ar,argTypes:=ats},ty,pos,af,none⟩) (h:bq C ol.toArray nx (ol.take n) tm σ [] fun tm1 σ1 _=>YS C Y ol.toArray nx (ol.drop (n+1)) fo ar d Q k tm1 σ1):oY C Y (.region id ol.toArray false) Q ⟨tm,σ,nx⟩ k true:=by
 intro a w ⟨L,ρ,g⟩ hj hb;obtain⟨h1,h2⟩:=fL hok;obtain⟨tr,tm1,σ1,h3,ys⟩:=h.run;have hn:n< ol.length:=(List.getElem?_eq_some_iff.1 hy).1;obtain⟨y,hyd⟩:∃y:Oper,y=⟨some d,.call {callee:= .value fo,args:=ar,argTypes:=ats},ty,pos,af,none⟩:=⟨_,rfl⟩;have hsp:ol=ol.take n++y::ol.drop (n+1):=by rw [hyd];have e1:ol.drop n=ol[n]::ol.drop (n+1):=List.drop_eq_getElem_cons hn;have e2:ol[n]=_:=(List.getElem?_eq_some_iff.1 hy).2;rw [<-e2,<-e1,List.take_append_drop]
 refine wpIn_region ?_;have hsz:ol.toArray.size=(ol.take n).length+(y::ol.drop (n+1)).length:=by simp;omega
 rw [List.range_eq_range',hsz];have hmem:∀o∈ol.take n++y::ol.drop (n+1),o∈ol:=fun o ho=>by rwa [<-hsp]at ho
 refine rH (P:=P) (W:=C.W) (LB:=C.LB) (ops:=ol.toArray) (nx:=nx) (N:=N) (dfs:=C.dfs) (.inl rfl) (by simpa using h1) (y::ol.drop (n+1)) (ol.take n) 0 tr tm tm1 σ σ1 a w w L ρ (bN nx) (fun j=>by rw [<-hsp];simp) h3 g (fun o ho t ht id h5 h6 h7=>h5) (fun id hid=>eN hid) (by rw [<-hsp];exact h2) (aU.refl _ _) ?_;intro a1 W1 L1 ρ1 fr1 g1 q1 q2 t1;rw [Nat.zero_add,List.length_take,Nat.min_eq_left (Nat.le_of_lt hn),List.length_cons,List.range'_succ,wpOpsIn_cons];have hj1:Y.J k true W1:=Y.hJ _ _ _ _ hj (t1.xY hb fun j hj hW=>(hC.W j hW).resolve_left oM);have hb1:Y.B<=W1.heap.size:=Nat.le_trans hb t1.size;obtain⟨v,hv,ha⟩:=ys.hv;have hk:k< es.length:=(List.getElem?_eq_some_iff.1 hv).1;have hargs:RV W1 L1 ρ0 v (ar.map a1.eval).toList:=by refine ha.rv (RV.free (ρ:=ρ1) ⟨by simp,fun i u x hu hx=> ?_⟩ ys.bX);simp only [List.getElem?_map,Option.map_eq_some_iff,Array.toList_map]at hu hx;obtain⟨p,hp,rfl⟩:=hu;obtain⟨q,hq,rfl⟩:=hx;rw [hp]at hq;injection hq with hq;subst hq;exact g1.tm.eval g1.g.gl p
 have hLl:∀b,L1 b->(Y.L0 b\/Y.U b)\/Y.B<=b:=fun b hb=>hC.LB b (g1.g.ll b hb).2;obtain⟨fn,tmps,assign,body,hyr,hR⟩:=Y.hY k (ar.map a1.eval) W1 hk ⟨v,hv,L1,fun b hbl=>by
  rcases hLl b hbl with h |h;·exact .inl h
  ·exact .inr ⟨Nat.le_trans Y.hB h,(g1.g.ll b hbl).1,by have:=Y.hl.2;omega⟩,hargs⟩ hb1 hj1
 have hfe:a1.eval fo= .func (.yield Y.l) #[] #[]:=by have:=g1.tm.eval g1.g.gl fo;rw [ys.hf]at this;exact this.aJ
 have ho:ol.toArray[n]?=some y:=by simp [hy,hyd]
 unfold wpOpIn;rw [ho];simp only;have hwt:Region.wanted y (yielded ol.toArray a1.tmps)=true:=by rw [hyd];rfl
 rw [if_pos hwt];refine⟨fun f _=>trivial,?_⟩;have hrun:(y.semAt Fence.wide.round a1.eval).run P W1= .ok (.round Y.l fn tmps assign body) W1:=by rw [Oper.semAt_eq _ _ _ (fun c e=>by rw [hyd]at e;cases e),hyd];simp [execOp,resolve,Deferred.ofValue,invoke,hfe,hyr]
 rw [hrun,Oper.uponIn_round];refine⟨fun e=>by simp [Fence.wide]at e,hR.mono ?_⟩;rintro e W2 ⟨b,rfl,ht2,j1,j2⟩;have hyd2:y.dst=some d:=by rw [hyd]
 have hdN:d< N:=h1 y (hmem y (by simp)) d hyd2;have nL:∀j,L1 j->¬(Y.R0 j\/j=Y.l):=by
  rintro j hjl (h |rfl)
  ·have q:=Y.hR j h;rcases hLl j hjl with(h' |h') |h';·exact q.2 h'
   ·exact(Y.hU j h').2.2 h
   ·have:=Y.hB;omega
  ·rcases hLl _ hjl with(h' |h') |h';·have:=Y.hL _ h';have:=Y.hl.1;omega
   ·have:=(Y.hU _ h').1;have:=Y.hl.1;omega
   ·have:=Y.hl.2;omega
 have nW:∀j,C.W j->¬(Y.R0 j\/j=Y.l):=by
  rintro j hjw (h |rfl)
  ·rcases hC.W j hjw with hw |hw;·have q:=Y.hR j h;have:=Y.hB;omega
   ·exact(Y.hU j hw).2.2 h
  ·rcases hC.W _ hjw with hw |hw;·have:=Y.hl.2;omega
   ·have:=(Y.hU _ hw).1;have:=Y.hl.1;omega
 have ex:Ext W1 L1 ρ1 W2 L1 ρ1:=⟨fun b hb=>⟨hb,ht2.block b (g1.g.ll b hb).1 (nL b hb)⟩,fun _ _ h=>h⟩;have gb:∀z:Bool,z=b->nD C.W C.LB N C.dfs fr1 (bU tm1 d (.b z)) σ1 (a1.put y.dst (.bool b)) W2 L1 ρ1:=by
  rintro z rfl;rw [hyd2];refine⟨⟨fun b hb=>⟨Nat.lt_of_lt_of_le (g1.g.ll b hb).1 ht2.size,(g1.g.ll b hb).2⟩,fun b hb=>g1.g.new b (Nat.le_trans ht2.size hb),fun id o ho=> ?_,g1.g.sep,g1.g.td ex⟩,g1.fr,(show TM (cZ tm1 (some d) (V.b z)) _ _ _ _ from(g1.tm.ext ex).put (fun t ht=>by injection ht with ht;rw [<-ht,g1.size];exact hdN) (.c _ _)),by simp [Act.put,g1.size],?_,g1.pin⟩
  ·have hr1:=g1.g.ob id o ho;obtain⟨u,hu,hu2⟩:=hr1.lt;refine hr1.keep ex fun x j hx hj=> ?_;rw [hx]at hu;injection hu with hu;subst hu
   exact⟨ht2.block j (hu2 j hj).1 (nW j (hu2 j hj).2.1),(hu2 j hj).2.2⟩
  ·obtain⟨Es,p1,p2,p3⟩:=g1.defers;exact⟨Es,p1,p2,fun D hD=>⟨(ht2.block D (Array.getElem?_eq_some_iff.1 (p3 D hD).1).1 (nW D (p3 D hD).2.1)).trans (p3 D hD).1,(p3 D hD).2⟩⟩
 have hb2:Y.B<=W2.heap.size:=Nat.le_trans hb1 ht2.size;have hnd:((ol.drop (n+1)).filterMap (·.dst)).Nodup:=by rw [hsp,List.filterMap_append,List.filterMap_cons,hyd2]at h2;exact(List.nodup_cons.1 (List.nodup_append.1 h2).2.1).2
 have tail:∀(z:Bool) (k':Nat),z=b->Y.J k' z W2->bq C ol.toArray nx (ol.drop (n+1)) (bU tm1 d (.b z)) σ1 [] (fun tm' σ' _=>Q .normal ⟨tm',σ',nx+1⟩ k' z)->
  wpOpsIn Fence.wide 0 P ol.toArray (fun e a' w'=>∃s' k' g',Q e s' k' g'/\Gm C s' a' w'/\Y.J k' g' w'/\Y.B<=w'.heap.size) (List.range' (n+1) (ol.drop (n+1)).length) (a1.put y.dst (.bool b)) W2:=by
  intro z k' hz hj' hA
  obtain⟨tr2,tm2,σ2,h4,hq⟩:=hA.run
  exact oC (P:=P) (W:=C.W) (LB:=C.LB) (ops:=ol.toArray) (nx:=nx) (N:=N) (dfs:=C.dfs) (.inl rfl) (by simpa using h1) (ol.drop (n+1)) (n+1) tr2 _ tm2 _ σ2 _ W2 W2 L1 ρ1 fr1 (fun j=>by simp) h4 (gb z hz) (fun o ho=>q1 o (by simp [ho])) q2 hnd (aU.refl _ _) fun a' w' L' ρ' g' t'=>
   ⟨⟨tm2,σ2,nx+1⟩,k',z,hq,⟨L',ρ',g'⟩,Y.hJ _ _ _ _ hj' (t'.xY hb2 fun j hj hW=>(hC.W j hW).resolve_left oM),Nat.le_trans hb2 t'.size⟩
 cases b with
 |true=>exact tail true (k+1) rfl (j1 rfl) ys.t
 |false=>exact tail false k rfl (j2 rfl) ys.f
def pS(n:Nat)(e:Exit)(_:S)(k:Nat)(g:Bool):Prop:=(e= .normal\/e= .ret)/\(g=true->k=n)/\(g=false->k< n)
theorem Real.wider{W W' L:Nat->Prop}{w:World}{ρ:Nat->Option Value}{id:Nat}{o:Ob}(h:Real W w L ρ id o)(k:∀b,W b->W' b):Real W' w L ρ id o:=by
 cases o with
 |box t cs=>obtain⟨b,xs,h1,h2,h3⟩:=h;exact⟨b,xs,h1,k b h2,h3⟩
 |row e sz n row=>obtain⟨v,xs,h1,h2,h3,h4,h5⟩:=h;exact⟨v,xs,h1,h2,h3,h4,fun j hj=>⟨k j (h5 j hj).1,(h5 j hj).2⟩⟩
 |mp str f=>obtain⟨b,es,cl,h1,h2,h3⟩:=h;exact⟨b,es,cl,h1,k b h2,h3⟩
theorem sg.no{P:Program}{gf:FuncId}{caps:List V}{es:List (List V)}(h:sg P gf caps [] es):Hu P gf caps es:=by refine⟨h.1,fun L w lb hL hg hv R hR=> ?_⟩;have:=h.2 L (fun _=>False) w ρ0 lb hL (fun b hb=>hb.elim) hg (fun i o h=>by simp at h) (fun i j x y k _ hx=>by cases hx) (fun _ _=>rfl) hv R fun b hb=>⟨(hR b hb).1,(hR b hb).2,fun h=>h⟩;exact fun l J Jx W hT hl hlW hJ hJx hY h0=>this l J Jx W hT hl hlW (fun k W1 W2 hj hb=>hJ k W1 W2 hj (hb.no fun _ h=>h)) (fun k W1 W2 hj hb=>hJx k W1 W2 hj (hb.no fun _ h=>h)) (fun k x W1 hk hE=>hY k x W1 hk (by obtain⟨v,hv,L1,h1,h2⟩:=hE;exact⟨v,hv,L1,fun b hb=>(h1 b hb).imp (fun h=>h.elim id False.elim) id,h2⟩)) h0
theorem uE{T:List TI}{P:Program}(hT:aO T P)(hmx:P.follows .mixedOrders=true){f:FuncId}{fn:Func}{c:Code}{N:Nat}(hk:nC P f fn c N)(hres:fn.results= #[]){caps:List V}{ins:List Ob}{es:List (List V)}(hargs:caps.length+1<=N)
    (h:∀(C:Cx P N) (Y:YE P es),YC C Y->oY C Y c (pS es.length) ⟨fun t=>((V.c (.func (.yield Y.l) #[] #[]))::caps).getD t .any,dz ins,1⟩ 0 true) (hn:ins.length<=400):sg P f caps ins es:=by
  refine⟨hk.call,fun L U w ρ lb hL hU hgl hobs hsep hnone hlb R hR=> ?_⟩
  intro l J Jx W hT0 hl hlW hJ hJx hY h0
  obtain⟨C,cW,cLB,cd,cF⟩:∃C:Cx P N,C.W=(fun b=>W.heap.size<=b\/U b)/\C.LB=(fun b=>(L b\/U b)\/W.heap.size<=b)/\C.dfs=r9/\C.F=Fence.wide:=⟨⟨fun b=>W.heap.size<=b\/U b,fun b=>(L b\/U b)\/W.heap.size<=b,fun b h=>h.elim .inr fun h=> .inl (.inr h),r9,hmx,Fence.wide,.inl rfl⟩,rfl,rfl,rfl,rfl⟩
  obtain⟨Y,yl,yJ,yL,yw,yR,yB,yU⟩:∃Y:YE P es,Y.l=l/\Y.J=(fun k g w=>(g=true->J k w)/\(g=false->k< es.length/\Jx k w))/\Y.L0=L/\Y.w0=w/\Y.R0=R/\Y.B=W.heap.size/\Y.U=U:=by
    refine⟨⟨l,fun k g w=>(g=true->J k w)/\(g=false->k< es.length/\Jx k w),L,w,R,W.heap.size,U,fun k x W1 hk hE hs hj=> ?_,fun k g W1 W2 hj hb=>⟨fun e=>hJ k _ _ (hj.1 e) hb,fun e=>⟨(hj.2 e).1,hJx k _ _ (hj.2 e).2 hb⟩⟩,hT0.size,⟨hl,hlW⟩,fun b hb=>⟨(hR b hb).1,(hR b hb).2.1⟩,hL,fun b hb=>⟨(hU b hb).1,(hU b hb).2,fun h=>(hR b h).2.2 hb⟩⟩,rfl,rfl,rfl,rfl,rfl,rfl,rfl⟩
    obtain⟨fn',tmps,assign,body,h1,h2⟩:=hY k x W1 hk hE hs (hj.1 rfl)
    refine⟨fn',tmps,assign,body,h1,h2.mono ?_⟩
    rintro e W2 ⟨b,rfl,t,q1,q2⟩
    exact⟨b,rfl,t,fun e=>⟨fun _=>q1 e,fun e'=>by cases e'⟩,fun e=>⟨fun e'=>(by cases e'),fun _=>⟨hk,q2 e⟩⟩⟩
  have hC:YC C Y:=⟨cF,fun b hb=>by rw [yB,yU];rw [cW]at hb;exact hb,fun b hb=>by rw [cLB]at hb;rw [yL,yB,yU];exact hb⟩
  have eW:∀b,L b->W.heap[b]?=w.heap[b]?:=fun b hb=>hT0.block b (hL b hb) fun hc=>(hR b hc).2.1 hb
  have ew:Ext w L ρ W L ρ:=⟨fun b hb=>⟨hb,eW b hb⟩,fun _ _ h=>h⟩
  have hvs:RV W L ρ ((V.c (.func (.yield Y.l) #[] #[]))::caps) (#[Value.func (.yield l) #[] #[]]++lb).toList:=by
    have e1:(#[Value.func (.yield l) #[] #[]]++lb).toList=Value.func (.yield l) #[] #[]::lb.toList:=by simp
    rw [e1,yl]
    exact .cons (.c _ _) ⟨hlb.1,fun i u x hu hx=>(hlb.2 i u x hu hx).ext ew⟩
  generalize hargsL:((V.c (.func (.yield Y.l) #[] #[]))::caps)=args at hvs
  generalize (#[Value.func (.yield l) #[] #[]]++lb)=vs at hvs
  have hal:args.length=caps.length+1:=by rw [<-hargsL];simp
  have hvl:vs.size=args.length:=by have:=hvs.1;simpa using this.symm
  refine callsIn_of_wp_marks (n:=0) hk.hf hk.hb trivial ?_ rfl
  have hw:=h C Y hC
  rw [hargsL]at hw
  have hobj:∀id o,dz ins id=some o->500<=id/\id< 500+ins.length/\ins[id- 500]?=some o:=fun id o ho=>by
    unfold dz at ho
    split at ho
    · have:=(List.getElem?_eq_some_iff.1 ho).1
      exact⟨by omega,by omega,ho⟩
    · cases ho
  have hfrs:∀id,bN 1 id->ρ id=none:=fun id hid=>hnone id (by unfold bN at hid;omega)
  refine wpIn_mono (hw _ W ⟨L,ρ,⟨⟨fun b hb=>⟨Nat.lt_of_lt_of_le (hL b hb) hT0.size,by rw [cLB];exact .inl (.inl hb)⟩,fun b hb=>⟨by rw [cW];exact .inl hb,by rw [cLB];exact .inr hb⟩,fun id o ho=> ?_,fun i j x y k hij _ _=>hsep i j x y k hij,fun g=>(hgl g).mono (fun b hb=>⟨hb,eW b hb⟩) fun _ _ h=>h⟩,hfrs,fun t=> ?_,?_,?_,fun id x hp=>by rw [cd]at hp;cases hp⟩⟩ ?_ ?_) ?_
  · obtain⟨h1,h2,h3⟩:=hobj id o ho
    have h4:=hobs _ _ h3
    rw [show 500+(id- 500)=id by omega]at h4
    have h5:Real C.W w L ρ id o:=h4.wider fun b hb=>by rw [cW];exact .inr hb
    refine h5.keep ew fun x k hx hk=> ?_
    obtain⟨y,hy,hb⟩:=h4.lt
    rw [hx]at hy;injection hy with hy;subst hy
    obtain⟨q1,q2,q3⟩:=hb k hk
    exact⟨hT0.block k q1 fun hc=>(hR k hc).2.2 q2,q3⟩
  · by_cases ht:t< args.length
    · have h1:args[t]?=some args[t]:=List.getElem?_eq_getElem ht
      obtain⟨x,hx,hr⟩:=hvs.get h1
      have e1:args.getD t .any=args[t]:=by simp [List.getD_eq_getElem?_getD,h1]
      have e2:(vs++Array.replicate (fn.ntmps- vs.size) undef).getD t undef=x:=by
        rw [Array.getD_eq_getD_getElem?,Array.getElem?_append_left oM]
        have:vs[t]?=some x:=by simpa using hx
        rw [this];rfl
      show Go.Ab.R W L ρ (args.getD t .any) _
      rw [e1,e2];exact hr
    · have e1:args.getD t .any= .any:=by simp [List.getD_eq_getElem?_getD,List.getElem?_eq_none (Nat.le_of_not_lt ht)]
      show Go.Ab.R W L ρ (args.getD t .any) _
      rw [e1];exact .any _ _
  · have:=hk.hn
    simp;omega
  · exact⟨[],by rw [cd];rfl,by simp,by simp⟩
  · rw [yJ];exact⟨fun _=>h0,fun e=>by cases e⟩
  · rw [yB];exact Nat.le_refl _
  · rintro e a' w' ⟨s',k,g,⟨he,hg1,hg2⟩,⟨L',ρ',g'⟩,hj,hb⟩
    obtain⟨Ds,d1,d2,d3⟩:=g'.defers
    rw [cd,show r9.tl=[]from rfl,List.append_nil]at d1
    refine gV Ds he d1 d2 (fun D hD=>(d3 D hD).1) fun w2 ht2=> ?_
    obtain⟨g2,e2⟩:=g'.g.marks ht2 d3
    obtain⟨x,hx,_⟩:=kY hT g2 (fun t=>(g'.tm t).ext e2) fn (v:= .tup []) (by rw [hres];rfl)
    have hj2:=Y.hJ k g _ _ hj (ht2.xY (B:=Y.B) hb fun j hj hD=>(hC.W j (d3 j hD).2.1).resolve_left oM)
    rw [yJ]at hj2
    refine⟨x,hx,⟨x,rfl⟩,?_⟩
    cases g with
    |true=>
      have:=hg1 rfl;subst this
      exact .inl (hj2.1 rfl)
    |false=>exact .inr ⟨k,hj2.2 rfl⟩
theorem DH.it{P:Program}{gf:FuncId}{caps:List V}{es:List (List V)}(h:DH P gf caps es):Hu P gf caps es:=by
 refine⟨h.1,fun L w lb hL _ hlb R hR=> ?_⟩;obtain⟨xs,h1,h2,h3⟩:=h.2 L w lb hL hlb;intro l J Jx W hT hl hlW hJ hJx hY h0;have e0:∀b,L b->W.heap[b]?=w.heap[b]?:=fun b hb=>hT.block b (hL b hb) fun hc=>(hR b hc).2 hb;have:=h3 R hR l (fun k W1=>J k W1/\∀b,L b->W1.heap[b]?=w.heap[b]?) Jx W hT hl hlW (fun k W1 W2 hj hb=>⟨hJ k _ _ hj.1 hb,fun b hbL=>(hb.block b (Nat.lt_of_lt_of_le (hL b hbL) hT.size)).trans (hj.2 b hbL)⟩) hJx (fun k x W1 hx hs hj=> ?_) ⟨h0,e0⟩
 ·rw [h1]at this;refine this.mono ?_;rintro e W' ⟨hv,hj |hj⟩;·exact⟨hv,.inl hj.1⟩
  ·exact⟨hv,.inr hj⟩
 ·have hk:k< es.length:=by have:=(List.getElem?_eq_some_iff.1 hx).1;omega
  have hv:es[k]?=some es[k]:=List.getElem?_eq_getElem hk;have hxr:=h2 k _ x hv hx;obtain⟨fn',tmps,assign,body,q1,q2⟩:=hY k x W1 hk ⟨_,hv,L,fun b hb=> .inl hb,hxr.1,fun i u y hu hy=>(hxr.2 i u y hu hy).ext ⟨fun b hb=>⟨hb,hj.2 b hb⟩,fun _ _ h=>h⟩⟩ hs hj.1;refine⟨fn',tmps,assign,body,q1,q2.mono ?_⟩;rintro e W2 ⟨b,rfl,ht,a1,a2⟩;refine⟨b,rfl,ht,fun e=>⟨a1 e,fun c hc=> ?_⟩,a2⟩;refine(ht.block c ?_ ?_).trans (hj.2 c hc);·exact Nat.lt_of_lt_of_le (Nat.lt_of_lt_of_le (hL c hc) hT.size) hs
  ·rintro(h |h);·exact(hR c h).2 hc
   ·have:=hL c hc;omega
theorem Real.weak{W W':Nat->Prop}{w:World}{L:Nat->Prop}{ρ ρ':Nat->Option Value}{id:Nat}{o:Ob}(h:Real W w L ρ id o)(hW:∀b,W b->W' b)(hρ:∀j y,ρ j=some y->ρ' j=some y):Real W' w L ρ' id o:=by
 have e:Ext w L ρ w L ρ':=⟨fun _ hb=>⟨hb,rfl⟩,hρ⟩;cases o with
 |box t cs=>obtain⟨b,xs,h1,h2,h3,h4,h5⟩:=h;exact⟨b,xs,hρ _ _ h1,hW _ h2,h3,h4,h5.ext e⟩
 |row t sz n row=>obtain⟨v,xs,h1,h2,h3,h4,h5⟩:=h;exact⟨v,xs,hρ _ _ h1,h2,h3,h4.ext e,fun k hk=>⟨hW _ (h5 k hk).1,(h5 k hk).2⟩⟩
 |mp str f=>obtain⟨b,es,cl,h1,h2,h3,h4,h5⟩:=h;exact⟨b,es,cl,hρ _ _ h1,hW _ h2,h3,h4,h5.imp fun _ _ _ _ h=>h.ext e⟩
theorem AC.row{P:Program}{f:FuncId}{args args':List V}{v:V}{obs:List Ob}(h:AC P f args' v obs)(e:TypeId){sz n n':Nat}{row row':Nat->List V}(ha:V.lz 500 (.sl sz n row) args=args')(hi:V.aZ args'=true)(ho:obs.length<=90)(hn:n'=n)(hr:∀i,i< n'->row' i=row i)(hi2:∀i,V.aZ (row i)=true) : AM P f args [.row e sz n' row'] v [none] obs:=by
 subst hn;refine⟨h.1,fun W LB L w ρ vs hwl hWL hG hρ hvs=> ?_⟩;have hσ:dz [.row e sz n' row'] 500=some (.row e sz n' row'):=rfl;have hre:Real W w L ρ 500 (.row e sz n' row):=(hG.ob 500 _ hσ).eq ⟨rfl,rfl,rfl,hr⟩;obtain⟨v0,hv0,hlt,hs⟩:=hre.slice fun i _=>hi2 i;have ex:Ext w L ρ w (fun b=>L b\/blk v0=some b) ρ:=⟨fun b hb=>⟨.inl hb,rfl⟩,fun _ _ h=>h⟩;have hrv:RV w (fun b=>L b\/blk v0=some b) ρ0 args' vs.toList:=by
  refine RV.free (ρ:=ρ) ?_ hi;rw [<-ha];refine⟨by rw [V.dH];exact hvs.1,fun i u x hu hx=> ?_⟩;rw [V.e8]at hu;cases hc:args[i]? with
  |none=>rw [hc]at hu;cases hu
  |some a=>rw [hc]at hu;simp only [Option.map_some,Option.some.injEq]at hu;subst hu;refine mV (fun y hy=> ?_) _ _ ((hvs.2 i a x hc hx).ext ex);rw [hv0]at hy;injection hy with hy;subst hy;exact hs
 refine(h.2 (fun b=>L b\/blk v0=some b) w vs (fun b hb=> ?_) (hG.td ex) hrv).mono ?_
 ·rcases hb with hb |hb;·exact(hG.ll b hb).1
  ·exact(hlt b hb).1
 rintro ee w' ⟨x,rfl,hbel,L',ρ',hG',hL',hv,hnn⟩;obtain⟨ρ2,hρ2⟩:∃ρ2:Nat->Option Value,∀id,ρ2 id=if id< obs.length then ρ' id else ρ id:=⟨_,fun _=>rfl⟩
 have hon:∀j y,ρ' j=some y->ρ2 j=some y:=fun j y hy=>by
  rw [hρ2];by_cases hj:j< obs.length;·rw [if_pos hj];exact hy
  ·rw [hnn j oM]at hy;cases hy
 have ex2:Ext w' L' ρ' w' L' ρ2:=⟨fun _ hb=>⟨hb,rfl⟩,hon⟩;refine⟨x,rfl,aU.eS hbel fun k _ hk=>(hG.new k hk).1,L',ρ2,⟨fun b hb=> ?_,fun b hb=>hG.new b (Nat.le_trans hbel.size hb),fun id o hio=> ?_,fun i j y z k hij hi hj hy hz=> ?_,hG.FQ fun b hb=>⟨hL' b (.inl hb),hbel.block b (hG.ll b hb).1⟩⟩,⟨fun b hb=>⟨hL' b (.inl hb),hbel.block b (hG.ll b hb).1⟩,fun id y hy=> ?_⟩,hv.ext ex2,fun j hj hj5=> ?_⟩
 ·have:=hG'.ll b hb;refine⟨this.1,?_⟩;rcases this.2 with(h1 |h1) |h1;·exact(hG.ll b h1).2
  ·exact hwl b (hlt b h1).2.1
  ·exact(hG.new b h1).2
 ·have hob:kq obs id=some o:=by
   unfold eT at hio;split at hio
   ·cases hq:([none]:List (Option Ob))[id- 500]? with
    |none=>rw [hq]at hio;cases hio
    |some q=>
     rw [hq]at hio;have:q=none:=by have:=List.mem_of_getElem? hq;simpa using this
     rw [this]at hio;cases hio
   ·exact hio
  exact(hG'.ob id o hob).weak (fun b hb=>(hG.new b hb).1) hon
 ·have key:∀i,eT [none] obs i≠none->kq obs i≠none/\i< obs.length:=fun i hi=>by
   unfold eT at hi;split at hi
   ·exfalso;apply hi;cases hq:([none]:List (Option Ob))[i- 500]? with
    |none=>rfl
    |some q=>
     have:q=none:=by have:=List.mem_of_getElem? hq;simpa using this
     rw [this];rfl
   ·refine⟨hi,?_⟩;cases hq:obs[i]? with
    |none=>exact absurd hq hi
    |some q=>exact(List.getElem?_eq_some_iff.1 hq).1
  rw [hρ2,if_pos (key i hi).2]at hy;rw [hρ2,if_pos (key j hj).2]at hz;exact hG'.sep i j y z k hij (key i hi).1 (key j hj).1 hy hz
 ·rw [hρ2];by_cases hid:id< obs.length;·rw [hρ id (.inl oM)]at hy;cases hy
  ·rw [if_neg hid];exact hy
 ·rw [hρ2,if_neg oM];exact hρ j hj5
theorem Real.ptr{W:Nat->Prop}{w:World}{L:Nat->Prop}{ρ:Nat->Option Value}{id t:Nat}{cs:List V}(h:Real W w L ρ id (.box t cs))(hi:V.aZ cs=true) : ∃v,ρ id=some v/\(∀k,blk v=some k->k< w.heap.size/\W k/\¬L k)/\R w (fun b=>L b\/blk v=some b) ρ (.ptr cs) v:=by
 obtain⟨v',hv',hlt⟩:=h.lt;obtain⟨b,xs,h1,h2,h3,h4,h5⟩:=h;rw [h1]at hv';injection hv' with hv';subst hv'
 refine⟨_,h1,hlt,?_⟩;refine .ptr _ _ _ _ (fun j=>xs.toList.getD j undef) (.inr rfl) (fun j u hu=> ?_) fun j u hu=> ?_
 ·obtain⟨y,hy,hr,hone⟩:=h5.get hu;have hg:xs.toList.getD j undef=y:=by simp [List.getD_eq_getElem?_getD,hy]
  rw [hg];refine⟨?_,hone⟩;rw [Nat.zero_add];rw [cell_of_row w b j xs t (0,0) h4];simpa using hy
 ·obtain⟨y,hy,hr,hone⟩:=h5.get hu;have hg:xs.toList.getD j undef=y:=by simp [List.getD_eq_getElem?_getD,hy]
  rw [hg];exact(hr.free (V.dI hi hu) ρ0).ext ⟨fun b hb=>⟨.inl hb,rfl⟩,fun _ _ h=>h⟩
def V.nV:V->Bool
 | .tup cs=>V.eM cs
 |v=>v.flat
theorem R.nV{w w':World}{L L':Nat->Prop}{ρ ρ':Nat->Option Value}{u:V}{x:Value}(h:R w L ρ u x)(hf:u.nV=true):R w' L' ρ' u x:=by
 cases u with
 |tup cs=>obtain⟨xs,rfl,hx⟩:=h.jF;exact .rT ⟨hx.1,fun i v y hv hy=>(hx.2 i v y hv hy).flat (V.jv hf hv)⟩
 |_=>exact h.flat hf
theorem AC.box{P:Program}{f:FuncId}{args args':List V}{v:V}(h:AC P f args' v [])(t:TypeId){cs:List V}(ha:V.lz 500 (.ptr cs) args=args')(hi:V.aZ args'=true)(hi2:V.aZ cs=true)(hv:v.nV=true) : AM P f args [.box t cs] v [some (.box t cs)] []:=by
 refine⟨h.1,fun W LB L w ρ vs hwl hWL hG hρ hvs=> ?_⟩;have hσ:dz [.box t cs] 500=some (.box t cs):=rfl;obtain⟨v0,hv0,hlt,hs⟩:=(hG.ob 500 _ hσ).ptr hi2;have ex:Ext w L ρ w (fun b=>L b\/blk v0=some b) ρ:=⟨fun b hb=>⟨.inl hb,rfl⟩,fun _ _ h=>h⟩;have hrv:RV w (fun b=>L b\/blk v0=some b) ρ0 args' vs.toList:=by
  refine RV.free (ρ:=ρ) ?_ hi;rw [<-ha];refine⟨by rw [V.dH];exact hvs.1,fun i u x hu hx=> ?_⟩;rw [V.e8]at hu;cases hc:args[i]? with
  |none=>rw [hc]at hu;cases hu
  |some a=>rw [hc]at hu;simp only [Option.map_some,Option.some.injEq]at hu;subst hu;refine mV (fun y hy=> ?_) _ _ ((hvs.2 i a x hc hx).ext ex);rw [hv0]at hy;injection hy with hy;subst hy;exact hs
 refine(h.2 (fun b=>L b\/blk v0=some b) w vs (fun b hb=> ?_) (hG.td ex) hrv).mono ?_
 ·rcases hb with hb |hb;·exact(hG.ll b hb).1
  ·exact(hlt b hb).1
 rintro ee w' ⟨x,rfl,hbel,L',ρ',hG',hL',hx,hnn⟩;obtain⟨hG2,ex2⟩:=hG.quiet hbel (L':=L) (fun _ h=>h) (fun _ h=> .inl h);have e:eT [some (.box t cs)] []=dz [.box t cs]:=by
  funext id;unfold eT dz;by_cases h5:500<=id
  ·rw [if_pos h5,if_pos h5];cases hk:id- 500 with
   |zero=>rfl
   |succ n=>simp
  ·rw [if_neg h5,if_neg h5];simp
 refine⟨x,rfl,aU.eS hbel fun k _ hk=>(hG.new k hk).1,L,ρ,?_,ex2,hx.nV hv,fun j _ hj=>hρ j hj⟩;rw [e];exact hG2
end Go.Ab
