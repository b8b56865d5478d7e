/-
  Several texts in one: A row that is not written any more, seen also where a cell holds it; what is handed back out of cells. No condition. .. Iterators whose body is walked: what they hand out is known as values without addresses. Conditions: told in each theorem.
-/
import Derived.LoopNIn
import Derived.Test.YtjmbpjlojjgggaaGreatDoorMD
import Derived.Test.YtjmbpjlojjgggaaGreatDoorMB
import Derived.Test.YtjmbpjlojjgggaaGreatDoorAbs42
namespace Go.Ab
open Go.RowKit Go.Dw
def Ob.fz(id:Nat)(v:V):Ob->Ob
 | .box t cs=> .box t (V.og id v cs)
 | .row e sz n r=> .row e sz n r
 | .mp s f=> .mp s (f.map (V.fz id v))
section
variable {P:Program}{b:Frame}{a:Act}{k:List Item}{cs:List Frame}{w:World}{F:Fence}{n:Nat}
theorem fh{c:Code}:step P (lone (b.atR a (.code (.scope c)::k)) cs w)= .next (lone (b.atR a (.code c:: .inScope c::k)) cs w):= step_lone_go (by simp [stepG,stepG.exec,Frame.atR])
theorem t6{c:Code}:step P (lone (b.atR a (.inScope c::k)) cs w)= .next (lone (b.atR a k) cs w):= step_lone_go (by simp [stepG,stepG.exec,Frame.atR])
def Iq(Q:Exit->Act->World->Prop):Exit->Act->World->Prop
 | .goto _,_,_=>False
 |e,a,w=>Q e a w
theorem Bg{c:Code}{Q:Exit->Act->World->Prop}(h:c.wpIn F n P (Iq Q) a w):(Code.scope c).wpIn F n P Q a w:=by
 intro b k cs hro hb hr;have h0:(lone (b.atR a (.code (.scope c)::k)) cs w).fenced P F:=fenced_calm hb hr rfl;obtain⟨e,a₁,w₁,hq,harr⟩:=h b (.inScope c::k) cs hro hb hr;cases e with
 |normal=>exact⟨.normal,a₁,w₁,hq,.head h0 fh (StepsIn.trans harr (.one (fenced_calm hb hr rfl) t6))⟩
 |exit id=>
  have hx:exitTo id (.inScope c::k)=exitTo id k:=by simp [exitTo]
  exact⟨.exit id,a₁,w₁,hq,fun k' hk=> .head h0 fh (harr.1 k' (by rw [hx];exact hk)),
   fun hr' hk=>let⟨k₁,h1,h2⟩:=harr.2 hr' (by rw [hx];exact hk);⟨k₁,h1,.head h0 fh h2⟩⟩
 |goto l=>exact hq.elim
 |ret=>exact⟨_,a₁,w₁,hq,.of_steps (.one h0 fh) harr⟩
 |panic ch=>exact⟨_,a₁,w₁,hq,.of_steps (.one h0 fh) harr⟩
 |outgrown=>exact⟨_,a₁,w₁,hq,.of_steps (.one h0 fh) harr⟩
end
def vf(Q:Exit->S->Prop):Exit->S->Prop
 | .goto _,_=>False
 |e,s=>Q e s
section
variable {P:Program}{N:Nat}{C:Cx P N}{Q:Exit->S->Prop}{s:S}{id:Nat}
theorem xq{c:Code}(h:AW C c (vf Q) s):AW C (.scope c) Q s:=by
 intro a w g;refine Bg (wpIn_mono (h a w g) ?_);rintro e a' w' ⟨s',q,g',t⟩;cases e with
 |goto l=>exact q.elim
 |_=>exact⟨s',q,g',t⟩
theorem Qk(h:Q .normal s):vf Q .normal s:=h
theorem Ql(h:Q .ret s):vf Q .ret s:=h
theorem Qm(h:Q (.exit id) s):vf Q (.exit id) s:=h
end
mutual
def V.j4(n:Nat):V->Bool
 | .agg cs=>V.cS n cs
 | .tup cs=>V.cS n cs
 | .fn _ a b=>V.cS n a && V.cS n b
 | .ifc _ v=>v.j4 n
 | .gd _ v=>v.j4 n
 | .alt _ v u=>v.j4 n && u.j4 n
 | .own i=>decide (500<=i) && decide (i< 500+n)
 | .ref i _=>decide (500<=i) && decide (i< 500+n)
 | .oel i _ _ _=>decide (500<=i) && decide (i< 500+n)
 | .osl i _ _ _=>decide (500<=i) && decide (i< 500+n)
 |_=>true
def V.cS(n:Nat):List V->Bool
 | []=>true
 |v::l=>v.j4 n && V.cS n l
end
mutual
theorem lP(n:Nat):∀v:V,v.ck=true->v.j4 n=true
 | .agg cs,h=>by rw [V.ck]at h;rw [V.j4];exact iu n cs h
 | .tup cs,h=>by rw [V.ck]at h;rw [V.j4];exact iu n cs h
 | .fn f a b,h=>by rw [V.ck,Bool.and_eq_true]at h;rw [V.j4,iu n a h.1,iu n b h.2];rfl
 | .ifc t v,h=>by rw [V.ck]at h;rw [V.j4];exact lP n v h
 | .gd q v,h=>by rw [V.ck]at h;rw [V.j4];exact lP n v h
 | .alt q v u,h=>by rw [V.ck,Bool.and_eq_true]at h;rw [V.j4,lP n v h.1,lP n u h.2];rfl
 | .own _,h=>by simp [V.ck]at h
 | .ref _ _,h=>by simp [V.ck]at h
 | .oel _ _ _ _,h=>by simp [V.ck]at h
 | .osl _ _ _ _,h=>by simp [V.ck]at h
 | .fset _ _,_=>rfl
 | .any,_=>rfl
 | .c _,_=>rfl
 | .nil,_=>rfl
 | .emp,_=>rfl
 | .sl _ _ _,_=>rfl
 | .ptr _,_=>rfl
theorem iu(n:Nat):∀l:List V,V.bA l=true->V.cS n l=true
 | [],_=>rfl
 |v::l,h=>by rw [V.bA,Bool.and_eq_true]at h;rw [V.cS,lP n v h.1,iu n l h.2];rfl
end
theorem V.iw{n:Nat}:∀ {l:List V}(_:V.cS n l=true){i:Nat}{u:V}(_:l[i]?=some u),u.j4 n=true
 |v::l,h,0,u,hu=>by simp at hu;subst hu;simp only [V.cS,Bool.and_eq_true]at h;exact h.1
 |v::l,h,i+1,u,hu=>by simp only [V.cS,Bool.and_eq_true]at h;exact V.iw h.2 (by simpa using hu)
theorem R.vX{n:Nat}{w:World}{L:Nat->Prop}{ρ:Nat->Option Value}{u:V}{x:Value}(h:R w L ρ u x):∀(_:u.j4 n=true) (ρ':Nat->Option Value),(∀id v,500<=id->id< 500+n->ρ id=some v->ρ' id=some v)->R w L ρ' u x:=by
 induction h with
 |any=>exact fun _ _ _=> .any _ _
 |c=>exact fun _ _ _=> .c _ _
 |agg ρ cs xs f hl hf hr ih=>intro hi ρ' hρ;simp only [V.j4]at hi;exact .agg _ _ _ f hl hf fun i u hu=>ih i u hu (V.iw hi hu) ρ' hρ
 |tup ρ cs xs f hl hf hr ih=>intro hi ρ' hρ;simp only [V.j4]at hi;exact .tup _ _ _ f hl hf fun i u hu=>ih i u hu (V.iw hi hu) ρ' hρ
 |nil=>exact fun _ _ _=> .nil _
 |emp=>exact fun _ _ _=> .emp _ _
 |sl0=>exact fun _ _ _=> .sl0 _ _ _ _ _
 |sl ρ sz n row b o c f hb hcap hlen hf hr ih=>exact fun _ ρ' _=> .sl _ _ _ _ _ _ _ f hb hcap hlen hf hr
 |ptr ρ cs b o f hb hf hr ih=>exact fun _ ρ' _=> .ptr _ _ _ _ f hb hf hr
 |fset ρ str has b es cl hb hh hk hf=>exact fun _ ρ' _=> .fset _ _ _ b es cl hb hh hk hf
 |own ρ id x h h1=>intro hi ρ' hρ;simp only [V.j4,Bool.and_eq_true,decide_eq_true_eq]at hi;exact .own _ _ _ (hρ _ _ hi.1 hi.2 h) h1
 |ref ρ id off b h=>intro hi ρ' hρ;simp only [V.j4,Bool.and_eq_true,decide_eq_true_eq]at hi;exact .ref _ _ _ _ (hρ _ _ hi.1 hi.2 h)
 |oel ρ id sz i off b n c h=>intro hi ρ' hρ;simp only [V.j4,Bool.and_eq_true,decide_eq_true_eq]at hi;exact .oel _ _ _ _ _ _ n c (hρ _ _ hi.1 hi.2 h)
 |osl ρ id sz off k b m c c2 A h hn hA=>intro hi ρ' hρ;simp only [V.j4,Bool.and_eq_true,decide_eq_true_eq]at hi;exact .osl _ _ _ _ _ _ m c _ _ (hρ _ _ hi.1 hi.2 h) hn hA
 |fn ρ f fs cs xs ys g h hl hm hg hh hr hs ih1 ih2=>intro hi ρ' hρ;simp only [V.j4,Bool.and_eq_true]at hi;exact .fn _ _ _ _ _ _ g h hl hm hg hh (fun i u hu=>ih1 i u hu (V.iw hi.1 hu) ρ' hρ) fun i u hu=>ih2 i u hu (V.iw hi.2 hu) ρ' hρ
 |ifc ρ t u x h ih=>intro hi ρ' hρ;simp only [V.j4]at hi;exact .ifc _ _ _ _ (ih hi ρ' hρ)
 |gd ρ g u x h h' ih=>intro hi ρ' hρ;simp only [V.j4]at hi;exact .gd _ _ _ _ (fun hg=>ih hg hi ρ' hρ) h'
 |alt ρ g u v x h h' ih ih'=>intro hi ρ' hρ;simp only [V.j4,Bool.and_eq_true]at hi;exact .alt _ _ _ _ _ (fun hg=>ih hg hi.1 ρ' hρ) fun hg=>ih' hg hi.2 ρ' hρ
theorem RV.vX{n:Nat}{w:World}{L:Nat->Prop}{ρ ρ':Nat->Option Value}{us:List V}{xs:List Value}(h:RV w L ρ us xs)(hi:V.cS n us=true)(hρ:∀id v,500<=id->id< 500+n->ρ id=some v->ρ' id=some v):RV w L ρ' us xs:= ⟨h.1,fun i u x hu hx=>(h.2 i u x hu hx).vX (V.iw hi hu) ρ' hρ⟩
theorem RL.vX{n:Nat}{w:World}{L:Nat->Prop}{ρ ρ':Nat->Option Value}{us:List V}{xs:List Value}(h:RL w L ρ us xs)(hi:V.cS n us=true)(hρ:∀id v,500<=id->id< 500+n->ρ id=some v->ρ' id=some v):RL w L ρ' us xs:= ⟨h.1,fun i u x hu hx=>⟨(h.2 i u x hu hx).1.vX (V.iw hi hu) ρ' hρ,(h.2 i u x hu hx).2⟩⟩
theorem EL{w:World}{L:Nat->Prop}{ρ:Nat->Option Value}(g:Nat->Nat){us:List V}{xs:List Value}(h:RV w L ρ (V.aS g us) xs):RV w L (fun i=>ρ (g i)) us xs:= ⟨by rw [<-h.1,V.cY],fun i u x hu hx=>mF g us i u x hu (h.2 i (u.bD g) x (by rw [V.cx,hu];rfl) hx)⟩
def Ob.j4(n:Nat):Ob->Prop
 | .box _ cs=>V.cS n cs=true
 | .row _ _ m f=>∀i,i< m->V.cS n (f i)=true
 | .mp _ f=>∀k u,f.look k=some u->V.j4 n u=true
theorem V.pS{n:Nat}:∀ {l m:List V},V.cS n l=true->V.cS n m=true->V.cS n (l++m)=true
 | [],m,_,h=>h
 |v::l,m,h,k=>by simp only [V.cS,Bool.and_eq_true,List.cons_append]at h ⊢;exact⟨h.1,V.pS h.2 k⟩
theorem An{k:Nat}{row:Nat->List V}:∀n,(∀i,i< n->V.cS k (row i)=true)->V.cS k (aE n row).flatten=true:=by
 intro n h;have key:∀l:List (List V),(∀x∈l,V.cS k x=true)->V.cS k l.flatten=true:=by
  intro l;induction l with
  |nil=>intro _;rfl
  |cons x l ih=>intro h;rw [List.flatten_cons];exact V.pS (h x (by simp)) (ih fun y hy=>h y (by simp [hy]))
 refine key _ fun x hx=> ?_;simp only [aE,List.mem_map,List.mem_range]at hx;obtain⟨i,hi,rfl⟩:=hx;exact h i hi
def fm(ins:List Ob)(id:Nat):Option Ob:=if 500<=id then ins[id- 500]? else none
def gy(outs:List (Option Ob))(obs:List Ob)(id:Nat):Option Ob:=if 500<=id then(outs[id- 500]?).join else obs[id]?
def AM(P:Program)(f:FuncId)(args:List V)(ins:List Ob)(v:V)(outs:List (Option Ob))(obs:List Ob):Prop:=
  (∀(args:Array Value) (w:World),(callFunc f args).run P w= .ok (.enter f args) w)/\
  ∀(W LB L:Nat->Prop) (w:World) (ρ:Nat->Option Value) (vs:Array Value),(∀b,W b->LB b)->(∀b,W b->¬L b)->G W LB (fm ins) w L ρ->(∀id,(id< 500\/500+ins.length<=id)->ρ id=none)->RV w L ρ args vs.toList->
    Calls P f vs w fun e w'=>∃x,e= .returned x/\aZ W w w'/\∃L' ρ',G W LB (gy outs obs) w' L' ρ'/\Ext w L ρ w' L' ρ'/\R w' L' ρ' v x/\∀j,obs.length<=j->(j< 500\/500+ins.length<=j)->ρ' j=none
def aW(k n nx i:Nat):Nat:=if i< k\/(500<=i/\i< 500+n)then i else nx*100000+i
def dR(T:List TI)(fn:Func)(n:Nat)(v:V)(outs:List (Option Ob))(obs:List Ob):Exit->S->Prop:=fun e s=>(e= .normal\/e= .ret)/\∃s',Le s s'/\qt T s' fn.results.toList=some v/\(∀i ob,obs[i]?=some ob->s'.σ i=some ob)/\(∀i ob,outs[i]?=some (some ob)->s'.σ (500+i)=some ob)/\ v.bD (aW obs.length n s'.nx)=v/\(∀ob∈obs,ob.bD (aW obs.length n s'.nx)=ob)/\(∀ob:Ob,some ob∈outs->ob.bD (aW obs.length n s'.nx)=ob)
theorem uf{T:List TI}{P:Program}(hT:aK T P)(hmx:P.follows .mixedOrders=true){f:FuncId}{fn:Func}{c:Code}{N:Nat}(hk:qQ P f fn c N){args:List V}{ins:List Ob}{v:V}{outs:List (Option Ob)}{obs:List Ob}(hargs:args.length<=N)(hn:outs.length=ins.length)(hn4:ins.length<=400)(_:obs.length<=90)
    (h:∀C:Cx P N,C.F=Fence.wide->(∀id x,C.dfs.pin id=some x->500<=id/\id< 500+ins.length)->C.dfs.tl=[]->AW C c (dR T fn ins.length v outs obs) ⟨fun t=>args.getD t .any,fm ins,1⟩):AM P f args ins v outs obs:=by
  refine⟨hk.call,fun W LB L w ρ vs hwl hWL hG hρn hvs=> ?_⟩
  have hsome:∀i,i< ins.length->∃ob x,ins[i]?=some ob/\fm ins (500+i)=some ob/\ρ (500+i)=some x/\∀k,blk x=some k->k< w.heap.size/\W k/\¬L k:=by
    intro i hi
    have h1:ins[i]?=some ins[i]:=List.getElem?_eq_getElem hi
    have h2:fm ins (500+i)=some ins[i]:=by unfold fm;rw [if_pos oM,Nat.add_sub_cancel_left];exact h1
    obtain⟨x,hx,hx2⟩:=(hG.ob _ _ h2).lt
    exact⟨_,x,h1,h2,hx,hx2⟩
  obtain⟨C,hW,hLB,hd,hFw,htl⟩:∃C:Cx P N,C.W=W/\C.LB=LB/\C.dfs.pin=(fun id=>if 500<=id/\id< 500+ins.length then ρ id else none)/\C.F=Fence.wide/\C.dfs.tl=[]:=
    ⟨⟨W,LB,hwl,⟨[],fun id=>if 500<=id/\id< 500+ins.length then ρ id else none,fun id x hp=>by
      split at hp
      · omega
      · cases hp⟩,hmx,Fence.wide,.inl rfl⟩,rfl,rfl,rfl,rfl,rfl⟩
  have hvl:vs.size=args.length:=by have:=hvs.1;simpa using this.symm
  refine callsIn_wide.1 (callsIn_of_wp_marks (n:=0) hk.hf hk.hb trivial ?_ rfl)
  have hw:=h C hFw (fun id x hp=>by
    rw [hd]at hp
    simp only at hp
    split at hp
    · assumption
    · cases hp) htl
  unfold AW at hw
  rw [hFw]at hw
  refine wpIn_mono (hw _ w ⟨L,ρ,⟨?_,fun id hid=> ?_,fun t=> ?_,?_,?_,fun id x hp=> ?_⟩⟩) ?_
  · rw [hW,hLB];exact hG
  · have hid':1*100000<=id:=hid
    exact hρn id (.inr oM)
  · by_cases ht:t< args.length
    · have h1:args[t]?=some args[t]:=List.getElem?_eq_getElem ht
      obtain⟨x,hx,hr⟩:=hvs.get h1
      have e1:args.getD t .any=args[t]:=by simp [List.getD_eq_getElem?_getD,h1]
      have e2:(vs++Array.replicate (fn.ntmps- vs.size) undef).getD t undef=x:=by
        rw [Array.getD_eq_getD_getElem?,Array.getElem?_append_left oM]
        have:vs[t]?=some x:=by simpa using hx
        rw [this];rfl
      show R w L ρ (args.getD t .any) _
      rw [e1,e2];exact hr
    · have e1:args.getD t .any= .any:=by simp [List.getD_eq_getElem?_getD,List.getElem?_eq_none (Nat.le_of_not_lt ht)]
      show R w L ρ (args.getD t .any) _
      rw [e1];exact .any _ _
  · rw [<-hk.hn]at hargs ⊢
    simp;omega
  · exact⟨[],by rw [htl];rfl,by simp,by simp⟩
  · rw [hd]at hp
    simp only at hp
    split at hp
    · exact hp
    · cases hp
  · rintro e a' w' ⟨s',⟨he,s'',hle,hres,hob,hout,hcv,hco,hcu⟩,g',t⟩
    obtain⟨L',ρ',g''⟩:=hle C a' w' g'
    rw [hW]at t
    obtain⟨Ds,d1,d2,d3⟩:=g''.defers
    rw [htl,List.append_nil]at d1
    refine jJ Ds he d1 d2 (fun D hD=>(d3 D hD).1) fun w2 ht2=> ?_
    obtain⟨g2,e2⟩:=g''.g.marks ht2 d3
    obtain⟨x,hx,hr⟩:=nX hT g2 (fun t=>(g''.tm t).ext e2) fn hres
    have hWD:∀D∈Ds,W D:=fun D hD=>by have:=(d3 D hD).2.1;rw [hW]at this;exact this
    have tt:aZ W w w2:=t.trans (ht2.mono fun k _ hkD=>hWD k hkD)
    refine⟨x,hx,x,rfl,tt,?_⟩
    have hr2:R w2 L' (fun i=>ρ' (aW obs.length ins.length s''.nx i)) v x:=kC _ _ _ (by rw [hcv];exact hr)
    have hlt:∀i,i< obs.length->aW obs.length ins.length s''.nx i=i:=fun i hi=>by unfold aW;rw [if_pos (.inl hi)]
    have hlt5:∀i,500<=i->i< 500+ins.length->aW obs.length ins.length s''.nx i=i:=fun i h1 h2=>by unfold aW;rw [if_pos (.inr ⟨h1,h2⟩)]
    have hoF:∀id o,gy outs obs id=some o->s''.σ id=some o/\aW obs.length ins.length s''.nx id=id/\o.bD (aW obs.length ins.length s''.nx)=o:=by
      intro id o ho
      unfold gy at ho
      split at ho
      · rename_i h5
        have ho':outs[id- 500]?=some (some o):=by
          cases hq:outs[id- 500]? with
          |none=>rw [hq]at ho;cases ho
          |some q=>rw [hq]at ho;simp at ho;rw [ho]
        have hlt':=(List.getElem?_eq_some_iff.1 ho').1
        refine⟨?_,hlt5 id h5 oM,hcu o (List.mem_of_getElem? ho')⟩
        have:=hout (id- 500) o ho'
        rwa [show 500+(id- 500)=id by omega]at this
      · exact⟨hob id o ho,hlt id (List.getElem?_eq_some_iff.1 ho).1,hco o (List.mem_of_getElem? ho)⟩
    have hE2:Ext w2 L' (fun i=>ρ' (aW obs.length ins.length s''.nx i)) w2 (fun b=>L' b\/L b) (fun i=>ρ' (aW obs.length ins.length s''.nx i)):=⟨fun b hb=>⟨.inl hb,rfl⟩,fun _ _ h=>h⟩
    refine⟨fun b=>L' b\/L b,fun i=>ρ' (aW obs.length ins.length s''.nx i),⟨fun b hb=> ?_,fun b hb=> ?_,fun id o ho=> ?_,fun i j x y k hij hi hj=> ?_,g2.Pa hE2.l⟩,⟨fun b hb=>⟨.inr hb,tt.block b (hG.ll b hb).1 fun hc=>hWL b hc hb⟩,fun id x hx=> ?_⟩,hr2.ext hE2,fun j hj hj5=> ?_⟩
    · rcases hb with hb |hb
      · have:=g2.ll b hb
        rw [hLB]at this
        exact⟨this.1,this.2⟩
      · exact⟨Nat.lt_of_lt_of_le (hG.ll b hb).1 tt.size,(hG.ll b hb).2⟩
    · exact hG.new b (Nat.le_trans tt.size hb)
    · obtain⟨q1,q2,q3⟩:=hoF id o ho
      have hr0:=g2.ob id o q1
      rw [hW]at hr0
      have hr:Real W w2 L' (fun i=>ρ' (aW obs.length ins.length s''.nx i)) id o:=Real.bD (by rw [q2,q3];exact hr0)
      obtain⟨y,hy,hy2⟩:=hr.lt
      refine hr.keep hE2 fun x k hx hk=> ?_
      rw [hx]at hy;injection hy with hy;subst hy
      refine⟨rfl,?_⟩
      rintro(h1 |h1)
      · exact(hy2 k hk).2.2 h1
      · exact hWL k (hy2 k hk).2.1 h1
    · have key:∀i,gy outs obs i≠none->s''.σ i≠none/\aW obs.length ins.length s''.nx i=i:=fun i hi=>by
        cases ho:gy outs obs i with
        |none=>exact absurd ho hi
        |some o=>obtain⟨q1,q2,_⟩:=hoF i o ho;exact⟨by rw [q1];simp,q2⟩
      simp only [(key i hi).2,(key j hj).2]
      exact g2.sep i j x y k hij (key i hi).1 (key j hj).1
    · show ρ' (aW obs.length ins.length s''.nx id)=some x
      by_cases h5:500<=id/\id< 500+ins.length
      · rw [hlt5 id h5.1 h5.2]
        exact g''.pin id x (by rw [hd];simp only;rw [if_pos h5];exact hx)
      · rw [hρn id oM]at hx;cases hx
    · have e3:aW obs.length ins.length s''.nx j=s''.nx*100000+j:=if_neg oM
      show ρ' (aW obs.length ins.length s''.nx j)=none
      rw [e3]
      exact g''.fr _ (by unfold bV;omega)
theorem aG{T:List TI}{P:Program}(hT:aK T P)(hmx:P.follows .mixedOrders=true){f:FuncId}{fn:Func}{c:Code}{N:Nat}(hk:qQ P f fn c N){args:List V}{ins:List Ob}{v:V}{outs:List (Option Ob)}{obs:List Ob}(hargs:args.length<=N)(hn:outs.length=ins.length)(hn4:ins.length<=400)(ho:obs.length<=90)
 (h:∀C:Cx P N,C.F=Fence.wide->AW C c (dR T fn ins.length v outs obs) ⟨fun t=>args.getD t .any,fm ins,1⟩):AM P f args ins v outs obs:=
 uf hT hmx hk hargs hn hn4 ho fun C hF _ _=>h C hF
def aJ(nx:Nat)(d:Option Tmp)(ns:List Nat)(id:Nat):Nat:=if 500<=id then ns.getD (id- 500) (nx*100000+1000*id+d.getD 0)else ay nx d id
def gG(g:Nat->Nat):List Nat->List (Option Ob)->List (Nat×Option Ob)
 |k::ks,o::os=>(k,o.map (Ob.bD g))::gG g ks os
 |_,_=>[]
def jd:List Nat->List Ob->List (Nat×Ob)
 |k::ks,o::os=>(k,o)::jd ks os
 |_,_=>[]
theorem lF(σ:Nat->Option Ob):∀l m:List (Nat×Option Ob),bG σ (l++m)=bG (bG σ l) m
 | [],m=>rfl
 | (k,o)::l,m=>by simp only [List.cons_append,bG];exact lF _ l m
theorem Ce(g:Nat->Nat):∀(ns:List Nat) (os:List (Option Ob)) (σ:Nat->Option Ob) (id:Nat) (o:Ob),ns.Nodup->os.length=ns.length->bG σ (gG g ns os) id=some o->(∃(i:Nat) (ob:Ob),ns[i]?=some id/\os[i]?=some (some ob)/\o=ob.bD g)\/(σ id=some o/\id∉ns)
  | [],os,σ,id,o,_,_,h=> .inr ⟨by simpa [gG,bG]using h,by simp⟩
  |n::ns,[],σ,id,o,_,hl,h=>by simp at hl
  |n::ns,x::os,σ,id,o,hn,hl,h=>by
    rw [gG,bG]at h
    have hn':=List.nodup_cons.1 hn
    rcases Ce g ns os _ id o hn'.2 (by simpa using hl) h with⟨i,ob,h1,h2,h3⟩ | ⟨h1,h2⟩
    · exact .inl ⟨i+1,ob,by simpa using h1,by simpa using h2,h3⟩
    · by_cases he:id=n
      · subst he
        rw [ak]at h1
        cases x with
        |none=>cases h1
        |some x=>simp at h1;exact .inl ⟨0,x,rfl,rfl,h1.symm⟩
      · rw [ah _ _ he]at h1
        exact .inr ⟨h1,by simp [he,h2]⟩
theorem Ch:∀ {ns:List Nat}{os:List Ob}{i:Nat}{n:Nat}{o:Ob},ns[i]?=some n->os[i]?=some o->(n,o)∈jd ns os
 | [],_,_,_,_,h,_=>by simp at h
 |_::_,[],_,_,_,_,h=>by simp at h
 |a::ns,b::os,0,n,o,h,k=>by simp at h k;subst h k;simp [jd]
 |a::ns,b::os,i+1,n,o,h,k=>by simp at h k;exact List.mem_cons_of_mem _ (Ch h k)
section
variable {P:Program}{W LB:Nat->Prop}{d:Option Tmp}{ty:TypeId}{pos:String}{af:Array Edge}{gd:Option (Nat×Bool)}{ev:Operand->V}
def Qo(P:Program)(o:Oper)(ev:Operand->V)(f:FuncId)(as0:List V):Prop:= ∀(w:World) (L:Nat->Prop) (ρ:Nat->Option Value) (g:Operand->Value),(∀x∈o.op.operands,R w L ρ (ev x) (g x))->∃vs:Array Value,((∀(args:Array Value) (w:World),(callFunc f args).run P w= .ok (.enter f args) w)->(execOp g o).run P w= .ok (.enter f vs) w)/\RV w L ρ as0 vs.toList
theorem uh{o:Oper}{f:FuncId}{as0 args:List V}{ins ins':List Ob}{v:V}{outs:List (Option Ob)}{obs:List Ob}(hc:AM P f args ins v outs obs)(hwl:∀b,W b->LB b)(ns:List Nat)(hp:jT o.op=true)(hex:Qo P o ev f as0)(nx:Nat)
    (hargs:as0=V.aS (aJ nx d ns) args) (hin:V.cS ins.length args=true) (hd:d.all (fun t=>decide (t< 1000))=true) (hobs:obs.length<=90)
    (hns:ns.Nodup) (hnl:ns.length=ins.length) (hol:outs.length=ins.length) (hil:ins'.length=ins.length) (hins:∀(i:Nat) (o o':Ob),ins[i]?=some o->ins'[i]?=some o'->fH o' (o.bD (aJ nx d ns))/\o.j4 ins.length) :
    aU P W LB o ev (v.bD (aJ nx d ns)) (jd ns ins') ((List.range obs.length).map (ay nx d)) (gG (aJ nx d ns) ns outs++cj (aJ nx d ns) 0 obs):=by
  intro σ w L ρ g hG hr hpre hnew
  obtain⟨vs,hrun0,hz⟩:=hex w L ρ g hr
  obtain⟨G0,hG0⟩:∃G0,G0=aJ nx d ns:=⟨_,rfl⟩
  rw [<-hG0]at hargs hins ⊢
  obtain⟨n,hn⟩:∃n,n=ins.length:=⟨_,rfl⟩
  rw [<-hn]at hin hnl hol hil hins
  have gpin:∀i,i< n->∃m,ns[i]?=some m/\G0 (500+i)=m:=by
    intro i hi
    have h2:ns[i]?=some ns[i]:=List.getElem?_eq_getElem oM
    refine⟨_,h2,?_⟩
    rw [hG0];unfold aJ
    rw [if_pos oM,Nat.add_sub_cancel_left,List.getD_eq_getElem?_getD,h2];rfl
  have gnew:∀j,j< 500->G0 j=ay nx d j:=fun j hj=>by rw [hG0];unfold aJ;rw [if_neg oM]
  -- the objects that are handed
  have hobj:∀i,i< n->∃m o o' x,ns[i]?=some m/\G0 (500+i)=m/\ins[i]?=some o/\σ m=some o'/\fH o' (o.bD G0)/\o.j4 n/\Real W w L ρ m o'/\ρ m=some x/\∀k,blk x=some k->k< w.heap.size/\W k/\¬L k:=by
    intro i hi
    obtain⟨m,hm,hgm⟩:=gpin i hi
    have h2:ins[i]?=some ins[i]:=List.getElem?_eq_getElem oM
    have h3:ins'[i]?=some ins'[i]:=List.getElem?_eq_getElem oM
    have h4:=hpre _ (Ch hm h3)
    obtain⟨h5,h6⟩:=hins i _ _ h2 h3
    have h7:=hG.ob m _ h4
    obtain⟨x,hx,hx2⟩:=h7.lt
    exact⟨m,_,_,x,hm,hgm,h2,h4,h5,h6,h7,hx,hx2⟩
  obtain⟨ρ1,hρ1⟩:∃ρ1:Nat->Option Value,∀id,ρ1 id=if 500<=id/\id< 500+n then ρ (G0 id)else none:=⟨_,fun _=>rfl⟩
  have hρ1p:∀i,i< n->ρ1 (500+i)=ρ (G0 (500+i)):=fun i hi=>by rw [hρ1,if_pos oM]
  have hinto:∀id v,500<=id->id< 500+n->(fun i=>ρ (G0 i)) id=some v->ρ1 id=some v:=fun id v h5 h6 h7=>by rw [hρ1,if_pos ⟨h5,h6⟩];exact h7
  have hrv:RV w L ρ1 args vs.toList:=by
    rw [hargs]at hz
    exact(EL G0 hz).vX hin hinto
  obtain⟨W1,hW1⟩:∃W1:Nat->Prop,∀b,W1 b<->(∃i x,i< n/\ρ1 (500+i)=some x/\blk x=some b)\/w.heap.size<=b:=⟨_,fun _=>Iff.rfl⟩
  have hW1old:∀b,W1 b->b< w.heap.size->W b/\¬L b/\∃i m x,i< n/\ns[i]?=some m/\σ m≠none/\ρ m=some x/\blk x=some b:=by
    intro b hb hlt
    rcases(hW1 b).1 hb with⟨i,x,hi,hx,hbx⟩ |h
    · obtain⟨m,o,o',x',q1,q2,q3,q4,q5,q6,q7,q8,q9⟩:=hobj i hi
      rw [hρ1p i hi,q2,q8]at hx
      injection hx with hx;subst hx
      exact⟨(q9 b hbx).2.1,(q9 b hbx).2.2,i,m,_,hi,q1,by rw [q4];simp,q8,hbx⟩
    · omega
  have hW1W:∀b,W1 b->W b:=fun b hb=>by
    by_cases hlt:b< w.heap.size
    · exact(hW1old b hb hlt).1
    · exact(hG.new b oM).1
  have hW1L:∀b,W1 b->¬L b:=fun b hb hL=>by
    have hlt:=(hG.ll b hL).1
    exact(hW1old b hb hlt).2.1 hL
  -- the callee's own view
  have hinsF:∀id o,fm ins id=some o->∃i,i< n/\id=500+i/\ins[i]?=some o:=by
    intro id o ho
    unfold fm at ho
    split at ho
    · exact⟨id- 500,by rw [hn];exact(List.getElem?_eq_some_iff.1 ho).1,by omega,ho⟩
    · cases ho
  have hG1:G W1 (fun b=>L b\/W1 b) (fm ins) w L ρ1:=by
    refine⟨fun b hb=>⟨(hG.ll b hb).1,.inl hb⟩,fun b hb=> ?_,fun id o ho=> ?_,fun i j x y k hij hi hj hx hy hk=> ?_,hG.gl⟩
    · have:W1 b:=(hW1 b).2 (.inr hb)
      exact⟨this,.inr this⟩
    · obtain⟨i,hi,rfl,hio⟩:=hinsF id o ho
      obtain⟨m,o2,o',x,q1,q2,q3,q4,q5,q6,q7,q8,q9⟩:=hobj i hi
      rw [hio]at q3;injection q3 with q3;subst q3
      have hre:Real W w L (fun i=>ρ (G0 i)) (500+i) o:=Real.bD (by rw [q2];exact q7.eq q5)
      have hbW:∀k,blk x=some k->W1 k/\¬L k:=fun k hk=>⟨(hW1 k).2 (.inl ⟨i,x,hi,by rw [hρ1p i hi,q2];exact q8,hk⟩),(q9 k hk).2.2⟩
      have hxe:(fun i=>ρ (G0 i)) (500+i)=some x:=by show ρ (G0 (500+i))=some x;rw [q2];exact q8
      cases o with
      |box t cs=>
        obtain⟨b,ys',r1,r2,r3,r4,r5⟩:=hre
        have e0:=r1
        rw [hxe]at e0;injection e0 with e0
        have:=hbW b (by rw [e0];rfl)
        exact⟨b,ys',hinto _ _ oM oM r1,this.1,r3,r4,r5.vX q6 hinto⟩
      |row e sz nn row=>
        obtain⟨y,ys',r1,r2,r3,r4,r5⟩:=hre
        have e0:=r1
        rw [hxe]at e0;injection e0 with e0;subst e0
        exact⟨_,ys',hinto _ _ oM oM r1,r2,r3,r4.vX (An _ q6) hinto,fun k hk=>hbW k hk⟩
      |mp str f=>
        obtain⟨b,es,cl,r1,r2,r3,r4,r5⟩:=hre
        have e0:=r1
        rw [hxe]at e0;injection e0 with e0
        have:=hbW b (by rw [e0];rfl)
        exact⟨b,es,cl,hinto _ _ oM oM r1,this.1,r3,r4,r5.imp fun i u x hu hr=>hr.vX (q6 i u hu) _ hinto⟩
    · cases hoi:fm ins i with
      |none=>exact absurd hoi hi
      |some oi=>
        cases hoj:fm ins j with
        |none=>exact absurd hoj hj
        |some oj=>
          obtain⟨a,ha,rfl,_⟩:=hinsF i oi hoi
          obtain⟨b,hb,rfl,_⟩:=hinsF j oj hoj
          obtain⟨m,o2,o',x',q1,q2,q3,q4,q5,q6,q7,q8,q9⟩:=hobj a ha
          obtain⟨m',o2',o'',x'',p1,p2,p3,p4,p5,p6,p7,p8,p9⟩:=hobj b hb
          rw [hρ1p a ha,q2]at hx
          rw [hρ1p b hb,p2]at hy
          refine hG.sep m m' x y k (fun e=>hij ?_) (by rw [q4];simp) (by rw [p4];simp) hx hy hk
          subst e
          have l1:=List.getElem?_eq_some_iff.1 q1
          have l2:=List.getElem?_eq_some_iff.1 p1
          obtain⟨l1a,l1b⟩:=l1
          obtain⟨l2a,l2b⟩:=l2
          have pw:=List.pairwise_iff_getElem.1 hns
          have:a=b:=by
            rcases Nat.lt_trichotomy a b with h |h |h
            · exact absurd (l1b.trans l2b.symm) (pw a b l1a l2a h)
            · exact h
            · exact absurd (l2b.trans l1b.symm) (pw b a l2a l1a h)
          rw [this]
  have hrun:=hrun0 hc.1
  refine bk.enter hp hrun ((hc.2 W1 (fun b=>L b\/W1 b) L w ρ1 _ (fun b h=> .inr h) hW1L hG1 (fun id hid=>by rw [hρ1,if_neg (by rw [<-hn]at hid;omega)]) hrv).mono ?_)
  rintro e w' ⟨x,rfl,tt,L',ρ',hG',hE',hv,hnn⟩
  obtain⟨D,hD,hd'⟩:∃D:Nat,d.getD 0=D/\D< 1000:=⟨_,rfl,by cases d with |none=>decide |some t=>simpa using hd⟩
  have ginj:∀i j,ay nx d i=ay nx d j->i=j:=fun i j h=>by unfold ay at h;rw [hD]at h;omega
  have hpinE:∀i,i< n->ρ' (500+i)=ρ (G0 (500+i)):=by
    intro i hi
    obtain⟨m,o,o',x',q1,q2,q3,q4,q5,q6,q7,q8,q9⟩:=hobj i hi
    rw [q2,q8]
    exact hE'.r _ _ (by rw [hρ1p i hi,q2];exact q8)
  obtain⟨ρ2,hρ2⟩:∃ρ2:Nat->Option Value,ρ2=fun id=>if id∈(List.range obs.length).map (ay nx d)then ρ' ((id- nx*100000) / 1000)else ρ id:=⟨_,rfl⟩
  have hgi:∀j,j< obs.length->ρ2 (ay nx d j)=ρ' j:=by
    intro j hj
    have:(ay nx d j- nx*100000) / 1000=j:=by unfold ay;rw [hD];omega
    rw [hρ2]
    simp only
    rw [if_pos (List.mem_map.2 ⟨j,by simpa using hj,rfl⟩),this]
  have hout:∀id,id∉(List.range obs.length).map (ay nx d)->ρ2 id=ρ id:=by
    intro id hid;rw [hρ2];simp only;rw [if_neg hid]
  have hkeep:∀id y,ρ id=some y->ρ2 id=some y:=fun id y hy=>by
    rw [hout id (fun hc=>by rw [hnew id hc]at hy;cases hy)];exact hy
  have hon:∀j y,ρ' j=some y->ρ2 (G0 j)=some y:=by
    intro j y hy
    by_cases hj:j< obs.length
    · rw [gnew j oM,hgi j hj];exact hy
    · by_cases h5:500<=j/\j< 500+n
      · have e5:j=500+(j- 500):=by omega
        rw [e5,hpinE (j- 500) oM]at hy
        rw [e5]
        exact hkeep _ _ hy
      · rw [hnn j oM (by rw [<-hn];omega)]at hy;cases hy
  have ex:Ext w L ρ w' L' ρ2:=⟨hE'.l,hkeep⟩
  have hLL:∀b,L' b->L b\/W1 b:=fun b hb=>(hG'.ll b hb).2
  have hofD:∀D',w.heap[D']?=some (.deferred (some []))->¬W1 D':=fun D' hD' hc=>by
    have hlt:=(Array.getElem?_eq_some_iff.1 hD').1
    obtain⟨_,_,i,m,y,_,_,hs,hy,hbk⟩:=hW1old D' hc hlt
    cases hso:σ m with
    |none=>exact hs hso
    |some o=>exact(hG.ob m o hso).gv hy hbk hD'
  have names:∀(id:Nat) (o:Ob),bG σ (gG G0 ns outs++cj G0 0 obs) id=some o->(∃j ob,gy outs obs j=some ob/\id=G0 j/\o=ob.bD G0)\/(σ id=some o/\id∉ns/\id∉(List.range obs.length).map (ay nx d)):=by
    intro id o ho
    rw [lF]at ho
    have key:∀(obs':List Ob) (j0:Nat) (σ:Nat->Option Ob),bG σ (cj G0 j0 obs') id=some o->(∃j ob,obs'[j]?=some ob/\id=G0 (j0+j)/\o=ob.bD G0)\/(σ id=some o/\∀j,j< obs'.length->id≠G0 (j0+j)):=by
      intro obs'
      induction obs' with
      |nil=>intro j0 σ ho;exact .inr ⟨ho,fun j hj=>by simp at hj⟩
      |cons ob obs' ih=>
        intro j0 σ ho
        rw [cj,bG]at ho
        rcases ih (j0+1) _ ho with⟨j,ob',h1,h2,h3⟩ | ⟨h1,h2⟩
        · exact .inl ⟨j+1,ob',by simpa using h1,by rw [h2];congr 1;omega,h3⟩
        · by_cases he:id=G0 j0
          · subst he
            rw [ak]at h1;injection h1 with h1
            exact .inl ⟨0,ob,rfl,rfl,h1.symm⟩
          · rw [ah _ _ he]at h1
            refine .inr ⟨h1,fun j hj=> ?_⟩
            cases j with
            |zero=>exact he
            |succ j=>have:=h2 j (by simpa using hj);rwa [show j0+(j+1)=j0+1+j by omega]
    rcases key obs 0 _ ho with⟨j,ob,h1,h2,h3⟩ | ⟨h1,h2⟩
    · have hj:=(List.getElem?_eq_some_iff.1 h1).1
      refine .inl ⟨j,ob,?_,by rw [h2,Nat.zero_add],h3⟩
      unfold gy;rw [if_neg oM];exact h1
    · rcases Ce G0 ns outs σ id o hns oM h1 with⟨i,ob,p1,p2,p3⟩ | ⟨p1,p2⟩
      · have hi:i< n:=by have:=(List.getElem?_eq_some_iff.1 p1).1;omega
        obtain⟨m,hm,hgm⟩:=gpin i hi
        rw [p1]at hm;injection hm with hm
        refine .inl ⟨500+i,ob,?_,by rw [hgm,hm],p3⟩
        unfold gy;rw [if_pos oM,Nat.add_sub_cancel_left,p2];rfl
      · refine .inr ⟨p1,p2,fun hc=> ?_⟩
        obtain⟨j,hj,rfl⟩:=List.mem_map.1 hc
        have hj':j< obs.length:=by simpa using hj
        exact h2 j hj' (by rw [Nat.zero_add,gnew j oM])
  -- what was not handed stands
  have oldb:∀i y k,σ i≠none->i∉ns->ρ i=some y->blk y=some k->k< w.heap.size/\¬W1 k:=by
    intro i y k hs hni hy hk
    cases ho:σ i with
    |none=>exact absurd ho hs
    |some o=>
      obtain⟨y',hy',hlt⟩:=(hG.ob i o ho).lt
      rw [hy]at hy';injection hy' with hy';subst hy'
      refine⟨(hlt k hk).1,fun hc=> ?_⟩
      obtain⟨_,_,a,m,z,_,hm,hsm,hz,hbz⟩:=hW1old k hc (hlt k hk).1
      exact hG.sep i m y z k (fun e=>hni (by rw [e];exact List.mem_of_getElem? hm)) hs hsm hy hz hk hbz
  refine⟨x,rfl,L',ρ2,⟨fun b hbl=> ?_,fun b hbs=>hG.new b (Nat.le_trans tt.size hbs),fun id o ho=> ?_,?_,hG.tN ex⟩,ng _ hon hv,tt.mono fun k _ hk=>hW1W k hk,ex,fun id hid=>hout id hid,fun D' hD'=>⟨(tt.block D' (Array.getElem?_eq_some_iff.1 hD').1 (hofD D' hD')).trans hD',fun hl=>(hLL D' hl).resolve_right (hofD D' hD')⟩⟩
  · refine⟨(hG'.ll b hbl).1,?_⟩
    rcases hLL b hbl with h |h
    · exact(hG.ll b h).2
    · exact hwl b (hW1W b h)
  · rcases names id o ho with⟨j,ob,h1,h2,h3⟩ | ⟨h1,h2,h2'⟩
    · subst h2 h3
      exact(hG'.ob j ob h1).KY _ hon hW1W
    · have hk:=hG.ob id o h1
      refine hk.keep ex fun y k hy hk2=> ?_
      obtain⟨y',hy',hlt⟩:=hk.lt
      rw [hy]at hy';injection hy' with hy';subst hy'
      obtain⟨l1,l2,l3⟩:=hlt k hk2
      have hnw:=(oldb id y k (by rw [h1];simp) h2 hy hk2).2
      exact⟨tt.block k l1 hnw,fun hc=>(hLL k hc).elim l3 hnw⟩
  · intro i j y z k hij hi hj hyi hzj hk hkz
    have cases':∀i,bG σ (gG G0 ns outs++cj G0 0 obs) i≠none->(∃q ob,gy outs obs q=some ob/\i=G0 q)\/(σ i≠none/\i∉ns/\i∉(List.range obs.length).map (ay nx d)):=by
      intro i hi
      cases ho:bG σ (gG G0 ns outs++cj G0 0 obs) i with
      |none=>exact absurd ho hi
      |some o=>
        rcases names i o ho with⟨q,ob,h1,h2,h3⟩ | ⟨h1,h2,h3⟩
        · exact .inl ⟨q,ob,h1,h2⟩
        · exact .inr ⟨by rw [h1];simp,h2,h3⟩
    have newb:∀q ob y k,gy outs obs q=some ob->ρ2 (G0 q)=some y->blk y=some k->ρ' q=some y/\W1 k:=by
      intro q ob y k ho hy hk
      obtain⟨y',hy',hlt⟩:=(hG'.ob q ob ho).lt
      have:=hon q y' hy'
      rw [hy]at this;injection this with this;subst this
      exact⟨hy',(hlt k hk).2.1⟩
    rcases cases' i hi with⟨q,ob,h1,rfl⟩ | ⟨h1,h2,h3⟩
    · rcases cases' j hj with⟨q',ob',h1',rfl⟩ | ⟨h1',h2',h3'⟩
      · have a1:=newb q ob y k h1 hyi hk
        have a2:=newb q' ob' z k h1' hzj hkz
        exact hG'.sep q q' y z k (fun e=>hij (by rw [e])) (by rw [h1];simp) (by rw [h1'];simp) a1.1 a2.1 hk hkz
      · have a1:=newb q ob y k h1 hyi hk
        rw [hout j h3']at hzj
        exact(oldb j z k h1' h2' hzj hkz).2 a1.2
    · rcases cases' j hj with⟨q',ob',h1',rfl⟩ | ⟨h1',h2',h3'⟩
      · have a1:=newb q' ob' z k h1' hzj hkz
        rw [hout i h3]at hyi
        exact(oldb i y k h1 h2 hyi hk).2 a1.2
      · rw [hout i h3]at hyi
        rw [hout j h3']at hzj
        exact hG.sep i j y z k hij h1 h1' hyi hzj hk hkz
theorem nj{fo:Operand}{ar:Array Operand}{ats:Array TypeId}{f:FuncId}{first caps args:List V}{ins ins':List Ob}{v:V}{outs:List (Option Ob)}{obs:List Ob}(hc:AM P f args ins v outs obs)(hwl:∀b,W b->LB b)(ns:List Nat)(hf:ev fo= .fn (.func f) first caps)(nx:Nat) (hargs:first++ar.toList.map ev++caps=V.aS (aJ nx d ns) args) (hin:V.cS ins.length args=true) (hd:d.all (fun t=>decide (t< 1000))=true) (hobs:obs.length<=90) (hns:ns.Nodup) (hnl:ns.length=ins.length) (hol:outs.length=ins.length) (hil:ins'.length=ins.length) (hins:∀(i:Nat) (o o':Ob),ins[i]?=some o->ins'[i]?=some o'->fH o' (o.bD (aJ nx d ns))/\o.j4 ins.length) : aU P W LB ⟨d,.call {callee:= .value fo,args:=ar,argTypes:=ats},ty,pos,af,gd⟩ ev (v.bD (aJ nx d ns)) (jd ns ins') ((List.range obs.length).map (ay nx d)) (gG (aJ nx d ns) ns outs++cj (aJ nx d ns) 0 obs):=by
 refine uh hc hwl ns rfl (as0:=first++ar.toList.map ev++caps) (fun w L ρ g hr=> ?_) nx hargs hin hd hobs hns hnl hol hil hins;have h1:=hr fo (by simp [Op.operands,Call.operands]);rw [hf]at h1;obtain⟨xs,ys,e1,hx,hy⟩:=h1.kP;have hz:RV w L ρ (ar.toList.map ev) (ar.map g).toList:=by refine⟨by simp,fun i u x hu hx=> ?_⟩;simp only [List.getElem?_map,Option.map_eq_some_iff,Array.toList_map]at hu hx;obtain⟨p,hp,rfl⟩:=hu;obtain⟨q,hq,rfl⟩:=hx;rw [hp]at hq;injection hq with hq;subst hq;exact hr p (by simp only [Op.operands,Call.operands];have:=List.mem_of_getElem? hp;simp at this ⊢;exact .inr this)
 refine⟨xs++ar.map g++ys,fun hcf=> ?_,?_⟩;·simp [execOp,resolve,Deferred.ofValue,invoke,e1,hcf]
 ·have:=(hx.append hz).append hy;simpa using this
end
end Go.Ab

namespace Go.Ab
open Go.RowKit Go.Dw
inductive fu(g:Nat->Nat)(n:Nat):List Ob->List Ob->Prop
  |nil:fu g n [] []
  |box {t:TypeId}{cs cs':List V}{l l':List Ob}(h:cs'=V.aS g cs) (hi:V.cS n cs=true) (k:fu g n l l'):fu g n (.box t cs::l) (.box t cs'::l')
  |row {e sz m m':Nat}{f f':Nat->List V}{l l':List Ob}(hm:m'=m) (h:∀i,i< m'->f' i=V.aS g (f i)) (hi:∀i,i< m->V.cS n (f i)=true) (k:fu g n l l'):fu g n (.row e sz m f::l) (.row e sz m' f'::l')
  |mp {s:Bool×Nat}{f f':MF}{l l':List Ob}(h:∀k,f'.look k=(f.map (V.bD g)).look k) (hi:∀k u,f.look k=some u->V.j4 n u=true) (k:fu g n l l'):fu g n (.mp s f::l) (.mp s f'::l')
theorem fu.get{g:Nat->Nat}{n:Nat}{l l':List Ob}(h:fu g n l l'):l'.length=l.length/\∀(i:Nat) (o o':Ob),l[i]?=some o->l'[i]?=some o'->fH o' (o.bD g)/\o.j4 n:=by
 induction h with
 |nil=>exact⟨rfl,fun i o o' h=>by simp at h⟩
 |box h hi k ih=>
  refine⟨by simp [ih.1],fun i o o' h1 h2=> ?_⟩;cases i with
  |zero=>simp at h1 h2;subst h1 h2;exact⟨⟨rfl,h⟩,hi⟩
  |succ i=>exact ih.2 i o o' (by simpa using h1) (by simpa using h2)
 |row hm h hi k ih=>
  refine⟨by simp [ih.1],fun i o o' h1 h2=> ?_⟩;cases i with
  |zero=>simp at h1 h2;subst h1 h2;exact⟨⟨rfl,rfl,hm,h⟩,hi⟩
  |succ i=>exact ih.2 i o o' (by simpa using h1) (by simpa using h2)
 |mp h hi k ih=>
  refine⟨by simp [ih.1],fun i o o' h1 h2=> ?_⟩;cases i with
  |zero=>simp at h1 h2;subst h1 h2;exact⟨⟨rfl,h⟩,hi⟩
  |succ i=>exact ih.2 i o o' (by simpa using h1) (by simpa using h2)
def r8(σ:Nat->Option Ob):List Nat->List (Option Ob)
 | []=>[]
 |n::ns=>σ n::r8 σ ns
theorem oK{σ:Nat->Option Ob}:∀ {ns:List Nat}{l:List Ob},r8 σ ns=l.map some->∀p∈jd ns l,σ p.1=some p.2
 | [],l,_,p,hp=>by simp [jd]at hp
 |n::ns,[],h,p,hp=>by simp [r8]at h
 |n::ns,o::l,h,p,hp=>by
  simp only [r8,List.map_cons,List.cons.injEq]at h;rcases List.mem_cons.1 hp with rfl |hp;·exact h.1
  ·exact oK h.2 p hp
section
variable {P:Program}{N:Nat}{C:Cx P N}{T:List TI}{ops:Array Oper}{nx:Nat}{o:Oper}{os:List Oper}{tm:Nat->V}{σ:Nat->Option Ob}{ks:List (List Nat×List Nat)}{K:(Nat->V)->(Nat->Option Ob)->List (List Nat×List Nat)->Prop}{ty:TypeId}{pos:String}{af:Array Edge}
theorem eW{d:Nat}{fo:Operand}{ar:Array Operand}{ats:Array TypeId}{f:FuncId}{first caps args:List V}{ins ins':List Ob}{v v':V}{outs:List (Option Ob)}{obs:List Ob}{δ:List (Nat×Option Ob)}{kp:List Nat}(ns:List Nat)(hc:AM P f args ins v outs obs)(hf:ev tm fo= .fn (.func f) first caps) (hargs:first++ar.toList.map (ev tm)++caps=V.aS (aJ nx (some d) ns) args) (hin:V.cS ins.length args=true) (hd:decide (d< 1000)=true) (hobs:decide (obs.length<=90)=true) (hns:decide ns.Nodup=true) (hnl:ns.length=ins.length) (hol:outs.length=ins.length) (hσ:r8 σ ns=ins'.map some) (hins:fu (aJ nx (some d) ns) ins.length ins ins') (hv:v.bD (aJ nx (some d) ns)=v') (hδ:gG (aJ nx (some d) ns) ns outs++cj (aJ nx (some d) ns) 0 obs=δ) (hkp:dZ (jd ns ins')=kp) (hk:bF C ops nx os (bL tm d v') (bG σ δ) (ks++[(aV δ,kp++aV δ)]) K):bF C ops nx (⟨some d,.call {callee:= .value fo,args:=ar,argTypes:=ats},ty,pos,af,none⟩::os) tm σ ks K:=by
 subst hv hδ hkp;have hd':d< 1000:=of_decide_eq_true hd;refine eI rfl (nj (d:=some d) hc C.wl ns hf nx hargs hin (by simpa using hd') (of_decide_eq_true hobs) (of_decide_eq_true hns) hnl hol hins.get.1 hins.get.2) (oK hσ) ?_ hk;intro id hid;have hob:obs.length<=90:=of_decide_eq_true hobs;obtain⟨j,hj,rfl⟩:=List.mem_map.1 hid;have hj':j< obs.length:=by simpa using hj
 refine⟨d,rfl,?_,?_,?_⟩ <;> simp only [ay,Option.getD_some] <;> omega
theorem pq:∀(l:List (Nat×Option Ob)) (σ:Nat->Option Ob),(∀p∈l,σ p.1=p.2)->bG σ l=σ
 | [],σ,_=>rfl
 | (k,o)::l,σ,h=>by
  have e:bL σ k o=σ:=by
   funext i;by_cases hi:i=k;·subst hi;rw [ak];exact(h (i,o) (by simp)).symm
   ·rw [ah _ _ hi]
  rw [bG,e];exact pq l σ fun p hp=>h p (by simp [hp])
theorem yD{g:Nat->Nat}{σ:Nat->Option Ob}:∀ {ns:List Nat}{ins ins':List Ob},ins.map (Ob.bD g)=ins'->(∀p∈jd ns ins',σ p.1=some p.2)->∀p∈gG g ns (ins.map some),σ p.1=p.2
 | [],ins,_,_,_,p,hp=>by simp [gG]at hp
 |n::ns,[],_,_,_,p,hp=>by simp [gG]at hp
 |n::ns,o::ins,[],h,_,p,hp=>by simp at h
 |n::ns,o::ins,o'::ins',h,k,p,hp=>by
  simp only [List.map_cons,List.cons.injEq]at h;simp only [List.map_cons,gG,List.mem_cons]at hp;rcases hp with rfl |hp;·have:=k (n,o') (by simp [jd]);simpa [h.1]using this
  ·exact yD h.2 (fun q hq=>k q (by simp [jd,hq])) p hp
theorem fu.of_map{g:Nat->Nat}{n:Nat}:∀ {ins ins':List Ob},ins.map (Ob.bD g)=ins'->(∀o∈ins,o.j4 n)->fu g n ins ins'
 | [],_,rfl,_=> .nil
 | .box t cs::l,_,rfl,h=> .box rfl (show V.cS n cs=true from h (.box t cs) (by simp)) (fu.of_map rfl fun o ho=>h o (by simp [ho]))
 | .row e sz m f::l,_,rfl,h=> .row rfl (fun _ _=>rfl) (show ∀i,i< m->V.cS n (f i)=true from h (.row e sz m f) (by simp)) (fu.of_map rfl fun o ho=>h o (by simp [ho]))
 | .mp s f::l,_,rfl,h=> .mp (fun _=>rfl) (show ∀k u,f.look k=some u->V.j4 n u=true from h (.mp s f) (by simp)) (fu.of_map rfl fun o ho=>h o (by simp [ho]))
def w8(n:Nat):List Ob->Prop
 | []=>True
 | .box _ cs::l=>V.cS n cs=true/\w8 n l
 | .row _ _ m f::l=>(∀i,i< m->V.cS n (f i)=true)/\w8 n l
 | .mp _ f::l=>(∀k u,f.look k=some u->V.j4 n u=true)/\w8 n l
theorem lJ{n:Nat}:∀ {l:List Ob},w8 n l->∀o∈l,o.j4 n
 | .box _ _::l,h,o,ho=>by
  rcases List.mem_cons.1 ho with rfl |ho;·exact h.1
  ·exact lJ h.2 o ho
 | .row _ _ _ _::l,h,o,ho=>by
  rcases List.mem_cons.1 ho with rfl |ho;·exact h.1
  ·exact lJ h.2 o ho
 | .mp _ _::l,h,o,ho=>by
  rcases List.mem_cons.1 ho with rfl |ho;·exact h.1
  ·exact lJ h.2 o ho
theorem bx{d:Nat}{fo:Operand}{ar:Array Operand}{ats:Array TypeId}{f:FuncId}{first caps args:List V}{ins ins':List Ob}{v v':V}{outs:List (Option Ob)}{obs:List Ob}{δ:List (Nat×Option Ob)}{kp:List Nat}(ns:List Nat)(hc:AM P f args ins v outs obs)(hou:outs=ins.map some)(hf:ev tm fo= .fn (.func f) first caps) (hargs:first++ar.toList.map (ev tm)++caps=V.aS (aJ nx (some d) ns) args) (hin:V.cS ins.length args=true) (hd:decide (d< 1000)=true) (hobs:decide (obs.length<=90)=true) (hns:decide ns.Nodup=true) (hnl:ns.length=ins.length) (hσ:r8 σ ns=ins'.map some) (hins:ins.map (Ob.bD (aJ nx (some d) ns))=ins') (hi2:w8 ins.length ins) (hv:v.bD (aJ nx (some d) ns)=v') (hδ:cj (aJ nx (some d) ns) 0 obs=δ) (hkp:dZ (jd ns ins')=kp) (hk:bF C ops nx os (bL tm d v') (bG σ δ) (ks++[(aV δ,kp++aV δ)]) K):bF C ops nx (⟨some d,.call {callee:= .value fo,args:=ar,argTypes:=ats},ty,pos,af,none⟩::os) tm σ ks K:=by
 subst hv hδ hkp hou;have hd':d< 1000:=of_decide_eq_true hd;have hI:=fu.of_map (n:=ins.length) hins (lJ hi2);have st:=nj (W:=C.W) (LB:=C.LB) (ty:=ty) (pos:=pos) (af:=af) (gd:=none) (ats:=ats) (d:=some d) hc C.wl ns hf nx hargs hin (by simpa using hd') (of_decide_eq_true hobs) (of_decide_eq_true hns) hnl (by simp) hI.get.1 hI.get.2;refine eI rfl (pre:=jd ns ins') (nw:=(List.range obs.length).map (ay nx (some d))) (δ:=cj (aJ nx (some d) ns) 0 obs) ?_ (oK hσ) ?_ hk;·intro σ' w L ρ q hG hr hp hn;have:=st σ' w L ρ q hG hr hp hn;rwa [lF,pq _ σ' (yD hins hp)]at this
 ·intro id hid;have hob:obs.length<=90:=of_decide_eq_true hobs;obtain⟨j,hj,rfl⟩:=List.mem_map.1 hid;have hj':j< obs.length:=by simpa using hj
  refine⟨d,rfl,?_,?_,?_⟩ <;> simp only [ay,Option.getD_some] <;> omega
end
section
variable {P:Program}{N:Nat}{C:Cx P N}{T:List TI}{M:List Nat}{ops:Array Oper}{nx:Nat}{o:Oper}{os:List Oper}{tm:Nat->V}{σ:Nat->Option Ob}{ks:List (List Nat×List Nat)}{K:(Nat->V)->(Nat->Option Ob)->List (List Nat×List Nat)->Prop}
end
def j6:Nat->List (Option Ob)->List (Nat×Ob)
 |_,[]=>[]
 |k,none::os=>j6 (k+1) os
 |k,some o::os=>(k,o)::j6 (k+1) os
theorem fW:∀(os:List (Option Ob)) (k:Nat) (l:List (Nat×Ob)) (i:Nat),(i< k\/k+os.length<=i->eL (j6 k os++l) i=eL l i)/\∀(j:Nat) (ob:Ob),os[j]?=some (some ob)->eL (j6 k os++l) (k+j)=some ob
 | [],k,l,i=>⟨fun _=>rfl,fun j ob h=>by simp at h⟩
 |none::os,k,l,i=>by
  refine⟨fun h=>(fW os (k+1) l i).1 (by simp at h;omega),fun j ob h=> ?_⟩;cases j with
  |zero=>simp at h
  |succ j=>have:=(fW os (k+1) l i).2 j ob (by simpa using h);rwa [show k+(j+1)=k+1+j by omega]
 |some o::os,k,l,i=>by
  have e:∀i,i≠k->eL (j6 k (some o::os)++l) i=eL (j6 (k+1) os++l) i:=fun i hi=>by show bL (eL (j6 (k+1) os++l)) k (some o) i=_;rw [ah _ _ hi]
  refine⟨fun h=> ?_,fun j ob h=> ?_⟩;·rw [e i (by simp at h;omega)];exact(fW os (k+1) l i).1 (by simp at h;omega)
  ·cases j with
   |zero=>simp at h;subst h;show bL (eL (j6 (k+1) os++l)) k (some o) k=_;exact ak _ _ _
   |succ j=>rw [e _ oM,show k+(j+1)=k+1+j by omega];exact(fW os (k+1) l i).2 j ob (by simpa using h)
def KV(g:Nat->Nat):List (Option Ob)->List (Option Ob):=List.map fun o=>o.map (Ob.bD g)
theorem cI{T:List TI}{fn:Func}{n:Nat}{v v':V}{outs:List (Option Ob)}{obs:List Ob}{e:Exit}{tm:Nat->V}{σ:Nat->Option Ob}{nx:Nat}(gl:List (Nat×Nat))(tl:List (Nat×V))(he:e= .normal\/e= .ret) (htm:m7 (fun p=>tm p.1=p.2.bD (aO gl nx)) tl) (hσ:m7 (fun p=>∃ob,σ (aO gl nx p.1)=some ob/\fH ob (p.2.bD (aO gl nx))) (j6 0 (obs.map some)++j6 500 outs)) (hinj:decide (((j6 0 (obs.map some)++j6 500 outs).map fun p=>aO gl nx p.1).Nodup)=true) (hid:gl.all (fun p=>decide (p.1< 500))=true) (hob:decide (obs.length<=90)=true) (hres:qt T ⟨gF tl,eL (j6 0 (obs.map some)++j6 500 outs),1⟩ fn.results.toList=some v') (hv:v'=v) (hcv:v'.bD (aW obs.length n 1)=v') (hco:KV (aW obs.length n 1) (obs.map some++outs)=obs.map some++outs):dR T fn n v outs obs e ⟨tm,σ,nx⟩:=by
 subst hv;have hob:=of_decide_eq_true hob;have hren:∀o:Ob,some o∈obs.map some++outs->o.bD (aW obs.length n 1)=o:=by
  intro o ho;obtain⟨i,hi⟩:=List.getElem?_of_mem ho;have h1:(KV (aW obs.length n 1) (obs.map some++outs))[i]?=some (some (o.bD (aW obs.length n 1))):=by unfold KV;rw [List.getElem?_map,hi];rfl
  rw [hco,hi]at h1;injection h1 with h1;injection h1 with h1;exact h1.symm
 refine⟨he,_,aH gl (tl:=tl) (sl:=j6 0 (obs.map some)++j6 500 outs) htm hσ hinj hid,hres,fun i ob hi=> ?_,fun i ob hi=> ?_,hcv,fun ob hm=>hren ob (by simp [hm]),fun ob hm=>hren ob (by simp [hm])⟩;·have:=(fW (obs.map some) 0 (j6 500 outs) 0).2 i ob (by simp [hi]);simpa using this
 ·have hi':=(List.getElem?_eq_some_iff.1 hi).1;show eL (j6 0 (obs.map some)++j6 500 outs) (500+i)=some ob;rw [(fW (obs.map some) 0 (j6 500 outs) (500+i)).1 (by right;simp;omega)];have:=(fW outs 500 [] 0).2 i ob hi;simpa using this
theorem Cn{T:List TI}{fn:Func}{n:Nat}{v v':V}{outs:List (Option Ob)}{obs:List Ob}{e:Exit}{tm:Nat->V}{σ:Nat->Option Ob}{nx:Nat}(gl:List (Nat×Nat))(tl:List (Nat×V))(ex:List (Nat×Ob))(he:e= .normal\/e= .ret) (htm:m7 (fun p=>tm p.1=p.2.bD (aO gl nx)) tl) (hσ:m7 (fun p=>∃ob,σ (aO gl nx p.1)=some ob/\fH ob (p.2.bD (aO gl nx))) (j6 0 (obs.map some)++(j6 500 outs++ex))) (hinj:decide (((j6 0 (obs.map some)++(j6 500 outs++ex)).map fun p=>aO gl nx p.1).Nodup)=true) (hid:gl.all (fun p=>decide (p.1< 500))=true) (hob:decide (obs.length<=90)=true) (hres:qt T ⟨gF tl,eL (j6 0 (obs.map some)++(j6 500 outs++ex)),1⟩ fn.results.toList=some v') (hv:v'=v) (hcv:v'.bD (aW obs.length n 1)=v') (hco:KV (aW obs.length n 1) (obs.map some++outs)=obs.map some++outs):dR T fn n v outs obs e ⟨tm,σ,nx⟩:=by
 subst hv;have hob:=of_decide_eq_true hob;have hren:∀o:Ob,some o∈obs.map some++outs->o.bD (aW obs.length n 1)=o:=by
  intro o ho;obtain⟨i,hi⟩:=List.getElem?_of_mem ho;have h1:(KV (aW obs.length n 1) (obs.map some++outs))[i]?=some (some (o.bD (aW obs.length n 1))):=by unfold KV;rw [List.getElem?_map,hi];rfl
  rw [hco,hi]at h1;injection h1 with h1;injection h1 with h1;exact h1.symm
 refine⟨he,_,aH gl (tl:=tl) (sl:=j6 0 (obs.map some)++(j6 500 outs++ex)) htm hσ hinj hid,hres,fun i ob hi=> ?_,fun i ob hi=> ?_,hcv,fun ob hm=>hren ob (by simp [hm]),fun ob hm=>hren ob (by simp [hm])⟩;·have:=(fW (obs.map some) 0 (j6 500 outs++ex) 0).2 i ob (by simp [hi]);simpa using this
 ·have hi':=(List.getElem?_eq_some_iff.1 hi).1;show eL (j6 0 (obs.map some)++(j6 500 outs++ex)) (500+i)=some ob;rw [(fW (obs.map some) 0 (j6 500 outs++ex) (500+i)).1 (by right;simp;omega)];exact(fW outs 500 ex 0).2 i ob hi
theorem cG{T:List TI}{fn:Func}{n:Nat}{v:V}{outs:List (Option Ob)}{obs:List Ob}{e:Exit}{s s':S}(hle:Le s s')(h:dR T fn n v outs obs e s'):dR T fn n v outs obs e s:=by obtain⟨he,s'',hle',h1⟩:=h;exact⟨he,s'',Le.trans hle hle',h1⟩
theorem sC{T:List TI}{fn:Func}{v:V}{obs:List Ob}{e:Exit}{s:S}(h:dR T fn 0 v [] obs e s):gO T fn v obs e s:=by
 obtain⟨he,s'',hle',hres,hob,_,hcv,hco,_⟩:=h;have e:∀nx,aW obs.length 0 nx=gK obs.length nx:=by
  intro nx;funext i;unfold aW gK;by_cases h:i< obs.length;·rw [if_pos (.inl h),if_pos h]
  ·rw [if_neg oM,if_neg h]
 rw [e]at hcv;exact⟨he,s'',hle',hres,hob,hcv,fun ob hm=>by have:=hco ob hm;rwa [e]at this⟩
theorem AC.res{P:Program}{f:FuncId}{args:List V}{v v':V}(h:AC P f args v [])(hi:v.ck=true)(k:cw v v'):AC P f args v' []:=by refine⟨h.1,fun L w vs hL hgl hv=>(h.2 L w vs hL hgl hv).mono ?_⟩;rintro e w' ⟨x,he,hb,L',ρ',hG,hLL,hr,hn⟩;exact⟨x,he,hb,L',ρ',hG,hLL,(k _ _ _ (hr.free hi ρ0)).Mv,hn⟩
theorem cw.Pw{us' us:List V}(h:A2 us' us):cw (.agg us') (.agg us):=by intro w L x hx;obtain⟨xs,rfl,hl⟩:=hx.eU;have hv:=h.rv hl.rv;exact .lZ ⟨hv.1,fun i u x hu hx=>⟨hv.2 i u x hu hx,hl.one x (List.mem_of_getElem? hx)⟩⟩
section
variable {P:Program}{N:Nat}{C:Cx P N}{ops:Array Oper}{nx:Nat}{o:Oper}{os:List Oper}{tm:Nat->V}{σ:Nat->Option Ob}{ks:List (List Nat×List Nat)}{K:(Nat->V)->(Nat->Option Ob)->List (List Nat×List Nat)->Prop}
theorem kE{t:Nat}(hg:eP (ops.toList.map (·.dst)) tm o=some (some false))(ht:o.dst=some t)(hk:bF C ops nx os (bL tm t (.gd false (.b false))) σ (ks++[([],[])]) K):bF C ops nx (o::os) tm σ ks K:=by
 have hw:=gk hg;have e:eR tm o.dst (.gd false (.b false))=bL tm t (.gd false (.b false)):=by rw [ht];rfl
 refine⟨⟨false,.gd false (.b false),[],[],[]⟩,⟨hw,by simp,fun _=>⟨fun _ _ _=> .gd _ _ _ _ (fun e=>by cases e) fun _=>rfl,rfl,rfl⟩⟩,?_⟩;rw [e];exact hk
end
def Kl{P:Program}{N:Nat}(C:Cx P N)(c:Code)(Q:Exit->S->Prop):Nat->S->Prop
 |0,_=>False
 |m+1,s=>AW C c (dS (Kl C c Q m) Q) s
section
variable {P:Program}{N:Nat}{C:Cx P N}{Q:Exit->S->Prop}{s:S}{c:Code}
theorem f7{m:Nat}(h:∀K:S->Prop,(∀s',Kl C c Q m s'->K s')->AW C c (dS K Q) s):Kl C c Q (m+1) s:=h _ fun _ h=>h
theorem ow(m:Nat)(h:Kl C c Q m s):AW C (.loop c) Q s:=by
 intro a w g;refine wpIn_loop_rounds m ?_;have key:∀m s a w0 w,aZ C.W w0 w->Kl C c Q m s->Gm C s a w->Code.roundsIn C.F 0 P c (fun e a' w'=>∃s',Q e s'/\Gm C s' a' w'/\aZ C.W w0 w') m a w:=by
  intro m;induction m with
  |zero=>intro s a w0 w _ h;exact h.elim
  |succ m ih=>
   intro s a w0 w t0 h g;refine wpIn_mono (h a w g) ?_;rintro e a' w' ⟨s',q,g',t⟩;cases e with
   |normal=>exact ih s' a' w0 w' (t0.trans t) q g'
   |_=>exact⟨s',q,g',t0.trans t⟩
 exact key m s a w w (aZ.refl _ _) h g
end
inductive PQ where
  |tt
  |le (a b:Int)
  |lt (a b:Int)
  |nle (a b:Nat)
  |nlt (a b:Nat)
  |ne (a b:Int)
  |re (v:V)
  |and (p q:PQ)
def PQ.den:PQ->Prop
 | .tt=>True
 | .le a b=>a<=b
 | .lt a b=>a< b
 | .nle a b=>a<=b
 | .nlt a b=>a< b
 | .ne a b=>a≠b
 | .re v=>v=v
 | .and p q=>p.den/\q.den
def PQ.dec:PQ->Bool
 | .tt=>true
 | .le a b=>decide (a<=b)
 | .lt a b=>decide (a< b)
 | .nle a b=>Nat.ble a b
 | .nlt a b=>Nat.blt a b
 | .ne a b=> !decide (a=b)
 | .re _=>true
 | .and p q=>match p.dec with
  |true=>q.dec
  |false=>false
theorem PQ.ok:∀ {p:PQ},p.dec=true->p.den
 | .tt,_=>trivial
 | .le a b,h=>of_decide_eq_true (p:=a<=b) h
 | .lt a b,h=>of_decide_eq_true (p:=a< b) h
 | .nle a b,h=>Nat.le_of_ble_eq_true h
 | .nlt a b,h=>Nat.le_of_ble_eq_true (n:=a+1) h
 | .ne a b,h=>by simp only [PQ.dec,Bool.not_eq_true',decide_eq_false_iff_not]at h;exact h
 | .re _,_=>rfl
 | .and p q,h=>by
  simp only [PQ.dec]at h;split at h;·rename_i hp;exact⟨PQ.ok hp,PQ.ok h⟩
  ·cases h
def vV(k:IntKind)(n:Int):PQ:=match k with
 | .i8=> .and (.le (-128) n) (.le n 127)
 | .i16=> .and (.le (-32768) n) (.le n 32767)
 | .i32=> .and (.le (-2147483648) n) (.le n 2147483647)
 | .i64=> .and (.le (-9223372036854775808) n) (.le n 9223372036854775807)
 | .u8=> .and (.le 0 n) (.le n 255)
 | .u16=> .and (.le 0 n) (.le n 65535)
 | .u32=> .and (.le 0 n) (.le n 4294967295)
 | .u64=> .and (.le 0 n) (.le n 18446744073709551615)
def Jn(i:Int)(n:Nat):PQ:= .and (.le 0 i) (.lt i n)
def Nr(e:Operand->V)(lo hi:Option Operand)(n:Nat)(z:Bool):PQ:=match mY e lo,kn e n hi with
 |some l,some h=> .and (.le 0 l) (.and (.le l h) (match z with |true=> .and (.le h n) (.nlt 0 n) |false=> .le h n))
 |_,_=> .tt
def BN(T:List TI)(wr:Bool)(o:Oper)(e:Operand->V)(σ:Nat->Option Ob):PQ:=
 match o.op with
  | .binOp op _ x y _=>match e x,e y with
   | .c (.int k a),.c (.int _ b)=>match op with
    | .add=>match wr with |true=> .tt |false=>vV k (a+b)
    | .sub=>match wr with |true=> .tt |false=>vV k (a- b)
    | .mul=>match wr with |true=> .tt |false=>vV k (a*b)
    | .quo=>match wr with |true=> .ne b 0 |false=> .and (.lt 0 b) (vV k a)
    | .rem=> .ne b 0
    | .shl=>match wr with |true=> .le 0 b |false=> .and (.le 0 b) (.and (.le b k.bits) (vV k (a*2 ^ b.toNat)))
    | .shr=> .le 0 b
    |_=> .tt
   | .sl _ n _,.nil=> .nlt 0 n
   | .nil,.sl _ n _=> .nlt 0 n
   |_,_=> .tt
  | .unOp .neg _ x=>match e x with
   | .c (.int k a)=>match wr with |true=> .tt |false=>vV k (-a)
   |_=> .tt
  | .convert _ t x=>match e x with
   | .c (.int _ a)=>match (T.getD t bE).kind with
    |some k=>match wr with |true=> .tt |false=>vV k a
    |none=> .tt
   |_=> .tt
  | .indexAddr t x ix=>match e ix with
   | .c (.int _ i)=>match e x with
    | .sl _ n _=>Jn i n
    | .own id=>match σ id with
     |some (.row _ _ n _)=>Jn i n
     |_=> .tt
    |_=>match (T.getD t bE).arr with
     |some (n,_)=>Jn i n
     |none=> .tt
   |_=> .tt
  | .index t x ix=>match e ix with
   | .c (.int _ i)=>match e x with
    | .c (.string b)=>Jn i b.size
    |_=>match (T.getD t bE).arr with
     |some (n,_)=>Jn i n
     |none=> .tt
   |_=> .tt
  | .load _ x=>match e x with
   | .ref id o=>match σ id with
    |some (.box _ cs)=> .nle o cs.length
    |_=> .tt
   | .oel id _ i o=>match σ id with
    |some (.row _ _ n row)=> .and (.nlt i n) (.nle o (row i).length)
    |_=> .tt
   |_=> .tt
  | .store _ x y=>match bY (e y)with
   |some us=>match e x with
    | .ref id o=>match σ id with
     |some (.box _ cs)=> .nle (o+us.length) cs.length
     |_=> .tt
    | .oel id _ i o=>match σ id with
     |some (.row _ _ n row)=> .and (.nlt i n) (.nle (o+us.length) (row i).length)
     |_=> .tt
    |_=> .tt
   |none=> .tt
  | .slice _ x lo hi none=>match e x with
   | .sl _ n _=>Nr e lo hi n false
   | .own id=>match σ id with
    |some (.row _ _ n _)=>Nr e lo hi n true
    |_=> .tt
   | .c (.string b)=>Nr e lo hi b.size false
   |_=> .tt
  | .makeSlice _ x y=>match e x,e y with
   | .c (.int _ l),.c (.int _ c)=> .and (.le 0 l) (.and (.le l c) (.le c 1099511627776))
   |_,_=> .tt
  | .call c=>match c.callee with
   | .builtin .append=>match c.args with
    | ⟨[s,x]⟩=>match e x with
     | .sl _ m _=>match e s with
      | .nil=> .nle m 1099511627776
      | .own id=>match σ id with
       |some (.row _ _ n _)=> .nle (n+m) 1099511627776
       |_=> .tt
      |_=> .tt
     |_=> .tt
    |_=> .tt
   |_=> .tt
  |_=> .tt
structure ZR where
  g:Option Bool
  c:Prop
  ps:List (Bool×Bool)
  v:V
  pre:List (Nat×Ob)
  δ:List (Nat×Option Ob)
def Qs(g:Option Bool)(v:V):V:=match g with
 |none=>v
 |some g=> .gd g v
def xV(g:Option Bool)(c:Prop):Prop:=match g with
 |none=>c
 |some g=>g=true->c
def F8(g:Bool):V->List (Bool×Bool)
 | .gd g' _=>[(g',g)]
 |_=>[]
def xW(g:Bool):List V->List (Bool×Bool)
 | []=>[]
 | .gd g' _::l=>(g',g)::xW g l
 |_::l=>xW g l
def Br(l:List (Bool×Bool)):Prop:=∀p∈l,p.1=p.2
theorem Br.l{a b:List (Bool×Bool)}(h:Br (a++b)):Br a:=fun p hp=>h p (List.mem_append_left _ hp)
theorem Br.r{a b:List (Bool×Bool)}(h:Br (a++b)):Br b:=fun p hp=>h p (List.mem_append_right _ hp)
theorem F9{g g':Bool}{v:V}(h:Br (F8 g (.gd g' v))):g'=g:=h (g',g) (List.mem_cons_self ..)
theorem LY{g:Bool}{v:V}(h:Br (F8 g v)):sZ g v:=by cases v <;> first |trivial | (intro hg;exact(F9 h).trans hg)
theorem nD{t b:Bool}{v:V}(h:Br (F8 (t == b) v)):fD t b v:=by cases v <;> first |trivial | (intro hg;exact(F9 h).trans (by rw [hg];simp))
theorem uy{g t b:Bool}{v:V}(h:Br (F8 (g && (t == b)) v))(hg:g=true):fD t b v:=by cases v <;> first |trivial | (intro ht;exact(F9 h).trans (by rw [hg,ht];simp))
theorem qD{g:Bool}:∀ {l:List V},Br (xW g l)->Nt g l
 | [],_=>trivial
 |v::l,h=>by
  cases v;case gd g' u=>
   have h1:=h (g',g) (by simp [xW])
   exact⟨fun hg=>by simp only at h1;rw [h1];exact hg,qD fun p hp=>h p (by simp [xW,hp])⟩
  all_goals exact⟨trivial,qD fun p hp=>h p (by simpa [xW]using hp)⟩
def mw(T:List TI)(wr:Bool)(M:List Nat)(nx:Nat)(ds:List (Option Tmp))(tm:Nat->V)(σ:Nat->Option Ob)(o:Oper):Option ZR:=
 match o.guard with
  |none=>match o.op with
   | .pick x a b=>match ev tm x with
    | .c (.bool t)=>match mW t (ug (ev tm a)) (ug (ev tm b))with
     |some v=>if iN o then some ⟨none,True,F8 (t == true) (ev tm a)++F8 (t == false) (ev tm b),v,[],[]⟩else none
     |none=>none
    |_=>none
   |_=>if jZ o && sn (opsV tm o)then(match kI T wr M nx o (fun x=>ug (ev tm x)) σ with
    |some r=>some ⟨none,r.c,[],r.v,r.pre,r.δ⟩
    |none=>none)else none
  |some _=>match eP ds tm o with
   |some (some g)=>match o.op with
    | .pick x a b=>match ug (ev tm x)with
     | .c (.bool t)=>match mW t (ug (ev tm a)) (ug (ev tm b))with
      |some v=>if iN o then some ⟨some g,True,F8 g (ev tm x)++(F8 (g && (t == true)) (ev tm a)++F8 (g && (t == false)) (ev tm b)),v,[],[]⟩else none
      |none=>none
     |_=>none
    |_=>if jZ o && iN o then(match kI T wr M nx o (fun x=>ug (ev tm x)) σ with
     |some ⟨c,v,pre,[],[]⟩=>some ⟨some g,c,xW g (opsV tm o),v,pre,[]⟩
     |_=>none)else none
   |_=>none
theorem JZ{T:List TI}{wr:Bool}{M:List Nat}{nx:Nat}{ds:List (Option Tmp)}{tm:Nat->V}{σ:Nat->Option Ob}{o:Oper}{z:ZR}(h:mw T wr M nx ds tm σ o=some z) : ∃q,nF T wr M nx ds tm σ o=some q/\q.v=Qs z.g z.v/\q.pre=z.pre/\q.δ=z.δ/\(Br z.ps->xV z.g z.c->q.c):=by
 unfold mw at h;unfold nF;split at h
 ·rename_i hg;split at h
  ·rename_i x a b hop;simp only [hg,hop];split at h
   ·rename_i t hx;simp only [hx];split at h
    ·rename_i v hv;simp only [hv];split at h;·rename_i hd;injection h with h;subst h;rw [if_pos hd];exact⟨_,rfl,rfl,rfl,rfl,fun hp _=>⟨nD hp.l,nD hp.r⟩⟩
     ·cases h
    ·cases h
   ·cases h
  ·rename_i hop;split at h
   ·rename_i hd;split at h;·rename_i r hr;injection h with h;subst h;refine⟨r,?_,rfl,rfl,rfl,fun _ hc=>hc⟩;simp only [hg];rw [if_pos hd];exact hr
    ·cases h
   ·cases h
 ·rename_i gd' hg;split at h
  ·rename_i g hgv;split at h
   ·rename_i x a b hop;simp only [hg,hop,hgv];split at h
    ·rename_i t hx;simp only [hx];split at h
     ·rename_i v hv;simp only [hv];split at h;·rename_i hd;injection h with h;subst h;rw [if_pos hd];exact⟨_,rfl,rfl,rfl,rfl,fun hp _=>⟨LY hp.l,fun hg=>uy hp.r.l hg,fun hg=>uy hp.r.r hg⟩⟩
      ·cases h
     ·cases h
    ·cases h
   ·rename_i hop;split at h
    ·rename_i hd;split at h;·rename_i c v pre hr;injection h with h;subst h;refine⟨⟨Nt g (opsV tm o)/\(g=true->c),.gd g v,pre,[],[]⟩,?_,rfl,rfl,rfl,fun hp hc=>⟨qD hp,hc⟩⟩;simp only [hg,hgv];rw [if_pos hd,hr]
     ·cases h
    ·cases h
  ·cases h
inductive It(P:Program) where
  |c (p:Prop) (h:p)
  |g (g:Bool) (p:Prop) (h:g=true->p)
  |d
  |w
  |wc (p:Prop) (h:p)
  |q (p:Prop) (h:p)
  |f
  |cl (f:FuncId) (args:List V) (v:V) (h:AC P f args v [])
  |clg (g:Bool) (f:FuncId) (args:List V) (v:V) (h:g=true->AC P f args v [])
  |clo (f:FuncId) (args:List V) (v:V) (obs:List Ob) (h:AC P f args v obs)
inductive CE where
  |p (p:Prop)
  |b (b:Bool)
  |a (f:FuncId) (args:List V)
  |vs (l:List V)
  |n (f:Nat->List CE)
  |ys (f:Nat->Option (List (List V)))
inductive Fr where
  |c (y:Code)
  |b (id:Nat)
  |l (y:Code) (m:Nat)
  |s
inductive Bq where
  |code (c:Code) (k:List Fr) (s:S)
  |ops (ol:List Oper) (dr:Bool) (rest:List Oper) (tm:Nat->V) (σ:Nat->Option Ob) (nx:Nat) (ks:List (List Nat×List Nat)) (k:List Fr)
  |done (e:Exit) (k:List Fr) (s:S)
structure Pm where
  T:List TI
  N:Nat
  M:List Nat
  u:Nat
  lit:Bool
structure Nx(P:Program) where
  n:Nat
  l:List (Nat×It P)
  g:Bq
  e:List (CE×CE)
def Hi:List (Bool×Bool)->List (CE×CE)
 | []=>[]
 | (a,b)::l=>(.b a,.b b)::Hi l
def iH(l:List (CE×CE)):Prop:=∀p∈l,p.1=p.2
theorem iH.l{a b:List (CE×CE)}(h:iH (a++b)):iH a:=fun p hp=>h p (List.mem_append_left _ hp)
theorem iH.r{a b:List (CE×CE)}(h:iH (a++b)):iH b:=fun p hp=>h p (List.mem_append_right _ hp)
theorem iH.hd{x y:CE}{l:List (CE×CE)}(h:iH ((x,y)::l)):x=y:=h (x,y) (List.mem_cons_self ..)
theorem iH.tl{x:CE×CE}{l:List (CE×CE)}(h:iH (x::l)):iH l:=fun p hp=>h p (List.mem_cons_of_mem _ hp)
theorem iH.ps:∀ {l:List (Bool×Bool)},iH (Hi l)->Br l
 | [],_=>fun p hp=>by cases hp
 | (a,b)::l,h=>fun p hp=>by
  rcases List.mem_cons.1 hp with rfl |hp;·have:=h.hd;injection this
  ·exact iH.ps h.tl p hp
def rz(e:Operand->V)(o:Oper):Option (FuncId×List V):=match o.op with
 | .call c=>match c.callee with
  | .value fo=>match e fo with
   | .fn (.func f) first caps=>some (f,first++c.args.toList.map e++caps)
   |_=>none
  |_=>none
 |_=>none
section
variable {P:Program}(pm:Pm) (n:Nat) (l:List (Nat×It P)) (ol:List Oper) (dr:Bool) (o:Oper) (os:List Oper) (tm:Nat->V) (σ:Nat->Option Ob) (nx:Nat) (ks:List (List Nat×List Nat)) (k:List Fr)
def Qw(v:V)(pre:List (Nat×Ob))(δ:List (Nat×Option Ob)):Bq:= .ops ol dr os (eR tm o.dst v) (bG σ δ) nx (ks++[(aV δ,dZ pre++aV δ)]) k
def KU(z:ZR):Bq:=Qw ol dr o os tm σ nx ks k (Qs z.g z.v) z.pre z.δ
def Cc:Option (Nx P):=match mw pm.T false pm.M nx (ol.map (·.dst)) tm σ o with
 |some z=>match (BN pm.T false o (fun x=>ug (ev tm x)) σ).dec with
  |true=>some ⟨n,l,KU ol dr o os tm σ nx ks k z,(.p z.c,.p (BN pm.T false o (fun x=>ug (ev tm x)) σ).den)::Hi z.ps⟩
  |false=>none
 |none=>none
def qJ:Option (Nx P):=match pm.lit with
 |false=>match mw pm.T false pm.M nx (ol.map (·.dst)) tm σ o with
  |some z=>some ⟨n,l,KU ol dr o os tm σ nx ks k z,(.p z.c,.p True)::Hi z.ps⟩
  |none=>none
 |true=>match eP (ol.map (·.dst)) tm o with
  |some (some g)=>match g with
   |false=>match o.dst with
    |some t=>some ⟨n,l,.ops ol dr os (bL tm t (.gd false (.b false))) σ nx (ks++[([],[])]) k,[]⟩
    |none=>none
   |true=>Cc pm n l ol dr o os tm σ nx ks k
  |_=>Cc pm n l ol dr o os tm σ nx ks k
def AE(it:It P):Option (Nx P):=match it with
 | .c p _=>match mw pm.T false pm.M nx (ol.map (·.dst)) tm σ o with
  |some z=>some ⟨n,l,KU ol dr o os tm σ nx ks k z,(.p z.c,.p p)::Hi z.ps⟩
  |none=>none
 | .g g p _=>match mw pm.T false pm.M nx (ol.map (·.dst)) tm σ o with
  |some z=>match z.g with
   |some g0=>some ⟨n,l,KU ol dr o os tm σ nx ks k z,(.b g0,.b g)::(.p z.c,.p p)::Hi z.ps⟩
   |none=>none
  |none=>none
 | .d=>match mw pm.T false pm.M nx (ol.map (·.dst)) tm σ o with
  |some z=>some ⟨n,l,KU ol dr o os tm σ nx ks k z,(.b (BN pm.T false o (fun x=>ug (ev tm x)) σ).dec,.b true)::(.p z.c,.p (BN pm.T false o (fun x=>ug (ev tm x)) σ).den)::Hi z.ps⟩
  |none=>none
 | .w=>match mw pm.T true pm.M nx (ol.map (·.dst)) tm σ o with
  |some z=>some ⟨n,l,KU ol dr o os tm σ nx ks k z,(.p z.c,.p True)::Hi z.ps⟩
  |none=>none
 | .wc p _=>match mw pm.T true pm.M nx (ol.map (·.dst)) tm σ o with
  |some z=>some ⟨n,l,KU ol dr o os tm σ nx ks k z,(.p z.c,.p p)::Hi z.ps⟩
  |none=>none
 | .q p _=>match nF pm.T false pm.M nx (ol.map (·.dst)) tm σ o with
  |some z=>some ⟨n,l,Qw ol dr o os tm σ nx ks k z.v z.pre z.δ,[(.p z.c,.p p)]⟩
  |none=>none
 | .f=>match eP (ol.map (·.dst)) tm o with
  |some (some g)=>match o.dst with
   |some t=>some ⟨n,l,.ops ol dr os (bL tm t (.gd false (.b false))) σ nx (ks++[([],[])]) k,[(.b g,.b false)]⟩
   |none=>none
  |_=>none
 | .cl f args v _=>match o.guard with
  |none=>match o.dst with
   |some t=>match rz (ev tm) o with
    |some (f',as')=>match decide (t< 1000) && (V.bA args && v.ck)with
     |true=>some ⟨n,l,.ops ol dr os (bL tm t v) σ nx (ks++[([],[])]) k,[(.a f' as',.a f args)]⟩
     |false=>none
    |none=>none
   |none=>none
  |some _=>none
 | .clg g f args v _=>match eP (ol.map (·.dst)) tm o with
  |some (some g0)=>match o.dst with
   |some t=>match rz (fun x=>ug (ev tm x)) o with
    |some (f',as')=>match decide (t< 1000) && (V.bA args && v.ck)with
     |true=>some ⟨n,l,.ops ol dr os (bL tm t (.gd g0 v)) σ nx (ks++[([],[])]) k,(.b g0,.b g)::(.a f' as',.a f args)::Hi (xW g0 (opsV tm o))⟩
     |false=>none
    |none=>none
   |none=>none
  |_=>none
 | .clo f args v obs _=>match o.guard with
  |none=>match o.dst with
   |some t=>match rz (ev tm) o with
    |some (f',as')=>match decide (t< 1000) && (V.bA args && Nat.ble obs.length 90)with
     |true=>some ⟨n,l,.ops ol dr os (bL tm t (v.bD (ay nx (some t)))) (bG σ (cj (ay nx (some t)) 0 obs)) nx (ks++[(aV (cj (ay nx (some t)) 0 obs),aV (cj (ay nx (some t)) 0 obs))]) k,[(.a f' as',.a f args)]⟩
     |false=>none
    |none=>none
   |none=>none
  |some _=>none
def wg:Option (Nx P):=match l with
 | []=>qJ pm n [] ol dr o os tm σ nx ks k
 | (j,it)::l'=>match j with
  |0=>AE pm n l' ol dr o os tm σ nx ks k it
  |j+1=>qJ pm n ((j,it)::l') ol dr o os tm σ nx ks k
end
section
variable {P:Program}{N:Nat}(C:Cx P N) (Q:Exit->S->Prop)
end
abbrev KT:Type:=List Oper->Bool->Nat->List Fr->(Nat->V)->(Nat->Option Ob)->List (List Nat×List Nat)->Prop
def HG{P:Program}{N:Nat}(C:Cx P N)(KK:KT)(R:Bq->Prop):Bq->Prop
 | .ops ol dr rest tm σ nx ks k=>bF C ol.toArray nx rest tm σ ks (KK ol dr nx k)
 | .code c k s=>R (.code c k s)
 | .done e k s=>R (.done e k s)
section
variable {P:Program}{N:Nat}{C:Cx P N}{Q:Exit->S->Prop}{KK:KT}{R:Bq->Prop}{pm:Pm}{n:Nat}{l:List (Nat×It P)}
section
variable {ol:List Oper}{dr:Bool}{o:Oper}{os:List Oper}{tm:Nat->V}{σ:Nat->Option Ob}{nx:Nat}{ks:List (List Nat×List Nat)}{k:List Fr}{r:Nx P}
theorem bF.mono{ops:Array Oper}{K K':(Nat->V)->(Nat->Option Ob)->List (List Nat×List Nat)->Prop}:∀ {os:List Oper}{tm:Nat->V}{σ:Nat->Option Ob}{ks:List (List Nat×List Nat)},bF C ops nx os tm σ ks K->(∀a b c,K a b c->K' a b c)->bF C ops nx os tm σ ks K'
 | [],_,_,_,h,hk=>hk _ _ _ h
 |_::_,_,_,_,⟨e,h1,h2⟩,hk=>⟨e,h1,bF.mono h2 hk⟩
theorem Am(hT:aK pm.T P){wr:Bool}{z:ZR}(hz:mw pm.T wr pm.M nx (ol.map (·.dst)) tm σ o=some z)(hp:Br z.ps)(hc:xV z.g z.c)(h:HG C KK R (KU ol dr o os tm σ nx ks k z)):HG C KK R (.ops ol dr (o::os) tm σ nx ks k):=by obtain⟨q,hq,e1,e2,e3,hqc⟩:=JZ hz;have h1:=hqc hp hc;unfold HG;refine vg hT (wr:=wr) (M:=pm.M) (r:=q) (by simpa using hq) h1 ?_;rw [e1,e2,e3];exact h
theorem NX{t:Nat}(hg:eP (ol.map (·.dst)) tm o=some (some false))(ht:o.dst=some t)(h:HG C KK R (.ops ol dr os (bL tm t (.gd false (.b false))) σ nx (ks++[([],[])]) k)):HG C KK R (.ops ol dr (o::os) tm σ nx ks k):=by unfold HG;exact kE (by simpa using hg) ht h
theorem Gg(hT:aK pm.T P)(h:Cc pm n l ol dr o os tm σ nx ks k=some r)(he:iH r.e)(hk:HG C KK R r.g):HG C KK R (.ops ol dr (o::os) tm σ nx ks k):=by
 unfold Cc at h;split at h
 ·rename_i z hz;split at h
  ·rename_i hd;injection h with h;subst h;refine Am hT hz he.tl.ps ?_ hk;have h1:=he.hd;injection h1 with h1;have h2:=PQ.ok hd;rw [<-h1]at h2;unfold xV;split;·exact h2
   ·exact fun _=>h2
  ·cases h
 ·cases h
theorem kS{g:Option Bool}{c p:Prop}(h:CE.p c=CE.p p)(hp:p):xV g c:=by
 injection h with h;rw [<-h]at hp;unfold xV;split;·exact hp
 ·exact fun _=>hp
theorem x4(hT:aK pm.T P)(h:qJ pm n l ol dr o os tm σ nx ks k=some r)(he:iH r.e)(hk:HG C KK R r.g):HG C KK R (.ops ol dr (o::os) tm σ nx ks k):=by
 unfold qJ at h;split at h
 ·split at h;·rename_i z hz;injection h with h;subst h;exact Am hT hz he.tl.ps (kS he.hd trivial) hk
  ·cases h
 ·split at h
  ·rename_i g hg;split at h
   ·split at h;·rename_i t ht;injection h with h;subst h;exact NX hg ht hk
    ·cases h
   ·exact Gg hT h he hk
  ·exact Gg hT h he hk
theorem jF{e:Operand->V}{f:FuncId}{as0:List V}(h:rz e o=some (f,as0)):∃d fo ar ats ty pos af gd first caps,o=⟨d,.call {callee:= .value fo,args:=ar,argTypes:=ats},ty,pos,af,gd⟩/\e fo= .fn (.func f) first caps/\first++ar.toList.map e++caps=as0:=by
 obtain⟨d,op,ty,pos,af,gd⟩:=o;unfold rz at h;simp only at h;split at h
 ·rename_i c;obtain⟨callee,args,ats⟩:=c;simp only at h;split at h
  ·rename_i fo;split at h
   ·rename_i f' first caps hf
    injection h with h;injection h with h1 h2;subst h1;exact⟨d,fo,args,ats,ty,pos,af,gd,first,caps,rfl,hf,h2⟩
   ·cases h
  ·cases h
 ·cases h
theorem Jh(hT:aK pm.T P){it:It P}(h:AE pm n l ol dr o os tm σ nx ks k it=some r)(he:iH r.e)(hk:HG C KK R r.g):HG C KK R (.ops ol dr (o::os) tm σ nx ks k):=by
 unfold AE at h;split at h
 ·rename_i p hp;split at h;·rename_i z hz;injection h with h;subst h;exact Am hT hz he.tl.ps (kS he.hd hp) hk
  ·cases h
 ·rename_i g p hp;split at h
  ·rename_i z hz;split at h;·rename_i g0 hg0;injection h with h;subst h;refine Am hT hz he.tl.tl.ps ?_ hk;have h1:=he.hd;have h2:=he.tl.hd;injection h1 with h1;injection h2 with h2;rw [hg0,h1,h2];exact hp
   ·cases h
  ·cases h
 ·split at h;·rename_i z hz;injection h with h;subst h;have h1:=he.hd;injection h1 with h1;exact Am hT hz he.tl.tl.ps (kS he.tl.hd (PQ.ok h1)) hk
  ·cases h
 ·split at h;·rename_i z hz;injection h with h;subst h;exact Am hT hz he.tl.ps (kS he.hd trivial) hk
  ·cases h
 ·rename_i p hp;split at h;·rename_i z hz;injection h with h;subst h;exact Am hT hz he.tl.ps (kS he.hd hp) hk
  ·cases h
 ·rename_i p hp;split at h;·rename_i z hz;injection h with h;subst h;have h1:=he.hd;injection h1 with h1;unfold HG;exact vg hT (wr:=false) (M:=pm.M) (r:=z) (by simpa using hz) (by rw [h1];exact hp) hk
  ·cases h
 ·split at h
  ·rename_i g hg;split at h;·rename_i t ht;injection h with h;subst h;have h1:=he.hd;injection h1 with h1;subst h1;exact NX hg ht hk
   ·cases h
  ·cases h
 ·rename_i f args v hc;split at h
  ·rename_i hg;split at h
   ·rename_i t ht;split at h
    ·rename_i f' as' hq;split at h;·rename_i hb;injection h with h;subst h;obtain⟨d,fo,ar,ats,ty,pos,af,gd,first,caps,rfl,hf,ha⟩:=jF hq;simp only at ht hg;subst ht hg;have h1:=he.hd;injection h1 with h1 h2;subst h1 h2;simp only [Bool.and_eq_true]at hb;unfold HG;exact oC hc hf ha hb.2.1 hb.2.2 hb.1 hk
     ·cases h
    ·cases h
   ·cases h
  ·cases h
 ·rename_i g f args v hc;split at h
  ·rename_i g0 hg;split at h
   ·rename_i t ht;split at h
    ·rename_i f' as' hq;split at h;·rename_i hb;injection h with h;subst h;have hps:=he.tl.tl.ps;obtain⟨d,fo,ar,ats,ty,pos,af,gd,first,caps,rfl,hf,ha⟩:=jF hq;simp only at ht;subst ht;have h0:=he.hd;have h1:=he.tl.hd;injection h0 with h0;injection h1 with h1 h2;subst h0 h1 h2;simp only [Bool.and_eq_true,decide_eq_true_eq]at hb;unfold HG;refine mK (pre:=[]) (by simpa using hg) (fun x hx=>n8 (qD hps) _ (ld hx)) (fun hg'=> ?_) hk;have:=vi (W:=C.W) (LB:=C.LB) (d:=some t) (ty:=ty) (pos:=pos) (af:=af) (gd:=gd) (ats:=ats) (ev:=fun x=>ug (ev tm x)) (hc hg') hf ha hb.2.1 nx (by simpa using hb.1) (by simp);rw [V.eV _ _ hb.2.2]at this;exact⟨this,by simp⟩
     ·cases h
    ·cases h
   ·cases h
  ·cases h
 ·rename_i f args v obs hc;split at h
  ·rename_i hg;split at h
   ·rename_i t ht;split at h
    ·rename_i f' as' hq;split at h;·rename_i hb;injection h with h;subst h;obtain⟨d,fo,ar,ats,ty,pos,af,gd,first,caps,rfl,hf,ha⟩:=jF hq;simp only at ht hg;subst ht hg;have h1:=he.hd;injection h1 with h1 h2;subst h1 h2;simp only [Bool.and_eq_true,decide_eq_true_eq]at hb;unfold HG;exact ot hc hf ha hb.2.1 (by simpa using hb.1) rfl (Nat.le_of_ble_eq_true hb.2.2) hk
     ·cases h
    ·cases h
   ·cases h
  ·cases h
theorem Ji(hT:aK pm.T P)(h:wg pm n l ol dr o os tm σ nx ks k=some r)(he:iH r.e)(hk:HG C KK R r.g):HG C KK R (.ops ol dr (o::os) tm σ nx ks k):=by
 unfold wg at h;split at h;·exact x4 hT h he hk
 ·split at h;·exact Jh hT h he hk
  ·exact x4 hT h he hk
end
theorem vL:∀ {l:List (CE×CE)},l.map Prod.fst=l.map Prod.snd->iH l
 | [],_=>fun p hp=>by cases hp
 |x::l,h=>by
  simp only [List.map_cons,List.cons.injEq]at h;intro p hp;rcases List.mem_cons.1 hp with rfl |hp;·exact h.1
  ·exact vL h.2 p hp
def yy(pm:Pm):Nat->List (Nat×It P)->Bq->Bq
 |0,_,g=>g
 |n+1,l,g=>match g with
  | .ops ol dr (o::os) tm σ nx ks k=>match wg pm n l ol dr o os tm σ nx ks k with
   |some r=>yy pm n r.l r.g
   |none=> .ops ol dr (o::os) tm σ nx ks k
  |g=>g
def G4(pm:Pm):Nat->List (Nat×It P)->Bq->List (CE×CE)
 |0,_,_=>[]
 |n+1,l,g=>match g with
  | .ops ol dr (o::os) tm σ nx ks k=>match wg pm n l ol dr o os tm σ nx ks k with
   |some r=>r.e++G4 pm n r.l r.g
   |none=>[]
  |_=>[]
theorem yz(hT:aK pm.T P):∀ {n:Nat}{l:List (Nat×It P)}{g:Bq},iH (G4 pm n l g)->HG C KK R (yy pm n l g)->HG C KK R g
 |0,_,_,_,h=>h
 |n+1,l,g,he,h=>by
  unfold G4 at he;unfold yy at h;split at h
  ·split at h;·rename_i r hr;simp only [hr]at he;exact Ji hT hr he.l (yz hT he.r h)
   ·exact h
  ·exact h
end
def K3:Bq->S
 | .code _ _ s=>s
 | .ops _ _ _ tm σ nx _ _=>⟨tm,σ,nx⟩
 | .done _ _ s=>s
def QI:Bq->List (List Nat×List Nat)
 | .ops _ _ _ _ _ _ ks _=>ks
 |_=>[]
def Of:Bq->Option (List Oper×Nat×List Oper)
 | .ops ol _ rest _ _ nx _ _=>some (ol,nx,rest)
 |_=>none
def tl:Nat->Code->Code
 |0,c=>c
 |j+1,.seq _ y=>tl j y
 |_+1,c=>c
section
variable {P:Program}{N:Nat}{C:Cx P N}{T:List TI}{Q:Exit->S->Prop}{c:Code}{tm:Nat->V}{σ:Nat->Option Ob}{nx:Nat}
theorem aY(hT:aK T P)(n:Nat)(l:List (Nat×It P)){ol os:List Oper}{ks:List (List Nat×List Nat)}{K:(Nat->V)->(Nat->Option Ob)->List (List Nat×List Nat)->Prop} (hk:bF C ol.toArray nx (os.drop n) (K3 (yy ⟨T,N,[],0,false⟩ n l (.ops ol false os tm σ nx ks []))).tm (K3 (yy ⟨T,N,[],0,false⟩ n l (.ops ol false os tm σ nx ks []))).σ (QI (yy ⟨T,N,[],0,false⟩ n l (.ops ol false os tm σ nx ks []))) K) (he:(G4 ⟨T,N,[],0,false⟩ n l (.ops ol false os tm σ nx ks [])).map Prod.fst=(G4 ⟨T,N,[],0,false⟩ n l (.ops ol false os tm σ nx ks [])).map Prod.snd:=by kernel_rfl) (hc:Of (yy ⟨T,N,[],0,false⟩ n l (.ops ol false os tm σ nx ks []))=some (ol,nx,os.drop n):=by kernel_rfl):bF C ol.toArray nx os tm σ ks K:=by
 refine yz (C:=C) (KK:=fun _ _ _ _=>K) (R:=fun _=>False) (g:= .ops ol false os tm σ nx ks []) hT (vL he) ?_;revert hc hk;generalize yy _ _ _ _=g;intro hk hc;unfold Of at hc;split at hc;·injection hc with hc;injection hc with h1 h2;injection h2 with h2 h3;subst h1 h2 h3;exact hk
 ·cases hc
end
abbrev iR(x:Int):Prop:= -9223372036854775808<=x/\x<=9223372036854775807
theorem oS{σ:Nat->Option Ob}{k:Nat}{o:Ob}{f:Nat->Nat}(h:σ k=some (o.bD f):=by kernel_rfl):∃ob,σ k=some ob/\fH ob (o.bD f):=by
 refine⟨_,h,?_⟩;cases o with
 |box t cs=>exact⟨rfl,rfl⟩
 |row e sz n row=>exact⟨rfl,rfl,rfl,fun _ _=>rfl⟩
 |mp s f=>exact⟨rfl,fun _=>rfl⟩
inductive Bu(n:Nat):List Ob->Prop
  |nil:Bu n []
  |b {t:TypeId}{cs:List V}{l:List Ob}(k:Bu n l) (h:V.cS n cs=true):Bu n (.box t cs::l)
  |r {e sz m:Nat}{f:Nat->List V}{l:List Ob}(k:Bu n l) (h:∀i,i< m->V.cS n (f i)=true):Bu n (.row e sz m f::l)
  |m {s:Bool×Nat}{f:MF}{l:List Ob}(k:Bu n l) (h:∀k u,f.look k=some u->V.j4 n u=true):Bu n (.mp s f::l)
theorem iB{n:Nat}{t:TypeId}{cs:List V}{l:List Ob}(k:Bu n l)(h:V.cS n cs=true:=by kernel_rfl):Bu n (.box t cs::l):= .b k h
theorem iW{n:Nat}{e sz m:Nat}{f:Nat->List V}{l:List Ob}(k:Bu n l)(h:∀i,i< m->V.cS n (f i)=true:=by exact fun _ _=>rfl):Bu n (.row e sz m f::l):= .r k h
theorem Bu.ok{g:Nat->Nat}{n:Nat}:∀ {l:List Ob},Bu n l->fu g n l (l.map (Ob.bD g))
 |_,.nil=> .nil
 |_,.b k h=> .box rfl h k.ok
 |_,.r k h=> .row rfl (fun _ _=>rfl) h k.ok
 |_,.m k h=> .mp (fun _=>rfl) h k.ok
section
variable {P:Program}{N:Nat}{C:Cx P N}{nx:Nat}{ops:Array Oper}{os:List Oper}{tm:Nat->V}{σ:Nat->Option Ob}{ks:List (List Nat×List Nat)}{K:(Nat->V)->(Nat->Option Ob)->List (List Nat×List Nat)->Prop}{ty:TypeId}{pos:String}{af:Array Edge}
theorem eM{d:Nat}{fo:Operand}{ar:Array Operand}{ats:Array TypeId}{f:FuncId}{args:List V}{ins:List Ob}{v:V}{outs:List (Option Ob)}{obs:List Ob}(ns:List Nat)(hc:AM P f args ins v outs obs)(hi:Bu ins.length ins)
 (hk:bF C ops nx os (bL tm d (v.bD (aJ nx (some d) ns))) (bG σ (gG (aJ nx (some d) ns) ns outs++cj (aJ nx (some d) ns) 0 obs)) (ks++[(aV (gG (aJ nx (some d) ns) ns outs++cj (aJ nx (some d) ns) 0 obs),dZ (jd ns (ins.map (Ob.bD (aJ nx (some d) ns))))++aV (gG (aJ nx (some d) ns) ns outs++cj (aJ nx (some d) ns) 0 obs))]) K)
 (hf:ev tm fo= .fn (.func f) [] []:=by kernel_rfl) (hargs:[]++ar.toList.map (ev tm)++[]=V.aS (aJ nx (some d) ns) args:=by kernel_rfl) (hin:V.cS ins.length args=true:=by kernel_rfl) (hd:decide (d< 1000)=true:=by kernel_rfl) (hobs:decide (obs.length<=90)=true:=by kernel_rfl) (hns:decide ns.Nodup=true:=by kernel_rfl) (hnl:ns.length=ins.length:=by rfl) (hol:outs.length=ins.length:=by rfl)
 (hσ:r8 σ ns=(ins.map (Ob.bD (aJ nx (some d) ns))).map some:=by kernel_rfl):bF C ops nx (⟨some d,.call {callee:= .value fo,args:=ar,argTypes:=ats},ty,pos,af,none⟩::os) tm σ ks K:=
 eW ns hc hf hargs hin hd hobs hns hnl hol hσ hi.ok rfl rfl rfl hk
end
section
variable {P:Program}{N:Nat}{C:Cx P N}{T:List TI}{Q:Exit->S->Prop}{K:S->Prop}{tm:Nat->V}{σ:Nat->Option Ob}{nx id:Nat}{ol os:List Oper}{ks:List (List Nat×List Nat)}{y:Code}
theorem yS(hT:aK T P)(n' n:Nat)(l:List (Nat×It P))
 (h:AW C y Q ⟨(K3 (yy ⟨T,N,[],0,false⟩ n l (.ops ol false ol tm σ nx [] []))).tm,(K3 (yy ⟨T,N,[],0,false⟩ n l (.ops ol false ol tm σ nx [] []))).σ,n'⟩)
 (hok:gM N ol=true:=by kernel_rfl) (hn:nx+1=n':=by kernel_rfl) (hd:ol.drop n=[]:=by kernel_rfl)
 (he:(G4 ⟨T,N,[],0,false⟩ n l (.ops ol false ol tm σ nx [] [])).map Prod.fst=(G4 ⟨T,N,[],0,false⟩ n l (.ops ol false ol tm σ nx [] [])).map Prod.snd:=by kernel_rfl)
 (hc:Of (yy ⟨T,N,[],0,false⟩ n l (.ops ol false ol tm σ nx [] []))=some (ol,nx,ol.drop n):=by kernel_rfl):AW C (.seq (.region id ol.toArray false) y) Q ⟨tm,σ,nx⟩:=
 qY fun _ hK=>wR n' (aY hT n l (by rw [hd];exact aa (ai (hK _ h))) he hc) hok hn
theorem yT(hT:aK T P)(n' n:Nat)(l:List (Nat×It P)){p next:S->Prop}(hK:∀s',p s'->next s')
 (h:p ⟨(K3 (yy ⟨T,N,[],0,false⟩ n l (.ops ol false ol tm σ nx [] []))).tm,(K3 (yy ⟨T,N,[],0,false⟩ n l (.ops ol false ol tm σ nx [] []))).σ,n'⟩)
 (hok:gM N ol=true:=by kernel_rfl) (hn:nx+1=n':=by kernel_rfl) (hd:ol.drop n=[]:=by kernel_rfl)
 (he:(G4 ⟨T,N,[],0,false⟩ n l (.ops ol false ol tm σ nx [] [])).map Prod.fst=(G4 ⟨T,N,[],0,false⟩ n l (.ops ol false ol tm σ nx [] [])).map Prod.snd:=by kernel_rfl)
 (hc:Of (yy ⟨T,N,[],0,false⟩ n l (.ops ol false ol tm σ nx [] []))=some (ol,nx,ol.drop n):=by kernel_rfl):AW C (.region id ol.toArray false) (dS next Q) ⟨tm,σ,nx⟩:=
 wR n' (aY hT n l (by rw [hd];exact aa (ai (hK _ h))) he hc) hok hn
theorem yN(hT:aK T P)(n:Nat)(l:List (Nat×It P)){n':Nat}{p next:S->Prop}(hK:∀s',p s'->next s')
 (h:p ⟨(K3 (yy ⟨T,N,[],0,false⟩ n l (.ops ol false os tm σ nx ks []))).tm,(K3 (yy ⟨T,N,[],0,false⟩ n l (.ops ol false os tm σ nx ks []))).σ,n'⟩)
 (hd:os.drop n=[]:=by kernel_rfl)
 (he:(G4 ⟨T,N,[],0,false⟩ n l (.ops ol false os tm σ nx ks [])).map Prod.fst=(G4 ⟨T,N,[],0,false⟩ n l (.ops ol false os tm σ nx ks [])).map Prod.snd:=by kernel_rfl)
 (hc:Of (yy ⟨T,N,[],0,false⟩ n l (.ops ol false os tm σ nx ks []))=some (ol,nx,os.drop n):=by kernel_rfl):bF C ol.toArray nx os tm σ ks (fun tm' σ' _=>dS next Q .normal ⟨tm',σ',n'⟩):=
 aY hT n l (by rw [hd];exact aa (ai (hK _ h))) he hc
end
end Go.Ab

namespace Go.Dw
open Go.RowKit Go.Shelf
structure tD(U:Nat->Prop)(B:Nat)(w w':World):Prop where
  os:w'.os=w.os
  tape:w'.tape=w.tape
  output:w'.output=w.output
  size:w.heap.size<=w'.heap.size
  block:∀k,k< B->¬U k->w'.heap[k]?=w.heap[k]?
theorem tD.of{U:Nat->Prop}{B:Nat}{w w':World}(h:Below B w w'):tD U B w w':=⟨h.os,h.tape,h.output,h.size,fun k hk _=>h.block k hk⟩
theorem tD.no{U:Nat->Prop}{B:Nat}{w w':World}(h:tD U B w w')(hU:∀k,¬U k):Below B w w':=⟨h.os,h.tape,h.output,h.size,fun k hk=>h.block k hk (hU k)⟩
theorem tD.mono{U:Nat->Prop}{B B':Nat}{w w':World}(h:tD U B w w')(hB:B'<=B):tD U B' w w':=⟨h.os,h.tape,h.output,h.size,fun k hk=>h.block k oM⟩
def Lh(P:Program)(f:FuncId)(lb:Array Value)(n:Nat)(E:Nat->Nat->Array Value->World->Prop)(R U:Nat->Prop)(w:World):Prop:=
  ∀(l:Nat) (J Jx:Nat->World->Prop) (W:World),aZ R w W->w.heap.size<=l->l< W.heap.size->
    (∀k W1 W2,J k W1->tD U W.heap.size W1 W2->J k W2)->(∀k W1 W2,Jx k W1->tD U W.heap.size W1 W2->Jx k W2)->
    (∀k x W1,k< n->E l k x W1->W.heap.size<=W1.heap.size->J k W1->YieldAt Fence.wide 0 P l x W1 fun e W2=>∃b:Bool,e= .returned (.bool b)/\aZ (fun i=>R i\/i=l) W1 W2/\(b=true->J (k+1) W2)/\(b=false->Jx k W2))->
    J 0 W->
    CallsIn Fence.wide 0 P f (#[.func (.yield l) #[] #[]]++lb) W fun e W'=>(∃v,e= .returned v)/\(J n W'\/∃k,k< n/\Jx k W')
def Nu(P:Program)(f:FuncId)(lb:Array Value)(n:Nat)(E:Nat->Nat->Array Value->World->Prop)(R:Nat->Prop)(w:World):Prop:=
  ∀(l:Nat) (J Jx:Nat->World->Prop) (W:World),aZ R w W->w.heap.size<=l->l< W.heap.size->
    (∀k W1 W2,J k W1->Below W.heap.size W1 W2->J k W2)->(∀k W1 W2,Jx k W1->Below W.heap.size W1 W2->Jx k W2)->
    (∀k x W1,k< n->E l k x W1->W.heap.size<=W1.heap.size->J k W1->YieldAt Fence.wide 0 P l x W1 fun e W2=>∃b:Bool,e= .returned (.bool b)/\aZ (fun i=>R i\/i=l) W1 W2/\(b=true->J (k+1) W2)/\(b=false->Jx k W2))->
    J 0 W->
    CallsIn Fence.wide 0 P f (#[.func (.yield l) #[] #[]]++lb) W fun e W'=>(∃v,e= .returned v)/\(J n W'\/∃k,k< n/\Jx k W')
end Go.Dw
namespace Go.Ab
open Go.RowKit Go.Dw Go.Shelf
def Pp(es:List (List V))(L:Nat->Prop)(w:World)(l k:Nat)(x:Array Value)(W:World):Prop:= ∃v,es[k]?=some v/\∃L1:Nat->Prop,(∀b,L1 b->L b\/(w.heap.size<=b/\b< W.heap.size/\b≠l))/\RV W L1 ρ0 v x.toList
def O3(P:Program)(gf:FuncId)(caps:List V)(es:List (List V)):Prop:=
 (∀(args:Array Value) (w:World),(callFunc gf args).run P w= .ok (.enter gf args) w)/\
 ∀(L:Nat->Prop) (w:World) (lb:Array Value),(∀b,L b->b< w.heap.size)->(∀g,R w L ρ0 (jn g) (ql g))->RV w L ρ0 caps lb.toList->∀R:Nat->Prop,(∀b,R b->b< w.heap.size/\¬L b)->Nu P gf lb es.length (Pp es L w) R w
def Ld(P:Program)(gf:FuncId)(caps:List V)(ins:List Ob)(es:List (List V)):Prop:=
  (∀(args:Array Value) (w:World),(callFunc gf args).run P w= .ok (.enter gf args) w)/\
  ∀(L U:Nat->Prop) (w:World) (ρ:Nat->Option Value) (lb:Array Value),(∀b,L b->b< w.heap.size)->(∀b,U b->b< w.heap.size/\¬L b)->(∀g,R w L ρ0 (jn g) (ql g))->
    (∀i o,ins[i]?=some o->Real U w L ρ (500+i) o)->(∀i j x y k,i≠j->ρ i=some x->ρ j=some y->blk x=some k->blk y≠some k)->(∀id,(id< 500\/500+ins.length<=id)->ρ id=none)->RV w L ρ caps lb.toList->
    ∀R:Nat->Prop,(∀b,R b->b< w.heap.size/\¬L b/\¬U b)->Lh P gf lb es.length (Pp es (fun b=>L b\/U b) w) R U w
theorem uJ:∀ {l:List Nat}{i j:Nat},l.Nodup->i< l.length->l[i]?=l[j]?->i=j
 | [],i,j,_,h,_=>by simp at h
 |a::l,0,0,_,_,_=>rfl
 |a::l,0,j+1,hd,_,he=>by rw [List.getElem?_cons_zero,List.getElem?_cons_succ]at he;exact absurd (List.mem_of_getElem? he.symm) (List.nodup_cons.1 hd).1
 |a::l,i+1,0,hd,_,he=>by rw [List.getElem?_cons_zero,List.getElem?_cons_succ]at he;exact absurd (List.mem_of_getElem? he) (List.nodup_cons.1 hd).1
 |a::l,i+1,j+1,hd,h,he=>by rw [List.getElem?_cons_succ,List.getElem?_cons_succ]at he;have:=uJ (List.nodup_cons.1 hd).2 (by simpa using h) he;omega
def Gj:Ob->Bool
 | .box _ cs=>V.bA cs
 |_=>false
def zu(ns:List Nat)(i:Nat):Nat:=if 500<=i then ns.getD (i- 500) i else i
theorem O3.u{P:Program}{gf:FuncId}{caps:List V}{es:List (List V)}(h:O3 P gf caps es):Ld P gf caps [] es:=by refine⟨h.1,fun L U w ρ lb hL hU hg _ _ hρ hv R hR=> ?_⟩;have e:ρ=ρ0:=funext fun id=>hρ id (by simp only [List.length_nil];omega);subst e;have:=h.2 L w lb hL hg hv R fun b hb=>⟨(hR b hb).1,(hR b hb).2.1⟩;exact fun l J Jx W hT hl hlW hJ hJx hY h0=>this l J Jx W hT hl hlW (fun k W1 W2 hj hb=>hJ k W1 W2 hj (.of hb)) (fun k W1 W2 hj hb=>hJx k W1 W2 hj (.of hb)) (fun k x W1 hk hE=>hY k x W1 hk (by obtain⟨v,hv,L1,h1,h2⟩:=hE;exact⟨v,hv,L1,fun b hb=>(h1 b hb).imp .inl id,h2⟩)) h0
end Go.Ab
