/-
  Several texts in one: Rows of one cell each, seen otherwise. No condition but those told in each theorem. .. A contract whose row is not written any more. No condition.
-/
import Derived.Maps.RangeRun
import Derived.Sort.LoopGhostIn
import Derived.RecoverIn
import Derived.Test.YtjmbpjlojjgggaaGreatDoorX01
import Derived.Test.YtjmbpjlojjgggaaGreatDoorMD
namespace Go.Ab
open Go.RowKit Go.Dw
theorem FY:∀(n:Nat) (r:Nat->List V),(∀i,i< n->(r i).length=1)->((aE n r).flatten).length=n:=by intro n r h;have:=cR (cq (n:=n) (row:=r) h);rw [this,b8,Nat.mul_one]
theorem Real.fR{W L:Nat->Prop}{w:World}{ρ:Nat->Option Value}{id:Nat}{e:TypeId}{n:Nat}{r r':Nat->List V}(h:Real W w L ρ id (.row e 1 n r)) (hr:∀i,i< n->∃u u',r i=[u]/\r' i=[u']/\∀x,R w L ρ u x->R w L ρ u' x):Real W w L ρ id (.row e 1 n r'):=by
 obtain⟨v,xs,q1,q2,q3,q4,q5⟩:=h;have l':∀i,i< n->(r' i).length=1:=fun i hi=>by obtain⟨u,u',_,h2,_⟩:=hr i hi;rw [h2];rfl
 have f1:=FY n r q3;have f2:=FY n r' l';refine⟨v,xs,q1,q2,l',⟨by rw [f2,<-f1];exact q4.1,fun i u' x hu hx=> ?_⟩,q5⟩;have hi:i< n:=by rw [<-f2];exact(List.getElem?_eq_some_iff.1 hu).1
 obtain⟨a,a',e1,e2,e3⟩:=hr i hi;have g':=flat_get (cq l') (bK (row:=r') hi) (show 0< 1 by decide);have g:=flat_get (cq q3) (bK (row:=r) hi) (show 0< 1 by decide);rw [Nat.mul_one,Nat.add_zero]at g g';rw [g',e2]at hu;rw [e1]at g;simp at hu;subst hu;obtain⟨k1,k2⟩:=q4.2 i a x (by rw [g];rfl) hx;exact⟨e3 x k1,k2⟩
theorem B4{tm:Nat->V}{σ:Nat->Option Ob}{nx:Nat}(id:Nat){e:TypeId}{n:Nat}{r r':Nat->List V}(hσ:σ id=some (.row e 1 n r))
 (hr:∀i,i< n->∃u u',r i=[u]/\r' i=[u']/\∀w L ρ x,R w L ρ u x->R w L ρ u' x):Le ⟨tm,σ,nx⟩ ⟨tm,Ab.bL σ id (some (.row e 1 n r')),nx⟩:=
 Le.bL (s:=⟨tm,σ,nx⟩) id hσ fun h=>h.fR fun i hi=>by obtain⟨u,u',h1,h2,h3⟩:=hr i hi;exact⟨u,u',h1,h2,fun x hx=>h3 _ _ _ x hx⟩
theorem R.ES{w:World}{L:Nat->Prop}{ρ:Nat->Option Value}{b:Bool}{u v:V}{x:Value}(hb:b=true)(h:R w L ρ u x):R w L ρ (.alt b u v) x:= .alt _ _ _ _ _ (fun _=>h) fun h2=>by rw [hb]at h2;cases h2
theorem R.ET{w:World}{L:Nat->Prop}{ρ:Nat->Option Value}{b:Bool}{u v:V}{x:Value}(hb:b=false)(h:R w L ρ v x):R w L ρ (.alt b u v) x:= .alt _ _ _ _ _ (fun h2=>by rw [hb]at h2;cases h2) fun _=>h
theorem Hx{n i:Nat}{c:Nat->V}{p:V}(r:Nat->List V)(h1:∀i,i< n->r i=[c i])(h2:r n=[p])(hi:i< n+1):∃u u',r i=[u]/\[V.alt (decide (i< n)) (c i) p]=[u']/\∀(w:World) (L:Nat->Prop) (ρ:Nat->Option Value) (x:Value),R w L ρ u x->R w L ρ u' x:=by
 by_cases h:i< n;·exact⟨c i,_,h1 i h,rfl,fun _ _ _ _ hx=> .ES (by simp [h]) hx⟩
 ·have e:i=n:=by omega
  subst e;exact⟨p,_,h2,rfl,fun _ _ _ _ hx=> .ET (by simp) hx⟩
theorem b7{has:Int->Bool}{n:Nat}:∀(k:MK) (u:V),(aQ has).look k=some u->V.j4 n u=true:=by
 intro k u h;cases k with
 |s b=>cases h
 |i m=>
  rw [cP]at h;split at h;·injection h with h;subst h;rfl
  ·cases h
theorem AM.res{P:Program}{f:FuncId}{args:List V}{ins:List Ob}{v v':V}{outs:List (Option Ob)}{obs:List Ob}(h:AM P f args ins v outs obs)(hv:∀w L ρ x,R w L ρ v x->R w L ρ v' x):AM P f args ins v' outs obs:= ⟨h.1,fun W LB L w ρ vs a b c d e=>(h.2 W LB L w ρ vs a b c d e).mono fun e' w' ⟨x,h1,h2,L',ρ',h3,h4,h5,h6⟩=>⟨x,h1,h2,L',ρ',h3,h4,hv _ _ _ _ h5,h6⟩⟩
theorem yZ{has:Int->Bool}{q:Int}(k:Int):((⟨[(.i q,.agg [])],(aQ has).rest⟩:MF).look (.i k)).isSome=(has k || decide (k=q)):=by
 show(iy _ _ _).isSome=_;by_cases h:k=q;·subst h;simp [iy]
 ·have h2:¬(MK.i k=MK.i q):=fun e=>h (by injection e);simp only [iy,if_neg h2];show((aQ has).look (.i k)).isSome=_;rw [ff];simp [h]
theorem sN{has:Int->Bool}{q:Int}:∀k u,(⟨[(.i q,.agg [])],(aQ has).rest⟩:MF).look k=some u->u= .agg []\/u= .c (.agg #[]):=by
 intro k u h;by_cases h2:k=MK.i q
 ·have:(⟨[(.i q,.agg [])],(aQ has).rest⟩:MF).look k=some (.agg []):=by show iy _ _ _=_;simp only [iy,if_pos h2]
  rw [this]at h;injection h with h;exact .inl h.symm
 ·have e:(⟨[(.i q,.agg [])],(aQ has).rest⟩:MF).look k=(aQ has).look k:=by show iy _ _ _=_;simp only [iy,if_neg h2];rfl
  rw [e]at h;cases k with
  |s b=>cases h
  |i m=>
   rw [cP]at h;split at h;·injection h with h;exact .inr h.symm
   ·cases h
theorem uG(has:Int->Bool)(k:Int):nN (aQ has) (.i k) (.agg [])= .agg []\/nN (aQ has) (.i k) (.agg [])= .c (.agg #[]):=by
 unfold nN;rw [cP];split;·exact .inr rfl
 ·exact .inl rfl
theorem uH(has:Int->Bool)(k:Int):v9 (aQ has) (.i k)=has k:=ff has k
open Classical in
theorem uj{P:Program}{W LB:Nat->Prop}{d:Option Tmp}{ty:TypeId}{pos:String}{af:Array Edge}{gd:Option (Nat×Bool)}{ev:Operand->V}(t:Nat)(x y:Operand){id o t':Nat}{cs:List V}(hx:ev x= .ref id o)(hy:ev y= .agg []\/ev y= .c (.agg #[]))(hs:cc P t=some 0)(hn:o<=cs.length) : aU P W LB ⟨d,.store t x y,ty,pos,af,gd⟩ ev .any [(id,.box t' cs)] [] [(id,some (.box t' (splice cs o [])))]:=by
 rcases hy with hy |hy;·exact ou t x y (us:=[]) hx hy rfl hs hn
 ·obtain⟨ev',he⟩:∃ev':Operand->V,ev'=fun z=>if z=y then .agg []else ev z:=⟨_,rfl⟩
  have hxy:x≠y:=fun h=>by rw [h,hy]at hx;cases hx
  have h:=ou (P:=P) (W:=W) (LB:=LB) (d:=d) (ty:=ty) (pos:=pos) (af:=af) (gd:=gd) (ev:=ev') t x y (us:=[]) (vy:= .agg []) (id:=id) (o:=o) (t':=t') (cs:=cs) (by rw [he];simp [hxy,hx]) (by rw [he];simp) rfl hs hn;intro σ w L ρ g hG hr hp hnw;refine h σ w L ρ g hG (fun z hz=> ?_) hp hnw;have:=hr z hz;rw [he];by_cases hzy:z=y;·subst hzy;rw [hy]at this;simp only [if_pos];rw [this.aN];exact .lZ ⟨rfl,fun i u x hu=>by simp at hu⟩
  ·simp only [if_neg hzy];exact this
def jA(σ:Nat->Option Ob):List V->List V->Prop
 | [],[]=>True
 |u::us,u'::us'=>Fz σ u u'/\jA σ us us'
 |_,_=>False
theorem jA.get{σ:Nat->Option Ob}:∀ {l l':List V},jA σ l l'->l'.length=l.length/\∀(i:Nat) u u',l[i]?=some u->l'[i]?=some u'->Fz σ u u'
 | [],[],_=>⟨rfl,fun i u u' h=>by simp at h⟩
 |u::us,u'::us',h=>by
  obtain⟨h1,h2⟩:=h;obtain⟨k1,k2⟩:=h2.get;refine⟨by simp [k1],fun i v v' hv hv'=> ?_⟩;cases i with
  |zero=>simp at hv hv';subst hv hv';exact h1
  |succ i=>simp at hv hv';exact k2 i v v' hv hv'
 | [],_::_,h=>h.elim
 |_::_,[],h=>h.elim
theorem Fz.refs{σ:Nat->Option Ob}{id:Nat}{t:TypeId}{cs cs':List V}(hσ:σ id=some (.box t cs))(h:jA σ cs cs'):Fz σ (.ref id 0) (.ptr cs'):= .ref id 0 t cs cs' hσ (by rw [List.drop_zero,h.get.1];exact Nat.le_refl _) (by rw [List.drop_zero];exact h.get.2)
theorem Fz.rows{σ:Nat->Option Ob}{id:Nat}{e:TypeId}{sz n:Nat}{r r':Nat->List V}(hσ:σ id=some (.row e sz n r))(h:∀i,i< n->jA σ (r i) (r' i)):Fz σ (.own id) (.sl sz n r'):= .own id e sz n r r' hσ (fun i hi=>(h i hi).get.1) fun i j u u' hi=>(h i hi).get.2 j u u'
theorem jA.ck{σ:Nat->Option Ob}:∀ {l:List V},V.bA l=true->jA σ l l
 | [],_=>trivial
 |u::us,h=>by simp only [V.bA,Bool.and_eq_true]at h;exact⟨.ck u h.1,jA.ck h.2⟩
theorem jA.append{σ:Nat->Option Ob}:∀ {a a' b b':List V},jA σ a a'->jA σ b b'->jA σ (a++b) (a'++b')
 | [],[],_,_,_,k=>k
 |_::_,_::_,_,_,h,k=>⟨h.1,jA.append h.2 k⟩
 | [],_::_,_,_,h,_=>h.elim
 |_::_,[],_,_,h,_=>h.elim
section
variable {P:Program}{N:Nat}{C:Cx P N}{ops:Array Oper}{nx:Nat}{os:List Oper}{tm:Nat->V}{σ:Nat->Option Ob}{ks:List (List Nat×List Nat)}{K:(Nat->V)->(Nat->Option Ob)->List (List Nat×List Nat)->Prop}{ty:TypeId}{pos:String}{af:Array Edge}
theorem aT{d:Nat}{fo:Operand}{ar:Array Operand}{ats:Array TypeId}{f:FuncId}{first caps args args':List V}{v:V}(pre:List (Nat×Ob))(hc:AC P f args' v [])(hf:ev tm fo= .fn (.func f) first caps) (hargs:first++ar.toList.map (ev tm)++caps=args) (hfz:jA (yI pre) args args') (hd:decide (d< 1000)=true) (hv:v.rK []=true) (hvr:v.bD (ay nx (some d))=v) (hp:m7 (fun p=>σ p.1=some p.2) pre) (hk:bF C ops nx os (bL tm d v) σ (ks++[([],dZ pre)]) K):bF C ops nx (⟨some d,.call {callee:= .value fo,args:=ar,argTypes:=ats},ty,pos,af,none⟩::os) tm σ ks K:=by obtain⟨hl,hfz⟩:=hfz.get;have h:=Ff (P:=P) (W:=C.W) (LB:=C.LB) (d:=some d) (ty:=ty) (pos:=pos) (af:=af) (gd:=none) (ats:=ats) hc hf hargs pre hl hfz hv (fun o ho=>by cases ho) nx (by simpa using hd) (by simp);rw [hvr]at h;refine eI rfl h hp.mem (fun _ h=>by cases h) ?_;rw [<-List.append_nil (dZ pre)]at hk;exact hk
end
end Go.Ab

namespace Go.Dw
open Go.RowKit Go.Shelf
end Go.Dw
namespace Go.Ab
open Go.RowKit Go.Dw Go.Shelf
mutual
def V.sk(pn:List Nat):V->Bool
 | .agg cs=>V.yt pn cs
 | .tup cs=>V.yt pn cs
 | .fn _ a b=>V.yt pn a && V.yt pn b
 | .ifc _ v=>v.sk pn
 | .gd _ v=>v.sk pn
 | .alt _ v u=>v.sk pn && u.sk pn
 | .own i=>pn.contains i
 | .ref i _=>pn.contains i
 | .oel i _ _ _=>pn.contains i
 | .osl i _ _ _=>pn.contains i
 |_=>true
def V.yt(pn:List Nat):List V->Bool
 | []=>true
 |v::l=>v.sk pn && V.yt pn l
end
theorem V.k8{pn:List Nat}:∀ {l:List V}(_:V.yt pn l=true){i:Nat}{u:V}(_:l[i]?=some u),u.sk pn=true
 |v::l,h,0,u,hu=>by simp at hu;subst hu;simp only [V.yt,Bool.and_eq_true]at h;exact h.1
 |v::l,h,i+1,u,hu=>by simp only [V.yt,Bool.and_eq_true]at h;exact V.k8 h.2 (by simpa using hu)
theorem R.N2{pn:List Nat}{w:World}{L:Nat->Prop}{ρ:Nat->Option Value}{u:V}{x:Value}(h:R w L ρ u x):∀(_:u.sk pn=true) (ρ':Nat->Option Value),(∀id v,id∈pn->ρ id=some v->ρ' id=some v)->R w L ρ' u x:=by
 induction h with
 |any=>exact fun _ _ _=> .any _ _
 |c=>exact fun _ _ _=> .c _ _
 |agg ρ cs xs f hl hf hr ih=>intro hi ρ' hρ;simp only [V.sk]at hi;exact .agg _ _ _ f hl hf fun i u hu=>ih i u hu (V.k8 hi hu) ρ' hρ
 |tup ρ cs xs f hl hf hr ih=>intro hi ρ' hρ;simp only [V.sk]at hi;exact .tup _ _ _ f hl hf fun i u hu=>ih i u hu (V.k8 hi hu) ρ' hρ
 |nil=>exact fun _ _ _=> .nil _
 |emp=>exact fun _ _ _=> .emp _ _
 |sl0=>exact fun _ _ _=> .sl0 _ _ _ _ _
 |sl ρ sz n row b o c f hb hcap hlen hf hr ih=>exact fun _ ρ' _=> .sl _ _ _ _ _ _ _ f hb hcap hlen hf hr
 |ptr ρ cs b o f hb hf hr ih=>exact fun _ ρ' _=> .ptr _ _ _ _ f hb hf hr
 |fset ρ str has b es cl hb hh hk hf=>exact fun _ ρ' _=> .fset _ _ _ b es cl hb hh hk hf
 |own ρ id x h h1=>intro hi ρ' hρ;simp only [V.sk,List.contains_iff_mem]at hi;exact .own _ _ _ (hρ _ _ hi h) h1
 |ref ρ id off b h=>intro hi ρ' hρ;simp only [V.sk,List.contains_iff_mem]at hi;exact .ref _ _ _ _ (hρ _ _ hi h)
 |oel ρ id sz i off b n c h=>intro hi ρ' hρ;simp only [V.sk,List.contains_iff_mem]at hi;exact .oel _ _ _ _ _ _ n c (hρ _ _ hi h)
 |osl ρ id sz off k b m c c2 A h hn hA=>intro hi ρ' hρ;simp only [V.sk,List.contains_iff_mem]at hi;exact .osl _ _ _ _ _ _ m c _ _ (hρ _ _ hi h) hn hA
 |fn ρ f fs cs xs ys g h hl hm hg hh hr hs ih1 ih2=>intro hi ρ' hρ;simp only [V.sk,Bool.and_eq_true]at hi;exact .fn _ _ _ _ _ _ g h hl hm hg hh (fun i u hu=>ih1 i u hu (V.k8 hi.1 hu) ρ' hρ) fun i u hu=>ih2 i u hu (V.k8 hi.2 hu) ρ' hρ
 |ifc ρ t u x h ih=>intro hi ρ' hρ;simp only [V.sk]at hi;exact .ifc _ _ _ _ (ih hi ρ' hρ)
 |gd ρ g u x h h' ih=>intro hi ρ' hρ;simp only [V.sk]at hi;exact .gd _ _ _ _ (fun hg=>ih hg hi ρ' hρ) h'
 |alt ρ g u v x h h' ih ih'=>intro hi ρ' hρ;simp only [V.sk,Bool.and_eq_true]at hi;exact .alt _ _ _ _ _ (fun hg=>ih hg hi.1 ρ' hρ) fun hg=>ih' hg hi.2 ρ' hρ
theorem B8{pn:List Nat}:∀ {tl:List (Nat×V)}(_:tl.all (fun p=>p.2.sk pn)=true) (i:Nat),(gF tl i).sk pn=true
 | [],_,i=>rfl
 |p::tl,h,i=>by
  simp only [List.all_cons,Bool.and_eq_true]at h;show(bL (gF tl) p.1 p.2 i).sk pn=true;by_cases he:i=p.1;·subst he;rw [ak];exact h.1
  ·rw [ah _ _ he];exact B8 h.2 i
theorem Real.uB{W W' L L':Nat->Prop}{w w':World}{ρ ρ':Nat->Option Value}{id:Nat}{o:Ob}(h:Real W w L ρ id o)(e:Ext w L ρ w' L' ρ') (hb:∀x k,ρ id=some x->blk x=some k->w'.heap[k]?=w.heap[k]?/\¬L' k/\W' k):Real W' w' L' ρ' id o:=by
 cases o with
 |box t cs=>obtain⟨b,xs,h1,h2,h3,h4,h5⟩:=h;have:=hb _ b h1 rfl;exact⟨b,xs,e.r _ _ h1,this.2.2,this.2.1,this.1.trans h4,h5.ext e⟩
 |row t sz n row=>
  obtain⟨v,xs,h1,h2,h3,h4,h5⟩:=h;refine⟨v,xs,e.r _ _ h1,⟨h2.1,?_⟩,h3,h4.ext e,fun k hk=>⟨(hb _ k h1 hk).2.2,(hb _ k h1 hk).2.1⟩⟩;rcases h2.2 with hn | ⟨g,cap,cur,rfl,hg,hh,rest⟩;·exact .inl hn
  ·exact .inr ⟨g,cap,cur,rfl,hg,(hb _ g h1 rfl).1.trans hh,rest⟩
 |mp str f=>obtain⟨b,es,cl,h1,h2,h3,h4,h5⟩:=h;have:=hb _ b h1 rfl;exact⟨b,es,cl,e.r _ _ h1,this.2.2,this.2.1,this.1.trans h4,h5.imp fun _ _ _ _ h=>h.ext e⟩
def Pq(es:List (List V))(k:Nat)(x:Array Value)(W:World):Prop:= ∃v,es[k]?=some v/\V.gh v=true/\RV W (fun _=>False) ρ0 v x.toList
end Go.Ab

namespace Go.Ab
open Go.RowKit Go.Dw
theorem eE{F:Fence}(hF:FW F){P:Program}{ops:Array Oper}{Q:Exit->Act->World->Prop}{i:Nat}{K:Act->World->Prop}{a:Act}{w w':World}{o:Oper}{v:Value}(hi:ops[i]?=some o)(hg:o.guard=none)(hp:jT o.op=true) (hrun:(execOp a.eval o).run P w= .ok (.value v) w') (hK:K (a.put o.dst v) w'):wpOpIn F 0 P ops Q i K a w:=by
 unfold wpOpIn;rw [hi];have hwt:Region.wanted o (yielded ops a.tmps)=true:=by unfold Region.wanted;rw [hg]
 simp only [hwt,if_true];exact(bk.value (K:=fun x w''=>x=v/\w''=w') hp hrun ⟨rfl,rfl⟩) F hF a _ Q (fun _ _=>rfl) (by rintro _ _ ⟨rfl,rfl⟩;exact hK)
def Cx.sub{P:Program}{N:Nat}(C:Cx P N)(r bm id:Nat)(x:Value)(h:500<=id/\id< 1000):Cx P N:= ⟨fun b=>C.W b/\b≠r/\b≠bm,fun b=>C.LB b/\b≠r/\b≠bm,fun b h=>⟨C.wl b h.1,h.2⟩,⟨C.dfs.tl,bL C.dfs.pin id (some x),fun j y hy=>by
 by_cases e:j=id;·subst e;exact h
 ·rw [ah _ _ e]at hy;exact C.dfs.lo j y hy⟩,C.mx,C.F,C.hF⟩
section
variable {W LB:Nat->Prop}{N:Nat}{dfs:Dp}{fresh:Nat->Prop}{tm:Nat->V}{σ:Nat->Option Ob}{a:Act}{w w':World}{L:Nat->Prop}{ρ:Nat->Option Value}
theorem qR.Pz(h:qR W LB N dfs fresh tm σ a w L ρ){r:Nat}(hs:w'.heap.size=w.heap.size)(hb:∀b,b≠r->w'.heap[b]?=w.heap[b]?)(hW:¬W r)(hL:¬LB r):qR W LB N dfs fresh tm σ a w' L ρ:=by
 have e:Ext w L ρ w' L ρ:=⟨fun b hbl=>⟨hbl,hb b fun he=>hL (by rw [<-he];exact(h.g.ll b hbl).2)⟩,fun _ _ h=>h⟩;refine⟨⟨fun b hbl=>by rw [hs];exact h.g.ll b hbl,fun b hbs=>h.g.new b (by rw [<-hs];exact hbs),fun id o ho=> ?_,h.g.sep,h.g.tN e⟩,h.fr,h.tm.ext e,h.size,?_,h.pin⟩
 ·refine(h.g.ob id o ho).keep e fun x k hx hk=> ?_;obtain⟨y,hy,hlt⟩:=(h.g.ob id o ho).lt;rw [hx]at hy;injection hy with hy;subst hy
  obtain⟨l1,l2,l3⟩:=hlt k hk;exact⟨hb k fun he=>hW (by rw [<-he];exact l2),l3⟩
 ·obtain⟨Ds,h4,h5,h6⟩:=h.defers;refine⟨Ds,h4,h5,fun D hD=> ?_⟩;obtain⟨h7,h8,h9⟩:=h6 D hD;exact⟨(hb D fun he=>hW (by rw [<-he];exact h8)).trans h7,h8,h9⟩
theorem qR.AN(h:qR W LB N dfs fresh tm σ a w L ρ){t:Nat}(ht:t< N){v:V}{x:Value}(hv:R w L ρ v x):qR W LB N dfs fresh (bL tm t v) σ (a.put (some t) x) w L ρ:= ⟨h.g,h.fr,h.tm.put (d:=some t) (fun t' e=>by injection e with e;rw [<-e,h.size];exact ht) hv,by simp [Act.put,h.size],h.defers,h.pin⟩
end
theorem uF{k:MK}:∀ {es:List MapEntry}{x:Value},aR k es=some x->∃e∈es,k.is e.key=true
 | [],_,h=>by simp [aR]at h
 |e::es,x,h=>by
  rw [aR]at h;split at h;·rename_i hk;exact⟨e,by simp,hk⟩
  ·obtain⟨e',h1,h2⟩:=uF h;exact⟨e',by simp [h1],h2⟩
theorem uE{k:MK}:∀ {es:List MapEntry}{e:MapEntry},e∈es->k.is e.key=true->(aR k es).isSome=true
 | [],_,h,_=>by simp at h
 |e'::es,e,h,hk=>by
  rw [aR];split;·rfl
  ·rename_i hne;rcases List.mem_cons.1 h with rfl |h;·exact absurd hk hne
   ·exact uE h hk
theorem Mc{n:Int}{v:Value}(h:(MK.i n).is v=true):v= .int .i64 n:=by
 unfold MK.is at h;split at h;·rename_i a b _ e;cases e;rw [of_decide_eq_true h]
 ·rename_i e;cases e
 ·cases h
theorem jq{a:Act}{t:Nat}{x:Value}(h:t< a.tmps.size):(a.put (some t) x).eval (.tmp t)=x:=by simp [Act.put,Act.eval,h]
theorem pZ{a:Act}{t t':Nat}{x:Value}(h:t'≠t):(a.put (some t) x).eval (.tmp t')=a.eval (.tmp t'):=by simp [Act.put,Act.eval,Array.getElem?_setIfInBounds,Ne.symm h]
open Classical in
theorem oU{α:Type}:∀ {l m:List α},l.Nodup->(∀x∈l,x∈m)->l.length<=m.length
 | [],_,_,_=>Nat.zero_le _
 |x::l,m,hn,h=>by rw [List.nodup_cons]at hn;have h1:=oU (m:=m.erase x) hn.2 fun y hy=>(List.mem_erase_of_ne fun e=>hn.1 (by rw [<-e];exact hy)).2 (h y (by simp [hy]));have h2:=List.length_erase_of_mem (h x (by simp));have h3:0< m.length:=List.length_pos_of_mem (h x (by simp));simp only [List.length_cons];omega
section
variable {P:Program}{N:Nat}{C:Cx P N}{Q:Exit->S->Prop}{tm:Nat->V}{σ:Nat->Option Ob}{nx:Nat}
def Ez(tl:List Int->List (Nat×V))(sl:List Int->List (Nat×Ob))(ti r:Nat)(d:List Int):S:=⟨gF ((ti,.c (.pointer (some ⟨r,0,none⟩)))::tl d),eL (sl d),1⟩
abbrev P7(ti mt mm:Nat)(ty:TypeId)(p:String)(u:Array Edge):Oper:=⟨some ti,.range mt (.tmp mm),ty,p,u,none⟩
def Ny(p:Prop):Prop:=p
theorem xp{rid bid b2 r1 r2:Nat}{ol:List Oper}{mt kt et mm ti tn tb te tk tf id n:Nat}{has:Int->Bool}{ty1 ty2 ty3 ty4 ty5 ty6:TypeId}{p1 p2 p3 p4 p5 p6:String}{u1 u2 u3 u4 u5 u6:Array Edge}{body:Code} (tl:List Int->List (Nat×V)) (sl:List Int->List (Nat×Ob)) (hmt:P.underlying mt=some (.map kt et)) (hid:500<=id/\id< 1000) (kk:Nat) (hy:ol[kk]?=some (P7 ti mt mm ty1 p1 u1)) (hlen:ol.length=kk+1) (hok:gM N ol=true) (hslots:(decide (tn< N) && decide (tb< N) && decide (te< N) && decide (tk< N) && decide (tf< N) && decide (nx≠0))=true) (hne:(decide (tn≠ti) && decide (tb≠ti) && decide (te≠ti) && decide (tk≠ti))=true) (h:bF C ol.toArray nx (ol.take kk) tm σ [] fun tm1 σ1 _=>Ny (tm1 mm= .own id/\σ1 id=some (.mp (false,n) (aQ has))/\ ∀r,Le ⟨bL tm1 ti (.c (.pointer (some ⟨r,0,none⟩))),bL σ1 id none,nx+1⟩ (Ez tl sl ti r []))) (hround:∀C':Cx P N,C'.F=C.F->∀(r:Nat) (d:List Int) (f:Int),has f=true->f∉d-> AW C' body (fun e s'=>Ny (e= .normal/\Le s' (Ez tl sl ti r (f::d)))) ⟨bL (bL (bL (bL (bL (Ez tl sl ti r d).tm tn .any) tb .any) te .any) tk .any) tf (.i f),eL (sl d),1⟩) (hdone:∀d:List Int,d.Nodup->(∀z,z∈d<->has z=true)->d.length=n->Q .normal ⟨bL (bL (bL (gF (tl d)) ti .any) tn .any) tb .any,eL ((id,.mp (false,n) (aQ has))::sl d),1⟩) : AW C (.seq (.region rid ol.toArray false) (.block bid (.loop (.seq (.region r1 #[⟨some tn,.next (.tmp ti) false,ty2,p2,u2,none⟩,⟨some tb,.extract (.tmp tn) 0,ty3,p3,u3,none⟩] false) (.seq (.cond (.tmp tb) .skip (.exit bid)) (.block b2 (.seq (.region r2 #[⟨some te,.entry (.tmp ti),ty4,p4,u4,none⟩,⟨some tk,.extract (.tmp te) 0,ty5,p5,u5,none⟩,⟨some tf,.assign (.tmp tk),ty6,p6,u6,none⟩] false) body))))))) Q ⟨tm,σ,nx⟩:=by
 have hsp:ol=ol.take kk++[P7 ti mt mm ty1 p1 u1]:=by
  have hn:kk< ol.length:=by omega
  have q1:ol.drop kk=ol[kk]::ol.drop (kk+1):=List.drop_eq_getElem_cons hn;have q2:ol[kk]=_:=(List.getElem?_eq_some_iff.1 hy).2;have q3:ol.drop (kk+1)=[]:=List.drop_eq_nil_of_le oM;rw [<-q2,<-q3,<-q1,List.take_append_drop]
 clear hy hlen;revert h;generalize ol.take kk=ol0 at hsp;subst hsp;obtain⟨ol,rfl⟩:∃ol,ol=ol0:=⟨_,rfl⟩;intro h;simp only [Bool.and_eq_true,decide_eq_true_eq]at hslots hne;obtain⟨⟨⟨⟨⟨htn,htb⟩,hte⟩,htk⟩,htf⟩,hnx⟩:=hslots;obtain⟨⟨⟨n1,n2⟩,n3⟩,n4⟩:=hne;intro a w ⟨L,ρ,g⟩;obtain⟨y,hyd⟩:∃y:Oper,y=P7 ti mt mm ty1 p1 u1:=⟨_,rfl⟩;rw [<-hyd]at hok h ⊢;obtain⟨h1,h2⟩:=jR hok;obtain⟨tr,tm1,σ1,h3,hwt⟩:=h.run;obtain⟨hmm,hσ,hent⟩:tm1 mm= .own id/\σ1 id=some (.mp (false,n) (aQ has))/\∀r,Le ⟨bL tm1 ti (.c (.pointer (some ⟨r,0,none⟩))),bL σ1 id none,nx+1⟩ (Ez tl sl ti r []):=hwt;have hti:ti< N:=h1 y (by simp) ti (by rw [hyd]);refine wpIn_seq (wpIn_region ?_);rw [List.range_eq_range',show(ol++[y]).toArray.size=ol.length+[y].length by simp];refine Cr (P:=P) (W:=C.W) (LB:=C.LB) (ops:=(ol++[y]).toArray) (nx:=nx) (N:=N) (dfs:=C.dfs) C.hF (by simpa using h1) [y] ol 0 tr tm tm1 σ σ1 a w w L ρ (bV nx) (fun j=>by simp) h3 g (fun o ho t ht id h5 h6 h7=>h5) (fun id hid=>iK hid) h2 (aZ.refl _ _) ?_;intro a1 W1 L1 ρ1 fr1 g1 q1 q2 t1;rw [Nat.zero_add,List.length_singleton,List.range'_succ,wpOpsIn_cons];obtain⟨bm,es,cl,e1,e2,e3,e4,e5⟩:=g1.g.ob id _ hσ;have hmv:a1.eval (.tmp mm)= .map (some bm):=by have:=g1.tm.eval g1.g.gl (.tmp mm);rw [show ev tm1 (.tmp mm)= .own id from hmm]at this;have:=this.cX;rw [e1]at this;injection this with this;exact this.symm
 obtain⟨v1,v2,v3⟩:=e5.2.2.2.2;have hkey:∀e∈es.toList,∃z:Int,e.key= .int .i64 z:=fun e he=>by
  obtain⟨k,hk,hv⟩:=e5.1 e he;cases k with
  |i z=>exact⟨z,hv⟩
  |s b=>cases hk
 have hhas:∀z:Int,has z=true<->∃e∈es.toList,e.key= .int .i64 z:=by
  intro z;rw [<-ff has z];constructor
  ·intro hz;cases hm:aR (.i z) es.toList with
   |none=>rw [e5.2.2.1 (.i z) rfl hm]at hz;cases hz
   |some x=>obtain⟨e,he,hk⟩:=uF hm;exact⟨e,he,Mc hk⟩
  ·rintro⟨e,he,hk⟩;have:=uE (k:= .i z) he (by rw [hk];exact decide_eq_true rfl);cases hm:aR (.i z) es.toList with
   |none=>rw [hm]at this;cases this
   |some x=>obtain⟨u,hu,_⟩:=e5.2.1 (.i z) x rfl hm;rw [hu];rfl
 obtain⟨r,hr⟩:∃r,r=W1.heap.size:=⟨_,rfl⟩;refine eE C.hF (o:=y) (v:= .pointer (some ⟨r,0,none⟩)) (w':=W1.alloc (.mapIter (some bm) cl #[] cl)) (by simp) (by rw [hyd]) (by rw [hyd];rfl) ?_ ?_;·rw [hyd];simp [execOp,hmv,run_range_map W1 mt kt et bm es cl hmt e4,hr]
 rw [show y.dst=some ti by rw [hyd]];simp only [List.range'_zero,wpOpsIn,Exit.then];have hb0:Below W1.heap.size W1 (W1.alloc (.mapIter (some bm) cl #[] cl)):=bC _ _;have hbm:bm< W1.heap.size:=(Array.getElem?_eq_some_iff.1 e4).1;obtain⟨gq,eq⟩:=g1.g.quiet hb0 (L':=L1) (fun _ h=>h) (fun _ h=> .inl h);obtain⟨C',hC'⟩:∃C',C'=C.sub r bm id (.map (some bm)) hid:=⟨_,rfl⟩;have cW:C'.W=fun b=>C.W b/\b≠r/\b≠bm:=by rw [hC'];rfl
 have cL:C'.LB=fun b=>C.LB b/\b≠r/\b≠bm:=by rw [hC'];rfl
 have cF:C'.F=C.F:=by rw [hC'];rfl
 have cp:C'.dfs.pin=bL C.dfs.pin id (some (.map (some bm))):=by rw [hC'];rfl
 have ct:C'.dfs.tl=C.dfs.tl:=by rw [hC'];rfl
 have gm0:Gm C' ⟨bL tm1 ti (.c (.pointer (some ⟨r,0,none⟩))),bL σ1 id none,nx+1⟩ (a1.put (some ti) (.pointer (some ⟨r,0,none⟩))) (W1.alloc (.mapIter (some bm) cl #[] cl)):=by
  have hn':∀j o,bL σ1 id none j=some o->j≠id/\σ1 j=some o:=fun j o hj=>by
   by_cases e:j=id;·rw [e,ak]at hj;cases hj
   ·exact⟨e,by rwa [ah _ _ e]at hj⟩
  refine⟨L1,ρ1,⟨⟨fun b hb=> ?_,fun b hb=> ?_,fun j o hj=> ?_,fun i j x y k hij hi hj=>gq.sep i j x y k hij ?_ ?_,gq.gl⟩,fun j hj=>g1.fr j (q2 j hj),?_,?_,?_,?_⟩⟩;·rw [cL];have hl:=g1.g.ll b hb;exact⟨(gq.ll b hb).1,hl.2,by omega,fun e=>e3 (by rw [<-e];exact hb)⟩
  ·have h5:=hb0.size;have hs:(W1.alloc (.mapIter (some bm) cl #[] cl)).heap.size=W1.heap.size+1:=Array.size_push ..;have:=gq.new b hb;rw [cW,cL];rw [hs]at hb;exact⟨⟨this.1,by omega,by omega⟩,this.2,by omega,by omega⟩
  ·obtain⟨hne,ho⟩:=hn' j o hj;refine(g1.g.ob j o ho).uB eq fun x k hx hk=> ?_;obtain⟨y',hy',hlt⟩:=(g1.g.ob j o ho).lt;rw [hx]at hy';injection hy' with hy';subst hy'
   obtain⟨l1,l2,l3⟩:=hlt k hk;refine⟨hb0.block k l1,l3,?_⟩;rw [cW];exact⟨l2,by omega,fun e=>g1.g.sep id j _ _ bm (fun e=>hne e.symm) (by rw [hσ];simp) (by rw [ho];simp) e1 hx rfl (by rw [<-e];exact hk)⟩
  ·intro hc;apply hi;show bL σ1 id none i=none;by_cases e:i=id;·rw [e,ak]
   ·rw [ah _ _ e];exact hc
  ·intro hc;apply hj;show bL σ1 id none j=none;by_cases e:j=id;·rw [e,ak]
   ·rw [ah _ _ e];exact hc
  ·exact(g1.tm.ext eq).put (d:=some ti) (fun t e=>by injection e with e;rw [<-e,g1.size];exact hti) (.c _ _)
  ·simp [Act.put,g1.size]
  ·obtain⟨Ds,h4,h5,h6⟩:=g1.defers;refine⟨Ds,by rw [ct];exact h4,h5,fun D hD=> ?_⟩;obtain⟨h7,h8,h9⟩:=h6 D hD;have hlt:=(Array.getElem?_eq_some_iff.1 h7).1;refine⟨(hb0.block D hlt).trans h7,?_,h9⟩;rw [cW];exact⟨h8,by omega,fun e=>by rw [e,e4]at h7;cases h7⟩
  ·intro j x hj;rw [cp]at hj;by_cases e:j=id;·rw [e,ak]at hj;injection hj with hj;rw [e,<-hj];exact e1
   ·rw [ah _ _ e]at hj;exact g1.pin j x hj
 have gm1:=hent r C' _ _ gm0;have hWr:C.W r:=(g1.g.new r oM).1;have hr0:(W1.alloc (.mapIter (some bm) cl #[] cl)).heap[r]?=some (.mapIter (some bm) cl #[] cl):=by rw [hr];exact Go.heap_alloc_new _ _
 have hb00:(W1.alloc (.mapIter (some bm) cl #[] cl)).heap[bm]?=some (.map es cl):=(hb0.block bm hbm).trans e4;have ht0:aZ C.W w (W1.alloc (.mapIter (some bm) cl #[] cl)):=t1.alloc _;have hrb:r≠bm:=by omega
 refine wpIn_block (wpIn_loop_ghost (fun m a' w'=>∃d seen,Gm C' (Ez tl sl ti r d) a' w'/\w'.heap[r]?=some (.mapIter (some bm) cl seen cl)/\w'.heap[bm]?=some (.map es cl)/\
  (∀e∈es.toList,∀z,e.key= .int .i64 z->seen.contains e.born=decide (z∈d))/\(∀z,z∈d->has z=true)/\d.Nodup/\m=(leftOf es seen).size/\aZ C.W w w') (leftOf es #[]).size
  ?_ ?_)
 ·exact⟨[],#[],gm1,hr0,hb00,fun e _ z _=>(by simp),fun z hz=>(by cases hz),List.nodup_nil,rfl,ht0⟩
 rintro m a' w' ⟨d,seen,⟨L2,ρ2,g2⟩,hr1,hb1,hs,hd,hdn,rfl,ht⟩;have hite:a'.eval (.tmp ti)= .pointer (some ⟨r,0,none⟩):=by have:=g2.tm.eval g2.g.gl (.tmp ti);rw [show ev (Ez tl sl ti r d).tm (.tmp ti)= .c (.pointer (some ⟨r,0,none⟩))from ak _ _ _]at this;exact this.aN
 have hN:a'.tmps.size=N:=g2.size;refine wpIn_seq (wpIn_region ?_);show wpOpsIn _ _ _ _ _ [0,1] _ _;rw [wpOpsIn_cons];rcases run_next_at (P:=P) w' ty2 r bm cl cl seen es cl hr1 hb1 (fun x hx=>v3 x hx) (Nat.le_refl _)with⟨hz,hrun⟩ | ⟨e,he,w1,hw1,hrun⟩
 ·refine eE C.hF (o:=⟨some tn,.next (.tmp ti) false,ty2,p2,u2,none⟩) (v:= .tuple #[.bool false]) (w':=w') rfl rfl rfl (by simp [execOp,hite,hrun]) ?_;rw [wpOpsIn_cons];refine eE C.hF (o:=⟨some tb,.extract (.tmp tn) 0,ty3,p3,u3,none⟩) (v:= .bool false) (w':=w') rfl rfl rfl (by simp [execOp,Instr.extract,jq (show tn< a'.tmps.size by omega)]) ?_;simp only [wpOpsIn,Exit.then];refine wpIn_seq (wpIn_cond (jq (x:= .bool false) (by simp [Act.put];omega)) ?_);refine wpIn_exit ?_;simp only [Exit.then,Exit.inBlock,if_pos];have hdh:∀z,z∈d<->has z=true:=fun z=>⟨hd z,fun hzz=>by obtain⟨e,he,hk⟩:=(hhas z).1 hzz;have:=all_seen es seen hz e he;rw [hs e he z hk]at this;exact of_decide_eq_true this⟩;have hlen:d.length=n:=by have hl:es.toList.length=n:=e5.2.2.2.1;have k1:=oU (l:=d.map fun z=>Value.int .i64 z) (m:=es.toList.map (·.key)) (List.Pairwise.map _ (fun a b hab he=>hab (by injection he)) hdn) (fun x hx=>by obtain⟨z,hz',rfl⟩:=List.mem_map.1 hx;obtain⟨e,he,hk⟩:=(hhas z).1 (hd z hz');exact List.mem_map.2 ⟨e,he,hk⟩);have k2:=oU (l:=es.toList.map (·.key)) (m:=d.map fun z=>Value.int .i64 z) v1 (fun x hx=>by obtain⟨e,he,rfl⟩:=List.mem_map.1 hx;obtain⟨z,hz'⟩:=hkey e he;exact List.mem_map.2 ⟨z,(hdh z).2 ((hhas z).2 ⟨e,he,hz'⟩),hz'.symm⟩);simp only [List.length_map]at k1 k2;omega
  refine⟨_,hdone d hdn hdh hlen,?_,ht⟩;have g3:=(g2.AN htn (v:= .any) (x:= .tuple #[.bool false]) (.any _ _)).AN htb (v:= .any) (x:= .bool false) (.any _ _);have hρ:ρ2 id=some (.map (some bm)):=g2.pin id _ (by rw [cp,ak]);have hLb:¬L2 bm:=fun hl=>by have:=(g2.g.ll bm hl).2;rw [cL]at this;exact this.2.2 rfl
  have hup:∀j o,eL ((id,.mp (false,n) (aQ has))::sl d) j=some o->(j=id/\o= .mp (false,n) (aQ has))\/(j≠id/\eL (sl d) j=some o):=fun j o hj=>by
   have hj:bL (eL (sl d)) id (some (.mp (false,n) (aQ has))) j=some o:=hj;by_cases e:j=id;·rw [e,ak]at hj;injection hj with hj;exact .inl ⟨e,hj.symm⟩
   ·rw [ah _ _ e]at hj;exact .inr ⟨e,hj⟩
  have hblk:∀j o x k,eL (sl d) j=some o->ρ2 j=some x->blk x=some k->k≠bm:=fun j o x k ho hx hk=>by
   obtain⟨y',hy',hlt⟩:=(g2.g.ob j o ho).lt;rw [hx]at hy';injection hy' with hy';subst hy'
   have:=(hlt k hk).2.1;rw [cW]at this;exact this.2.2
  have hnn:∀ {j:Nat},eL ((id,.mp (false,n) (aQ has))::sl d) j≠none->∃o,eL ((id,.mp (false,n) (aQ has))::sl d) j=some o:=fun {j} h=>by
   cases ho:eL ((id,.mp (false,n) (aQ has))::sl d) j with
   |none=>exact absurd ho h
   |some o=>exact⟨o,rfl⟩
  refine⟨L2,ρ2,⟨⟨fun b hb=> ?_,fun b hb=> ?_,fun j o hj=> ?_,fun i j x y k hij hi hj hx hy hk hk'=> ?_,g2.g.gl⟩,g2.fr,fun t=> ?_,g3.size,?_,fun j x hj=> ?_⟩⟩;·have:=g2.g.ll b hb;rw [cL]at this;exact⟨this.1,this.2.1⟩
  ·have:=g2.g.new b hb;rw [cW,cL]at this;exact⟨this.1.1,this.2.1⟩
  ·rcases hup j o hj with⟨rfl,rfl⟩ | ⟨hne,ho⟩
   ·exact⟨bm,es,cl,hρ,e2,hLb,hb1,e5.imp fun i u x hu hr=>by
     cases i with
     |s b=>cases hu
     |i z=>
      rw [cP]at hu;split at hu;·injection hu with hu;subst hu;rw [hr.aN];exact .c _ _
      ·cases hu⟩
   ·exact(g2.g.ob j o ho).wider fun b hb=>by rw [cW]at hb;exact hb.1
  ·obtain⟨o1,ho1⟩:=hnn hi;obtain⟨o2,ho2⟩:=hnn hj;rcases hup i o1 ho1 with⟨rfl,_⟩ | ⟨hne,hi1⟩
   ·rcases hup j o2 ho2 with⟨rfl,_⟩ | ⟨hne2,hj1⟩;·exact hij rfl
    ·rw [hρ]at hx;injection hx with hx;subst hx
     simp [blk]at hk;exact hblk j o2 y k hj1 hy hk' hk.symm
   ·rcases hup j o2 ho2 with⟨rfl,_⟩ | ⟨hne2,hj1⟩
    ·rw [hρ]at hy;injection hy with hy;subst hy
     simp [blk]at hk';exact hblk i o1 x k hi1 hx hk hk'.symm
    ·exact g2.g.sep i j x y k hij (by rw [show(Ez tl sl ti r d).σ i=some o1 from hi1];simp) (by rw [show(Ez tl sl ti r d).σ j=some o2 from hj1];simp) hx hy hk hk'
  ·have h3:=g3.tm t;show R _ _ _ (bL (bL (bL (gF (tl d)) ti V.any) tn V.any) tb V.any t) _;by_cases q1:t=tb;·subst q1;rw [ak];exact .any _ _
   by_cases q2:t=tn;·subst q2;rw [ah _ _ q1,ak];exact .any _ _
   by_cases q3:t=ti;·subst q3;rw [ah _ _ q1,ah _ _ q2,ak];exact .any _ _
   rw [ah _ _ q1,ah _ _ q2]at h3;rw [ah _ _ q1,ah _ _ q2,ah _ _ q3];have:(Ez tl sl ti r d).tm t=gF (tl d) t:=ah _ _ q3;rw [this]at h3;exact h3
  ·obtain⟨Ds,h4,h5,h6⟩:=g3.defers;refine⟨Ds,by rw [<-ct];exact h4,h5,fun D hD=> ?_⟩;obtain⟨h7,h8,h9⟩:=h6 D hD;rw [cW]at h8;exact⟨h7,h8.1,h9⟩
  ·refine g2.pin j x ?_;rw [cp];by_cases e:j=id;·rw [e]at hj ⊢;rw [ak];have:=g1.pin id x hj;rw [e1]at this;exact this
   ·rw [ah _ _ e];exact hj
 ·obtain⟨hem,hes⟩:=mem_left he;obtain⟨z,hz⟩:=hkey e hem;have hdz:z∉d:=fun hc=>by have:=hs e hem z hz;rw [hes,decide_eq_true hc]at this;cases this
  have hhz:has z=true:=(hhas z).2 ⟨e,hem,hz⟩;obtain⟨w2,hw2⟩:∃w2,w2=ChangeMaps.setBlock w1 r (.mapIter (some bm) cl (seen.push e.born) cl):=⟨_,rfl⟩;have hh1:w1.heap=w'.heap:=by rcases hw1 with rfl |rfl <;> rfl
  have hh2:w2.heap=w'.heap.setIfInBounds r (.mapIter (some bm) cl (seen.push e.born) cl):=by rw [hw2];show w1.heap.setIfInBounds _ _=_;rw [hh1]
  have hrl:r< w'.heap.size:=(Array.getElem?_eq_some_iff.1 hr1).1;have hr2:w2.heap[r]?=some (.mapIter (some bm) cl (seen.push e.born) cl):=by rw [hh2,Array.getElem?_setIfInBounds];simp [hrl]
  have ho2:∀b,b≠r->w2.heap[b]?=w'.heap[b]?:=fun b hb=>by rw [hh2,Array.getElem?_setIfInBounds];simp [Ne.symm hb]
  have hb2:w2.heap[bm]?=some (.map es cl):=(ho2 bm hrb.symm).trans hb1;have hs2:w2.heap.size=w'.heap.size:=by rw [hh2];simp
  have ht2:aZ C.W w w2:=by
   refine ht.trans ⟨?_,?_,?_,by omega,fun k hk hn=>ho2 k fun he=>hn (by rw [he];exact hWr)⟩;·rw [hw2];rcases hw1 with rfl |rfl <;> rfl
   ·rw [hw2];rcases hw1 with rfl |rfl <;> rfl
   ·rw [hw2];rcases hw1 with rfl |rfl <;> rfl
  rw [<-hw2]at hrun;have g3:=g2.Pz (w':=w2) (r:=r) hs2 ho2 (by rw [cW];exact fun h=>h.2.1 rfl) (by rw [cL];exact fun h=>h.2.1 rfl);refine eE C.hF (o:=⟨some tn,.next (.tmp ti) false,ty2,p2,u2,none⟩) (v:= .tuple #[.bool true,e.key,e.val]) (w':=w2) rfl rfl rfl (by simp [execOp,hite,hrun]) ?_;rw [wpOpsIn_cons];refine eE C.hF (o:=⟨some tb,.extract (.tmp tn) 0,ty3,p3,u3,none⟩) (v:= .bool true) (w':=w2) rfl rfl rfl (by simp [execOp,Instr.extract,jq (show tn< a'.tmps.size by omega)]) ?_;simp only [wpOpsIn,Exit.then];have g4:=(g3.AN htn (v:= .any) (x:= .tuple #[.bool true,e.key,e.val]) (.any _ _)).AN htb (v:= .any) (x:= .bool true) (.any _ _);refine wpIn_seq (wpIn_cond (jq (x:= .bool true) (by simp [Act.put];omega)) ?_);refine wpIn_skip ?_;simp only [Exit.then];refine wpIn_block (wpIn_seq (wpIn_region ?_));show wpOpsIn _ _ _ _ _ [0,1,2] _ _;rw [wpOpsIn_cons];have hite2:((a'.put (some tn) (.tuple #[.bool true,e.key,e.val])).put (some tb) (.bool true)).eval (.tmp ti)= .pointer (some ⟨r,0,none⟩):=by rw [pZ n2.symm,pZ n1.symm,hite]
  refine eE C.hF (o:=⟨some te,.entry (.tmp ti),ty4,p4,u4,none⟩) (v:= .tuple #[e.key,e.val]) (w':=w2) rfl rfl rfl (by simp [execOp,hite2,run_entry_at w2 r bm cl seen es cl e hr2 hb2 hem v2]) ?_;rw [wpOpsIn_cons];refine eE C.hF (o:=⟨some tk,.extract (.tmp te) 0,ty5,p5,u5,none⟩) (v:=e.key) (w':=w2) rfl rfl rfl (by simp [execOp,Instr.extract,jq (show te< ((a'.put (some tn) (.tuple #[.bool true,e.key,e.val])).put (some tb) (.bool true)).tmps.size by simp [Act.put];omega)]) ?_;rw [wpOpsIn_cons];refine eE C.hF (o:=⟨some tf,.assign (.tmp tk),ty6,p6,u6,none⟩) (v:=e.key) (w':=w2) rfl rfl rfl (by simp [execOp,jq (show tk< (((a'.put (some tn) (.tuple #[.bool true,e.key,e.val])).put (some tb) (.bool true)).put (some te) (.tuple #[e.key,e.val])).tmps.size by simp [Act.put];omega)]) ?_;simp only [wpOpsIn,Exit.then];have g5:=((g4.AN hte (v:= .any) (x:= .tuple #[e.key,e.val]) (.any _ _)).AN htk (v:= .any) (x:=e.key) (.any _ _)).AN htf (v:= .i z) (x:=e.key) (by rw [hz];exact .c _ _);have hb:=hround C' cF r d z hhz hdz _ _ ⟨L2,ρ2,g5⟩;rw [cF]at hb;refine wpIn_mono hb ?_;rintro e' a'' w'' ⟨s',hwt,g',t'⟩;obtain⟨rfl,hle⟩:e'= .normal/\Le s' (Ez tl sl ti r (z::d)):=hwt;simp only [Exit.inBlock,Exit.then];refine⟨_,left_shrinks es seen e he,z::d,seen.push e.born,hle C' _ _ g',?_,?_,?_,?_,List.nodup_cons.2 ⟨hdz,hdn⟩,rfl,ht2.trans (t'.mono fun k _ hk=>by rw [cW]at hk;exact hk.1)⟩;·exact(t'.block r oM (by rw [cW];exact fun h=>h.2.1 rfl)).trans hr2
  ·exact(t'.block bm (by have:=(Array.getElem?_eq_some_iff.1 hb2).1;exact this) (by rw [cW];exact fun h=>h.2.2 rfl)).trans hb2
  ·intro e2 he2 z2 hz2;rw [contains_push,hs e2 he2 z2 hz2];have hsp:decide (z2∈z::d)=(decide (z2∈d) || decide (z2=z)):=by simp [List.mem_cons,or_comm,Bool.or_comm]
   rw [hsp];by_cases hq:z2=z
   ·have:e2=e:=by
     have hk2:e2.key=e.key:=by rw [hz2,hz,hq]
     have key:∀(l:List MapEntry),(l.map (·.key)).Nodup->e2∈l->e∈l->e2=e:=by
      intro l;induction l with
      |nil=>intro _ h;cases h
      |cons c l ih=>
       intro hn h1 h2;rw [List.map_cons,List.nodup_cons]at hn;rcases List.mem_cons.1 h1 with g1 |g1
       ·rcases List.mem_cons.1 h2 with g2 |g2;·rw [g1,g2]
        ·exact absurd (List.mem_map.2 ⟨e,g2,by rw [<-hk2,g1]⟩) hn.1
       ·rcases List.mem_cons.1 h2 with g2 |g2;·exact absurd (List.mem_map.2 ⟨e2,g1,by rw [hk2,g2]⟩) hn.1
        ·exact ih hn.2 g1 g2
     exact key es.toList v1 he2 hem
    subst this;simp [hq]
   ·have:e2.born≠e.born:=fun hb=>hq (by have:=born_inj v2 he2 hem hb;subst this;rw [hz]at hz2;injection hz2 with _ hz2;exact hz2.symm);simp [hq,this]
  ·intro z2 hz2;rcases List.mem_cons.1 hz2 with h |h;·rw [h];exact hhz
   ·exact hd z2 h
end
def qS(nm:Nat->Nat)(n:Nat)(x:Nat->Value)(ρ:Nat->Option Value):Prop:=∀i,i< n->∃b,ρ (nm i)=some (.pointer (some ⟨b,0,none⟩))/\x i= .pointer (some ⟨b,0,none⟩)
def Bs(nm:Nat->Nat)(n:Nat)(x:Nat->Value)(o o':Ob):Prop:=∀(W L:Nat->Prop) (w:World) (ρ:Nat->Option Value) (id:Nat),qS nm n x ρ->Real W w L ρ id o->Real W w L ρ id o'
theorem Bs.refl(nm:Nat->Nat)(n:Nat)(x:Nat->Value)(o:Ob):Bs nm n x o o:=fun _ _ _ _ _ _ h=>h
inductive Km(nm:Nat->Nat)(n:Nat)(x:Nat->Value):List (Nat×Option Ob)->List (Nat×Option Ob)->Prop
  |nil:Km nm n x [] []
  |none (k:Nat){l l':List (Nat×Option Ob)}(h:Km nm n x l l'):Km nm n x ((k,none)::l) ((k,none)::l')
  |some (k:Nat){o o':Ob}{l l':List (Nat×Option Ob)}(c:Bs nm n x o o') (h:Km nm n x l l'):Km nm n x ((k,some o)::l) ((k,some o')::l')
def Lf(nm:Nat->Nat)(n:Nat)(x:Nat->Value):Option Ob->Option Ob->Prop
 |none,none=>True
 |some o,some o'=>Bs nm n x o o'
 |_,_=>False
theorem Km.bG{nm:Nat->Nat}{n:Nat}{x:Nat->Value}{l l':List (Nat×Option Ob)}(h:Km nm n x l l'):∀ {σ σ':Nat->Option Ob},(∀j,Lf nm n x (σ j) (σ' j))->∀j,Lf nm n x (Ab.bG σ l j) (Ab.bG σ' l' j):=by
 induction h with
 |nil=>intro σ σ' h;exact h
 |none k _ ih=>
  intro σ σ' h;refine ih (σ:=bL σ k Option.none) (σ':=bL σ' k Option.none) fun j=> ?_;by_cases e:j=k;·subst e;rw [ak,ak];exact trivial
  ·rw [ah _ _ e,ah _ _ e];exact h j
 | @some k o o' _ _ c _ ih=>
  intro σ σ' h;refine ih (σ:=bL σ k (.some o)) (σ':=bL σ' k (.some o')) fun j=> ?_;by_cases e:j=k;·subst e;rw [ak,ak];exact c
  ·rw [ah _ _ e,ah _ _ e];exact h j
theorem Lf.refl{nm:Nat->Nat}{n:Nat}{x:Nat->Value}(a:Option Ob):Lf nm n x a a:=by
 cases a with
 |none=>exact trivial
 |some o=>exact Bs.refl _ _ _ _
theorem Lf.some{nm:Nat->Nat}{n:Nat}{x:Nat->Value}{a:Option Ob}{o:Ob}(h:Lf nm n x a (some o)):∃o',a=some o'/\Bs nm n x o' o:=by
 cases a with
 |none=>exact h.elim
 |some o'=>exact⟨o',rfl,h⟩
theorem Bs.row{nm:Nat->Nat}{n m:Nat}{x:Nat->Value}{e:TypeId}{r r':Nat->List V}
 (h:∀i,i< m->∃u u',r i=[u]/\r' i=[u']/\∀(w:World) (L:Nat->Prop) (ρ:Nat->Option Value) (y:Value),qS nm n x ρ->R w L ρ u y->R w L ρ u' y):Bs nm n x (.row e 1 m r) (.row e 1 m r'):=
 fun _ _ w ρ _ hp hr=>hr.fR fun i hi=>by obtain⟨u,u',h1,h2,h3⟩:=h i hi;exact⟨u,u',h1,h2,fun y hy=>h3 w _ ρ y hp hy⟩
inductive gI(nm:Nat->Nat)(x:Nat->Value)(i:Nat):V->Prop
  |ref:gI nm x i (.ref (nm i) 0)
  |c:gI nm x i (.c (x i))
  |alt (k:Nat):gI nm x i (.alt (decide (i=k)) (.ref (nm k) 0) (.c (x i)))
theorem gI.of{nm:Nat->Nat}{n:Nat}{x:Nat->Value}{i:Nat}{u:V}(h:gI nm x i u)(hi:i< n){w:World}{L:Nat->Prop}{ρ:Nat->Option Value}{y:Value}(hp:qS nm n x ρ)(hr:R w L ρ u y):y=x i:=by
 obtain⟨b,h1,h2⟩:=hp i hi;have key:∀ {y:Value},R w L ρ (.ref (nm i) 0) y->y=x i:=fun {y} h=>by
  obtain⟨b',rfl,h4⟩:=h.iS;rw [h1]at h4;injection h4 with h4
  rw [h2,h4]
 cases h with
 |ref=>exact key hr
 |c=>exact hr.aN
 |alt k=>
  by_cases e:i=k;·subst e;exact key (hr.BA (by simp))
  ·exact(hr.Ks (by simp [e])).aN
theorem gI.to{nm:Nat->Nat}{n:Nat}{x:Nat->Value}{i:Nat}{u:V}(h:gI nm x i u)(hi:i< n){w:World}{L:Nat->Prop}{ρ:Nat->Option Value}(hp:qS nm n x ρ):R w L ρ u (x i):=by
 obtain⟨b,h1,h2⟩:=hp i hi;have key:R w L ρ (.ref (nm i) 0) (x i):=by rw [h2];exact .ref _ _ _ _ h1
 cases h with
 |ref=>exact key
 |c=>exact .c _ _
 |alt k=>
  by_cases e:i=k;·subst e;exact .ES (by simp) key
  ·exact .ET (by simp [e]) (.c _ _)
theorem gI.conv{nm:Nat->Nat}{n:Nat}{x:Nat->Value}{i:Nat}{u u':V}(h:gI nm x i u)(k:gI nm x i u')(hi:i< n){w:World}{L:Nat->Prop}{ρ:Nat->Option Value}{y:Value}(hp:qS nm n x ρ)(hr:R w L ρ u y):R w L ρ u' y:=by rw [h.of hi hp hr];exact k.to hi hp
theorem Bs.sY{nm:Nat->Nat}{n:Nat}{x:Nat->Value}{e:TypeId}{c c':Nat->V}(h:∀i,i< n->gI nm x i (c i))(h':∀i,i< n->gI nm x i (c' i)):Bs nm n x (.row e 1 n fun i=>[c i]) (.row e 1 n fun i=>[c' i]):= .row fun i hi=>⟨c i,c' i,rfl,rfl,fun _ _ _ _ hp hr=>(h i hi).conv (h' i hi) hi hp hr⟩
theorem Bs.HM{nm:Nat->Nat}{n:Nat}{x:Nat->Value}{e:TypeId}{c:Nat->V}{p:Nat}(h:∀i,i< n->gI nm x i (c i)):Bs nm n x (.row e 1 (n+1) fun i=>[.alt (decide (i< n)) (c i) (.ref p 0)]) (.row e 1 (n+1) fun i=>[.ref (if i< n then nm i else p) 0]):= .row fun i hi=>⟨_,_,rfl,rfl,fun _ _ _ _ hp hr=>by
 by_cases hi':i< n;·rw [if_pos hi'];exact(h i hi').conv .ref hi' hp (hr.BA (by simp [hi']))
 ·rw [if_neg hi'];exact hr.Ks (by simp [hi'])⟩
theorem aU.const{P:Program}{W LB:Nat->Prop}{o:Oper}{ev:Operand->V}{v:V}{nw:List Nat}{id n:Nat}{e:TypeId}{nm:Nat->Nat}{rx:(Nat->Value)->Nat->V}{pre:List (Nat×Ob)}{δ:(Nat->Value)->List (Nat×Option Ob)}{δf:List (Nat×Option Ob)}
    (h:∀x,aU P W LB o ev v ((id,.row e 1 n fun i=>[rx x i])::pre) nw (δ x)) (hne:∀p∈pre,p.1≠id) (ht:∀x i,i< n->gI nm x i (rx x i)) (hδ:∀x,Km nm n x (δ x) δf) :
    aU P W LB o ev v ((id,.row e 1 n fun i=>[.ref (nm i) 0])::pre) nw δf:=by
  intro σ w L ρ g hG hr hpre hnew
  have hσ:=hpre (id,.row e 1 n fun i=>[.ref (nm i) 0]) (by simp)
  have hrow:=hG.ob id _ hσ
  have hp:∀i,i< n->∃b,ρ (nm i)=some (.pointer (some ⟨b,0,none⟩)):=by
    obtain⟨v',xs,q1,q2,q3,q4,q5⟩:=hrow
    intro i hi
    have g':=flat_get (cq q3) (bK (row:=fun i=>[V.ref (nm i) 0]) hi) (show 0< 1 by decide)
    rw [Nat.mul_one,Nat.add_zero]at g'
    obtain⟨y,_,hy,_⟩:=q4.get (g'.trans rfl)
    obtain⟨b,_,hb⟩:=hy.iS
    exact⟨b,hb⟩
  obtain⟨x,hx⟩:∃x:Nat->Value,x=fun i=>(ρ (nm i)).getD undef:=⟨_,rfl⟩
  have hpt:qS nm n x ρ:=fun i hi=>by obtain⟨b,hb⟩:=hp i hi;exact⟨b,hb,by rw [hx];simp only [hb,Option.getD_some]⟩
  have cin:Bs nm n x (.row e 1 n fun i=>[.ref (nm i) 0]) (.row e 1 n fun i=>[rx x i]):= .sY (fun _ _=> .ref) (ht x)
  have cout:Bs nm n x (.row e 1 n fun i=>[rx x i]) (.row e 1 n fun i=>[.ref (nm i) 0]):= .sY (ht x) (fun _ _=> .ref)
  have hG':G W LB (bL σ id (some (.row e 1 n fun i=>[rx x i]))) w L ρ:=by
    refine⟨hG.ll,hG.new,fun j ob ho=> ?_,fun i j y z k hij hi hj=>hG.sep i j y z k hij ?_ ?_,hG.gl⟩
    · by_cases ej:j=id
      · subst ej;rw [ak]at ho;injection ho with ho;subst ho
        exact cin _ _ _ _ _ hpt hrow
      · rw [ah _ _ ej]at ho;exact hG.ob j ob ho
    · by_cases ei:i=id
      · rw [ei,hσ];simp
      · rwa [ah _ _ ei]at hi
    · by_cases ej:j=id
      · rw [ej,hσ];simp
      · rwa [ah _ _ ej]at hj
  refine(h x _ w L ρ g hG' hr (fun p hp=> ?_) hnew).mono ?_
  · rcases List.mem_cons.1 hp with rfl |hp
    · exact ak _ _ _
    · rw [ah _ _ (hne p hp)];exact hpre p (by simp [hp])
  rintro xv w' ⟨L',ρ',hG2,hv,ht',hx',hρ,hk⟩
  have hpt':qS nm n x ρ':=fun i hi=>by obtain⟨b,h1,h2⟩:=hpt i hi;exact⟨b,hx'.r _ _ h1,h2⟩
  have hrel:∀j,Lf nm n x (Ab.bG (bL σ id (some (.row e 1 n fun i=>[rx x i]))) (δ x) j) (Ab.bG σ δf j):=(hδ x).bG fun j=>by
    by_cases ej:j=id
    · rw [ej,ak,hσ];exact cout
    · rw [ah _ _ ej];exact .refl _
  refine⟨L',ρ',⟨hG2.ll,hG2.new,fun j ob ho=> ?_,fun i j y z k hij hi hj=>hG2.sep i j y z k hij ?_ ?_,hG2.gl⟩,hv,ht',hx',hρ,hk⟩
  · have:=hrel j
    rw [ho]at this
    obtain⟨o',h1,h2⟩:=this.some
    exact h2 _ _ _ _ _ hpt' (hG2.ob j o' h1)
  · intro hc;have:=hrel i;rw [hc]at this
    cases ho:Ab.bG σ δf i with
    |none=>exact hi ho
    |some o=>rw [ho]at this;exact this.elim
  · intro hc;have:=hrel j;rw [hc]at this
    cases ho:Ab.bG σ δf j with
    |none=>exact hj ho
    |some o=>rw [ho]at this;exact this.elim
def ED(s s':S):Prop:=∀(P:Program) (N:Nat) (C:Cx P N) a w,C.dfs=rD->Gm C s a w->Gm C s' a w
theorem Le.d{s s':S}(h:Le s s'):ED s s':=fun _ _ C a w _ g=>h C a w g
theorem ED.trans{s s' s'':S}(h:ED s s')(k:ED s' s''):ED s s'':=fun _ _ C a w hd g=>k _ _ C a w hd (h _ _ C a w hd g)
theorem B3{tm:Nat->V}{σ σ':Nat->Option Ob}{nx:Nat}{tl:List (Nat×V)}(h:Nat->Nat)(hσ:∀id o,σ' id=some o->∃ob,σ (h id)=some ob/\fH ob (o.bD h)) (hinj:∀i j,σ' i≠none->σ' j≠none->h i=h j->i=j) (hfr:∀id,100000<=id->nx*100000<=h id) (htm:m7 (fun p=>tm p.1=p.2.bD h) tl):ED ⟨tm,σ,nx⟩ ⟨gF tl,σ',1⟩:=by
 intro P N C a w hd ⟨L,ρ,g⟩;refine⟨L,fun id=>ρ (h id),⟨⟨g.g.ll,g.g.new,fun id o ho=> ?_,fun i j x y k hij hi hj hx hy hk=> ?_,g.g.gl⟩,fun id (hid:1*100000<=id)=>g.fr _ (hfr id (Nat.le_trans (Nat.le_of_eq (Nat.one_mul 100000).symm) hid)),fun t=> ?_,g.size,g.defers,fun id x hp=> ?_⟩⟩;·obtain⟨ob,h1,h2⟩:=hσ id o ho;exact((g.g.ob _ _ h1).eq h2).bD
 ·have e:∀i,σ' i≠none->σ (h i)≠none:=fun i hi=>by
   cases ho:σ' i with
   |none=>exact absurd ho hi
   |some o=>obtain⟨ob,h1,_⟩:=hσ i o ho;rw [h1];simp
  exact g.g.sep (h i) (h j) x y k (fun he=>hij (hinj i j hi hj he)) (e i hi) (e j hj) hx hy hk
 ·have key:∀tl:List (Nat×V),m7 (fun p=>tm p.1=p.2.bD h) tl->R w L (fun id=>ρ (h id)) (gF tl t) (a.tmps.getD t undef):=by
   intro tl;induction tl with
   |nil=>intro _;exact .any _ _
   |cons p tl ih=>
    rintro⟨h1,h2⟩;show R w _ _ (bL (gF tl) p.1 p.2 t) _;by_cases ht:t=p.1;·subst ht;rw [ak];have h5:R w L ρ (tm p.1) _:=g.tm p.1;rw [h1]at h5;exact kC _ _ _ h5
    ·rw [ah _ _ ht];exact ih h2
  exact key tl htm
 ·rw [hd]at hp;cases hp
theorem aU.yK{P:Program}{W LB:Nat->Prop}{o:Oper}{ev:Operand->V}{v:V}{pre pre':List (Nat×Ob)}{nw:List Nat}{δ:List (Nat×Option Ob)}(h:aU P W LB o ev v pre nw δ)(hp:∀p∈pre,p∈pre'):aU P W LB o ev v pre' nw δ:= fun σ w L ρ g hG hr hpre hn=>h σ w L ρ g hG hr (fun p hm=>hpre p (hp p hm)) hn
section
variable {next:S->Prop}{Q:Exit->S->Prop}{s:S}{ch:List PanicEntry}{id:Nat}
end
section
variable {T:List TI}{P:Program}
end
theorem jo{tm:Nat->V}{σ:Nat->Option Ob}{nx:Nat}(id j:Nat){t:TypeId}{cs:List V}(e sz:Nat)(row:Nat->List V)(h:σ id=some (.box t cs))(hj:cs[j]?=some .nil)(hid:decide (id< nx*100000)=true)(hjl:decide (j< 100000)=true) : Le ⟨tm,σ,nx⟩ ⟨tm,bL (bL σ (nx*100000+j) (some (.row e sz 0 row))) id (some (.box t (cs.set j (.own (nx*100000+j))))),nx+1⟩:=by
 intro P N C a w ⟨L,ρ,g⟩;have hjl:=of_decide_eq_true hjl;have hid:=of_decide_eq_true hid;have hn:ρ (nx*100000+j)=none:=g.fr _ (Nat.le_add_right _ _);obtain⟨hG,ex⟩:=g.g.put (w':=w) (σ1:=σ) (ρ':=bL ρ (nx*100000+j) (some (.slice none 0 0))) (World.grownBy.refl w none) (by simp) (nx*100000+j) _ (.row e sz 0 row) (fun i o hi ho=>⟨ho,by simp⟩) (fun i hi=>ah _ _ hi) (ak _ _ _) (.inl hn) (fun k hk=>by simp [blk]at hk)
  (fun ex=>⟨_,[],ak _ _ _,World.ownsRow_nil _ _ _ _,fun i hi=>by omega,by simp [aE];exact .nil,fun k hk=>by simp [blk]at hk⟩)
 obtain⟨ρ1,hρ1⟩:∃ρ1,ρ1=bL ρ (nx*100000+j) (some (.slice none 0 0)):=⟨_,rfl⟩;rw [<-hρ1]at hG ex;have hne:id≠nx*100000+j:=by omega
 have h1:bL σ (nx*100000+j) (some (.row e sz 0 row)) id=some (.box t cs):=by rw [ah _ _ hne];exact h
 obtain⟨b,xs,q1,q2,q3,q4,q5⟩:=hG.ob id _ h1;have hch:∀k,some b=some k->C.W k/\¬L k:=by rintro k hk;injection hk with hk;subst hk;exact⟨q2,q3⟩
 have hjx:j< xs.toList.length:=by rw [<-q5.1];exact(List.getElem?_eq_some_iff.1 hj).1
 have hxj:xs.toList[j]?=some (.slice none 0 0):=by have e1:xs.toList[j]?=some xs.toList[j]:=List.getElem?_eq_getElem hjx;have:=(q5.2 j _ _ hj e1).1;rw [e1];generalize xs.toList[j]=q at this;cases this;rfl
 have hset:xs.toList.set j (.slice none 0 0)=xs.toList:=by
  apply List.ext_getElem?;intro i;rw [List.getElem?_set];by_cases hij:j=i;·subst hij;rw [if_pos rfl,if_pos hjx,hxj]
  ·rw [if_neg hij]
 obtain⟨hG2,ex2⟩:=hG.put (w':=w) (σ1:=bL σ (nx*100000+j) (some (.row e sz 0 row))) (ρ':=ρ1) (World.grownBy.refl w (some b)) hch id _ (.box t (cs.set j (.own (nx*100000+j)))) (fun i o hi ho=>⟨ho,fun z hz k hk hkz=>by
   injection hk with hk;subst hk;exact hG.sep i id z _ b hi (by rw [ho];simp) (by rw [h1];simp) hz q1 hkz rfl⟩) (fun _ _=>rfl) q1 (.inr q1) (fun k hk=> .inl (by simpa [blk]using hk)) (fun ex3=>
   ⟨b,xs,q1,q2,q3,q4,by have:=(q5.ext ex3).set j (u:= .own (nx*100000+j)) (x:= .slice none 0 0) (.own _ _ _ (by rw [hρ1,ak]) rfl) rfl;rwa [hset]at this⟩)
 refine⟨L,ρ1,⟨hG2,fun i hi=> ?_,fun t'=>(g.tm t').ext ex,g.size,g.defers,fun i x hp=>ex.r i x (g.pin i x hp)⟩⟩;have hi':(nx+1)*100000<=i:=hi;rw [hρ1,ah _ _ oM];exact g.fr i (Nat.le_trans (Nat.mul_le_mul_right _ (Nat.le_succ nx)) hi')
theorem AC.sP{P:Program}{f:FuncId}{args:List V}{v v':V}{e:TypeId}{sz n n':Nat}{row row':Nat->List V}(h:AC P f args v [.row e sz n row])(hn:n=n')(hr:∀i,i< n->row i=row' i)(hi:∀i,V.bA (row' i)=true)(hv:V.fz 0 (.sl sz n' row') v=v')(hidf:v'.ck=true):AC P f args v' []:=by
 subst hn;refine⟨h.1,fun L w vs hL hgl hvs=>(h.2 L w vs hL hgl hvs).mono ?_⟩;rintro ee w' ⟨x,rfl,hb,L',ρ',hG,hL',hx,hnn⟩;have hre:Real (fun b=>w.heap.size<=b) w' L' ρ' 0 (.row e sz n row'):=(hG.ob 0 _ rfl).eq ⟨rfl,rfl,rfl,hr⟩;obtain⟨v0,hv0,hlt,hs⟩:=hre.slice fun i _=>hi i;have ex:Ext w' L' ρ' w' (fun b=>L' b\/blk v0=some b) ρ':=⟨fun b hb=>⟨.inl hb,rfl⟩,fun _ _ h=>h⟩;refine⟨x,rfl,hb,fun b=>L' b\/blk v0=some b,ρ0,⟨fun b hbl=> ?_,hG.new,(fun id o ho=>by cases ho),fun i j y z k _ hi=>absurd rfl hi,hG.tN ex⟩,fun b hbl=> .inl (hL' b hbl),?_,fun _ _=>rfl⟩
 ·rcases hbl with h1 |h1;·exact hG.ll b h1
  ·exact⟨(hlt b h1).1,.inr (hlt b h1).2.1⟩
 ·subst hv;refine(nc (fun y hy=> ?_) v x (hx.ext ex)).free hidf ρ0;rw [hv0]at hy;injection hy with hy;subst hy;exact hs
end Go.Ab
