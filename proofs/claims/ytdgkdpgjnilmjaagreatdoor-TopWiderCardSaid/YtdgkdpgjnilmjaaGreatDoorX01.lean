/-
  Several texts in one: Contracts that read a slice, called with a row of the caller's that stays: results of numbers and of new rows of numbers. No condition. .. Calls of contracts that read, in a walk: objects that stay. No condition but those told in each theorem.
-/
import Derived.LoopNIn
import Derived.Test.YtdgkdpgjnilmjaaGreatDoorX00
import Derived.Test.YtdgkdpgjnilmjaaGreatDoorMD
import Derived.Test.YtdgkdpgjnilmjaaGreatDoorMB
namespace Go.Ab
open Go.RowKit Go.Dw
def V.lM(pn:List Nat):V->Bool
 | .tup cs=>V.cA pn cs
 |v=>v.bW pn
theorem R.lM{pn:List Nat}{w w':World}{L L':Nat->Prop}{ρ ρ':Nat->Option Value}{u:V}{x:Value}(h:R w L ρ u x)(hf:u.lM pn=true)(hρ:∀id∈pn,∀v,ρ id=some v->ρ' id=some v):R w' L' ρ' u x:=by
 cases u with
 |tup cs=>obtain⟨xs,rfl,hx⟩:=h.jF;exact .rT ⟨hx.1,fun i v y hv hy=>(hx.2 i v y hv hy).bW (V.gY hf hv) hρ⟩
 |_=>exact h.bW hf hρ
def Ob.vm:Ob->Prop
 | .row _ _ n r=>∀i,i< n->∀u∈r i,u.vm=true
 |_=>False
section
variable {P:Program}{N:Nat}{C:Cx P N}{ops:Array Oper}{nx:Nat}{os:List Oper}{tm:Nat->V}{σ:Nat->Option Ob}{ks:List (List Nat×List Nat)}{K:(Nat->V)->(Nat->Option Ob)->List (List Nat×List Nat)->Prop}{ty:TypeId}{pos:String}{af:Array Edge}
end
def zh(σ:Nat->Option Ob)(ρ:Nat->Option Value)(b:Nat):Prop:=∃id x,σ id≠none/\ρ id=some x/\blk x=some b
inductive Fz(σ:Nat->Option Ob):V->V->Prop
  |bX (v:V) (h:v.bX=true):Fz σ v v
  |any (v:V):Fz σ v .any
  |agg (cs cs':List V) (hl:cs'.length=cs.length) (h:∀(i:Nat) u u',cs[i]?=some u->cs'[i]?=some u'->Fz σ u u'):Fz σ (.agg cs) (.agg cs')
  |tup (cs cs':List V) (hl:cs'.length=cs.length) (h:∀(i:Nat) u u',cs[i]?=some u->cs'[i]?=some u'->Fz σ u u'):Fz σ (.tup cs) (.tup cs')
  |ref (id off:Nat) (t:TypeId) (cs cs':List V) (hσ:σ id=some (.box t cs)) (hl:cs'.length<=(cs.drop off).length) (h:∀(i:Nat) u u',(cs.drop off)[i]?=some u->cs'[i]?=some u'->Fz σ u u'):Fz σ (.ref id off) (.ptr cs')
  |own (id:Nat) (e:TypeId) (sz n:Nat) (r r':Nat->List V) (hσ:σ id=some (.row e sz n r)) (hl:∀i,i< n->(r' i).length=(r i).length) (h:∀(i j:Nat) u u',i< n->(r i)[j]?=some u->(r' i)[j]?=some u'->Fz σ u u'):Fz σ (.own id) (.sl sz n r')
  |alt (b:Bool) (u v u' v':V) (h:Fz σ u u') (k:Fz σ v v'):Fz σ (.alt b u v) (.alt b u' v')
  |mp (id n:Nat) (s:Bool) (f:MF) (has:MK->Bool) (hσ:σ id=some (.mp (s,n) f)) (h:∀k:MK,k.str=s->(f.look k).isSome=has k/\∀u,f.look k=some u->u= .agg []\/u= .c (.agg #[])):Fz σ (.own id) (.fset s has)
theorem Fz.mono{σ σ':Nat->Option Ob}(h:∀id o,σ id=some o->σ' id=some o){u u':V}(k:Fz σ u u'):Fz σ' u u':=by
 induction k with
 |bX v h=>exact .bX v h
 |any v=>exact .any v
 |agg cs cs' hl _ ih=>exact .agg cs cs' hl ih
 |tup cs cs' hl _ ih=>exact .tup cs cs' hl ih
 |ref id off t cs cs' hσ hl _ ih=>exact .ref id off t cs cs' (h _ _ hσ) hl ih
 |own id e sz n r r' hσ hl _ ih=>exact .own id e sz n r r' (h _ _ hσ) hl ih
 |alt b u v u' v' _ _ ih ih'=>exact .alt b u v u' v' ih ih'
 |mp id n s f has hσ hk=>exact .mp id n s f has (h _ _ hσ) hk
theorem R.Ji{W LB L:Nat->Prop}{σ:Nat->Option Ob}{w:World}{ρ:Nat->Option Value}(hG:G W LB σ w L ρ){u u':V}(k:Fz σ u u'):∀x,R w L ρ u x->R w (fun b=>L b\/zh σ ρ b) ρ0 u' x:=by
 induction k with
 |bX v hi=>exact fun x h=>(h.free hi ρ0).mono (fun b hb=>⟨.inl hb,rfl⟩) fun _ _ h=>h
 |any v=>exact fun x _=> .any _ _
 |agg cs cs' hl _ ih=>
  intro x h;obtain⟨xs,rfl,hx⟩:=h.c9;refine .j5 ⟨by rw [hl];exact hx.1,fun i v y hv hy=> ?_⟩;have hi:i< cs.length:=by rw [<-hl];exact(List.getElem?_eq_some_iff.1 hv).1
  exact⟨ih i _ v (List.getElem?_eq_getElem hi) hv y (hx.2 i _ y (List.getElem?_eq_getElem hi) hy).1,(hx.2 i _ y (List.getElem?_eq_getElem hi) hy).2⟩
 |tup cs cs' hl _ ih=>
  intro x h;obtain⟨xs,rfl,hx⟩:=h.jF;refine .rT ⟨by rw [hl];exact hx.1,fun i v y hv hy=> ?_⟩;have hi:i< cs.length:=by rw [<-hl];exact(List.getElem?_eq_some_iff.1 hv).1
  exact ih i _ v (List.getElem?_eq_getElem hi) hv y (hx.2 i _ y (List.getElem?_eq_getElem hi) hy)
 |ref id off t cs cs' hσ hl _ ih=>
  intro x h;obtain⟨b,rfl,hρ⟩:=h.fW;obtain⟨b',xs,q1,q2,q3,q4,q5⟩:=hG.ob id _ hσ;rw [hρ]at q1;injection q1 with q1
  have hbb:b=b':=by injection q1 with q1;injection q1 with q1;injection q1
  subst hbb;refine .ptr' (.inr ⟨id,_,by rw [hσ];simp,hρ,rfl⟩) fun j v hv=> ?_;have hj:j< (cs.drop off).length:=Nat.lt_of_lt_of_le (List.getElem?_eq_some_iff.1 hv).1 hl;have hu:=List.getElem?_eq_getElem hj;have hu2:=hu;rw [List.getElem?_drop]at hu2;obtain⟨y,hy,hr,h1⟩:=q5.get hu2;refine⟨y,?_,h1,ih j _ v hu hv y hr⟩;rw [cell_of_row w b _ xs t (0,0) q4];simpa using hy
 |own id e sz n r r' hσ hl _ ih=>
  intro x h;have hx:=h.cy;obtain⟨v,xs,hv,hown,hsz,hrl,hb⟩:=hG.ob id _ hσ;rw [hv]at hx;injection hx with hx;subst hx
  obtain⟨A,c,hA⟩:∃A c,v= .slice A n c:=by
   rcases hown.2 with⟨h1,h2⟩ | ⟨g',cap,cur,h1,_⟩;·exact⟨_,_,by rw [h1,h2]⟩
   ·exact⟨_,_,h1⟩
  have hcap:n<=c:=by
   rcases hown.2 with⟨h1,h2⟩ | ⟨g',cap,cur,h1,_,_,h3,_⟩;·omega
   ·rw [h1]at hA;injection hA with _ _ hA3;omega
  have hbl:∀k,blk v=some k->zh σ ρ k:=fun k hk=>⟨id,v,by rw [hσ];simp,hv,hk⟩;rw [hA];refine .BG hcap fun hpos=> ?_;rcases hown.2 with⟨_,h2⟩ | ⟨g',cap,cur,h1,_,hh,hc1,hc2,hc3,hc4⟩;·omega
  ·rw [h1]at hA;injection hA with hA1 hA2 hA3;refine⟨g',0,hA1.symm,.inr (hbl _ (by rw [h1];rfl)),fun i hi=>by rw [hl i hi];exact hsz i hi,fun i j u hil hu=> ?_⟩;have hj':j< (r i).length:=by rw [<-hl i hil];exact(List.getElem?_eq_some_iff.1 hu).1
   have hj:j< sz:=by rw [<-hsz i hil];exact hj'
   have hu0:=List.getElem?_eq_getElem hj';have hfl:(aF n r).flatten[i*sz+j]?=some (r i)[j]:=by rw [flat_get (cg hsz) (bD hil) hj,hu0]
   obtain⟨y,hy,hry,hone⟩:=hrl.get hfl;refine⟨y,?_,hone,ih i j _ u hil hu0 hu y hry⟩;rw [cell_of_row w g' _ cur e (0,0) hh,Nat.zero_add];rw [<-hc4,List.getElem?_take]at hy;split at hy;·simpa using hy
   ·cases hy
 |alt b u v u' v' _ _ ih ih'=>
  intro x h;cases h with
  |alt _ _ _ _ _ h1 h2=>exact .alt _ _ _ _ _ (fun hb=>ih _ (h1 hb)) fun hb=>ih' _ (h2 hb)
 |mp id n s f has hσ hk=>
  intro x h;have hx:=h.cy;obtain⟨b,es,cl,q1,q2,q3,q4,q5⟩:=hG.ob id _ hσ;rw [q1]at hx;injection hx with hx;subst hx
  refine .fset _ _ _ b es cl (.inr ⟨id,_,by rw [hσ];simp,q1,rfl⟩) q4 q5.1 fun k hks=> ?_;rw [<-(hk k hks).1];cases hm:aW k es.toList with
  |none=>rw [q5.2.2.1 k hks hm];exact⟨rfl,fun y h=>by cases h⟩
  |some y=>
   obtain⟨u,hu,hr⟩:=q5.2.1 k y hks hm;rw [hu];refine⟨rfl,fun y' h=> ?_⟩;injection h with h;subst h;rcases(hk k hks).2 u hu with rfl |rfl;·obtain⟨xs,rfl,hx⟩:=hr.c9;have:xs.toList=[]:=List.eq_nil_of_length_eq_zero hx.1.symm;rw [show xs= #[]from by simpa using this]
   ·exact hr.aJ
def lY(pre:List (Nat×Ob))(id:Nat):Option Ob:=(pre.find? (·.1 == id)).map (·.2)
theorem Bo{pre:List (Nat×Ob)}{id:Nat}{o:Ob}(h:lY pre id=some o):(id,o)∈pre:=by
 unfold lY at h;cases hf:pre.find? (·.1 == id)with
 |none=>rw [hf]at h;cases h
 |some p=>rw [hf]at h;injection h with h;have h1:=List.find?_some hf;have h2:=List.mem_of_find?_eq_some hf;obtain⟨a,b⟩:=p;simp only [beq_iff_eq]at h1;subst h1 h;exact h2
theorem C1(g:Nat->Nat){u:V}(h:u.vm=true):u.bg g=u:=by cases u <;> first |rfl |simp [V.vm]at h
theorem tV(g:Nat->Nat):∀ {l:List V},(∀u∈l,u.vm=true)->V.aP g l=l
 | [],_=>rfl
 |u::l,h=>by rw [V.aP,C1 g (h u (by simp)),tV g fun v hv=>h v (by simp [hv])]
theorem vn(g:Nat->Nat){o:Ob}(h:o.vm){id:Nat}{W L:Nat->Prop}{w:World}{ρ:Nat->Option Value}:Real W w L ρ id (o.bg g)<->Real W w L ρ id o:=by
 cases o with
 |row e sz n r=>have hr:∀i,i< n->V.aP g (r i)=r i:=fun i hi=>tV g (h i hi);exact⟨fun k=>k.eq ⟨rfl,rfl,rfl,hr⟩,fun k=>k.eq ⟨rfl,rfl,rfl,fun i hi=>(hr i hi).symm⟩⟩
 |_=>exact h.elim
section
variable {P:Program}{W LB:Nat->Prop}{d:Option Tmp}{ty:TypeId}{pos:String}{af:Array Edge}{gd:Option (Nat×Bool)}{ev:Operand->V}
theorem sC{fo:Operand}{ar:Array Operand}{ats:Array TypeId}{f:FuncId}{first caps args args':List V}{v:V}{obs:List Ob}(hc:AC P f args' v obs)(hf:ev fo= .fn (.func f) first caps)(hargs:first++ar.toList.map ev++caps=args)(pre:List (Nat×Ob)) (hl:args'.length=args.length) (hfz:∀(i:Nat) u u',args[i]?=some u->args'[i]?=some u'->Fz (lY pre) u u') (hv:v.lM (List.range obs.length)=true) (hC:∀o∈obs,o.vm) (nx:Nat) (hd:d.all (fun t=>decide (t< 1000))=true) (hobs:obs.length<=90) : aQ P W LB ⟨d,.call {callee:= .value fo,args:=ar,argTypes:=ats},ty,pos,af,gd⟩ ev (v.bg (ay nx d)) pre ((List.range obs.length).map (ay nx d)) (ck (ay nx d) 0 obs):=by
 intro σ w L ρ g hG hr hpre hnew;have h1:=hr fo (by simp [Op.operands,Call.operands]);rw [hf]at h1;obtain⟨xs,ys,e1,hx,hy⟩:=h1.i4;have hz:RV w L ρ (ar.toList.map ev) (ar.map g).toList:=by refine⟨by simp,fun i u x hu hx=> ?_⟩;simp only [List.getElem?_map,Option.map_eq_some_iff,Array.toList_map]at hu hx;obtain⟨p,hp,rfl⟩:=hu;obtain⟨q,hq,rfl⟩:=hx;rw [hp]at hq;injection hq with hq;subst hq;exact hr p (by simp only [Op.operands,Call.operands];have:=List.mem_of_getElem? hp;simp at this ⊢;exact .inr this)
 have hsub:∀id o,lY pre id=some o->σ id=some o:=fun id o h=>hpre _ (Bo h);have hrv:RV w (fun b=>L b\/zh σ ρ b) ρ0 args' (xs++ar.map g++ys).toList:=by
  have h2:=(hx.append hz).append hy;rw [hargs]at h2;have h3:RV w L ρ args (xs++ar.map g++ys).toList:=by simpa using h2
  refine⟨by rw [hl];exact h3.1,fun i u' x hu' hx=> ?_⟩;have hi:i< args.length:=by rw [<-hl];exact(List.getElem?_eq_some_iff.1 hu').1
  have hu:=List.getElem?_eq_getElem hi;exact R.Ji hG ((hfz i _ u' hu hu').mono hsub) x (h3.2 i _ x hu hx)
 have hrun:(execOp g ⟨d,.call {callee:= .value fo,args:=ar,argTypes:=ats},ty,pos,af,gd⟩).run P w= .ok (.enter f (xs++ar.map g++ys)) w:=by simp [execOp,resolve,Deferred.ofValue,invoke,e1,hc.1]
 have ex0:Ext w L ρ w (fun b=>L b\/zh σ ρ b) ρ:=⟨fun b hb=>⟨.inl hb,rfl⟩,fun _ _ h=>h⟩;refine aS.enter rfl hrun ((hc.2 (fun b=>L b\/zh σ ρ b) w _ (fun b hb=> ?_) (hG.td ex0) hrv).mono ?_)
 ·rcases hb with hb | ⟨id,x,hs,hx,hb⟩;·exact(hG.ll b hb).1
  ·cases ho:σ id with
   |none=>exact absurd ho hs
   |some o=>
    obtain⟨y,hy,hlt⟩:=(hG.ob id o ho).lt;rw [hx]at hy;injection hy with hy;subst hy
    exact(hlt b hb).1
 rintro e w' ⟨x,rfl,hb,L',ρ',hG',hL',hv',hn⟩;obtain⟨D,hD,hd'⟩:∃D:Nat,d.getD 0=D/\D< 1000:=⟨_,rfl,by cases d with |none=>decide |some t=>simpa using hd⟩;have ginj:∀i j,ay nx d i=ay nx d j->i=j:=fun i j h=>by unfold ay at h;rw [hD]at h;omega
 obtain⟨ρ2,hρ2⟩:∃ρ2:Nat->Option Value,ρ2=fun id=>if id∈(List.range obs.length).map (ay nx d)then ρ' ((id- nx*100000) / 1000)else ρ id:=⟨_,rfl⟩
 have hgi:∀j,j< obs.length->ρ2 (ay nx d j)=ρ' j:=by
  intro j hj;have:(ay nx d j- nx*100000) / 1000=j:=by unfold ay;rw [hD];omega
  rw [hρ2];simp only;rw [if_pos (List.mem_map.2 ⟨j,by simpa using hj,rfl⟩),this]
 have hon:∀j y,ρ' j=some y->ρ2 (ay nx d j)=some y:=by
  intro j y hy;by_cases hj:j< obs.length;·rw [hgi j hj];exact hy
  ·rw [hn j oM]at hy;cases hy
 have hout:∀id,id∉(List.range obs.length).map (ay nx d)->ρ2 id=ρ id:=by intro id hid;rw [hρ2];simp only;rw [if_neg hid]
 have ex:Ext w L ρ w' L ρ2:=by refine⟨fun b hbL=>⟨hbL,hb.block b (hG.ll b hbL).1⟩,fun id y hy=> ?_⟩;rw [hout id (fun hc=>by rw [hnew id hc]at hy;cases hy)];exact hy
 have hobj:∀j ob,obs[j]?=some ob->Real W w' L ρ2 (ay nx d j) (ob.bg (ay nx d))/\∀y k,ρ2 (ay nx d j)=some y->blk y=some k->w.heap.size<=k:=by
  intro j ob ho;have hjl:=(List.getElem?_eq_some_iff.1 ho).1;have hr:=hG'.ob j ob (show kq obs j=some ob from ho);have hc:=hC ob (List.mem_of_getElem? ho);refine⟨(vn _ hc).2 ?_,fun y k hy hk=> ?_⟩
  ·cases ob with
   |row t z m r=>
    obtain⟨y,xs,q1,q2,q3,q4,q5⟩:=hr;refine⟨y,xs,by rw [hgi j hjl];exact q1,q2,q3,q4.I7 fun u hu=> ?_,fun k hk=>⟨(hG.new k (q5 k hk).1).1,fun hL=>by have:=(hG.ll k hL).1;have:=(q5 k hk).1;omega⟩⟩;obtain⟨l,hl,hul⟩:=List.mem_flatten.1 hu;obtain⟨i,hi,rfl⟩:=List.mem_iff_getElem.1 hl;have hi':i< m:=by simpa [bO]using hi
    have:=bD (row:=r) hi';rw [List.getElem?_eq_getElem hi]at this;injection this with this;rw [this]at hul;exact hc i hi' u hul
   |_=>exact hc.elim
  ·rw [hgi j hjl]at hy;obtain⟨y',hy',hlt⟩:=hr.lt;rw [hy]at hy';injection hy' with hy';subst hy'
   exact(hlt k hk).2.1
 refine⟨x,rfl,L,ρ2,⟨fun b hbl=>⟨Nat.lt_of_lt_of_le (hG.ll b hbl).1 hb.size,(hG.ll b hbl).2⟩,fun b hbs=>hG.new b (Nat.le_trans hb.size hbs),fun id o ho=> ?_,?_,hG.td ex⟩,kD _ hon (hv'.lM hv fun _ _ _ h=>h),aU.eS hb fun k _ hk=>(hG.new k hk).1,ex,fun id hid=>hout id hid,cG.below hb fun b hbl=> .inl hbl⟩
 ·rcases iZ _ ginj obs 0 σ id o ho with⟨j,ob,h1,h2,h3⟩ | ⟨h1,h2⟩;·subst h2 h3;rw [Nat.zero_add];exact(hobj j ob h1).1
  ·have hk:=hG.ob id o h1;refine hk.keep ex fun y k hy hk2=> ?_;obtain⟨y',hy',hlt⟩:=hk.lt;rw [hy]at hy';injection hy' with hy';subst hy'
   obtain⟨l1,l2,l3⟩:=hlt k hk2;exact⟨hb.block k l1,l3⟩
 ·intro i j y z k hij hi hj hyi hzj hk hkz;have cases':∀i,bA σ (ck (ay nx d) 0 obs) i≠none->(∃q ob,obs[q]?=some ob/\i=ay nx d q)\/(σ i≠none/\∀q,q< obs.length->i≠ay nx d q):=by
   intro i hi;cases ho:bA σ (ck (ay nx d) 0 obs) i with
   |none=>exact absurd ho hi
   |some o=>
    rcases iZ _ ginj obs 0 σ i o ho with⟨q,ob,h1,h2,h3⟩ | ⟨h1,h2⟩;·exact .inl ⟨q,ob,h1,by rw [h2,Nat.zero_add]⟩
    ·exact .inr ⟨by rw [h1];simp,fun q hq=>by have:=h2 q hq;rwa [Nat.zero_add]at this⟩
  have notin:∀i,(∀q,q< obs.length->i≠ay nx d q)->i∉(List.range obs.length).map (ay nx d):=by intro i h hc;obtain⟨q,hq,rfl⟩:=List.mem_map.1 hc;exact h q (by simpa using hq) rfl
  have oldb:∀i y k,σ i≠none->(∀q,q< obs.length->i≠ay nx d q)->ρ2 i=some y->blk y=some k->k< w.heap.size:=by
   intro i y k hs hq hy hk;rw [hout i (notin i hq)]at hy;cases ho:σ i with
   |none=>exact absurd ho hs
   |some o=>
    obtain⟨y',hy',hlt⟩:=(hG.ob i o ho).lt;rw [hy]at hy';injection hy' with hy';subst hy'
    exact(hlt k hk).1
  rcases cases' i hi with⟨q,ob,h1,rfl⟩ | ⟨h1,h2⟩
  ·rcases cases' j hj with⟨q',ob',h1',rfl⟩ | ⟨h1',h2'⟩;·rw [hgi q (List.getElem?_eq_some_iff.1 h1).1]at hyi;rw [hgi q' (List.getElem?_eq_some_iff.1 h1').1]at hzj;exact hG'.sep q q' y z k (fun e=>hij (by rw [e])) (by simp [kq,h1]) (by simp [kq,h1']) hyi hzj hk hkz
   ·have a1:=(hobj q ob h1).2 y k hyi hk;have a2:=oldb j z k h1' h2' hzj hkz;omega
  ·rcases cases' j hj with⟨q',ob',h1',rfl⟩ | ⟨h1',h2'⟩;·have a1:=(hobj q' ob' h1').2 z k hzj hkz;have a2:=oldb i y k h1 h2 hyi hk;omega
   ·rw [hout i (notin i h2)]at hyi;rw [hout j (notin j h2')]at hzj;exact hG.sep i j y z k hij h1 h1' hyi hzj hk hkz
end
def iy(q k:Nat)(x:Nat->Value)(i:Nat):List V:=[.alt (decide (i=k)) (.ref q 0) (.c (x i))]
def iM(q k n p:Nat)(x:Nat->Value)(i:Nat):List V:=[.alt (decide (i< n)) (.alt (decide (i=k)) (.ref q 0) (.c (x i))) (.ref p 0)]
def b5(x:Nat->Value)(i:Nat):List V:=[.c (x i)]
def ng(n p:Nat)(x:Nat->Value)(i:Nat):List V:=[.alt (decide (i< n)) (.c (x i)) (.ref p 0)]
theorem R.wk{w:World}{L:Nat->Prop}{ρ:Nat->Option Value}{b:Bool}{u v:V}{x:Value}(h:R w L ρ (.alt b u v) x)(hb:b=true):R w L ρ u x:=by
 cases h with
 |alt _ _ _ _ _ h _=>exact h hb
theorem R.DN{w:World}{L:Nat->Prop}{ρ:Nat->Option Value}{b:Bool}{u v:V}{x:Value}(h:R w L ρ (.alt b u v) x)(hb:b=false):R w L ρ v x:=by
 cases h with
 |alt _ _ _ _ _ _ h=>exact h hb
theorem aQ.imp{P:Program}{W LB:Nat->Prop}{o:Oper}{ev:Operand->V}{v v':V}{pre:List (Nat×Ob)}{nw:List Nat}{δ:List (Nat×Option Ob)}(h:aQ P W LB o ev v pre nw δ)(hv:∀w L ρ x,R w L ρ v x->R w L ρ v' x):aQ P W LB o ev v' pre nw δ:= fun σ w L ρ g hG hr hp hn=>(h σ w L ρ g hG hr hp hn).mono fun x w' ⟨L',ρ',h1,h2,h3⟩=>⟨L',ρ',h1,hv _ _ _ _ h2,h3⟩
def bB(has:Int->Bool):MF:=⟨[],fun k=>match k with | .i n=>if has n then some (.agg #[])else none | .s _=>none⟩
theorem dx(has:Int->Bool)(n:Int):(bB has).look (.i n)=if has n then some (.c (.agg #[]))else none:=by show Option.map V.c (if has n then some (Value.agg #[])else none)=_;split <;> rfl
theorem fX(has:Int->Bool)(n:Int):((bB has).look (.i n)).isSome=has n:=by rw [dx];cases has n <;> rfl
theorem Real.bB{W L:Nat->Prop}{w:World}{ρ:Nat->Option Value}{id n:Nat}{f:MF}{has:Int->Bool}(h:Real W w L ρ id (.mp (false,n) f))(hh:∀k,(f.look (.i k)).isSome=has k)(hu:∀k u,f.look k=some u->u= .agg []\/u= .c (.agg #[])) : Real W w L ρ id (.mp (false,n) (Ab.bB has)):=by
 obtain⟨b,es,cl,q1,q2,q3,q4,q5⟩:=h;refine⟨b,es,cl,q1,q2,q3,q4,q5.1,fun k x hk hx=> ?_,fun k hk hx=> ?_,q5.2.2.2⟩
 ·obtain⟨u,hu1,hr⟩:=q5.2.1 k x hk hx;obtain⟨m,rfl⟩:∃m,k= .i m:=by
   cases k with
   |i m=>exact⟨m,rfl⟩
   |s s=>cases hk
  have h1:=hh m;rw [hu1]at h1;refine⟨.c (.agg #[]),by rw [dx,<-h1];rfl,?_⟩;have hx0:x= .agg #[]:=by
   rcases hu _ u hu1 with rfl |rfl;·obtain⟨xs,rfl,hxl⟩:=hr.c9;have:=hxl.1;simp at this;rw [show xs= #[]from by simpa using this.symm]
   ·exact hr.aJ
  rw [hx0];exact .c _ _
 ·obtain⟨m,rfl⟩:∃m,k= .i m:=by
   cases k with
   |i m=>exact⟨m,rfl⟩
   |s s=>cases hk
  have h1:=hh m;rw [q5.2.2.1 _ hk hx]at h1;rw [dx,<-h1];rfl
theorem Le.bU{s:S}(id:Nat){o o':Ob}(hσ:s.σ id=some o)(h:∀ {W L:Nat->Prop}{w:World}{ρ:Nat->Option Value},Real W w L ρ id o->Real W w L ρ id o'):Le s ⟨s.tm,Ab.bU s.σ id (some o'),s.nx⟩:=by
  intro P N C a w ⟨L,ρ,g⟩
  refine⟨L,ρ,⟨⟨g.g.ll,g.g.new,fun id' o1 (ho:Ab.bU s.σ id (some o') id'=some o1)=> ?_,fun i j x y k hij hi hj=>g.g.sep i j x y k hij ?_ ?_,g.g.gl⟩,g.fr,g.tm,g.size,g.defers,g.pin⟩⟩
  · by_cases he:id'=id
    · subst he
      rw [av]at ho;injection ho with ho;subst ho
      exact h (g.g.ob _ _ hσ)
    · rw [ak _ _ he]at ho;exact g.g.ob _ _ ho
  · intro hc
    refine hi ?_
    show Ab.bU s.σ id (some o') i=none
    by_cases he:i=id
    · subst he;rw [hσ]at hc;cases hc
    · rw [ak _ _ he];exact hc
  · intro hc
    refine hj ?_
    show Ab.bU s.σ id (some o') j=none
    by_cases he:j=id
    · subst he;rw [hσ]at hc;cases hc
    · rw [ak _ _ he];exact hc
theorem rz{tm:Nat->V}{σ:Nat->Option Ob}{nx:Nat}(id:Nat){n:Nat}{f:MF}{has:Int->Bool}(hσ:σ id=some (.mp (false,n) f))(hh:∀k,(f.look (.i k)).isSome=has k)(hu:∀k u,f.look k=some u->u= .agg []\/u= .c (.agg #[])) : Le ⟨tm,σ,nx⟩ ⟨tm,Ab.bU σ id (some (.mp (false,n) (bB has))),nx⟩:=Le.bU (s:=⟨tm,σ,nx⟩) id hσ fun h=>h.bB hh hu
theorem Real.Fy{W L:Nat->Prop}{w:World}{ρ:Nat->Option Value}{id:Nat}{e:TypeId}{sz n:Nat}{r:Nat->List V}(h:Real W w L ρ id (.row e sz n r)):Real W w L ρ id (.row e sz n fun _=>List.replicate sz .any):=by
 obtain⟨v,xs,q1,q2,q3,q4,q5⟩:=h;refine⟨v,xs,q1,q2,fun i _=>by simp,⟨?_,fun i u x hu hx=> ?_⟩,q5⟩
 ·rw [<-q4.1];have key:∀(l:List Nat) (f g:Nat->List V),(∀i∈l,(f i).length=(g i).length)->((l.map f).flatten).length=((l.map g).flatten).length:=by
   intro l f g;induction l with
   |nil=>intro _;rfl
   |cons a l ih=>intro h;simp only [List.map_cons,List.flatten_cons,List.length_append,h a (by simp),ih fun i hi=>h i (by simp [hi])]
  exact key _ _ _ fun i hi=>by rw [q3 i (by simpa using hi)];simp
 ·have hu2:u= .any:=by obtain⟨l,hl,hul⟩:=List.mem_flatten.1 (List.mem_of_getElem? hu);simp only [aF,List.mem_map]at hl;obtain⟨_,_,rfl⟩:=hl;exact(List.mem_replicate.1 hul).2
  subst hu2;exact⟨.any _ _,q4.one x (List.mem_of_getElem? hx)⟩
theorem lP{tm:Nat->V}{σ:Nat->Option Ob}{nx:Nat}(id:Nat){e:TypeId}{sz n:Nat}{r:Nat->List V}(hσ:σ id=some (.row e sz n r)):Le ⟨tm,σ,nx⟩ ⟨tm,Ab.bU σ id (some (.row e sz n fun _=>List.replicate sz .any)),nx⟩:=Le.bU (s:=⟨tm,σ,nx⟩) id hσ fun h=>h.Fy
def FA(has:Int->Bool)(k:Int)(n:Int):Bool:=has n && !decide (n=k)
section
variable {P:Program}{W LB:Nat->Prop}{d:Option Tmp}{ty:TypeId}{pos:String}{af:Array Edge}{gd:Option (Nat×Bool)}{ev:Operand->V}
end
def DI{P:Program}{N:Nat}(C:Cx P N)(c:Code)(Q:Exit->S->Prop):Nat->S->Prop
 |0,_=>False
 |m+1,s=>AW C c (eH (DI C c Q m) Q) s
section
variable {P:Program}{N:Nat}{C:Cx P N}{Q:Exit->S->Prop}{s:S}{c:Code}
theorem eI{m:Nat}(h:∀K:S->Prop,(∀s',DI C c Q m s'->K s')->AW C c (eH K Q) s):DI C c Q (m+1) s:=h _ fun _ h=>h
theorem lE(m:Nat)(h:DI C c Q m s):AW C (.loop c) Q s:=by
 intro a w g;refine wpIn_loop_rounds m ?_;have key:∀m s a w0 w,aU C.W w0 w->DI C c Q m s->Gm C s a w->Code.roundsIn C.F 0 P c (fun e a' w'=>∃s',Q e s'/\Gm C s' a' w'/\aU C.W w0 w') m a w:=by
  intro m;induction m with
  |zero=>intro s a w0 w _ h;exact h.elim
  |succ m ih=>
   intro s a w0 w t0 h g;refine wpIn_mono (h a w g) ?_;rintro e a' w' ⟨s',q,g',t⟩;cases e with
   |normal=>exact ih s' a' w0 w' (t0.trans t) q g'
   |_=>exact⟨s',q,g',t0.trans t⟩
 exact key m s a w w (aU.refl _ _) h g
end
theorem AC.res{P:Program}{f:FuncId}{args:List V}{v v':V}(h:AC P f args v [])(hi:v.bX=true)(k:bL v v'):AC P f args v' []:=by refine⟨h.1,fun L w vs hL hgl hv=>(h.2 L w vs hL hgl hv).mono ?_⟩;rintro e w' ⟨x,he,hb,L',ρ',hG,hLL,hr,hn⟩;exact⟨x,he,hb,L',ρ',hG,hLL,(k _ _ _ (hr.free hi ρ0)).FT,hn⟩
theorem bL.HR{us' us:List V}(h:A2 us' us):bL (.agg us') (.agg us):=by intro w L x hx;obtain⟨xs,rfl,hl⟩:=hx.c9;have hv:=h.rv hl.rv;exact .j5 ⟨hv.1,fun i u x hu hx=>⟨hv.2 i u x hu hx,hl.one x (List.mem_of_getElem? hx)⟩⟩
section
variable {P:Program}{N:Nat}{C:Cx P N}{ops:Array Oper}{nx:Nat}{o:Oper}{os:List Oper}{tm:Nat->V}{σ:Nat->Option Ob}{ks:List (List Nat×List Nat)}{K:(Nat->V)->(Nat->Option Ob)->List (List Nat×List Nat)->Prop}
theorem zA{t:Nat}(hg:fB (ops.toList.map (·.dst)) tm o=some (some false))(ht:o.dst=some t)(hk:bq C ops nx os (bU tm t (.gd false (.b false))) σ (ks++[([],[])]) K):bq C ops nx (o::os) tm σ ks K:=by
 have hw:=eO hg;have e:cZ tm o.dst (.gd false (.b false))=bU tm t (.gd false (.b false)):=by rw [ht];rfl
 refine⟨⟨false,.gd false (.b false),[],[],[]⟩,⟨hw,by simp,fun _=>⟨fun _ _ _=> .gd _ _ _ _ (fun e=>by cases e) fun _=>rfl,rfl,rfl⟩⟩,?_⟩;rw [e];exact hk
end
theorem As:∀(n:Nat) (r:Nat->List V),(∀i,i< n->(r i).length=1)->((aF n r).flatten).length=n:=by intro n r h;have:=cr (cg (n:=n) (row:=r) h);rw [this,bO,Nat.mul_one]
theorem Real.d5{W L:Nat->Prop}{w:World}{ρ:Nat->Option Value}{id:Nat}{e:TypeId}{n:Nat}{r r':Nat->List V}(h:Real W w L ρ id (.row e 1 n r)) (hr:∀i,i< n->∃u u',r i=[u]/\r' i=[u']/\∀x,R w L ρ u x->R w L ρ u' x):Real W w L ρ id (.row e 1 n r'):=by
 obtain⟨v,xs,q1,q2,q3,q4,q5⟩:=h;have l':∀i,i< n->(r' i).length=1:=fun i hi=>by obtain⟨u,u',_,h2,_⟩:=hr i hi;rw [h2];rfl
 have f1:=As n r q3;have f2:=As n r' l';refine⟨v,xs,q1,q2,l',⟨by rw [f2,<-f1];exact q4.1,fun i u' x hu hx=> ?_⟩,q5⟩;have hi:i< n:=by rw [<-f2];exact(List.getElem?_eq_some_iff.1 hu).1
 obtain⟨a,a',e1,e2,e3⟩:=hr i hi;have g':=flat_get (cg l') (bD (row:=r') hi) (show 0< 1 by decide);have g:=flat_get (cg q3) (bD (row:=r) hi) (show 0< 1 by decide);rw [Nat.mul_one,Nat.add_zero]at g g';rw [g',e2]at hu;rw [e1]at g;simp at hu;subst hu;obtain⟨k1,k2⟩:=q4.2 i a x (by rw [g];rfl) hx;exact⟨e3 x k1,k2⟩
theorem wM{tm:Nat->V}{σ:Nat->Option Ob}{nx:Nat}(id:Nat){e:TypeId}{n:Nat}{r r':Nat->List V}(hσ:σ id=some (.row e 1 n r))
 (hr:∀i,i< n->∃u u',r i=[u]/\r' i=[u']/\∀w L ρ x,R w L ρ u x->R w L ρ u' x):Le ⟨tm,σ,nx⟩ ⟨tm,Ab.bU σ id (some (.row e 1 n r')),nx⟩:=
 Le.bU (s:=⟨tm,σ,nx⟩) id hσ fun h=>h.d5 fun i hi=>by obtain⟨u,u',h1,h2,h3⟩:=hr i hi;exact⟨u,u',h1,h2,fun x hx=>h3 _ _ _ x hx⟩
theorem R.zy{w:World}{L:Nat->Prop}{ρ:Nat->Option Value}{b:Bool}{u v:V}{x:Value}(hb:b=true)(h:R w L ρ u x):R w L ρ (.alt b u v) x:= .alt _ _ _ _ _ (fun _=>h) fun h2=>by rw [hb]at h2;cases h2
theorem R.zz{w:World}{L:Nat->Prop}{ρ:Nat->Option Value}{b:Bool}{u v:V}{x:Value}(hb:b=false)(h:R w L ρ v x):R w L ρ (.alt b u v) x:= .alt _ _ _ _ _ (fun h2=>by rw [hb]at h2;cases h2) fun _=>h
theorem Bz{n i:Nat}{c:Nat->V}{p:V}(r:Nat->List V)(h1:∀i,i< n->r i=[c i])(h2:r n=[p])(hi:i< n+1):∃u u',r i=[u]/\[V.alt (decide (i< n)) (c i) p]=[u']/\∀(w:World) (L:Nat->Prop) (ρ:Nat->Option Value) (x:Value),R w L ρ u x->R w L ρ u' x:=by
 by_cases h:i< n;·exact⟨c i,_,h1 i h,rfl,fun _ _ _ _ hx=> .zy (by simp [h]) hx⟩
 ·have e:i=n:=by omega
  subst e;exact⟨p,_,h2,rfl,fun _ _ _ _ hx=> .zz (by simp) hx⟩
theorem jh{has:Int->Bool}{n:Nat}:∀(k:MK) (u:V),(bB has).look k=some u->V.iL n u=true:=by
 intro k u h;cases k with
 |s b=>cases h
 |i m=>
  rw [dx]at h;split at h;·injection h with h;subst h;rfl
  ·cases h
theorem AM.res{P:Program}{f:FuncId}{args:List V}{ins:List Ob}{v v':V}{outs:List (Option Ob)}{obs:List Ob}(h:AM P f args ins v outs obs)(hv:∀w L ρ x,R w L ρ v x->R w L ρ v' x):AM P f args ins v' outs obs:= ⟨h.1,fun W LB L w ρ vs a b c d e=>(h.2 W LB L w ρ vs a b c d e).mono fun e' w' ⟨x,h1,h2,L',ρ',h3,h4,h5,h6⟩=>⟨x,h1,h2,L',ρ',h3,h4,hv _ _ _ _ h5,h6⟩⟩
theorem BC{has:Int->Bool}{q:Int}(k:Int):((⟨[(.i q,.agg [])],(bB has).rest⟩:MF).look (.i k)).isSome=(has k || decide (k=q)):=by
 show(fH _ _ _).isSome=_;by_cases h:k=q;·subst h;simp [fH]
 ·have h2:¬(MK.i k=MK.i q):=fun e=>h (by injection e);simp only [fH,if_neg h2];show((bB has).look (.i k)).isSome=_;rw [fX];simp [h]
theorem vN{has:Int->Bool}{q:Int}:∀k u,(⟨[(.i q,.agg [])],(bB has).rest⟩:MF).look k=some u->u= .agg []\/u= .c (.agg #[]):=by
 intro k u h;by_cases h2:k=MK.i q
 ·have:(⟨[(.i q,.agg [])],(bB has).rest⟩:MF).look k=some (.agg []):=by show fH _ _ _=_;simp only [fH,if_pos h2]
  rw [this]at h;injection h with h;exact .inl h.symm
 ·have e:(⟨[(.i q,.agg [])],(bB has).rest⟩:MF).look k=(bB has).look k:=by show fH _ _ _=_;simp only [fH,if_neg h2];rfl
  rw [e]at h;cases k with
  |s b=>cases h
  |i m=>
   rw [dx]at h;split at h;·injection h with h;exact .inr h.symm
   ·cases h
def gw(σ:Nat->Option Ob):List V->List V->Prop
 | [],[]=>True
 |u::us,u'::us'=>Fz σ u u'/\gw σ us us'
 |_,_=>False
theorem gw.get{σ:Nat->Option Ob}:∀ {l l':List V},gw σ l l'->l'.length=l.length/\∀(i:Nat) u u',l[i]?=some u->l'[i]?=some u'->Fz σ u u'
 | [],[],_=>⟨rfl,fun i u u' h=>by simp at h⟩
 |u::us,u'::us',h=>by
  obtain⟨h1,h2⟩:=h;obtain⟨k1,k2⟩:=h2.get;refine⟨by simp [k1],fun i v v' hv hv'=> ?_⟩;cases i with
  |zero=>simp at hv hv';subst hv hv';exact h1
  |succ i=>simp at hv hv';exact k2 i v v' hv hv'
 | [],_::_,h=>h.elim
 |_::_,[],h=>h.elim
theorem Fz.refs{σ:Nat->Option Ob}{id:Nat}{t:TypeId}{cs cs':List V}(hσ:σ id=some (.box t cs))(h:gw σ cs cs'):Fz σ (.ref id 0) (.ptr cs'):= .ref id 0 t cs cs' hσ (by rw [List.drop_zero,h.get.1];exact Nat.le_refl _) (by rw [List.drop_zero];exact h.get.2)
theorem Fz.rows{σ:Nat->Option Ob}{id:Nat}{e:TypeId}{sz n:Nat}{r r':Nat->List V}(hσ:σ id=some (.row e sz n r))(h:∀i,i< n->gw σ (r i) (r' i)):Fz σ (.own id) (.sl sz n r'):= .own id e sz n r r' hσ (fun i hi=>(h i hi).get.1) fun i j u u' hi=>(h i hi).get.2 j u u'
theorem gw.bX{σ:Nat->Option Ob}:∀ {l:List V},V.aZ l=true->gw σ l l
 | [],_=>trivial
 |u::us,h=>by simp only [V.aZ,Bool.and_eq_true]at h;exact⟨.bX u h.1,gw.bX h.2⟩
theorem gw.append{σ:Nat->Option Ob}:∀ {a a' b b':List V},gw σ a a'->gw σ b b'->gw σ (a++b) (a'++b')
 | [],[],_,_,_,k=>k
 |_::_,_::_,_,_,h,k=>⟨h.1,gw.append h.2 k⟩
 | [],_::_,_,_,h,_=>h.elim
 |_::_,[],_,_,h,_=>h.elim
section
variable {P:Program}{N:Nat}{C:Cx P N}{ops:Array Oper}{nx:Nat}{os:List Oper}{tm:Nat->V}{σ:Nat->Option Ob}{ks:List (List Nat×List Nat)}{K:(Nat->V)->(Nat->Option Ob)->List (List Nat×List Nat)->Prop}{ty:TypeId}{pos:String}{af:Array Edge}
theorem bI{d:Nat}{fo:Operand}{ar:Array Operand}{ats:Array TypeId}{f:FuncId}{first caps args args':List V}{v:V}(pre:List (Nat×Ob))(hc:AC P f args' v [])(hf:ev tm fo= .fn (.func f) first caps) (hargs:first++ar.toList.map (ev tm)++caps=args) (hfz:gw (lY pre) args args') (hd:decide (d< 1000)=true) (hv:v.lM []=true) (hvr:v.bg (ay nx (some d))=v) (hp:lu (fun p=>σ p.1=some p.2) pre) (hk:bq C ops nx os (bU tm d v) σ (ks++[([],cU pre)]) K):bq C ops nx (⟨some d,.call {callee:= .value fo,args:=ar,argTypes:=ats},ty,pos,af,none⟩::os) tm σ ks K:=by obtain⟨hl,hfz⟩:=hfz.get;have h:=sC (P:=P) (W:=C.W) (LB:=C.LB) (d:=some d) (ty:=ty) (pos:=pos) (af:=af) (gd:=none) (ats:=ats) hc hf hargs pre hl hfz hv (fun o ho=>by cases ho) nx (by simpa using hd) (by simp);rw [hvr]at h;refine dR rfl h hp.mem (fun _ h=>by cases h) ?_;rw [<-List.append_nil (cU pre)]at hk;exact hk
end
end Go.Ab
