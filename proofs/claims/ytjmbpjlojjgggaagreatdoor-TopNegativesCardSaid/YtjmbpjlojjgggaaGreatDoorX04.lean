/-
  Several texts in one: The same for iterators whose values hold memory, and whose yields stand under guards. No condition. .. Which tips and grooves are valid; what a tip reads and sweeps, by the program. No condition but the sizes of slices.
-/
import Derived.Test.YtjmbpjlojjgggaaGreatDoorProg
import Derived.Deep.RegionWith
import Derived.Deep.DeepMust
import Derived.Deep.RegionLaw
import Derived.Test.YtjmbpjlojjgggaaGreatDoorX03
import Derived.Test.YtjmbpjlojjgggaaGreatDoorX01
import Derived.Test.YtjmbpjlojjgggaaGreatDoorMA
set_option maxRecDepth 100000
set_option maxHeartbeats 2000000
namespace Go.Ab
open Go.RowKit Go.Dw Go.Shelf
noncomputable section
def w7{P:Program}{N:Nat}{es:List (List V)}(C:Cx P N)(Y:YE P es)(c:Code)(Q:Exit->S->Nat->Bool->Prop):Nat->S->Nat->Bool->Prop
 |0,_,_,_=>False
 |m+1,s,k,g=>oF C Y c (iw (w7 C Y c Q m) Q) s k g
theorem xB{P:Program}{N:Nat}{es:List (List V)}{C:Cx P N}{Y:YE P es}{Q:Exit->S->Nat->Bool->Prop}{c:Code}{s:S}{k:Nat}{g:Bool}(m:Nat)(h:w7 C Y c Q m s k g):oF C Y (.loop c) Q s k g:=by
 intro a w gm hj hb;refine wpIn_loop_rounds m ?_;have key:∀(m:Nat) (s:S) (k:Nat) (g:Bool) (a:Act) (w:World),w7 C Y c Q m s k g->Gm C s a w->Y.J k g w->Y.B<=w.heap.size->Code.roundsIn Fence.wide 0 P c (fun e a' w'=>∃s' k' g',Q e s' k' g'/\Gm C s' a' w'/\Y.J k' g' w'/\Y.B<=w'.heap.size) m a w:=by
  intro m;induction m with
  |zero=>intro s k g a w h;exact h.elim
  |succ m ih=>
   intro s k g a w h gm hj hb;refine wpIn_mono (h a w gm hj hb) ?_;rintro e a' w' ⟨s',k',g',q,gm',hj',hb'⟩;cases e with
   |normal=>exact ih s' k' g' a' w' q gm' hj' hb'
   |_=>exact⟨s',k',g',q,gm',hj',hb'⟩
 exact key m s k g a w h gm hj hb
section
variable {P:Program}{N:Nat}{es:List (List V)}(C:Cx P N) (Y:YE P es) (Q:Exit->S->Nat->Bool->Prop)
def tU:List Fr->Exit->S->Nat->Bool->Prop
 | []=>Q
 | .c y::k=>iw (fun s' n g=>oF C Y y (tU k) s' n g) (tU k)
 | .b id::k=>fD id (tU k)
 | .l y m::k=>iw (w7 C Y y (tU k) m) (tU k)
 | .s::_=>fun _ _ _ _=>False
def Bx:CC->Nat->Bool->Prop
 | .code c k s,n,g=>oF C Y c (tU C Y Q k) s.den n g
 | .done e k s,n,g=>tU C Y Q k e s.den n g
 | .ops _ _ _ _ _ _,_,_=>False
end
section
variable {P:Program}{N:Nat}{es:List (List V)}{C:Cx P N}{Y:YE P es}{Q:Exit->S->Nat->Bool->Prop}{T:List TI}{M mu:List Nat}{call:fP}
theorem NA{y:Code}{k:List Fr}{e:Exit}{s:S}{n:Nat}{g:Bool}(hne:e≠ .normal)(h:tU C Y Q k e s n g):tU C Y Q (.c y::k) e s n g:=by cases e <;> first |exact absurd rfl hne |exact h
theorem NB{y:Code}{m:Nat}{k:List Fr}{e:Exit}{s:S}{n:Nat}{g:Bool}(hne:e≠ .normal)(h:tU C Y Q k e s n g):tU C Y Q (.l y m::k) e s n g:=by cases e <;> first |exact absurd rfl hne |exact h
theorem Nz{id:Nat}{k:List Fr}{e:Exit}{s:S}{n:Nat}{g:Bool}(hne:∀i,e≠ .exit i)(h:tU C Y Q k e s n g):tU C Y Q (.b id::k) e s n g:=by cases e <;> first |exact absurd rfl (hne _) |exact h
theorem vK{c:Code}{s:S}{k:Nat}{g:Bool}(u:Nat)(h:oF C Y c (iw (w7 C Y c Q u) Q) s k g):oF C Y (.loop c) Q s k g:=xB (u+1) h
def zu{P:Program}{es:List (List V)}{N:Nat}(C:Cx P N)(Y:YE P es)(Q:Exit->S->Nat->Bool->Prop)(g:CC)(x:JX):Prop:=
 (x.y=none->∀n b,Bx C Y Q x.g n b->Bx C Y Q g n b)/\
 ∀as0,x.y=some as0->∃sd,x.side=some sd/\∀n,es[n]?=some as0->Bx C Y Q x.g (n+1) true->Bx C Y Q sd n false->Bx C Y Q g n true
theorem eE{g g':CC}{e:CT}(h:∀n b,Bx C Y Q g' n b->Bx C Y Q g n b):zu C Y Q g ⟨g',none,none,e⟩:=⟨fun _=>h,fun as0 h=>by cases h⟩
theorem Gu(hT:aN T P)(hcl:dh P call)(hC:YC C Y){id n:Nat}{ops:Array Oper}{k:List Fr}{s:CS}{x:JX}(hok:gS N ops.toList=true)(h:MO true call T M Y.l ops.toList k s n=some x)(he:kz x.e):zu C Y Q (.code (.region id ops false) k s) x:=by
 have eo:ops=ops.toList.toArray:=by simp
 unfold MO at h;split at h
 ·rename_i o ho;split at h
  ·rename_i d hd;split at h
   ·rename_i hlt;have hlt:=of_decide_eq_true hlt;split at h
    ·rename_i s1 ks1 e1 h1;split at h
     ·rename_i hgd;split at h
      ·rename_i fv as0 hy;split at h
       ·rename_i s2 ks2 e2 h2;split at h
        ·rename_i s3 ks3 e3 h3;injection h with h;subst h;obtain⟨he0,he1,he2,he3⟩:=he;refine⟨fun h=>(by cases h),fun as1 has=> ?_⟩;injection has with has;subst has;refine⟨_,rfl,fun m hm hk1 hk2=> ?_⟩;obtain⟨d',op,ty,pos,af,gd⟩:=o;simp only at hd;subst hd;unfold Py at hy;simp only at hy;split at hy
         ·rename_i c;obtain⟨callee,args,ats⟩:=c;simp only at hy;split at hy
          ·rename_i fo;split at hy
           ·rename_i hfl0;simp only [Bool.and_eq_true]at hfl0;simp only [Option.some.injEq,Prod.mk.injEq]at hy;obtain⟨rfl,rfl⟩:=hy;have hf:=iM.hd he0;injection hf with hf;simp only [List.cons.injEq,and_true]at hf;have ht:bC C ops.toList.toArray s.nx (ops.toList.drop (n+1)) (bO s1.tr.get d (.b true)) (fW s1.sl) [] (fun tm' σ' _=>tU C Y Q k .normal ⟨tm',σ',s.nx+1⟩ (m+1) true)/\bC C ops.toList.toArray s.nx (ops.toList.drop (n+1)) (bO s1.tr.get d (.b false)) (fW s1.sl) [] (fun tm' σ' _=>tU C Y Q k .normal ⟨tm',σ',s.nx+1⟩ m false):=by
             have q1:=(fK hT hcl (C:=C) (K:=fun _ _ _=>True) h1 he1).1;constructor;·obtain⟨r1,r2⟩:=fK hT hcl (C:=C) (K:=fun tm' σ' _=>tU C Y Q k .normal ⟨tm',σ',s.nx+1⟩ (m+1) true) h2 he2;simp only at r1 r2;rw [TR.j3 hlt,q1]at r2;exact r2 (by have:=hk1;unfold Bx CS.den at this;simp only at this;rw [r1,q1]at this;exact this)
             ·obtain⟨r1,r2⟩:=fK hT hcl (C:=C) (K:=fun tm' σ' _=>tU C Y Q k .normal ⟨tm',σ',s.nx+1⟩ m false) h3 he3;simp only at r1 r2;rw [TR.j3 hlt,q1]at r2;exact r2 (by have:=hk2;unfold Bx CS.den at this;simp only at this;rw [r1,q1]at this;exact this)
            show oF C Y (.region id ops false) (tU C Y Q k) s.den m true;rw [eo];unfold Q6 at hgd;simp only at hgd;split at hgd;·have ea:(args.toList.map fun x=>ug (ev s1.tr.get x))=args.toList.map (ev s1.tr.get):=List.map_congr_left fun x hx=>Cu hgd (by simp only [Op.operands,Call.operands];simp at hx ⊢;exact .inr hx);have ef:ug (ev s1.tr.get fo)=ev s1.tr.get fo:=Cu hgd (by simp [Op.operands,Call.operands]);rw [ef]at hf;rw [ea]at hm;have hfl1:=hfl0.1;rw [ea]at hfl1;refine uE hC n (by simpa using hok) ho ?_;obtain⟨q1,q2⟩:=fK hT hcl (C:=C) (K:=fun tm1 σ1 _=>YS C Y ops.toList.toArray s.nx (ops.toList.drop (n+1)) fo args d (tU C Y Q k) m tm1 σ1) h1 he1;exact q2 ⟨hf,⟨_,hm,vn _⟩,hfl1,ht.1,ht.2⟩
            ·rename_i gd';split at hgd;·rename_i g hg;subst hgd;refine zO hC n (by simpa using hok) ho ?_;obtain⟨q1,q2⟩:=fK hT hcl (C:=C) (K:=fun tm1 σ1 _=>QL C Y ops.toList.toArray s.nx (ops.toList.drop (n+1)) fo args d ⟨some d,.call {callee:= .value fo,args:=args,argTypes:=ats},ty,pos,af,some gd'⟩ (tU C Y Q k) m tm1 σ1) h1 he1;exact q2 ⟨gG (ops:=ops.toList.toArray) (r:=some true) (by simpa using hg),hfl0.2,hf,⟨_,hm,vn _⟩,hfl0.1,ht.1,ht.2⟩
             ·cases hgd
           ·cases hy
          ·cases hy
         ·cases hy
        ·cases h
       ·cases h
      ·cases h
     ·cases h
    ·cases h
   ·cases h
  ·cases h
 ·cases h
theorem sN(hT:aN T P)(hcl:dh P call)(hC:YC C Y){g:CC}{x:JX}(h:JK true call T M mu N Y.l g=some x)(he:kz x.e):zu C Y Q g x:=by
 unfold JK at h;split at h
 ·rename_i e k s;split at h;·cases h
  ·split at h;·injection h with h;subst h;exact eE fun n b hk=>hk
   ·rename_i hne;injection h with h;subst h;exact eE fun n b hk=>NA hne hk
  ·split at h
   ·split at h;·rename_i hb;injection h with h;subst h;have hb:=Nat.eq_of_beq_eq_true hb;subst hb;exact eE fun n b hk=>oy hk
    ·rename_i hb;injection h with h;subst h;exact eE fun n b hk=>NG (by simpa using Nat.ne_of_beq_eq_false hb) hk
   ·rename_i hne;injection h with h;subst h;exact eE fun n b hk=>Nz hne hk
  ·split at h
   ·split at h;·cases h
    ·injection h with h;subst h;exact eE fun n b hk=>hk
   ·rename_i hne;injection h with h;subst h;exact eE fun n b hk=>NB hne hk
  ·cases h
 ·rename_i c k s;split at h;·injection h with h;subst h;exact eE fun n b hk=>xC hk
  ·injection h with h;subst h;exact eE fun n b hk=>Fm hk
  ·injection h with h;subst h;exact eE fun n b hk=>BH hk
  ·injection h with h;subst h;exact eE fun n b hk=>rj hk
  ·injection h with h;subst h;exact eE fun n b hk=>oV hk
  ·injection h with h;subst h;exact eE fun n b hk=>vK 1000000 hk
  ·split at h
   ·rename_i t ht;split at h;·injection h with h;subst h;exact eE fun n b hk=>nC ht (fun _=>hk) fun h=>by cases h
    ·injection h with h;subst h;exact eE fun n b hk=>nC ht (fun h=>by cases h) fun _=>hk
   ·cases h
  ·rename_i id ops dr;split at h
   ·rename_i hok;split at h
    ·rename_i s' ks e hr;have e0:ops=ops.toList.toArray:=by simp
     split at h;·injection h with h;subst h;refine eE fun n b hk=>vL hC ?_;refine qb (v5 mu s ops.toList) ?_;rw [e0];obtain⟨q1,q2⟩:=fK hT hcl (C:=C) (K:=fun tm' σ' _=>tU C Y Q k .normal ⟨tm',σ',(qN mu s ops.toList).nx+1⟩ n b) (by simpa using hr) he;refine oQ (s:=(qN mu s ops.toList).den) (by simpa using hok) (q2 ?_);have:=hk;unfold Bx CS.den at this;simp only at this;rw [q1]at this;exact this
     ·split at h;·rename_i hdr;injection h with h;subst h;refine eE fun n b hk=>vL hC ?_;refine qb (v5 mu s ops.toList) ?_;rw [e0];obtain⟨q1,q2⟩:=fK hT hcl (C:=C) (K:=fun tm' σ' ks'=>jl ops.toList ks'=true/\tU C Y Q k .normal ⟨tm',σ',(qN mu s ops.toList).nx+1⟩ n b) (by simpa using hr) he;refine mM (s:=(qN mu s ops.toList).den) (by simpa using hok) (q2 ⟨B7 hdr,?_⟩);have:=hk;unfold Bx CS.den at this;simp only at this;rw [q1]at this;exact this
      ·cases h
    ·split at h
     ·split at h;·exact Gu hT hcl hC hok h he
      ·cases h
     ·cases h
   ·cases h
  ·cases h
 ·cases h
end
theorem BS{P:Program}{N:Nat}{es:List (List V)}{C:Cx P N}{Y:YE P es}{T:List TI}{M mu:List Nat}{call:fP}(hT:aN T P)(hcl:dh P call)(hC:YC C Y){n:Nat}(hn:n< es.length):∀ {m:Nat}{g:CC}{e:CT},PE true call T M mu N Y.l m g=some e->kz e->Bx C Y (pZ es.length) g n false
 |0,_,_,h,_=>by cases h
 |m+1,g,e,h,he=>by
  unfold PE at h;split at h
  ·rename_i x hx;split at h
   ·rename_i hy;split at h;·rename_i e1 h1;injection h with h;subst h;exact(sN (Q:=pZ es.length) hT hcl hC hx he.1).1 hy n false (BS hT hcl hC hn h1 he.2)
    ·cases h
   ·cases h
  ·split at h
   ·rename_i e0 s;split at h;·exact⟨.inr rfl,(fun h=>nomatch h),fun _=>hn⟩
    ·exact⟨.inl rfl,(fun h=>nomatch h),fun _=>hn⟩
    ·cases h
   ·cases h
theorem sM{P:Program}{N:Nat}{es:List (List V)}{C:Cx P N}{Y:YE P es}{T:List TI}{M mu:List Nat}{call:fP}(hT:aN T P)(hcl:dh P call)(hC:YC C Y):∀ {m:Nat}{g:CC}{as0:List (List V)}{e:CT}{n:Nat},Al true call T M mu N Y.l m g=some (as0,e)->kz e->es.drop n=as0->n<=es.length->Bx C Y (pZ es.length) g n true
 |0,_,_,_,_,h,_,_,_=>by cases h
 |m+1,g,as0,e,n,h,he,hd,hn=>by
  unfold Al at h;split at h
  ·rename_i x hx;split at h
   ·rename_i hy;split at h;·rename_i as1 e1 h1;simp only [Option.some.injEq,Prod.mk.injEq]at h;obtain⟨rfl,rfl⟩:=h;exact(sN (Q:=pZ es.length) hT hcl hC hx he.1).1 hy n true (sM hT hcl hC h1 he.2 hd hn)
    ·cases h
   ·rename_i a hy;split at h
    ·rename_i sd hsd;split at h
     ·rename_i e0 h0;split at h
      ·rename_i as1 e1 h1;simp only [Option.some.injEq,Prod.mk.injEq]at h;obtain⟨rfl,rfl⟩:=h;have hlt:n< es.length:=by have:=congrArg List.length hd;simp only [List.length_drop,List.length_cons]at this;omega
       have hget:es[n]?=some a:=by have:=congrArg (·[0]?) hd;simpa using this
       have hdr:es.drop (n+1)=as1:=by have h2:=congrArg List.tail hd;simpa using h2
       obtain⟨sd',hs',hall⟩:=(sN (Q:=pZ es.length) hT hcl hC hx he.1).2 a hy;rw [hsd]at hs';injection hs' with hs';subst hs';exact hall n hget (sM hT hcl hC h1 he.2.2 hdr oM) (BS hT hcl hC hlt h0 he.2.1)
      ·cases h
     ·cases h
    ·cases h
  ·split at h
   ·rename_i e0 s;have fin:as0=[]->n=es.length:=fun h0=>by rw [h0]at hd;have:=congrArg List.length hd;simp only [List.length_drop,List.length_nil]at this;omega
    split at h;·simp only [Option.some.injEq,Prod.mk.injEq]at h;exact⟨.inr rfl,fun _=>fin h.1.symm,(fun h=>nomatch h)⟩
    ·simp only [Option.some.injEq,Prod.mk.injEq]at h;exact⟨.inl rfl,fun _=>fin h.1.symm,(fun h=>nomatch h)⟩
    ·cases h
   ·cases h
theorem IJ{P:Program}{N:Nat}{T:List TI}{M mu:List Nat}{call:fP}{f:FuncId}{fn:Func}{c:Code}{caps:List V}{ins:List Ob}{es:List (List V)}(hT:aN T P)(hmx:P.follows .mixedOrders=true)(hcl:dh P call)(hk:oI P f fn c N)(hres:fn.results= #[])(hargs:caps.length+1<=N)(hins:ins.length<=400) (s0:Nat->CS) (h0:∀l,(s0 l).den=⟨fun t=>((V.c (.func (.yield l) #[] #[]))::caps).getD t .any,eD ins,1⟩) (hv:∀l,MP (Al true call T M mu N l 20000 (.code c [] (s0 l)))=some es) (he:∀l,kz (PF (Al true call T M mu N l 20000 (.code c [] (s0 l))))):w6 P f caps ins es:=by
 refine rW hT hmx hk hres hargs (fun C Y hC=> ?_) hins;have h1:=hv Y.l;have h2:=he Y.l;unfold MP at h1;unfold PF at h2;split at h1;·rename_i as0 e hr;rw [hr]at h2;injection h1 with h1;subst h1;have:=sM (C:=C) (Y:=Y) (n:=0) hT hcl hC hr h2 rfl (Nat.zero_le _);unfold Bx at this;simp only at this;rw [h0]at this;exact this
 ·cases h1
def Qb(pn:List Nat):Ob->Bool
 | .box _ cs=>V.dH pn cs
 | .row _ _ n f=>((List.range n).map f).all (V.dH pn)
 | .mp _ _=>false
theorem FV{pn:List Nat}{o:Ob}(h:Qb pn o=true):o.cg pn:=by
 cases o with
 |box t cs=>exact h
 |row e sz n f=>intro i hi;exact List.all_eq_true.1 h _ (List.mem_map.2 ⟨i,List.mem_range.2 hi,rfl⟩)
 |mp _ _=>cases h
def Ho(pn:List Nat)(s:CS):Option (List Ob×CT):=
 match ye (fW s.sl) (fun i=>i) pn with
  |some l=>match decide (((pn.zip (l.map Prod.snd)).map fun p=>aH [] s.nx p.1).Nodup) && (l.map Prod.snd).all (Qb pn)with
   |true=>some (l.map Prod.snd,.lf (e7 (aH [] s.nx) l))
   |false=>none
  |none=>none
theorem Hp{pn:List Nat}{s:CS}{l':List Ob}{e:CT}(hpn:∀p∈pn,500<=p/\p< 1000)(h:Ho pn s=some (l',e))(he:kz e):Le s.den ⟨fun _=> .any,cO (pn.zip l'),1⟩/\l'.length=pn.length/\∀o∈l',o.cg pn:=by
 unfold Ho at h;split at h
 ·rename_i l hl;split at h
  ·rename_i hb;simp only [Option.some.injEq,Prod.mk.injEq]at h;obtain⟨rfl,rfl⟩:=h;simp only [Bool.and_eq_true]at hb;obtain⟨hb1,hb2⟩:=hb;obtain⟨hlen,hget⟩:=kX hl;have hE:iM _:=he;refine⟨?_,by simp [hlen],fun o ho=>FV (List.all_eq_true.1 hb2 o ho)⟩;show Le ⟨s.tr.get,fW s.sl,s.nx⟩ ⟨gJ [],cO (pn.zip (l.map Prod.snd)),1⟩;refine aF (tm:=s.tr.get) (σ:=fW s.sl) (nx:=s.nx) [] (tl:=[]) .nil (ri fun p hp=> ?_) hb1 rfl;obtain⟨i,h1,h2⟩:=wZ hp;simp only [List.getElem?_map,Option.map_eq_some_iff]at h2;obtain⟨q,hq,hq2⟩:=h2;obtain⟨k,hk,hσ,hno⟩:=hget i q hq;rw [hk]at h1;injection h1 with h1;have hg:aH [] s.nx p.1=k:=by have:=hpn k (List.mem_of_getElem? hk);unfold aH;rw [<-h1];exact if_pos this
   refine⟨q.1,by rw [hg];exact hσ,?_⟩;rw [<-hq2];exact pE hno (fQ hE hq)
  ·cases h
 ·cases h
def ta(call:fP)(T:List TI)(M mu:List Nat)(N:Nat)(pn:List Nat)(tl:List (Nat×V))(ps:List Nat)(as0 bd:Code)(x:List V)(l:List Ob):RO:=
 match xS call Nk T M mu N as0 ⟨setTR (LK tl) ps x,zl pn l,1⟩with
  |some (.normal,s1,t1)=>match xS call Nk T M mu N bd s1 with
   |some (e,s2,t2)=>match Ho pn s2 with
    |some (l',t3)=>OQ l' (zS t1 (zS t2 t3)) e
    |none=> .bad
   |none=> .bad
  |_=> .bad
def L4(pn:List Nat)(ok:Nat->Prop)(sl:Nat->List Ob)(X:Nat->Code->List Ob->Prop)(k:Nat):RO->Prop
 | .nor l' e=>kz e/\(l'.length=pn.length->(∀o∈l',o.cg pn)->ok (k+1)/\sl (k+1)=l')
 | .ext c l' e=>kz e/\(l'.length=pn.length->(∀o∈l',o.cg pn)->X k (FQ c) l')
 | .bad=>False
theorem yX{pn:List Nat}{tl:List (Nat×V)}{ps:List Nat}{x:List V}{l:List Ob}(htl:∀p∈tl,p.1< 1000)(hps:∀p∈ps,p< 1000):(CS.mk (setTR (LK tl) ps x) (zl pn l) 1).den=⟨mb (gJ tl) ps x,cO (pn.zip l),1⟩:=by unfold CS.den;rw [ve _ _ _ hps,wP htl,tR]
section
variable {P:Program}{N:Nat}{T:List TI}{M mu:List Nat}{call:fP}{pn:List Nat}{tl:List (Nat×V)}{ps:List Nat}{as0 bd:Code}
theorem Eh(hT:aN T P)(hcl:dh P call)(hpn:∀p∈pn,500<=p/\p< 1000)(htl:∀p∈tl,p.1< 1000)(hps:∀p∈ps,p< 1000){ok:Nat->Prop}{sl:Nat->List Ob}{X:Nat->Code->List Ob->Prop}{k:Nat}{x:List V}{l:List Ob} (h:L4 pn ok sl X k (ta call T M mu N pn tl ps as0 bd x l)) (C':Cx P N):AW C' as0 (dS (fun s'=>AW C' bd (mg pn ok sl X k) s') (fun _ _=>False)) ⟨mb (gJ tl) ps x,cO (pn.zip l),1⟩:=by
 rw [<-yX htl hps];unfold ta at h;split at h
 ·rename_i s1 t1 h1;split at h
  ·rename_i e s2 t2 h2;split at h
   ·rename_i l' t3 h3;have key:kz (zS t1 (zS t2 t3))->(Le s2.den ⟨fun _=> .any,cO (pn.zip l'),1⟩->l'.length=pn.length->(∀o∈l',o.cg pn)->mg pn ok sl X k e s2.den)->
     AW C' as0 (dS (fun s'=>AW C' bd (mg pn ok sl X k) s') (fun _ _=>False)) (CS.mk (setTR (LK tl) ps x) (zl pn l) 1).den:=by
     intro hE hR
     have hE:=mN hE
     have hE2:=mN hE.2
     obtain⟨z1,z2,z3⟩:=Hp hpn h3 hE2.2
     have a2:=nM (C:=C') (mu:=mu) hT hcl Ck bd _ _ _ _ h2 hE2.1 (mg pn ok sl X k) (hR z1 z2 z3)
     exact nM (C:=C') (mu:=mu) hT hcl Ck as0 _ _ _ _ h1 hE.1 (dS (fun s'=>AW C' bd (mg pn ok sl X k) s') (fun _ _=>False)) a2
    unfold OQ at h;split at h;·obtain⟨q1,q2⟩:=h;exact key q1 fun hle a b=>⟨(q2 a b).1,by rw [(q2 a b).2];exact hle⟩
    ·obtain⟨q1,q2⟩:=h;exact key q1 fun hle a b=>⟨_,q2 a b,hle⟩
    ·obtain⟨q1,q2⟩:=h;exact key q1 fun hle a b=>⟨_,q2 a b,hle⟩
    ·exact h.elim
   ·exact h.elim
  ·exact h.elim
 ·exact h.elim
end
def Jp(pn:List Nat)(l:List Ob):Bool:=Nat.beq l.length pn.length && l.all (Qb pn)
theorem Aa{pn:List Nat}{l:List Ob}(h:Jp pn l=true):l.length=pn.length/\∀o∈l,o.cg pn:=by simp only [Jp,Bool.and_eq_true]at h;exact⟨Nat.eq_of_beq_eq_true h.1,fun o ho=>FV (List.all_eq_true.1 h.2 o ho)⟩
def Nj(pn:List Nat):RO->RO
 | .nor l e=>match Jp pn l with
  |true=> .nor l e
  |false=> .bad
 | .ext c l e=>match Jp pn l with
  |true=> .ext c l e
  |false=> .bad
 | .bad=> .bad
theorem Ci{pn:List Nat}{r:RO}{l:List Ob}{e:CT}(h:Nj pn r= .nor l e):r= .nor l e/\Jp pn l=true:=by
 unfold Nj at h;split at h
 ·split at h;·rename_i hf;injection h with h1 h2;subst h1 h2;exact⟨rfl,hf⟩
  ·cases h
 ·split at h <;> cases h
 ·cases h
theorem Ch{pn:List Nat}{r:RO}{c:Exit}{l:List Ob}{e:CT}(h:Nj pn r= .ext c l e):r= .ext c l e/\Jp pn l=true:=by
 unfold Nj at h;split at h;·split at h <;> cases h
 ·split at h;·rename_i hf;injection h with h1 h2 h3;subst h1 h2 h3;exact⟨rfl,hf⟩
  ·cases h
 ·cases h
theorem Ef{P:Program}{N:Nat}{C:Cx P N}{Q:Exit->S->Prop}{tm:Nat->V}{σ:Nat->Option Ob}{nx:Nat}{g:Operand}{ps:Array Tmp}{as0 bd:Code}{gf:FuncId}{caps:List V}{ins:List Ob}{es:List (List V)}(ns:List Nat)(hF:C.F=Fence.wide)(hd:C.dfs=oB)(pn:List Nat)(gl:List (Nat×Nat)) (it:w6 P gf caps ins es) (hg:ev tm g= .fn (.func gf) [] (V.aV (oa ns) caps)) (hidf:V.cQ ins.length caps=true) (hns:ns.length=ins.length) (hnd:ns.Nodup) (hins:∀(i k:Nat) (o:Ob),ns[i]?=some k->ins[i]?=some o->σ k=some o/\DI o=true) (hlen:∀x∈es,x.length=ps.size) (hps:ps.toList.all (fun p=>decide (p< N))=true) (tl:List (Nat×V)) (rd:List V->List Ob->RO) (l0:List Ob) (hl0:Jp pn l0=true) (hrd:∀ok sl X k x l,L4 pn ok sl X k (rd x l)->∀C':Cx P N,AW C' as0 (dS (fun s'=>AW C' bd (mg pn ok sl X k) s') (fun _ _=>False)) ⟨mb (gJ tl) ps.toList x,cO (pn.zip l),1⟩) (hpn:∀p∈pn,500<=p/\p< 1000) (hid:∀p∈gl,p.1< 1000) (htm:lK (fun p=>tm p.1=p.2.bB (aH gl nx)) tl) (hσ:lK (fun p=>∃ob,σ (aH gl nx p.1)=some ob/\fy ob (p.2.bB (aH gl nx))) (pn.zip l0)) (hinj:decide (((pn.zip l0).map fun p=>aH gl nx p.1).Nodup)=true) (hdis:∀p∈pn.zip l0,aH gl nx p.1∉ns){c:Exit}{lf:List Ob}{e:CT}(hw:KO (fun x l=>Nj pn (rd x l)) es l0=some (c,lf,e)) (he:kz e) (hQ:Q c ⟨gJ tl,cO (pn.zip lf),1⟩):AW C (.rangeFunc g ps as0 bd) Q ⟨tm,σ,nx⟩:=by
 have hat:=Ii hw he;generalize hR:(fun x l=>Nj pn (rd x l))=rr at hw hat;have hst0:∀k l,l8 rr es l0 k=some l->Jp pn l=true:=by
  intro k;cases k with
  |zero=>intro l hl;simp only [l8,Option.some.injEq]at hl;subst hl;exact hl0
  |succ k=>
   intro l hl;simp only [l8]at hl;split at hl
   ·rename_i l1 x h1 hx;split at hl;·rename_i l' e' hr;injection hl with hl;subst hl;rw [<-hR]at hr;exact(Ci hr).2
    ·cases hl
   ·cases hl
 refine zc ns hF hd it hg hidf hns hnd hins hlen hps pn gl tl (fun k=>(l8 rr es l0 k).isSome=true) (fun k=>(l8 rr es l0 k).getD []) (fun k c sx=>∃l x c' e',l8 rr es l0 k=some l/\es[k]?=some x/\rr x l= .ext c' sx e'/\FQ c'=c) (by simp [l8]) (List.all_eq_true.2 fun p hp=>by simpa using hpn p hp) (by simpa [l8]using (Aa hl0).1) (List.all_eq_true.2 fun p hp=>decide_eq_true (hid p hp)) htm hσ hinj (by simpa [l8]using hdis) (fun k o ho=> ?_) (fun k c sx hX o ho=> ?_) (fun C' _ k x hx hok=> ?_) (fun hok=> ?_) (fun k c sx hk hX=> ?_)
 ·cases hk:l8 rr es l0 k with
  |none=>rw [hk]at ho;simp at ho
  |some l=>rw [hk]at ho;exact(Aa (hst0 k l hk)).2 o (by simpa using ho)
 ·obtain⟨l,x,c',e',hl,hx,hr,rfl⟩:=hX;rw [<-hR]at hr;exact(Aa (Ch hr).2).2 o ho
 ·obtain⟨l,hl⟩:=Option.isSome_iff_exists.1 hok;rw [hl,Option.getD_some];obtain⟨hk,t,ht,htE⟩:=hat k l hl;have hlt:=(List.getElem?_eq_some_iff.1 hx).1;have hdr:es.drop k=x::es.drop (k+1):=by
   rw [List.drop_eq_getElem_cons hlt];congr 1
   exact(List.getElem?_eq_some_iff.1 hx).2
  rw [hdr]at ht;refine hrd _ _ _ k x l ?_ C';unfold KO at ht;split at ht
  ·rename_i l' e' hr;split at ht
   ·simp only [Option.some.injEq,Prod.mk.injEq]at ht;obtain⟨_,_,rfl⟩:=ht;have hst:l8 rr es l0 (k+1)=some l':=by simp only [l8,hl,hx,hr]
    rw [<-hR]at hr;rw [(Ci hr).1];exact⟨htE.1,fun _ _=>⟨by simp only [hst,Option.isSome_some],by simp only [hst,Option.getD_some]⟩⟩
   ·cases ht
  ·rename_i c' l' e' hr;have hr':=hr;rw [<-hR]at hr';rw [(Ch hr').1];split at ht;·simp only [Option.some.injEq,Prod.mk.injEq]at ht;obtain⟨_,_,rfl⟩:=ht;exact⟨htE,fun _ _=>⟨l,x,_,_,hl,hx,hr,rfl⟩⟩
   ·simp only [Option.some.injEq,Prod.mk.injEq]at ht;obtain⟨_,_,rfl⟩:=ht;exact⟨htE,fun _ _=>⟨l,x,_,_,hl,hx,hr,rfl⟩⟩
   ·cases ht
  ·cases ht
 ·obtain⟨l,hl⟩:=Option.isSome_iff_exists.1 hok;rw [hl,Option.getD_some];obtain⟨hk,t,ht,htE⟩:=hat _ l hl;rw [List.drop_length]at ht;simp only [KO,Option.some.injEq,Prod.mk.injEq]at ht;obtain⟨rfl,rfl,_⟩:=ht;exact hQ
 ·obtain⟨l,x,c',e',hl,hx,hr,rfl⟩:=hX;obtain⟨hk',t,ht,htE⟩:=hat k l hl;have hdr:es.drop k=x::es.drop (k+1):=by
   rw [List.drop_eq_getElem_cons hk];congr 1
   exact(List.getElem?_eq_some_iff.1 hx).2
  rw [hdr]at ht;unfold KO at ht;rw [hr]at ht;simp only at ht;split at ht;·simp only [Option.some.injEq,Prod.mk.injEq]at ht;obtain⟨rfl,rfl,_⟩:=ht;exact ak hQ
  ·simp only [Option.some.injEq,Prod.mk.injEq]at ht;obtain⟨rfl,rfl,_⟩:=ht;exact cm hQ
  ·cases ht
abbrev ng:Type:=FuncId->List V->List Ob->Option (List (List V)×CT)
def oJ(P:Program)(itr:ng):Prop:=∀f caps ins es e,itr f caps ins=some (es,e)->kz e->w6 P f caps ins es
def Gq(σ:Nat->Option Ob):List Nat->Option (List Ob)
 | []=>some []
 |k::l=>match σ k with
  |some o=>match DI o with
   |true=>match Gq σ l with
    |some r=>some (o::r)
    |none=>none
   |false=>none
  |none=>none
def Dm:List Nat->List Nat
 | []=>[]
 |k::l=>match jT (Dm l) k with
  |true=>Dm l
  |false=>k::Dm l
structure IF where
  caps:List V
  ns:List Nat
  ins:List Ob
  e:CT
def Ld(caps caps':List V)(ns:List Nat)(ins:List Ob):Option IF:=match sU ns && (V.cQ ins.length caps' && Nat.ble ins.length 400)with
 |true=>some ⟨caps',ns,ins,.lf [(.vs caps,.vs (V.aV (oa ns) caps'))]⟩
 |false=>none
def Lb(σ:Nat->Option Ob)(caps:List V)(ns:List Nat):Option IF:=match Gq σ ns with
 |some ins=>Ld caps (V.aV (fun i=>500+yb ns i) caps) ns ins
 |none=>none
def Mn(σ:Nat->Option Ob)(caps:List V):Option IF:=match V.bp caps with
 |true=>some ⟨caps,[],[],c0⟩
 |false=>Lb σ caps (Dm (V.o8 caps))
theorem yg{σ:Nat->Option Ob}:∀ {ns:List Nat}{ins:List Ob},Gq σ ns=some ins->ns.length=ins.length/\∀(i k:Nat) (o:Ob),ns[i]?=some k->ins[i]?=some o->σ k=some o/\DI o=true
 | [],ins,h=>by simp only [Gq,Option.some.injEq]at h;subst h;exact⟨rfl,fun i k o h=>by simp at h⟩
 |k::l,ins,h=>by
  simp only [Gq]at h;split at h
  ·rename_i o ho;split at h
   ·rename_i hb;split at h
    ·rename_i r hr;injection h with h;subst h;obtain⟨h1,h2⟩:=yg hr;refine⟨by simp [h1],fun i k' o' hk ho'=> ?_⟩;cases i with
     |zero=>simp at hk ho';subst hk ho';exact⟨ho,hb⟩
     |succ i=>exact h2 i k' o' (by simpa using hk) (by simpa using ho')
    ·cases h
   ·cases h
  ·cases h
theorem Jc{σ:Nat->Option Ob}{caps:List V}{u:IF}(h:Mn σ caps=some u)(he:kz u.e):caps=V.aV (oa u.ns) u.caps/\V.cQ u.ins.length u.caps=true/\u.ns.length=u.ins.length/\u.ns.Nodup/\(∀(i k:Nat) (o:Ob),u.ns[i]?=some k->u.ins[i]?=some o->σ k=some o/\DI o=true)/\u.ins.length<=400:=by
 unfold Mn at h;split at h;·rename_i hi;injection h with h;subst h;exact⟨(V.dN _ _ hi).symm,gH 0 caps hi,rfl,.nil,(fun i k o h=>by simp at h),Nat.zero_le _⟩
 ·generalize Dm _=ns at h;unfold Lb at h;split at h
  ·rename_i ins hins;obtain⟨h1,h2⟩:=yg hins;unfold Ld at h;split at h;·rename_i hb;injection h with h;subst h;simp only [Bool.and_eq_true]at hb;have hE:iM _:=he;have e1:=hE.hd;injection e1 with e1;exact⟨e1,hb.2.1,h1,pG hb.1,h2,Nat.le_of_ble_eq_true hb.2.2⟩
   ·cases h
  ·cases h
def DZ(σ:Nat->Option Ob):List V->List Nat
 | []=>[]
 |v::l=>match v with
  | .ref i o=>match o with
   |0=>match σ i with
    |some (.box _ cs)=>match cs.all V.BQ with
     |true=>i::DZ σ l
     |false=>DZ σ l
    |_=>DZ σ l
   |_+1=>DZ σ l
  |_=>DZ σ l
def Oz(mu:List Nat)(σ:Nat->Option Ob)(v:V):List Nat:=match v with
 | .fn (.func gf) _ caps=>match jT mu gf with
  |true=>DZ σ caps
  |false=>[]
 |_=>[]
def PJ:List (Nat×Option Ob)->List Nat
 | []=>[]
 | (k,o)::l=>match o with
  |some (.box _ cs)=>match V.bp cs && !V.dH [] cs with
   |true=>k::PJ l
   |false=>PJ l
  |_=>PJ l
def s9(mu:List Nat)(s:CS)(g:Operand):CS:=F1 s (oc (Oz mu (fW s.sl) (ev s.tr.get g)) (f7 (fW s.sl) 1000 (ev s.tr.get g).ids [])++PJ s.sl)
def Oc(l:List Nat):List Nat->Bool
 | []=>true
 |k::ns=>match jT l k with
  |true=>false
  |false=>Oc l ns
def Gz(tr:TR)(ns:List Nat):List Nat->List Nat
 | []=>[]
 |t::l=>match Oc (tr.get t).ids ns with
  |true=>t::Gz tr ns l
  |false=>Gz tr ns l
def FH(v:V):List V:=match v with
 | .fn _ _ caps=>caps
 |_=>[]
def Qn(v:V):List Nat:=match V.bp (FH v)with
 |true=>[]
 |false=>Dm (V.o8 (FH v))
def Lt(tr:TR)(ns:List Nat)(ks:List Nat):List Nat:=match ns with
 | []=>ks
 |k::l=>Gz tr (k::l) ks
def LI(call:fP)(T:List TI)(M mu:List Nat)(N np:Nat)(ps:List Nat)(as0 bd:Code)(s:CS)(nl:List Nat)(ks ns:List Nat)(es:List (List V))(obs:List (Ob×Ob)):Option (Exit×CS×CT):=
 match (es.all fun x=>Nat.beq x.length ps.length) && (ps.all (fun p=>decide (p< N)) && (ps.all (fun p=>decide (p< 1000)) && (ks.all (fun p=>decide (p< 1000)) && (decide (500+np+nl.length<=1000) && (Jp (yO np nl.length) (obs.map Prod.snd) && (decide ((((yO np nl.length).zip (obs.map Prod.snd)).map fun p=>aH (fY (500+np) nl) s.nx p.1).Nodup) && (((yO np nl.length).zip (obs.map Prod.snd)).all fun p=> !jT ns (aH (fY (500+np) nl) s.nx p.1))))))))with
  |true=>match KO (fun x l=>Nj (yO np nl.length) (ta call T M mu N (yO np nl.length) (j5 (qR np nl) (w5 s.tr ks)) ps as0 bd x l)) es (obs.map Prod.snd)with
   |some (c,lf,e)=>some (c,⟨LK (j5 (qR np nl) (w5 s.tr ks)),zl (yO np nl.length) lf,1⟩,.nd (.lf ((.vs (vals (w5 s.tr ks)),.vs (V.aV (aH (fY (500+np) nl) s.nx) (vals (j5 (qR np nl) (w5 s.tr ks)))))::e7 (aH (fY (500+np) nl) s.nx) obs)) e)
   |none=>none
  |false=>none
def LH(call:fP)(itr:ng)(T:List TI)(M mu:List Nat)(N np:Nat)(g:Operand)(ps:List Nat)(as0 bd:Code)(s:CS)(ks nl:List Nat):Option (Exit×CS×CT):=
 match ev s.tr.get g with
  | .fn (.func gf) [] caps=>match Mn (fW s.sl) caps with
   |some u=>match itr gf u.caps u.ins with
    |some (es,e0)=>match ye (fW s.sl) (qR np nl) (qU np++nl)with
     |some obs=>match LI call T M mu N np ps as0 bd s nl ks u.ns es obs with
      |some (c,s',e)=>some (c,s',.nd u.e (.nd e0 e))
      |none=>none
     |none=>none
    |none=>none
   |none=>none
  |_=>none
def LG(call:fP)(itr:ng)(T:List TI)(M mu:List Nat)(N np:Nat)(g:Operand)(ps:List Nat)(as0 bd:Code)(s:CS)(ks:List Nat):Option (Exit×CS×CT):= LH call itr T M mu N np g ps as0 bd s ks (oc (qU np) (f7 (fW s.sl) 1000 (MG (w5 s.tr ks)++qU np) []))
def Hu(call:fP)(itr:ng)(T:List TI)(M mu:List Nat)(N np:Nat):NT:=fun g ps as0 bd s=> LG call itr T M mu N np g ps.toList as0 bd (s9 mu s g) (Lt (s9 mu s g).tr (Qn (ev (s9 mu s g).tr.get g)) (TR.keys id (s9 mu s g).tr))
theorem Hv{P:Program}{N:Nat}{C:Cx P N}{T:List TI}{M mu:List Nat}{call:fP}{itr:ng}{np:Nat}(hT:aN T P)(hcl:dh P call)(hit:oJ P itr)(hF:C.F=Fence.wide)(hd:C.dfs=oB):BA C (Hu call itr T M mu N np):=by
 intro g ps as0 bd s e s' t h he Q hQ;have hle:∀ {P:Program}{N:Nat}(C:Cx P N) a w,Gm C s.den a w->Gm C (s9 mu s g).den a w:=ry s _;refine qb (s':=(s9 mu s g).den) hle ?_;clear hle;unfold Hu at h;generalize s9 mu s g=s0 at h ⊢;generalize Lt _ _ _=ks at h;unfold LG at h;generalize oc _ _=nl at h;unfold LH at h;split at h
 ·rename_i gf caps hg;split at h
  ·rename_i u hu;split at h
   ·rename_i es e0 hes;split at h
    ·rename_i obs hobs;split at h
     ·rename_i c s1 e1 h2;simp only [Option.some.injEq,Prod.mk.injEq]at h;obtain⟨rfl,rfl,rfl⟩:=h;obtain⟨heu,he0,he⟩:=he;obtain⟨u1,u2,u3,u4,u5,u6⟩:=Jc hu heu;unfold LI at h2;split at h2
      ·rename_i hb;split at h2
       ·rename_i c1 lf e2 hw;simp only [Option.some.injEq,Prod.mk.injEq]at h2;obtain⟨rfl,rfl,rfl⟩:=h2;simp only [Bool.and_eq_true,decide_eq_true_eq]at hb;obtain⟨hb1,hb2,hb3,hb4,hb5,hb6,hb7,hb8⟩:=hb;obtain⟨hE,hew⟩:=he;have hE':iM _:=hE;have e1:=hE'.hd;injection e1 with e1;have hB:=hE'.tl;obtain⟨hlen,hget⟩:=kX hobs;have hps:∀p∈ps.toList,p< 1000:=fun p hp=>of_decide_eq_true (List.all_eq_true.1 hb3 p hp);have htl:∀p∈j5 (qR np nl) (w5 s0.tr ks),p.1< 1000:=fun p hp=>by obtain⟨q,hq,hq2⟩:=yV hp;rw [<-hq2];exact of_decide_eq_true (List.all_eq_true.1 hb4 _ (Cs hq))
        have hpn:∀p∈yO np nl.length,500<=p/\p< 1000:=fun p hp=>by unfold yO qU at hp;simp only [List.mem_append,List.mem_map,List.mem_range]at hp;rcases hp with⟨a,ha,rfl⟩ | ⟨a,ha,rfl⟩ <;> omega
        have hs1:(CS.mk (LK (j5 (qR np nl) (w5 s0.tr ks))) (zl (yO np nl.length) lf) 1).den=⟨gJ (j5 (qR np nl) (w5 s0.tr ks)),cO ((yO np nl.length).zip lf),1⟩:=by unfold CS.den;rw [wP htl,tR]
        rw [hs1]at hQ;have H1:∀ok sl X k x l,L4 (yO np nl.length) ok sl X k (ta call T M mu N (yO np nl.length) (j5 (qR np nl) (w5 s0.tr ks)) ps.toList as0 bd x l)->∀C':Cx P N,AW C' as0 (dS (fun s'=>AW C' bd (mg (yO np nl.length) ok sl X k) s') (fun _ _=>False)) ⟨mb (gJ (j5 (qR np nl) (w5 s0.tr ks))) ps.toList x,cO ((yO np nl.length).zip l),1⟩:=fun ok sl X k x l hr C'=>Eh hT hcl hpn htl hps hr C';have H2:∀p∈fY (500+np) nl,p.1< 1000:=fun p hp=>by have:=yD hp;omega
        have H3:=s7 (g:=aH (fY (500+np) nl) s0.nx) (gi:=qR np nl) (tm:=s0.tr.get) (tl:=w5 s0.tr ks) Ct e1;generalize ta call T M mu N (yO np nl.length) (j5 (qR np nl) (w5 s0.tr ks)) ps.toList as0 bd=rd at hw H1;generalize j5 (qR np nl) (w5 s0.tr ks)=tl at*;refine Ef u.ns hF hd (yO np nl.length) (fY (500+np) nl) (hit _ _ _ _ _ hes he0) (by rw [<-u1];exact hg) u2 u3 u4 u5 (fun x hx=> ?_) hb2 tl rd (obs.map Prod.snd) hb6 H1 hpn H2 H3 (ri fun p hp=> ?_) (decide_eq_true hb7) (fun p hp=>by have:=List.all_eq_true.1 hb8 p hp;simp only [Bool.not_eq_true']at this;exact sL this) hw hew hQ;·have:=List.all_eq_true.1 hb1 x hx;have:=Nat.eq_of_beq_eq_true this;simpa using this
        ·obtain⟨i,h1,h2⟩:=wZ hp;simp only [List.getElem?_map,Option.map_eq_some_iff]at h2;obtain⟨q,hq,hq2⟩:=h2;obtain⟨k,hk,hσ,hno⟩:=hget i q hq;have hil:=(List.getElem?_eq_some_iff.1 hq).1;rw [hlen]at hil;have hpl:(qU np).length=np:=by simp [qU]
         simp only [List.length_append,hpl]at hil;have hlk:aH (fY (500+np) nl) s0.nx p.1=k:=by
          unfold yO at h1;unfold aH;by_cases hi:i< np
          ·rw [List.getElem?_append_left oM]at h1 hk;rw [hk]at h1;injection h1 with h1;have hkk:k=500+i:=by unfold qU at hk;rw [List.getElem?_map,List.getElem?_range hi]at hk;simp at hk;omega
           rw [<-h1,B6 oM];exact if_pos oM
          ·rw [List.getElem?_append_right oM]at h1 hk;rw [hpl]at h1 hk;rw [List.getElem?_map,List.getElem?_range oM]at h1;simp only [Option.map_some,Option.some.injEq]at h1;rw [<-h1,lS hk]
         refine⟨q.1,by rw [hlk];exact hσ,?_⟩;rw [<-hq2];exact pE hno (fQ hB hq)
       ·cases h2
      ·cases h2
     ·cases h
    ·cases h
   ·cases h
  ·cases h
 ·cases h
end
end Go.Ab

namespace Go.Ab
open Go.RowKit Go.Dw Go.Shelf
noncomputable section
def Ff:Nat->List V->TR->TR
 |_,[],tr=>tr
 |i,v::l,tr=>Ff (i+1) l (TR.put 10 tr i v)
theorem xu:∀(l:List V) (i:Nat) (tr:TR) (t:Nat),i+l.length<=1000->(Ff i l tr).get t=if i<=t/\t< i+l.length then l.getD (t- i) .any else tr.get t
 | [],i,tr,t,_=>by simp only [Ff,List.length_nil];rw [if_neg oM]
 |v::l,i,tr,t,h=>by
  simp only [List.length_cons]at h;simp only [Ff,List.length_cons];rw [xu l (i+1) _ t oM,TR.j3 oM];by_cases h1:t=i;·subst h1;rw [if_neg oM,if_pos oM,an,Nat.sub_self];rfl
  ·rw [ag _ _ h1];by_cases h2:i+1<=t/\t< i+1+l.length;·rw [if_pos h2,if_pos oM,show t- i=(t- (i+1))+1 by omega];rfl
   ·rw [if_neg h2,if_neg oM]
def Gp:Nat->List Ob->List (Nat×Option Ob)
 |_,[]=>[]
 |k,o::l=>(k,some o)::Gp (k+1) l
theorem yf:∀(l:List Ob) (k i:Nat),fW (Gp k l) i=if k<=i then l[i- k]? else none
 | [],k,i=>by simp [Gp,fW]
 |o::l,k,i=>by
  simp only [Gp,fW];split;·rename_i h;have h:=Nat.eq_of_beq_eq_true h;subst h;rw [if_pos (Nat.le_refl _),Nat.sub_self];rfl
  ·rename_i h;have h:=Nat.ne_of_beq_eq_false h;rw [yf l (k+1) i];by_cases h2:k<=i;·rw [if_pos h2,if_pos oM,show i- k=(i- (k+1))+1 by omega];rfl
   ·rw [if_neg h2,if_neg oM]
def pM(args:List V)(ins:List Ob):CS:=⟨Ff 0 args .e,Gp 500 ins,1⟩
theorem m6{args:List V}{ins:List Ob}(h:args.length<=1000):(pM args ins).den=⟨fun t=>args.getD t .any,eD ins,1⟩:=by
 unfold CS.den pM;congr 1
 ·funext t;simp only;rw [xu args 0 .e t oM,TR.jw];simp only [Nat.zero_le,true_and,Nat.zero_add,Nat.sub_zero];split;·rfl
  ·rename_i h1;rw [List.getD_eq_getElem?_getD,List.getElem?_eq_none oM];rfl
 ·funext i;exact yf ins 500 i
def AP(s:CS):List ResultVar->List (Nat×V)
 | []=>[]
 | .tmp t::l=>(t,s.tr.get t)::AP s l
 | .cell a _::l=>(a,s.tr.get a)::AP s l
def yK(σ:Nat->Option Ob)(g:Nat->Nat):Nat->Nat->List (Option (Ob×Ob))
 |_,0=>[]
 |k,n+1=>(match σ k with
  |some o=>match zn g o with
   |some o'=>some (o,o')
   |none=>none
  |none=>none)::yK σ g (k+1) n
def tA:List (Option (Ob×Ob))->List (Option Ob)
 | []=>[]
 |o::l=>o.map Prod.snd::tA l
def BI(g:Nat->Nat):List (Option (Ob×Ob))->List (CE×CE)
 | []=>[]
 |some p::l=>e7 g [p]++BI g l
 |none::l=>BI g l
def HK(g:Nat->Nat):List Ob->List (CE×CE)
 | []=>[]
 |o::l=>vf g o++HK g l
def Cq(g:Nat->Nat):List (Option Ob)->List (CE×CE)
 | []=>[]
 |some o::l=>vf g o++Cq g l
 |none::l=>Cq g l
def Di:Nat->List (Ob×Ob)->List (Nat×Ob)
 |_,[]=>[]
 |k,p::l=>(k,p.2)::Di (k+1) l
theorem xH:∀ {l:List (Ob×Ob)}{k:Nat}{p:Nat×Ob},p∈Di k l->∃(i:Nat) (q:Ob×Ob),l[i]?=some q/\p.1=k+i/\p.2=q.2
 | [],_,_,h=>by simp [Di]at h
 |q::l,k,p,h=>by
  rcases List.mem_cons.1 h with rfl |h;·exact⟨0,q,rfl,rfl,rfl⟩
  ·obtain⟨i,q',h1,h2,h3⟩:=xH h;exact⟨i+1,q',by simpa using h1,by omega,h3⟩
def La(T:List TI)(fn:Func)(n:Nat)(s:CS)(nl:List Nat)(tl:List (Nat×V))(m:Nat)(all:List (Ob×Ob))(outs:List (Option (Ob×Ob))):Option CR:=
 match decide (((kn 0 (((all.take m).map Prod.snd).map some)++(kn 500 (tA outs)++Di m (all.drop m))).map fun p=>aH (fY 0 nl) s.nx p.1).Nodup) && ((fY 0 nl).all (fun p=>decide (p.1< 500)) && (decide (((all.take m).map Prod.snd).length<=90) && Nat.ble nl.length 400))with
  |true=>match qX T ⟨gJ (j5 (Gr nl) tl),cO (kn 0 (((all.take m).map Prod.snd).map some)++(kn 500 (tA outs)++Di m (all.drop m))),1⟩ fn.results.toList with
   |some v=>some ⟨v,tA outs,(all.take m).map Prod.snd,.lf ((.vs (vals tl),.vs (V.aV (aH (fY 0 nl) s.nx) (vals (j5 (Gr nl) tl))))::
    (.vs [v],.vs [v.bB (bw ((all.take m).map Prod.snd).length n 1)])::(e7 (aH (fY 0 nl) s.nx) all++(BI (aH (fY 0 nl) s.nx) outs++(HK (bw ((all.take m).map Prod.snd).length n 1) ((all.take m).map Prod.snd)++Cq (bw ((all.take m).map Prod.snd).length n 1) (tA outs)))))⟩
   |none=>none
  |false=>none
def K9(T:List TI)(fn:Func)(n:Nat)(s:CS)(nl:List Nat)(tl:List (Nat×V))(m:Nat):Option CR:=
 match ye (fW s.sl) (Gr nl) nl with
  |some all=>La T fn n s nl tl m all (yK (fW s.sl) (Gr nl) 500 n)
  |none=>none
def K8(T:List TI)(fn:Func)(n:Nat)(s:CS)(nv:List Nat):Option CR:= K9 T fn n s (nv++oc (qU n++nv) (f7 (fW s.sl) 1000 (MG (AP s fn.results.toList)) [])) (AP s fn.results.toList) nv.length
def xI(T:List TI)(fn:Func)(n:Nat)(s:CS):Option CR:=match qX T s.den fn.results.toList with
 |some v0=>K8 T fn n s (oc (qU n) (f7 (fW s.sl) 1000 (v0.ids++qU n) []))
 |none=>none
theorem sY{σ:Nat->Option Ob}{g:Nat->Nat}:∀ {n k i:Nat}{p:Ob×Ob},(yK σ g k n)[i]?=some (some p)->i< n/\σ (k+i)=some p.1/\zn g p.1=some p.2
 |0,_,_,_,h=>by simp [yK]at h
 |n+1,k,0,p,h=>by
  simp only [yK,List.getElem?_cons_zero,Option.some.injEq]at h;split at h
  ·rename_i o ho;split at h;·rename_i o' ho';simp only [Option.some.injEq]at h;subst h;exact⟨by omega,ho,ho'⟩
   ·cases h
  ·cases h
 |n+1,k,i+1,p,h=>by simp only [yK,List.getElem?_cons_succ]at h;obtain⟨h1,h2,h3⟩:=sY h;exact⟨by omega,by rw [<-h2];congr 1;omega,h3⟩
theorem yM{σ:Nat->Option Ob}{g:Nat->Nat}:∀ {n k:Nat},(yK σ g k n).length=n
 |0,_=>rfl
 |n+1,k=>by simp [yK,yM]
theorem tB:∀ {l:List (Option (Ob×Ob))}{i:Nat}{o:Option Ob},(tA l)[i]?=some o->∃q,l[i]?=some q/\o=q.map Prod.snd
 | [],_,_,h=>by simp [tA]at h
 |q::l,0,o,h=>by simp [tA]at h;exact⟨q,rfl,h.symm⟩
 |q::l,i+1,o,h=>by simpa using tB (l:=l) (by simpa [tA]using h)
theorem y4:∀ {l:List (Option (Ob×Ob))},(tA l).length=l.length
 | []=>rfl
 |_::l=>by simp [tA,y4]
theorem oW{g:Nat->Nat}:∀ {l:List (Option (Ob×Ob))},iM (BI g l)->∀ {i:Nat}{p:Ob×Ob},l[i]?=some (some p)->iM (e7 g [p])
 |some q::l,h,0,p,hp=>by simp at hp;subst hp;exact h.l
 |none::l,h,0,p,hp=>by simp at hp
 |some q::l,h,i+1,p,hp=>oW h.r (by simpa using hp)
 |none::l,h,i+1,p,hp=>oW (l:=l) h (by simpa using hp)
theorem vg{g:Nat->Nat}:∀ {l:List Ob},iM (HK g l)->∀ {i:Nat}{o:Ob},l[i]?=some o->iM (vf g o)
 |q::l,h,0,p,hp=>by simp at hp;subst hp;exact h.l
 |q::l,h,i+1,p,hp=>vg h.r (by simpa using hp)
theorem pN{g:Nat->Nat}:∀ {l:List (Option Ob)},iM (Cq g l)->∀ {i:Nat}{o:Ob},l[i]?=some (some o)->iM (vf g o)
 |some q::l,h,0,p,hp=>by simp at hp;subst hp;exact h.l
 |none::l,h,0,p,hp=>by simp at hp
 |some q::l,h,i+1,p,hp=>pN h.r (by simpa using hp)
 |none::l,h,i+1,p,hp=>pN (l:=l) h (by simpa using hp)
theorem s8{s:CS}:∀ {rs:List ResultVar},∀p∈AP s rs,s.tr.get p.1=p.2
 | [],p,h=>by simp [AP]at h
 | .tmp t::l,p,h=>by
  rcases List.mem_cons.1 h with rfl |h;·rfl
  ·exact s8 (rs:=l) p h
 | .cell a _::l,p,h=>by
  rcases List.mem_cons.1 h with rfl |h;·rfl
  ·exact s8 (rs:=l) p h
theorem G5{g:Nat->Nat}{l:List (Option Ob)}(h:∀(i:Nat) (o:Ob),l[i]?=some (some o)->o.bB g=o):Ly g l=l:=by
 unfold Ly;refine List.ext_getElem? fun i=> ?_;rw [List.getElem?_map];cases hi:l[i]? with
 |none=>rfl
 |some o=>
  cases o with
  |none=>rfl
  |some o=>simp [h i o hi]
theorem LJ{l:List (Ob×Ob)}{m i:Nat}{q:Ob×Ob}(h:(l.take m)[i]?=some q):l[i]?=some q:=by
 rw [List.getElem?_take]at h;split at h;·exact h
 ·cases h
theorem BK{T:List TI}{fn:Func}{n:Nat}{s:CS}{r:CR}{e:Exit}(hn:n<=400)(he:e= .normal\/e= .ret)(h:xI T fn n s=some r)(hE:kz r.e) :
    eX T fn n r.v r.outs r.obs e s.den/\r.outs.length=n/\r.obs.length<=90:=by
  unfold xI at h
  split at h
  · unfold K8 at h
    generalize oc (qU n) _=nv at h
    generalize nv++oc _ _=nl at h
    generalize nv.length=m at h
    unfold K9 at h
    split at h
    · rename_i obs hobs
      unfold La at h
      split at h
      · rename_i hb
        split at h
        · rename_i v hv
          injection h with h;subst h
          simp only [Bool.and_eq_true]at hb
          obtain⟨hb1,hb2,hb3,hb4⟩:=hb
          have hob:=of_decide_eq_true hb3
          obtain⟨hlen,hget⟩:=kX hobs
          have hnl:=Nat.le_of_ble_eq_true hb4
          have hE':iM _:=hE
          have e1:=hE'.hd
          injection e1 with e1
          have e2:=hE'.tl.hd
          injection e2 with e2
          have hB:=hE'.tl.tl.l
          have hO:=hE'.tl.tl.r.l
          have hS:=hE'.tl.tl.r.r.l
          have hSO:=hE'.tl.tl.r.r.r
          simp only [V.aV,List.cons.injEq,and_true]at e2
          refine⟨OR (tm:=s.tr.get) (σ:=fW s.sl) (nx:=s.nx) (fY 0 nl) (j5 (Gr nl) (AP s fn.results.toList)) (Di m (obs.drop m)) he (s7 s8 e1) (ri fun p hp=> ?_) hb1 hb2 hb3 hv rfl e2.symm (G5 fun i o hi=> ?_),by rw [y4,yM],hob⟩
          · rcases List.mem_append.1 hp with hp |hp
            · obtain⟨i,h1,h2⟩:=rJ hp
              simp only [List.getElem?_map,Option.map_eq_some_iff]at h2
              obtain⟨o',⟨q,hq,rfl⟩,h4⟩:=h2
              injection h4 with h4
              have hq:=LJ hq
              obtain⟨k,hk,hσ,hno⟩:=hget i q hq
              have hg:aH (fY 0 nl) s.nx p.1=k:=by
                unfold aH
                rw [h1,lS hk]
              refine⟨q.1,by rw [hg];exact hσ,?_⟩
              rw [<-h4]
              exact pE hno (fQ hB hq)
            rcases List.mem_append.1 hp with hp |hp
            rotate_left
            · obtain⟨i,q,hq,h1,h2⟩:=xH hp
              rw [List.getElem?_drop]at hq
              obtain⟨k,hk,hσ,hno⟩:=hget (m+i) q hq
              have hg:aH (fY 0 nl) s.nx p.1=k:=by
                unfold aH
                rw [h1,show m+i=0+(m+i) by omega,lS hk]
              refine⟨q.1,by rw [hg];exact hσ,?_⟩
              rw [h2]
              exact pE hno (fQ hB hq)
            · obtain⟨i,h1,h2⟩:=rJ hp
              obtain⟨q,hq,hq2⟩:=tB h2
              cases q with
              |none=>cases hq2
              |some q=>
                simp only [Option.map_some,Option.some.injEq]at hq2
                obtain⟨hin,hσ,hno⟩:=sY hq
                have hg:aH (fY 0 nl) s.nx p.1=500+i:=by
                  unfold aH
                  rw [h1,uY oM]
                  exact if_pos oM
                refine⟨q.1,by rw [hg];exact hσ,?_⟩
                rw [hq2]
                exact pE hno (oW hO hq)
          · by_cases hlt:i< ((obs.take m).map Prod.snd).length
            · rw [List.getElem?_append_left (by simpa using hlt)]at hi
              simp only [List.getElem?_map,Option.map_eq_some_iff]at hi
              obtain⟨o',⟨q,hq,rfl⟩,h4⟩:=hi
              injection h4 with h4
              have hq0:=hq
              have hq:=LJ hq
              obtain⟨k,hk,hσ,hno⟩:=hget i q hq
              rw [<-h4]
              exact yt hno (vg hS (i:=i) (by rw [List.getElem?_map,hq0];rfl))
            · rw [List.getElem?_append_right (by simpa using Nat.le_of_not_lt hlt)]at hi
              obtain⟨q,hq,hq2⟩:=tB hi
              cases q with
              |none=>cases hq2
              |some q=>
                simp only [Option.map_some,Option.some.injEq]at hq2
                obtain⟨hin,hσ,hno⟩:=sY hq
                rw [hq2]
                rw [hq2]at hi
                exact yt hno (pN hSO hi)
        · cases h
      · cases h
    · cases h
  · cases h
def Qd:Ob->V
 | .row _ sz n f=> .sl sz n f
 | .box _ cs=> .ptr cs
 | .mp _ _=> .any
def Jt:Nat->List Ob->List V->List V
 |_,[],args=>args
 |k,o::l,args=>Jt (k+1) l (V.oC k (Qd o) args)
def ya:List Ob->Bool
 | []=>true
 | .row _ _ n f::l=>match ((List.range n).map f).all V.bp with
  |true=>ya l
  |false=>false
 | .box _ cs::l=>match V.bp cs with
  |true=>ya l
  |false=>false
 | .mp _ _::_=>false
theorem sJ:∀ {l:List Ob},ya l=true->∀ {i:Nat}{o:Ob},l[i]?=some o->match o with
    | .row _ _ n f=>∀i,i< n->V.bp (f i)=true
    | .box _ cs=>V.bp cs=true
    | .mp _ _=>False
  | [],_,i,o,hi=>by simp at hi
  | .row e sz n f::l,h,i,o,hi=>by
    simp only [ya]at h
    split at h
    · rename_i ha
      cases i with
      |zero=>
        simp at hi;subst hi
        intro j hj
        have:=ir ha j
        rwa [lV hj]at this
      |succ i=>exact sJ h (by simpa using hi)
    · cases h
  | .box t cs::l,h,i,o,hi=>by
    simp only [ya]at h
    split at h
    · rename_i ha
      cases i with
      |zero=>simp at hi;subst hi;exact ha
      |succ i=>exact sJ h (by simpa using hi)
    · cases h
  | .mp _ _::l,h,i,o,hi=>by simp [ya]at h
theorem N1{w:World}{L:Nat->Prop}{ρ:Nat->Option Value}{id:Nat}{v0:V}(h0:∀y,ρ id=some y->R w L ρ v0 y){us:List V}{xs:List Value}(h:RV w L ρ us xs):RV w L ρ (V.oC id v0 us) xs:=by
 refine⟨by rw [V.fH];exact h.1,fun i u x hu hx=> ?_⟩;rw [V.gX]at hu;cases hc:us[i]? with
 |none=>rw [hc]at hu;cases hu
 |some a=>rw [hc]at hu;simp only [Option.map_some,Option.some.injEq]at hu;subst hu;exact ni h0 _ _ (h.2 i a x hc hx)
theorem EP{w:World}{L:Nat->Prop}{ρ:Nat->Option Value}{xs:List Value}:∀(l:List Ob) (k:Nat) (us:List V),(∀i o,l[i]?=some o->∀y,ρ (k+i)=some y->R w L ρ (Qd o) y)->RV w L ρ us xs->RV w L ρ (Jt k l us) xs
 | [],_,_,_,h=>h
 |o::l,k,us,h0,h=>EP l (k+1) _ (fun i o' hi y hy=>h0 (i+1) o' (by simpa using hi) y (by rw [<-hy];congr 1;omega)) (N1 (fun y hy=>h0 0 o rfl y hy) h)
theorem AM.keep{P:Program}{f:FuncId}{args:List V}{ins:List Ob}{v:V}(h:AM P f (Jt 500 ins args) [] v [] [])(hi:V.bp (Jt 500 ins args)=true)(hi2:ya ins=true)(hv:v.sA=true):AM P f args ins v (ins.map some) []:=by
 refine⟨h.1,fun W LB L w ρ vs hwl hWL hG hρ hvs=> ?_⟩;have hins:∀i o,ins[i]?=some o->eD ins (500+i)=some o:=fun i o hi=>by unfold eD;rw [if_pos oM,Nat.add_sub_cancel_left];exact hi
 obtain⟨Lx,hLx⟩:∃Lx:Nat->Prop,∀b,Lx b<->L b\/∃i x,i< ins.length/\ρ (500+i)=some x/\blk x=some b:=⟨_,fun _=>Iff.rfl⟩;have hobj:∀i o,ins[i]?=some o->∃y,ρ (500+i)=some y/\(∀k,blk y=some k->k< w.heap.size/\W k/\¬L k)/\R w Lx ρ (Qd o) y:=by
  intro i o hio;have hlt:=(List.getElem?_eq_some_iff.1 hio).1;have hr:=hG.ob _ _ (hins i o hio);have hc:=sJ hi2 hio;have fin:∀u y,ρ (500+i)=some y->(∀k,blk y=some k->k< w.heap.size/\W k/\¬L k)->R w (fun b=>L b\/blk y=some b) ρ u y->∃y,ρ (500+i)=some y/\(∀k,blk y=some k->k< w.heap.size/\W k/\¬L k)/\R w Lx ρ u y:=fun u y h1 h2 h3=> ⟨y,h1,h2,h3.ext ⟨fun b hb=>⟨(hLx b).2 (hb.imp id fun h=>⟨i,y,hlt,h1,h⟩),rfl⟩,fun _ _ h=>h⟩⟩;cases o with
  |row e sz n row=>obtain⟨y,h1,h2,h3⟩:=hr.slice hc;exact fin _ y h1 h2 h3
  |box t cs=>obtain⟨y,h1,h2,h3⟩:=hr.ptr hc;exact fin _ y h1 h2 h3
  |mp _ _=>exact hc.elim
 have hLb:∀b,Lx b->b< w.heap.size:=fun b hb=>by
  rcases(hLx b).1 hb with hb | ⟨i,x,hil,hx,hbx⟩;·exact(hG.ll b hb).1
  ·obtain⟨y,h1,h2,_⟩:=hobj i _ (List.getElem?_eq_getElem hil);rw [h1]at hx;injection hx with hx;subst hx
   exact(h2 b hbx).1
 have ex:Ext w L ρ w Lx ρ:=⟨fun b hb=>⟨(hLx b).2 (.inl hb),rfl⟩,fun _ _ h=>h⟩;have hrv:RV w Lx ρ0 (Jt 500 ins args) vs.toList:=by refine RV.free (ρ:=ρ) ?_ hi;refine EP ins 500 args (fun i o hio y hy=> ?_) ⟨hvs.1,fun i u x hu hx=>(hvs.2 i u x hu hx).ext ex⟩;obtain⟨y',h1,_,h3⟩:=hobj i o hio;rw [h1]at hy;injection hy with hy;subst hy;exact h3
 refine(h.2 (fun b=>w.heap.size<=b) (fun b=>Lx b\/w.heap.size<=b) Lx w ρ0 vs (fun b hb=> .inr hb) (fun b hb hL=>by have:=hLb b hL;omega) ⟨fun b hb=>⟨hLb b hb,.inl hb⟩,fun b hb=>⟨hb,.inr hb⟩,(fun id o ho=>by unfold eD at ho;split at ho <;> simp at ho),(fun i j x y k _ _ _ hx=>by cases hx),hG.qO ex⟩ (fun _ _=>rfl) hrv).mono ?_;rintro e w' ⟨x,rfl,ht,L',ρ',hG',hE',hx,hnn⟩;have hbel:Below w.heap.size w w':=ht.below (Nat.le_refl _) fun j hj hW=>by have hW':w.heap.size<=j:=hW;omega
 obtain⟨hG2,ex2⟩:=hG.quiet hbel (L':=L) (fun _ h=>h) (fun _ h=> .inl h);have eo:gL (ins.map some) []=eD ins:=by
  funext id;unfold gL eD;by_cases h5:500<=id;·rw [if_pos h5,if_pos h5,List.getElem?_map];cases ins[id- 500]? <;> rfl
  ·rw [if_neg h5,if_neg h5];simp
 refine⟨x,rfl,aS.gK hbel fun k _ hk=>(hG.new k hk).1,L,ρ,?_,ex2,hx.sA hv,fun j _ hj=>hρ j hj⟩;rw [eo];exact hG2
theorem oL{T:List TI}{P:Program}(hT:aN T P)(hmx:P.follows .mixedOrders=true){f:FuncId}{fn:Func}{c:Code}{N:Nat}(hk:oI P f fn c N){args:List V}{ins:List Ob}{v:V}{obs:List Ob}(hargs:args.length<=N)(hn4:ins.length<=400)(ho9:obs.length<=90)
    (h:∀C:Cx P N,C.F=Fence.wide->C.dfs=oB->AW C c (eX T fn 0 v [] obs) ⟨fun t=>args.getD t .any,eD ins,1⟩):AM P f args ins v (ins.map fun _=>none) obs:=by
  refine⟨hk.call,fun W LB L w ρ vs hwl hWL hG hρn hvs=> ?_⟩
  obtain⟨C,hW,hLB,hd,hFw⟩:∃C:Cx P N,C.W=W/\C.LB=LB/\C.dfs=oB/\C.F=Fence.wide:=⟨⟨W,LB,hwl,oB,hmx,Fence.wide,.inl rfl⟩,rfl,rfl,rfl,rfl⟩
  have hvl:vs.size=args.length:=by have:=hvs.1;simpa using this.symm
  refine callsIn_wide.1 (callsIn_of_wp_marks (n:=0) hk.hf hk.hb trivial ?_ rfl)
  have hw:=h C hFw hd
  unfold AW at hw
  rw [hFw]at hw
  refine wpIn_mono (hw _ w ⟨L,ρ,⟨?_,fun id hid=> ?_,fun t=> ?_,?_,?_,fun id x hp=> ?_⟩⟩) ?_
  · rw [hW,hLB];exact hG
  · have hid':1*100000<=id:=hid
    exact hρn id (.inr oM)
  · by_cases ht:t< args.length
    · have h1:args[t]?=some args[t]:=List.getElem?_eq_getElem ht
      obtain⟨x,hx,hr⟩:=hvs.get h1
      have e1:args.getD t .any=args[t]:=by simp [List.getD_eq_getElem?_getD,h1]
      have e2:(vs++Array.replicate (fn.ntmps- vs.size) undef).getD t undef=x:=by
        rw [Array.getD_eq_getD_getElem?,Array.getElem?_append_left oM]
        have:vs[t]?=some x:=by simpa using hx
        rw [this];rfl
      show R w L ρ (args.getD t .any) _
      rw [e1,e2];exact hr
    · have e1:args.getD t .any= .any:=by simp [List.getD_eq_getElem?_getD,List.getElem?_eq_none (Nat.le_of_not_lt ht)]
      show R w L ρ (args.getD t .any) _
      rw [e1];exact .any _ _
  · rw [<-hk.hn]at hargs ⊢
    simp;omega
  · exact⟨[],by rw [hd];rfl,by simp,by simp⟩
  · rw [hd]at hp;cases hp
  · rintro e a' w' ⟨s',⟨he,s'',hle,hres,hob,hout,hcv,hco,hcu⟩,g',t⟩
    obtain⟨L',ρ',g''⟩:=hle C a' w' g'
    rw [hW]at t
    obtain⟨Ds,d1,d2,d3⟩:=g''.defers
    rw [hd,show oB.tl=[]from rfl,List.append_nil]at d1
    refine iz Ds he d1 d2 (fun D hD=>(d3 D hD).1) fun w2 ht2=> ?_
    obtain⟨g2,e2⟩:=g''.g.marks ht2 d3
    obtain⟨x,hx,hr⟩:=lg hT g2 (fun t=>(g''.tm t).ext e2) fn hres
    have hWD:∀D∈Ds,W D:=fun D hD=>by have:=(d3 D hD).2.1;rw [hW]at this;exact this
    have tt:aS W w w2:=t.trans (ht2.mono fun k _ hkD=>hWD k hkD)
    refine⟨x,hx,x,rfl,tt,?_⟩
    have hr2:R w2 L' (fun i=>ρ' (bw obs.length 0 s''.nx i)) v x:=kH _ _ _ (by rw [hcv];exact hr)
    have hlt:∀i,i< obs.length->bw obs.length 0 s''.nx i=i:=fun i hi=>by unfold bw;rw [if_pos (.inl hi)]
    have hoF:∀id o,gL (ins.map fun _=>none) obs id=some o->s''.σ id=some o/\bw obs.length 0 s''.nx id=id/\o.bB (bw obs.length 0 s''.nx)=o:=by
      intro id o ho
      unfold gL at ho
      split at ho
      · rename_i h5
        rw [List.getElem?_map]at ho
        cases hq:ins[id- 500]? with
        |none=>rw [hq]at ho;cases ho
        |some q=>rw [hq]at ho;cases ho
      · exact⟨hob id o ho,hlt id (List.getElem?_eq_some_iff.1 ho).1,hco o (List.mem_of_getElem? ho)⟩
    have hfr:∀i,obs.length<=i->ρ' (bw obs.length 0 s''.nx i)=none:=fun i hi=>by
      have e3:bw obs.length 0 s''.nx i=s''.nx*100000+i:=if_neg oM
      rw [e3]
      exact g''.fr _ (by unfold bR;omega)
    obtain⟨ρ2,hρ2⟩:∃ρ2:Nat->Option Value,∀i,ρ2 i=if 500<=i/\i< 500+ins.length then ρ i else ρ' (bw obs.length 0 s''.nx i):=⟨_,fun _=>rfl⟩
    have hρlt:∀i,i< 500->ρ2 i=ρ' (bw obs.length 0 s''.nx i):=fun i hi=>by rw [hρ2,if_neg oM]
    have hE2:Ext w2 L' (fun i=>ρ' (bw obs.length 0 s''.nx i)) w2 (fun b=>L' b\/L b) ρ2:=⟨fun b hb=>⟨.inl hb,rfl⟩,fun id v hv=>by
      by_cases hi:id< obs.length
      · rw [hρlt id oM];exact hv
      · have hv:ρ' (bw obs.length 0 s''.nx id)=some v:=hv
        rw [hfr id oM]at hv;cases hv⟩
    refine⟨fun b=>L' b\/L b,ρ2,⟨fun b hb=> ?_,fun b hb=> ?_,fun id o ho=> ?_,fun i j x y k hij hi hj=> ?_,g2.NV hE2.l⟩,⟨fun b hb=>⟨.inr hb,tt.block b (hG.ll b hb).1 fun hc=>hWL b hc hb⟩,fun id x hx=> ?_⟩,hr2.ext hE2,fun j hj hj5=> ?_⟩
    · rcases hb with hb |hb
      · have:=g2.ll b hb
        rw [hLB]at this
        exact⟨this.1,this.2⟩
      · exact⟨Nat.lt_of_lt_of_le (hG.ll b hb).1 tt.size,(hG.ll b hb).2⟩
    · exact hG.new b (Nat.le_trans tt.size hb)
    · obtain⟨q1,q2,q3⟩:=hoF id o ho
      have hr0:=g2.ob id o q1
      rw [hW]at hr0
      have hr:Real W w2 L' (fun i=>ρ' (bw obs.length 0 s''.nx i)) id o:=Real.bB (by rw [q2,q3];exact hr0)
      obtain⟨y,hy,hy2⟩:=hr.lt
      refine hr.keep hE2 fun x k hx hk=> ?_
      rw [hx]at hy;injection hy with hy;subst hy
      refine⟨rfl,?_⟩
      rintro(h1 |h1)
      · exact(hy2 k hk).2.2 h1
      · exact hWL k (hy2 k hk).2.1 h1
    · have key:∀i,gL (ins.map fun _=>none) obs i≠none->s''.σ i≠none/\bw obs.length 0 s''.nx i=i/\i< 500:=fun i hi=>by
        cases ho:gL (ins.map fun _=>none) obs i with
        |none=>exact absurd ho hi
        |some o=>
          obtain⟨q1,q2,_⟩:=hoF i o ho
          refine⟨by rw [q1];simp,q2,?_⟩
          unfold gL at ho
          split at ho
          · rw [List.getElem?_map]at ho
            cases hq:ins[i- 500]? with
            |none=>rw [hq]at ho;cases ho
            |some q=>rw [hq]at ho;cases ho
          · omega
      rw [hρlt i (key i hi).2.2,hρlt j (key j hj).2.2,(key i hi).2.1,(key j hj).2.1]
      exact g2.sep i j x y k hij (key i hi).1 (key j hj).1
    · by_cases h5:500<=id/\id< 500+ins.length
      · rw [hρ2,if_pos h5];exact hx
      · rw [hρn id oM]at hx;cases hx
    · rw [hρ2,if_neg oM]
      exact hfr j hj
abbrev ML:Type:=List (FuncId×List Nat)
def NW:ML->FuncId->List Nat
 | [],_=>[]
 | (k,m)::l,f=>match Nat.beq f k with
  |true=>m
  |false=>NW l f
def Ji(mu:List Nat)(f:FuncId)(args:List V)(ins:List Ob):CS:=match jT mu f with
 |true=>pM args ins
 |false=>F1 (pM args ins) ((List.range ins.length).map (500+ ·))
theorem BM(mu:List Nat)(f:FuncId)(args:List V)(ins:List Ob):Le (pM args ins).den (Ji mu f args ins).den:=by
 unfold Ji;split;·exact Le.refl _
 ·exact ry _ _
def Kb(call:fP)(itrI:ng)(T:List TI)(M mu:List Nat)(N np:Nat):NT:=fun g ps as0 bd s=>match np with
 |0=>Hu call itrI T M mu N 0 g ps as0 bd s
 |_+1=>none
theorem Cl{P:Program}{N:Nat}{C:Cx P N}{T:List TI}{M mu:List Nat}{call:fP}{itrI:ng}{np:Nat}(hT:aN T P)(hcl:dh P call)(hitI:oJ P itrI)(hF:C.F=Fence.wide)(hpin:∀id x,C.dfs.pin id=some x->500<=id/\id< 500+np)(htl:C.dfs.tl=[]):BA C (Kb call itrI T M mu N np):=by
 intro g ps as0 bd s e s' t h he Q hQ;unfold Kb at h;split at h
 ·have hd:C.dfs=oB:=by
   have hp:C.dfs.pin=fun _=>none:=by
    funext id;cases hx:C.dfs.pin id with
    |none=>rfl
    |some x=>have:=hpin id x hx;omega
   generalize C.dfs=D at hp htl;cases D;simp only at hp htl;subst hp htl;rfl
  exact Hv hT hcl hitI hF hd _ _ _ _ _ _ _ _ h he Q hQ
 ·cases h
def N8(T:List TI)(fn:Func)(n:Nat)(r:Exit×CS×CT):Option CR:=match r.1 with
 | .ret=>oE (xI T fn n r.2.1) none fun q=>some ⟨q.v,q.outs,q.obs,zS r.2.2 q.e⟩
 | .normal=>oE (xI T fn n r.2.1) none fun q=>some ⟨q.v,q.outs,q.obs,zS r.2.2 q.e⟩
 |_=>none
def Dj(call:fP)(itrI:ng)(T:List TI)(M mu:List Nat)(f:FuncId)(fn:Func)(c:Code)(args:List V)(ins:List Ob):Option CR:= oE (xS call (Kb call itrI T M mu fn.ntmps ins.length) T M mu fn.ntmps c (Ji mu f args ins)) none (N8 T fn ins.length)
def K7(o:Option CR)(ins:List Ob)(els:Option CR):Option CR:=match o with
 |some r=>match r.outs with
  | []=>match r.obs with
   | []=>match r.v.sA with
    |true=>some ⟨r.v,ins.map some,[],r.e⟩
    |false=>els
   |_::_=>els
  |_::_=>els
 |none=>none
def K5(T:List TI)(fn:Func)(ins:List Ob)(r:Exit×CS×CT):Option CR:=match r.1 with
 | .ret=>oE (xI T fn 0 r.2.1) none fun q=>some ⟨q.v,ins.map fun _=>none,q.obs,zS r.2.2 q.e⟩
 | .normal=>oE (xI T fn 0 r.2.1) none fun q=>some ⟨q.v,ins.map fun _=>none,q.obs,zS r.2.2 q.e⟩
 |_=>none
def K6(call:fP)(itrI:ng)(T:List TI)(M mu:List Nat)(f:FuncId)(fn:Func)(c:Code)(args:List V)(ins:List Ob):Option CR:= oE (xS call (Kb call itrI T M mu fn.ntmps 0) T M mu fn.ntmps c (Ji mu f args ins)) none (K5 T fn ins)
def Fw(call:fP)(itrI:ng)(T:List TI)(M mu:List Nat)(f:FuncId)(fn:Func)(c:Code)(args:List V)(ins:List Ob):Option CR:=match ins with
 | []=>Dj call itrI T M mu f fn c args []
 |o::l=>match jT mu f with
  |true=>Dj call itrI T M mu f fn c args (o::l)
  |false=>match ya (o::l) && V.bp (Jt 500 (o::l) args)with
   |true=>K7 (Dj call itrI T M mu f fn c (Jt 500 (o::l) args) []) (o::l) (Dj call itrI T M mu f fn c args (o::l))
   |false=>match Dj call itrI T M mu f fn c args (o::l)with
    |some r=>some r
    |none=>K6 call itrI T M mu f fn c args (o::l)
def Gt(caps:List V)(ins:List Ob)(l:Nat):CS:=pM (V.c (.func (.yield l) #[] #[])::caps) ins
theorem DJ{caps:List V}{ins:List Ob}{l:Nat}(h:caps.length+1<=1000):(Gt caps ins l).den=⟨fun t=>((V.c (.func (.yield l) #[] #[]))::caps).getD t .any,eD ins,1⟩:= m6 (args:=V.c (.func (.yield l) #[] #[])::caps) (ins:=ins) (by simpa using h)
def BR(call:fP)(T:List TI)(M mu:List Nat)(N:Nat)(c:Code)(caps:List V)(ins:List Ob)(l:Nat):Option (List (List V)×CT):=Al true call T M mu N l 20000 (.code c [] (Gt caps ins l))
def FA(P:Program)(T:List TI)(M:ML)(mu:List Nat)(call:fP):ng:=fun f caps ins=>match P.funcs[f]? with
 |some fn=>match fn.body with
  |some c=>match fn.name == "runtime.NumGoroutine" with
   |false=>match fn.results with
    | ⟨[]⟩=>match Nat.ble (caps.length+1) 1000 && (Nat.ble (caps.length+1) fn.ntmps && Nat.ble ins.length 400)with
     |true=>match BR call T (NW M f) mu fn.ntmps c caps ins 0 with
      |some (es,_)=>some (es,.lf [(.ys fun l=>MP (BR call T (NW M f) mu fn.ntmps c caps ins l),.ys fun _=>some es),(.n fun l=>(PF (BR call T (NW M f) mu fn.ntmps c caps ins l)).Po.map Prod.fst,.n fun l=>(PF (BR call T (NW M f) mu fn.ntmps c caps ins l)).Po.map Prod.snd)])
      |none=>none
     |false=>none
    |_=>none
   |true=>none
  |none=>none
 |none=>none
theorem FB{P:Program}{T:List TI}(hT:aN T P)(hmx:P.follows .mixedOrders=true){M:ML}{mu:List Nat}{call:fP}(hcl:dh P call):oJ P (FA P T M mu call):=by
 intro f caps ins es e h hE;unfold FA at h;split at h
 ·rename_i fn hf;split at h
  ·rename_i c hc;split at h
   ·rename_i hname;split at h
    ·rename_i hres;split at h
     ·rename_i hb;simp only [Bool.and_eq_true]at hb;split at h;·rename_i es0 e0 hr;simp only [Option.some.injEq,Prod.mk.injEq]at h;obtain⟨rfl,rfl⟩:=h;have hE':iM _:=hE;have h1:=hE'.hd;have h2:=hE'.tl.hd;injection h1 with h1;injection h2 with h2;exact IJ hT hmx hcl ⟨hf,hc,rfl,hname⟩ hres (Nat.le_of_ble_eq_true hb.2.1) (Nat.le_of_ble_eq_true hb.2.2) (Gt caps ins) (fun l=>DJ (Nat.le_of_ble_eq_true hb.1)) (fun l=>congrFun h1 l) fun l=>CT.A9 (vX (congrFun h2 l))
      ·cases h
     ·cases h
    ·cases h
   ·cases h
  ·cases h
 ·cases h
def Qr(mu:List Nat)(call:fP):fP:=fun f args ins=>match args with
 | []=>match ins with
  | []=>match jT mu (1000000+f)with
   |true=>some ⟨.b true,[],[],c0⟩
   |false=>call f [] []
  |o::l=>call f [] (o::l)
 |a::l=>call f (a::l) ins
def EN(P:Program)(mu:List Nat):Prop:=∀f,jT mu (1000000+f)=true->AM P f [] [] (.b true) [] []
theorem M6{P:Program}{mu:List Nat}{call:fP}(hK:EN P mu)(hcl:dh P call):dh P (Qr mu call):=by
 refine⟨fun f args ins r hm h hE=> ?_,fun name t r n h hv=>hcl.2 name t r n h hv⟩;unfold Qr at h;split at h
 ·split at h
  ·split at h;·rename_i hk;injection h with h;subst h;exact hK f hk
   ·exact hcl.1 _ _ _ _ hm h hE
  ·exact hcl.1 _ _ _ _ hm h hE
 ·exact hcl.1 _ _ _ _ hm h hE
theorem G9{P:Program}:∀ {mu:List Nat},(mu.all fun f=>Nat.ble f 999999)=true->EN P mu
 | [],_,f,h=>by cases h
 |k::l,hm,f,h=>by
  simp only [List.all_cons,Bool.and_eq_true]at hm;simp only [jT]at h;split at h;·rename_i hb;have:=Nat.eq_of_beq_eq_true hb;have:=Nat.le_of_ble_eq_true hm.1;omega
  ·exact G9 hm.2 f h
def PG:List (FuncId×List V×V)->FuncId->Option (List V×V)
 | [],_=>none
 |k::l,f=>match Nat.beq f k.1 with
  |true=>some k.2
  |false=>PG l f
def G8(K:List (FuncId×List V×V))(call:fP):fP:=fun f args ins=>match Nat.beq f G2 with
 |true=>call G2 args ins
 |false=>match ins with
  | []=>match PG K f with
   |some k=>some ⟨k.2,[],[],.lf [(.vs args,.vs k.1)]⟩
   |none=>call f args []
  |o::l=>call f args (o::l)
def mH(P:Program)(K:List (FuncId×List V×V)):Prop:=∀f k,PG K f=some k->AM P f k.1 [] k.2 [] []
theorem wA{P:Program}{K:List (FuncId×List V×V)}{call:fP}(hK:mH P K)(hcl:dh P call):dh P (G8 K call):=by
 refine⟨fun f args ins r hm h hE=> ?_,fun name t r n h hv=>hcl.2 name t r n h hv⟩;unfold G8 at h;rw [hm]at h;simp only at h;split at h
 ·split at h;·rename_i k hk;injection h with h;subst h;have hE':iM _:=hE;have e1:=hE'.hd;injection e1 with e1;rw [e1];exact hK f k hk
  ·exact hcl.1 _ _ _ _ hm h hE
 ·exact hcl.1 _ _ _ _ hm h hE
def Mm(P:Program)(args:List V):Option CR:=match args with
 | [.fn (.method name) [] [],.c (.int .i64 n)]=>match GW P name n.toNat with
  |some f=>some ⟨.i (f:Int),[],[],c0⟩
  |none=>none
 |_=>none
def kN(O:fP->fP)(P:Program)(T:List TI)(M:ML)(mu:List Nat):Nat->fP
 |0=>fun _ _ _=>none
 |d+1=>fun f args ins=>match Nat.beq f G2 with
  |true=>Mm P args
  |false=>match P.funcs[f]? with
   |some fn=>match fn.body with
    |some c=>match fn.name == "runtime.NumGoroutine" with
     |false=>match Nat.ble args.length 1000 && (Nat.ble args.length fn.ntmps && Nat.ble ins.length 400)with
      |true=>Fw (O (kN O P T M mu d)) (FA P T M mu (O (kN O P T M mu d))) T (NW M f) mu f fn c args ins
      |false=>none
     |true=>none
    |none=>none
   |none=>none
def uI(P:Program)(T:List TI)(M:ML)(mu:List Nat):Nat->fP:=kN (Qr mu) P T M mu
theorem jK{P:Program}{T:List TI}{call:fP}{itrI:ng}(hT:aN T P)(hmx:P.follows .mixedOrders=true)(hcl:dh P call)(hitI:oJ P itrI){M mu:List Nat}{f:FuncId}{fn:Func}{c:Code}{args:List V}{ins:List Ob}{r:CR}(hk:oI P f fn c fn.ntmps)(ha:args.length<=1000)(ha2:args.length<=fn.ntmps)(hi:ins.length<=400) (h:Dj call itrI T M mu f fn c args ins=some r) (hE:kz r.e):AM P f args ins r.v r.outs r.obs:=by
 obtain⟨q,hq,h⟩:=dw h;obtain⟨e,s,t⟩:=q;have key:(e= .normal\/e= .ret)->oE (xI T fn ins.length s) none (fun q=>some ⟨q.v,q.outs,q.obs,zS t q.e⟩)=some r->AM P f args ins r.v r.outs r.obs:=by intro he h;obtain⟨r',hr',h⟩:=dw h;injection h with h;subst h;have hE:=mN hE;obtain⟨q1,q2,q3⟩:=BK hi he hr' hE.2;refine uA hT hmx hk ha2 q2 hi q3 fun C hF hpin htl=> ?_;have:=nM (C:=C) (mu:=mu) hT hcl (Cl hT hcl hitI hF hpin htl) c _ _ _ _ hq hE.1 (eX T fn ins.length r'.v r'.outs r'.obs) q1;rw [<-m6 ha];exact qb (BM mu f args ins) this
 unfold N8 at h;split at h;·rename_i h0;exact key (.inr h0) h
 ·rename_i h0;exact key (.inl h0) h
 ·cases h
theorem Fy{P:Program}{T:List TI}{call:fP}{itrI:ng}(hT:aN T P)(hmx:P.follows .mixedOrders=true)(hcl:dh P call)(hitI:oJ P itrI){M mu:List Nat}{f:FuncId}{fn:Func}{c:Code}{args:List V}{ins:List Ob}{r:CR}(hk:oI P f fn c fn.ntmps)(ha:args.length<=1000)(ha2:args.length<=fn.ntmps)(hi:ins.length<=400) (h:K6 call itrI T M mu f fn c args ins=some r) (hE:kz r.e):AM P f args ins r.v r.outs r.obs:=by
 obtain⟨q,hq,h⟩:=dw h;obtain⟨e,s,t⟩:=q;have key:(e= .normal\/e= .ret)->oE (xI T fn 0 s) none (fun q=>some ⟨q.v,ins.map fun _=>none,q.obs,zS t q.e⟩)=some r->AM P f args ins r.v r.outs r.obs:=by intro he h;obtain⟨r',hr',h⟩:=dw h;injection h with h;subst h;have hE:=mN hE;obtain⟨q1,q2,q3⟩:=BK (Nat.zero_le _) he hr' hE.2;have e0:r'.outs=[]:=List.eq_nil_of_length_eq_zero q2;rw [e0]at q1;refine oL hT hmx hk ha2 hi q3 fun C hF hd=> ?_;have:=nM (C:=C) (mu:=mu) hT hcl (Cl hT hcl hitI hF (fun id x hx=>by rw [hd]at hx;cases hx) (by rw [hd];rfl)) c _ _ _ _ hq hE.1 (eX T fn 0 r'.v [] r'.obs) q1;rw [<-m6 ha];exact qb (BM mu f args ins) this
 unfold K5 at h;split at h;·rename_i h0;exact key (.inr h0) h
 ·rename_i h0;exact key (.inl h0) h
 ·cases h
theorem v8:∀(l:List Ob) (k:Nat) (args:List V),(Jt k l args).length=args.length
 | [],_,_=>rfl
 |o::l,k,args=>by rw [Jt,v8 l,V.fH]
theorem Fx{P:Program}{T:List TI}{call:fP}{itrI:ng}(hT:aN T P)(hmx:P.follows .mixedOrders=true)(hcl:dh P call)(hitI:oJ P itrI){M mu:List Nat}{f:FuncId}{fn:Func}{c:Code}{args:List V}{ins:List Ob}{r:CR}(hk:oI P f fn c fn.ntmps)(ha:args.length<=1000)(ha2:args.length<=fn.ntmps)(hi:ins.length<=400) (h:Fw call itrI T M mu f fn c args ins=some r) (hE:kz r.e):AM P f args ins r.v r.outs r.obs:=by
 unfold Fw at h;split at h;·exact jK hT hmx hcl hitI hk ha ha2 hi h hE
 ·split at h;·exact jK hT hmx hcl hitI hk ha ha2 hi h hE
  ·split at h
   ·rename_i hb;simp only [Bool.and_eq_true]at hb;unfold K7 at h;split at h
    ·rename_i q hq;split at h
     ·rename_i ho;split at h
      ·rename_i hob;split at h;·rename_i hf;injection h with h;subst h;have:=jK hT hmx hcl hitI hk (by rw [v8];exact ha) (by rw [v8];exact ha2) (Nat.zero_le _) hq hE;rw [ho,hob]at this;exact this.keep hb.2 hb.1 hf
       ·exact jK hT hmx hcl hitI hk ha ha2 hi h hE
      ·exact jK hT hmx hcl hitI hk ha ha2 hi h hE
     ·exact jK hT hmx hcl hitI hk ha ha2 hi h hE
    ·cases h
   ·split at h;·rename_i r' hr';injection h with h;subst h;exact jK hT hmx hcl hitI hk ha ha2 hi hr' hE
    ·exact Fy hT hmx hcl hitI hk ha ha2 hi h hE
theorem oX{O:fP->fP}{P:Program}{T:List TI}(hT:aN T P)(hmx:P.follows .mixedOrders=true){M:ML}{mu:List Nat}(hO:∀c,dh P c->dh P (O c)):∀d,dh P (kN O P T M mu d)
  |0=>⟨fun f args ins r _ h _=>by(cases h),fun name t r n h _=>by(cases h)⟩
  |d+1=>by
    refine⟨fun f args ins r hm h hE=> ?_,fun name t r n h hv=> ?_⟩
    · unfold kN at h
      rw [hm]at h
      simp only at h
      split at h
      · rename_i fn hf
        split at h
        · rename_i c hc
          split at h
          · rename_i hname
            split at h
            · rename_i hb
              simp only [Bool.and_eq_true]at hb
              exact Fx hT hmx (hO _ (oX hT hmx hO d)) (FB hT hmx (hO _ (oX hT hmx hO d))) ⟨hf,hc,rfl,hname⟩ (Nat.le_of_ble_eq_true hb.1) (Nat.le_of_ble_eq_true hb.2.1) (Nat.le_of_ble_eq_true hb.2.2) h hE
            · cases h
          · cases h
        · cases h
      · cases h
    · have h:Mm P [.fn (.method name) [] [],.i (t:Int)]=some r:=h
      unfold Mm at h
      simp only at h
      split at h
      · rename_i f hf
        injection h with h;subst h
        simp only [V.c.injEq,Value.int.injEq,true_and]at hv
        have:=GX hf
        simp only [Int.toNat_natCast]at this
        rw [<-hv]
        simpa using this
      · cases h
def cV(o:Option CR):Option (V×List (Option Ob)×List Ob):=match o with
 |some r=>some (r.v,r.outs,r.obs)
 |none=>none
def cT(o:Option CR):CT:=match o with
 |some r=>r.e
 |none=>c0
theorem Ja{O:fP->fP}{P:Program}{T:List TI}(hT:aN T P)(hmx:P.follows .mixedOrders=true)(M:ML)(mu:List Nat)(hO:∀c,dh P c->dh P (O c)){f:FuncId}{args:List V}{ins:List Ob}{v:V}{outs:List (Option Ob)}{obs:List Ob}(h:cV (kN O P T M mu 40 f args ins)=some (v,outs,obs))(hE:(cT (kN O P T M mu 40 f args ins)).l=(cT (kN O P T M mu 40 f args ins)).r)(hf9:Nat.beq f G2=false:=by rfl):AM P f args ins v outs obs:=by
 unfold cV at h;unfold cT at hE;split at h
 ·rename_i r hr;simp only [hr]at hE;injection h with h;injection h with h1 h2;injection h2 with h2 h3;subst h1 h2 h3;cases hm:Nat.beq f G2 with
  |false=>exact(oX hT hmx hO 40).1 f args ins r hm hr (z7 hE)
  |true=>rw [hm]at hf9;cases hf9
 ·cases h
theorem P6{P:Program}{T:List TI}(hT:aN T P)(hmx:P.follows .mixedOrders=true)(M:ML)(mu:List Nat)(hK:EN P mu){f:FuncId}{args:List V}{ins:List Ob}{v:V}{outs:List (Option Ob)}{obs:List Ob}(h:cV (uI P T M mu 40 f args ins)=some (v,outs,obs))(hE:(cT (uI P T M mu 40 f args ins)).l=(cT (uI P T M mu 40 f args ins)).r)(hf9:Nat.beq f G2=false:=by rfl):AM P f args ins v outs obs:=
 Ja hT hmx M mu (fun _=>M6 hK) h hE hf9
theorem Dg{P:Program}{T:List TI}(hT:aN T P)(hmx:P.follows .mixedOrders=true)(M:ML)(mu:List Nat){f:FuncId}{args:List V}{ins:List Ob}{v:V}{outs:List (Option Ob)}{obs:List Ob}(h:cV (uI P T M mu 40 f args ins)=some (v,outs,obs))(hE:(cT (uI P T M mu 40 f args ins)).l=(cT (uI P T M mu 40 f args ins)).r)(hm:(mu.all fun f=>Nat.ble f 999999)=true:=by decide)(hf9:Nat.beq f G2=false:=by rfl):AM P f args ins v outs obs:=P6 hT hmx M mu (G9 hm) h hE hf9
theorem AM.ac{P:Program}{f:FuncId}{args:List V}{v:V}{obs:List Ob}(h:AM P f args [] v [] obs)(ho:obs.length<=400):AC P f args v obs:=by
 refine⟨h.1,fun L w vs hL hgl hv=> ?_⟩;refine(h.2 (fun b=>w.heap.size<=b) (fun b=>L b\/w.heap.size<=b) L w ρ0 vs (fun b hb=> .inr hb) (fun b hb hl=>by have:=hL b hl;omega) ⟨fun b hb=>⟨hL b hb,.inl hb⟩,fun b hb=>⟨hb,.inr hb⟩,(fun id o ho=>by unfold eD at ho;split at ho <;> simp at ho),(fun i j x y k _ _ _ hx=>by cases hx),hgl⟩ (fun _ _=>rfl) hv).mono ?_;rintro e w' ⟨x,rfl,ht,L',ρ',hG',hE',hx,hnn⟩;have eo:gL [] obs=mX obs:=by
  funext id;unfold gL mX;by_cases h5:500<=id;·rw [if_pos h5,show obs[id]?=none from List.getElem?_eq_none oM];simp
  ·rw [if_neg h5]
 rw [eo]at hG';exact⟨x,rfl,ht.below (Nat.le_refl _) fun j hj hW=>by have hW':w.heap.size<=j:=hW;omega,L',ρ',hG',fun b hb=>(hE'.l b hb).1,hx,fun j hj=>hnn j hj (by simp only [List.length_nil,Nat.add_zero];omega)⟩
theorem AC.am{P:Program}{f:FuncId}{args:List V}{v:V}(h:AC P f args v [])(ha:V.bp args=true)(hv:v.cj=true):AM P f args [] v [] []:=by
 refine⟨h.1,fun W LB L w ρ vs hwl hWL hG hρ hvs=> ?_⟩;refine(h.2 L w vs (fun b hb=>(hG.ll b hb).1) hG.gl (hvs.free ha)).mono ?_;rintro e w' ⟨x,rfl,hbel,L',ρ',hG',hL',hx,_⟩;obtain⟨Lx,hLx⟩:∃Lx:Nat->Prop,∀b,Lx b<->L b\/(L' b/\w.heap.size<=b):=⟨_,fun _=>Iff.rfl⟩;obtain⟨hG2,ex2⟩:=hG.quiet hbel (L':=Lx) (fun b hb=>(hLx b).2 (.inl hb)) (fun b hb=>by
  rcases(hLx b).1 hb with hb |hb;·exact .inl hb
  ·exact .inr ⟨hb.2,(hG'.ll b hb.1).1⟩)
 have eo:gL [] []=eD []:=by funext id;unfold gL eD;split <;> simp
 refine⟨x,rfl,aS.gK hbel fun k _ hk=>(hG.new k hk).1,Lx,ρ,?_,ex2,?_,fun j _ hj=>hρ j hj⟩;·rw [eo];exact hG2
 ·have:=hx.free hv ρ;refine this.mono (fun b hb=>⟨(hLx b).2 ?_,rfl⟩) fun _ _ h=>h;rcases(hG'.ll b hb).2 with h |h;·exact .inl h
  ·exact .inr ⟨hb,h⟩
theorem sW{P:Program}:mH P []:=fun f k h=>by cases h
theorem eP{P:Program}{K:List (FuncId×List V×V)}{f0:FuncId}{a0:List V}{v0:V}(h0:AC P f0 a0 v0 [])(ha:V.bp a0=true)(hv:v0.cj=true)(h:mH P K):mH P ((f0,a0,v0)::K):=by
 intro f k hk;simp only [PG]at hk;split at hk;·rename_i hb;injection hk with hk;subst hk;have:=Nat.eq_of_beq_eq_true hb;rw [this];exact h0.am ha hv
 ·exact h f k hk
end
end Go.Ab

namespace Go.Dw
open Go.RowKit Go.Shelf
def kq(r:Option Nat):Fence:={Fence.wide with round:=r}
section
variable {P:Program}{ops:Array Oper}{md:Region.Mode}{w:World}{r:Option Nat}{m:Nat}
theorem rf{o:Oper}{a:Act}{K:Act->Prop}{K':Act->World->Prop}{Q':Exit->Act->World->Prop}(h:∀a,K a->K' a w)(hh:o.still P a w K):o.wpIn (kq r) m P a w K' Q':=by
  refine⟨fun _ _=>trivial,?_⟩
  have hs:o.semAt (kq r).round a.eval=execOp a.eval o\/∃c,o.op= .defer c:=by
    cases r with
    |none=>exact .inl rfl
    |some l=>
      by_cases hd:∃c,o.op= .defer c
      · exact .inr hd
      · exact .inl (Oper.semAt_some l a.eval o (fun c e=>hd ⟨c,e⟩))
  unfold Oper.still at hh
  rcases hs with hs | ⟨c,hc⟩
  · rw [hs]
    generalize (execOp a.eval o).run P w=x at*
    cases x with
    |ok n w'=>
      cases n <;> simp only [Oper.stillUpon]at hh <;> simp only [Oper.uponIn]
      case enter f args=>
        obtain⟨rfl,v,hc,hn⟩:=hh
        refine⟨fun h=>by simp [kq,Fence.wide]at h,?_⟩
        show CallsIn Fence.wide (m- 1) P f args w' _
        exact callsIn_wide.2 (hc.mono fun e w'' ⟨he,hw⟩=>by subst he;subst hw;exact h _ hn)
      all_goals (obtain⟨rfl,h2⟩:=hh;exact h _ h2)
    |halt x w'=>simp only [Oper.stillUpon]at hh
  · exfalso
    unfold execOp at hh
    rw [hc]at hh
    simp only [Sem.run_bind]at hh
    generalize (resolve a.eval c o.type).run P w=x at hh
    cases x with
    |ok d w'=>simp [Result.andThen,Oper.stillUpon]at hh
    |halt x w'=>simp [Result.andThen,Oper.stillUpon]at hh
theorem tJ{i:Nat}{a:Act}{K:Act->Prop}{K':Act->World->Prop}{Q':Exit->Act->World->Prop}(h:∀a,K a->K' a w)(hh:stOp P ops w i K a):wpOpIn (kq r) m P ops Q' i K' a w:=by
 unfold stOp at hh;unfold wpOpIn;split;·rename_i ho;simp only [ho]at hh;exact h _ hh
 ·rename_i o ho;simp only [ho]at hh;split;·rename_i hw;simp only [hw,if_true]at hh;exact rf h hh
  ·rename_i hw;simp only [hw]at hh;exact⟨fun _ _=>trivial,h _ hh⟩
theorem ku{n g:Nat}{L:Array Bool->Act->Prop}{Q':Exit->Act->World->Prop}(hL:∀listed a,L listed a->wpAnyIn (kq r) m P md ops Q' g listed a w) : ∀(f:Nat) (listed:Array Bool) (a:Act),wpAnyL P md ops w n L f listed a->wpAnyIn (kq r) m P md ops Q' (f+g) listed a w
 |0,listed,a,h=>by rw [Nat.zero_add];exact hL _ _ h
 |f+1,listed,a,h=>by rw [show f+1+g=(f+g)+1 by omega];exact⟨fun h0=>absurd h0 h.1,fun i hi=>tJ (fun a' h'=>ku hL f _ a' h') (h.2 i hi).2⟩
theorem lH{Q':Exit->Act->World->Prop}:∀(l:List Oper) (k:Nat) (listed:Array Bool) (a:Act) (w:World),(∀j,l[j]?=ops[k+j]?)-> Region.seqB md ops l.length k listed=true->wpListIn (kq r) m P ops Q' l a w->wpAnyIn (kq r) m P md ops Q' l.length listed a w
 | [],_,_,_,_,_,hB,h=>⟨by simpa [Region.seqB]using hB,h⟩
 |o::l,k,listed,a,w,hl,hB,h=>by
  have h0:ops[k]?=some o:=by simpa using (hl 0).symm
  simp only [List.length_cons,Region.seqB,Bool.and_eq_true,decide_eq_true_eq]at hB;refine⟨fun h1=>(by rw [hB.1]at h1;cases h1),fun i hi=> ?_⟩;rw [hB.1]at hi;have hik:i=k:=by simpa using hi
  subst hik;have hw:wpOpIn (kq r) m P ops Q' i (wpListIn (kq r) m P ops Q' l) a w:=by unfold wpOpIn;simp only [h0];exact h
  exact wpOpIn_mono (fun a' w' h'=>lH l (i+1) _ a' w' (fun j=>by have:=hl (j+1);simpa [Nat.add_assoc,Nat.add_comm 1 j]using this) hB.2 h') hw
theorem jG{id:Nat}{Q:Exit->Act->World->Prop}{a:Act}{w:World}{l:List Oper}(n:Nat)(hm:P.follows .mixedOrders=true)(hB:Region.lexTailB .any l.toArray n=true) (h:wpStill P l.toArray w.drew (fun a'=>wpListIn (kq r) m P l.toArray Q (l.drop n) a' w.drew) (l.take n) a):(Code.region id l.toArray true).wpIn (kq r) m P Q a w:=by
 simp only [Region.lexTailB,Bool.and_eq_true,decide_eq_true_eq]at hB;obtain⟨⟨⟨⟨hsel,hn⟩,hs⟩,hc⟩,hlex⟩:=hB;have hn':n< l.length:=by simpa using hn
 have htl:(l.take n).length=n:=by simp;omega
 have hdl:(l.drop n).length=l.toArray.size- n:=by simp
 have inv0:HeadInv .any l.toArray n (Array.replicate l.toArray.size false):= ⟨by simp,fun j oj _ hl=>(by rw [getD_replicate_false]at hl;cases hl),fun t _ ht=>getD_in (by simpa using ht) (getD_replicate_false _ _)⟩;have H:=wpAnyL_lex (md:= .any) (g:=l.toArray.size- n) hsel hs hc hn (l.take n) 0 _ a (fun j hj=>by
  have hj':j< n:=by rw [htl]at hj;exact hj
  simp [hj']) (by simpa using htl) inv0 (by rw [htl];exact hlex) h
 refine wpIn_region_any hm ?_;have:=ku (r:=r) (m:=m) (Q':=Q) (g:=l.toArray.size- n) (fun listed a' hL=>by have:=lH (r:=r) (m:=m) (md:= .any) (Q':=Q) (l.drop n) n listed a' w.drew (fun j=>by simp [List.getElem?_drop]) (by rw [hdl];exact hL.1) hL.2;rwa [hdl]at this) _ _ _ H;rw [htl,show n+(l.toArray.size- n)=l.toArray.size by omega]at this;exact this
theorem kD{id lp:Nat}{Q:Exit->Act->World->Prop}{a:Act}{w:World}{l:List Oper}(n:Nat)(hm:P.follows .mixedOrders=true)(hB:Region.lexTailB .any l.toArray n=true)
 (h:wpStill P l.toArray w.drew (fun a'=>wpListIn (Fence.wide.inRound lp) m P l.toArray Q (l.drop n) a' w.drew) (l.take n) a):(Code.region id l.toArray true).wpIn (Fence.wide.inRound lp) m P Q a w:=
 jG (r:=some lp) n hm hB h
end
end Go.Dw

namespace Go.Proofs.YtjmbpjlojjgggaaGreatDoor
open Go.RowKit Go.Dw Go.Shelf
attribute [local go_sem] Oper.semAt_some
def dc(u i:Nat):Nat:=max (u- i) (i- u)
def aM(i r:Nat):Nat:=i+1- r
def fI(i n r:Nat):Nat:=min n (i+r)- aM i r
def yu(i r k:Nat):Array Value:= #[.int .i64 ((aM i r:Int)+(k:Int)),.int .i64 (dc (aM i r+k) i:Nat)]
def ji(i n r:Nat):List (Array Value):=(List.range (fI i n r)).map (yu i r)
theorem DW(bi br bn i n r:Nat)(hi:i<=65536)(hn:n<=65536)(hr:r<=65536)(w:World)(R:Nat->Prop)
  (h1:cP w bi 3 #[.int .i64 i]) (h2:cP w br 3 #[.int .i64 r]) (h3:cP w bn 3 #[.int .i64 n]) (r1:¬R bi) (r2:¬R br) (r3:¬R bn) :
  Iter Tryz.prog 182 #[.pointer (some ⟨bi,0,none⟩),.pointer (some ⟨br,0,none⟩),.pointer (some ⟨bn,0,none⟩)] (ji i n r) R w:=by
 intro l J Jx W hT hl hlW hJ hJx hY h0
 have hb:∀wr,aS (fun k=>R k\/k=l) W wr->wr.cell? ⟨bi,0,none⟩=some (.int .i64 i)/\wr.cell? ⟨br,0,none⟩=some (.int .i64 r)/\wr.cell? ⟨bn,0,none⟩=some (.int .i64 n):=fun wr ht=>
  ⟨(ht.box (hT.box h1 r1) (by rintro(e |e);exact r1 e;have:=h1.lt;omega)).cell 0,(ht.box (hT.box h2 r2) (by rintro(e |e);exact r2 e;have:=h2.lt;omega)).cell 0,
   (ht.box (hT.box h3 r3) (by rintro(e |e);exact r3 e;have:=h3.lt;omega)).cell 0⟩
 obtain⟨c1,c2,c3⟩:=hb W (aS.refl _ _)
 have e1:max (0:Int) ((i:Int)- (r:Int)+1)=((aM i r:Nat):Int):=by unfold aM;omega
 refine callsIn_of_wp Tryz.func182 rfl trivial ?_ rfl
 simp only [Tryz.ntmps182,List.size_toArray,List.length_cons,List.length_nil,Nat.reduceAdd,Nat.reduceSub,Array.replicate_succ,Array.replicate_zero,List.push_toArray,List.append_toArray,List.nil_append,List.cons_append]
 gi_wp2
 gi_loopw [5] (fun u wr=>∃k:Nat,k<=fI i n r/\u= .int .i64 ((aM i r:Int)+(k:Int))/\J k wr/\aS (fun k=>R k\/k=l) W wr) (fun u wr=>n- (intOf u).toNat)
 case atStart=>exact⟨0,Nat.zero_le _,rfl,h0,aS.refl _ _⟩
 case round=>
  obtain⟨k,hk,rfl,hJk,hTk⟩:=hrel
  obtain⟨d1,d2,d3⟩:=hb wr hTk
  have e2:min (n:Int) ((i:Int)+(r:Int))=((min n (i+r):Nat):Int):=by omega
  by_cases hlt:k< fI i n r
  ·
   obtain⟨fn,tmps,assign,body,hy,hR⟩:=hY k (yu i r k) wr (by simp [ji,hlt]) hTk.size hJk
   have e3:max ((aM i r:Int)+(k:Int)- (i:Int)) ((i:Int)- ((aM i r:Int)+(k:Int)))=((dc (aM i r+k) i:Nat):Int):=by unfold dc;omega
   have hlt':aM i r+k< min n (i+r):=by unfold fI at hlt;omega
   unfold yu at hy
   gi_wp2
   refine hR.mono ?_
   rintro e W2 ⟨bb,rfl,hT2,hJ2,hJ3⟩
   cases bb
   rotate_left
   ·
    gi_wp2
    go_roundw
    case rel=>exact⟨k+1,by omega,by go_num,hJ2 (by simp),hTk.trans hT2⟩
    case measure=>simp [intOf];omega
   ·
    gi_wp2
    refine bodyPost_ret (results_none rfl _ _ _) rfl ?_
    exact⟨⟨_,rfl⟩,.inr ⟨k,by simpa [ji]using hlt,hJ3 (by simp)⟩⟩
  ·
   have hge:min n (i+r)<=aM i r+k:=by unfold fI at hlt;omega
   have hk2:k=fI i n r:=by omega
   subst hk2
   gi_wp2
   go_end0
   exact⟨⟨_,rfl⟩,.inl (by simpa [ji]using hJk)⟩
theorem Au(i n r:Int)(w:World):Calls Tryz.prog 159 #[.int .i64 i,.int .i64 n,.int .i64 r] w fun e w'=> e= .returned (.func (.func 182) #[] #[.pointer (some ⟨w.heap.size,0,none⟩),.pointer (some ⟨w.heap.size+2,0,none⟩),.pointer (some ⟨w.heap.size+1,0,none⟩)])/\ cP w' w.heap.size 3 #[.int .i64 i]/\cP w' (w.heap.size+2) 3 #[.int .i64 r]/\cP w' (w.heap.size+1) 3 #[.int .i64 n]/\Below w.heap.size w w'/\w'.heap.size=w.heap.size+3:=by
 go_enter Tryz.func159,Tryz.ntmps159
 go_wp2
 go_ret
 have b1:=cP.new w 3 #[.int .i64 i];have b2:=cP.new (w.alloc (.cells #[.int .i64 i] 3)) 3 #[.int .i64 n];have b3:=cP.new ((w.alloc (.cells #[.int .i64 i] 3)).alloc (.cells #[.int .i64 n] 3)) 3 #[.int .i64 r];simp only [World.size_alloc]at b2 b3;exact⟨rfl,(b1.alloc _).alloc _,b3,b2.alloc _,(((Below.refl _ _).alloc (Nat.le_refl _) _).alloc (by simp) _).alloc (by simp;omega) _,by simp⟩
def J3(h t:List Int)(down:Bool)(i k:Nat):Array Value:= #[.int .i64 (gi h (aM i t.length+k)+(if down then- gi t (dc (aM i t.length+k) i)else gi t (dc (aM i t.length+k) i)))]
def qx(h t:List Int)(down:Bool)(i:Nat):List (Array Value):=(List.range (fI i h.length t.length)).map (J3 h t down i)
theorem od(bi bh bt bd i:Nat)(Ah At:Option Addr)(n ch r ct:Nat)(h t:List Int)(down:Bool)(w:World)(R:Nat->Prop)
  (hi:i< n) (hn:n<=65536) (hr:r<=65536)
  (h1:cP w bi 3 #[.int .i64 i]) (h2:cP w bh 41 #[.slice Ah n ch]) (h3:cP w bt 59 #[.slice At r ct]) (h4:cP w bd 4 #[.bool down])
  (hh:dW w Ah n h) (ht:dW w At r t) (hhb:∀x∈h, -16777216<=x/\x<=16777216) (htb:∀x∈t,0<=x/\x<=16777216)
  (r1:¬R bi) (r2:¬R bh) (r3:¬R bt) (r4:¬R bd) (r5:∀b,Ah.map (·.block)=some b->¬R b) (r6:0< r->∀b,At.map (·.block)=some b->¬R b) (hR:∀k,R k->k< w.heap.size) :
  Iter Tryz.prog 158 #[.pointer (some ⟨bi,0,none⟩),.pointer (some ⟨bh,0,none⟩),.pointer (some ⟨bt,0,none⟩),.pointer (some ⟨bd,0,none⟩)] (qx h t down i) R w:=by
 intro l J Jx W hT hl hlW hJ hJx hY h0
 have nl:∀b,b< w.heap.size->b≠l:=fun b hb=>by omega
 have tb:∀ {wr:World}{b ty}{cs},aS (fun k=>R k\/k=l) W wr->cP w b ty cs->¬R b->cP wr b ty cs:=fun ht hb hr=>ht.box (hT.box hb hr) (by rintro(e |e);exact hr e;exact nl _ hb.lt e)
 have c1:W.cell? ⟨bi,0,none⟩=some (.int .i64 i):=(hT.box h1 r1).cell 0
 have c2:W.cell? ⟨bh,0,none⟩=some (.slice Ah n ch):=(hT.box h2 r2).cell 0
 have c3:W.cell? ⟨bt,0,none⟩=some (.slice At r ct):=(hT.box h3 r3).cell 0
 have hbW:=cP.new W 161 #[.func (.yield l) #[] #[]]
 have hb0:=bE W (.cells #[.func (.yield l) #[] #[]] 161)
 have d1:=(World.cell?_alloc_lt W (.cells #[.func (.yield l) #[] #[]] 161) ⟨bi,0,none⟩ (by have:=(hT.box h1 r1).lt;exact this)).trans c1
 have d2:=(World.cell?_alloc_lt W (.cells #[.func (.yield l) #[] #[]] 161) ⟨bh,0,none⟩ (by have:=(hT.box h2 r2).lt;exact this)).trans c2
 have d3:=(World.cell?_alloc_lt W (.cells #[.func (.yield l) #[] #[]] 161) ⟨bt,0,none⟩ (by have:=(hT.box h3 r3).lt;exact this)).trans c3
 refine callsIn_of_wp_marks Tryz.func158 rfl trivial ?_ rfl
 simp only [Tryz.ntmps158,List.size_toArray,List.length_cons,List.length_nil,Nat.reduceAdd,Nat.reduceSub,Array.replicate_succ,Array.replicate_zero,List.push_toArray,List.append_toArray,List.nil_append,List.cons_append]
 gi_wp2_with (gi_at_call 159;refine(callsIn_wide.2 (Au _ _ _ _)).mono ?_;rintro e w' ⟨rfl,e1,e2,e3,e4,e5⟩)
 have hT':aS (fun k=>R k\/k=l) W w':=aS.jk (sg hb0 e4 (by simp))
 have hBW:cP w' W.heap.size 161 #[.func (.yield l) #[] #[]]:=hbW.bA e4
 rw [World.size_alloc]at*
 refine zh (gf:=182) rfl (enters_of Tryz.func182 kR rfl)
  (DW _ _ _ i n r oM oM oM w' (fun k=>R k\/k=l) e1 e2 e3
   (by rintro(e |e);have:=hR _ e;have:=hT.size;omega;omega) (by rintro(e |e);have:=hR _ e;have:=hT.size;omega;omega) (by rintro(e |e);have:=hR _ e;have:=hT.size;omega;omega))
  (by rintro k (e |e);have:=hR _ e;have:=hT.size;omega;omega) (by intro x hx;simp [ji]at hx;obtain⟨k,_,rfl⟩:=hx;rfl)
  (fun k W'=>J k W'/\aS (fun k=>R k\/k=l) W W'/\cP W' W.heap.size 161 #[.func (.yield l) #[] #[]]) (fun k c W'=>c= .ret/\Jx k W')
  (fun k W1 W2 h hb=>⟨hJ k W1 W2 h.1 (hb.mono oM),h.2.1.later hb oM,h.2.2.below hb oM⟩)
  (fun k c W1 W2 h hb=>⟨h.1,hJx k W1 W2 h.2 (hb.mono oM)⟩) ⟨hJ 0 W w' h0 (sg hb0 (by rw [World.size_alloc];exact e4) (by simp)),hT',hBW⟩ ?hround ?hdone ?hstop
 case hround=>
  rintro l2 k x W2 hl2 hl2' hx ⟨hJ2,hT2,hB2⟩
  obtain⟨hk,rfl⟩:k< fI i n r/\yu i r k=x:=by
   unfold ji at hx
   rw [List.getElem?_map]at hx
   by_cases hk:k< fI i n r
   ·
    rw [List.getElem?_range hk]at hx;exact⟨hk,by simpa using hx⟩
   ·
    rw [List.getElem?_eq_none (by simpa using hk)]at hx;cases hx
  unfold yu
  gi_wp2
  refine⟨aS.refl _ _,fun W3 hT3=> ?_⟩
  have hb3:Below w'.heap.size W2 W3:=hT3.below (by have:=hT2.size;omega) (fun q hq=>by omega)
  have hT3':aS (fun q=>R q\/q=l) W W3:=hT2.later hb3 oM
  have hB3:=hB2.below hb3 oM
  have hJ3:=hJ k W2 W3.drew hJ2 (hb3.mono oM).drew
  have nl':∀ {A:Option Addr}{b},A.map (·.block)=some b->(∃b o,A=some (⟨b,o,none⟩:Addr)/\b< w.heap.size)->b≠l:=by
   rintro A b hA ⟨b',o,rfl,hb⟩;simp at hA;omega
  have hdk:dc (aM i r+k) i< r:=by unfold dc aM fI aM at *;omega
  have hlk:aM i r+k< n:=by unfold fI aM at *;omega
  obtain⟨bH,oH,rfl,hbH,hcH⟩:=ints_at hh hlk
  obtain⟨bT,oT,rfl,hbT,hcT⟩:=ints_at ht hdk
  have f1:W3.cell? ⟨bh,0,none⟩=some (.slice (some ⟨bH,oH,none⟩) n ch):=(tb hT3' h2 r2).cell 0
  have f2:W3.cell? ⟨bt,0,none⟩=some (.slice (some ⟨bT,oT,none⟩) r ct):=(tb hT3' h3 r3).cell 0
  have f3:W3.cell? ⟨bd,0,none⟩=some (.bool down):=(tb hT3' h4 r4).cell 0
  have f4:W3.cell? ⟨W.heap.size,0,none⟩=some (.func (.yield l) #[] #[]):=hB3.cell 0
  have f5:W3.cell? ⟨bH,oH+(aM i r+k),none⟩=some (.int .i64 (gi h (aM i r+k))):=
   ((hT3'.cell (p:=⟨bH,oH+(aM i r+k),none⟩) (by have:=hT.size;exact Nat.lt_of_lt_of_le hbH this) (by rintro(e |e);exact r5 _ rfl e;exact nl _ hbH e)).trans (hT.cell (p:=⟨bH,oH+(aM i r+k),none⟩) hbH (r5 _ rfl))).trans hcH
  have f6:W3.cell? ⟨bT,oT+dc (aM i r+k) i,none⟩=some (.int .i64 (gi t (dc (aM i r+k) i))):=
   ((hT3'.cell (p:=⟨bT,oT+dc (aM i r+k) i,none⟩) (by have:=hT.size;exact Nat.lt_of_lt_of_le hbT this) (by rintro(e |e);exact r6 oM _ rfl e;exact nl _ hbT e)).trans (hT.cell (p:=⟨bT,oT+dc (aM i r+k) i,none⟩) hbT (r6 oM _ rfl))).trans hcT
  have hl1:=hh.1
  have hl2:=ht.1
  have g1:=(fh.1 hhb) (aM i r+k) oM
  have g2:=(fh.1 htb) (dc (aM i r+k) i) oM
  obtain⟨fn,tmps,assign,body,hy,hRd⟩:=hY k (J3 h t down i k) W3.drew (by subst hl2;subst hl1;simp [qx,hk]) hT3'.size hJ3
  unfold J3 at hy
  rw [hl2]at hy
  have hw1:IntKind.i64.wrap (gi h (aM i r+k)+gi t (dc (aM i r+k) i))=gi h (aM i r+k)+gi t (dc (aM i r+k) i):=IntWalk.i64_in _ oM
  have hw2:IntKind.i64.wrap (gi h (aM i r+k)+ -gi t (dc (aM i r+k) i))=gi h (aM i r+k)+ -gi t (dc (aM i r+k) i):=IntWalk.i64_in _ oM
  have x1:(0:Int)<=(aM i r:Int)+(k:Int):=by omega
  have x2:(aM i r:Int)+(k:Int)< (n:Int):=by omega
  have x3:((aM i r:Int)+(k:Int)).toNat=aM i r+k:=by omega
  have HL1:=Lib.hid hl1
  have HL2:=Lib.hid hl2
  clear hl1 hl2 hcH hcT c1 c2 c3 d1 d2 d3
  cases down
  all_goals
   simp only [Bool.false_eq_true,if_false,if_true]at hy
   gi_wp2
   refine kD 7 kR kR ?_
   simp only [List.take_succ_cons,List.take_zero,List.drop_succ_cons,List.drop_zero]
   repeat still_step
   refine wpStill_nil ?_
   gi_wp2
   refine(uq l2 hRd).mono ?_
   rintro e W4 ⟨bb,rfl,hT4,hJ4,hJ5⟩
   have hT4':aS (fun k=>R k\/k=l) W3 W4:=⟨hT4.os,hT4.tape,hT4.output,hT4.size,hT4.block⟩
   cases bb
   ·
    gi_wp2
    exact⟨hT4',rfl,hJ5 (by simp)⟩
   ·
    gi_wp2
    exact⟨hT4',hJ4 (by simp),hT3'.trans hT4',hT4'.box hB3 (by rintro(e |e);have:=hR _ e;have:=hT.size;omega;omega)⟩
 case hdone=>
  rintro D W2 ⟨hJ2,hT2,hB2⟩ hD hDd
  gi_wp2
  refine o5 [D] (.inl rfl) rfl (by simp) (by simpa using hDd) (fun w=>results_none rfl _ _ _) (fun w4 ht4=>⟨⟨_,rfl⟩,.inl ?_⟩)
  have e:(qx h t down i).length=(ji i n r).length:=by simp [qx,ji,hh.1,ht.1]
  rw [e]
  exact hJ _ _ _ hJ2 (ht4.below (by have:=hT2.size;omega) (fun q hq=>by simp;omega))
 case hstop=>
  rintro D k c W2 hk ⟨rfl,hJ2⟩ hD hDd
  gi_wp2
  have hDl:D< W2.heap.size:=(Array.getElem?_eq_some_iff.1 hDd).1
  refine o5 [D] (.inr rfl) rfl (by simp) (by simpa using hDd) (fun w=>results_none rfl _ _ _) (fun w4 ht4=>⟨⟨_,rfl⟩,.inr ⟨k,?_,?_⟩⟩)
  ·
   have e:(qx h t down i).length=(ji i n r).length:=by simp [qx,ji,hh.1,ht.1]
   rw [e];exact hk
  ·
   exact hJx _ _ _ hJ2 (ht4.below oM (fun q hq=>by simp;omega))
theorem sO(a b:Int)(w:World):Calls Tryz.prog 162 #[.int .i64 a,.int .i64 b] w fun e w'=>e= .returned (.bool (decide (a< b)))/\w=w':=by
 go_enter Tryz.func162,Tryz.ntmps162
 go_wp2
 go_ret
 exact⟨rfl,rfl⟩
theorem sR(a b:Int)(w:World):Calls Tryz.prog 161 #[.int .i64 a,.int .i64 b] w fun e w'=>e= .returned (.bool (decide (b< a)))/\w=w':=by
 go_enter Tryz.func161,Tryz.ntmps161
 go_wp2
 go_ret
 exact⟨rfl,rfl⟩
def iY(down:Bool)(x acc:Int):Int:=if down then max acc x else min acc x
def iC(down:Bool)(f:Int)(l:List Int):Int:=l.foldl (fun acc x=>iY down x acc) f
theorem sB(down:Bool)(bf:Nat)(hbf:bf=161/\down=true\/bf=162/\down=false)(f:Int)(vs:List Int)(gf:Nat)(lb:Array Value)(w:World)(eg:∀args w,(callFunc gf args).run Tryz.prog w= .ok (.enter gf args) w) (hit:∀R w',Below w.heap.size w w'->(∀k,R k->w.heap.size<=k/\k< w'.heap.size)->Iter Tryz.prog gf lb (vs.map fun v=> #[.int .i64 v]) R w') : Calls Tryz.prog 160 #[.int .i64 f,.func (.func gf) #[] lb,.func (.func bf) #[] #[]] w fun e w'=>e= .returned (.int .i64 (iC down f vs))/\Below w.heap.size w w':=by
 refine(callsIn_wide (n:=0)).1 ?_;refine callsIn_of_wp_marks Tryz.func160 rfl trivial ?_ rfl;simp only [Tryz.ntmps160,List.size_toArray,List.length_cons,List.length_nil,Nat.reduceAdd,Nat.reduceSub,Array.replicate_succ,Array.replicate_zero,List.push_toArray,List.append_toArray,List.nil_append,List.cons_append];gi_wp2
 have hb1:=cP.new w 2 #[.int .i64 f];have hb2:=cP.new (w.alloc (.cells #[.int .i64 f] 2)) 296 #[.func (.func bf) #[] #[]];have hb1':=hb1.alloc (.cells #[.func (.func bf) #[] #[]] 296);have hbl:=(bE w (.cells #[.int .i64 f] 2)).alloc (by simp) (.cells #[.func (.func bf) #[] #[]] 296);have hsz:((w.alloc (.cells #[.int .i64 f] 2)).alloc (.cells #[.func (.func bf) #[] #[]] 296)).heap.size=w.heap.size+2:=by simp
 rw [World.size_alloc]at hb2;generalize (w.alloc (.cells #[.int .i64 f] 2)).alloc (.cells #[.func (.func bf) #[] #[]] 296)=w0 at*;refine zh (gf:=gf) rfl eg (hit (· =w.heap.size) w0 hbl (by intro k e;omega)) (by intro k e;omega) (by intro x hx;simp at hx;obtain⟨v,_,rfl⟩:=hx;rfl)
  (fun k W=>cP W w.heap.size 2 #[.int .i64 (iC down f (vs.take k))]/\cP W (w.heap.size+1) 296 #[.func (.func bf) #[] #[]]/\Below w.heap.size w W) (fun _ _ _=>False)
  (fun k W1 W2 h hb=>⟨h.1.below hb oM,h.2.1.below hb oM,h.2.2.trans (hb.mono oM)⟩) (fun _ _ _ _ h _=>h) ⟨by simpa [iC]using hb1',hb2,hbl⟩ ?hround ?hdone (fun _ _ _ _ _ h=>h.elim)
 case hround=>
  rintro l k x W hl hl' hx ⟨h1,h2,h3⟩
  obtain⟨hk,rfl⟩:∃hk:k< vs.length,#[.int .i64 vs[k]]=x:=by
   rw [List.getElem?_map]at hx;by_cases hk:k< vs.length;·rw [List.getElem?_eq_getElem hk]at hx;exact⟨hk,by simpa using hx⟩
   ·rw [List.getElem?_eq_none oM]at hx;cases hx
  gi_wp2
  refine⟨aS.refl _ _,fun W3 hT3=> ?_⟩
  have h1':=hT3.box h1 oM
  have h2':=hT3.box h2 oM
  have h3':Below w.heap.size w W3:=h3.trans (hT3.below (by have:=h3.size;omega) (fun q hq=>by omega))
  have c1:=h1'.cell 0
  have c2:=h2'.cell 0
  have c3:=h1'.frozen 0
  have hs:iC down f (vs.take (k+1))=iY down vs[k] (iC down f (vs.take k)):=by rw [List.take_succ_eq_append_getElem hk,iC,List.foldl_append];rfl
  have HS:=Lib.hid hs
  clear hs hx
  simp only [List.getElem?_toArray,List.getElem?_cons_zero]at c1 c2
  generalize hacc:iC down f (vs.take k)=acc at*
  generalize vs[k]=x at*
  have Hacc:=Lib.hid hacc
  clear hacc
  rcases hbf with⟨rfl,rfl⟩ | ⟨rfl,rfl⟩
  ·by_cases hlt:acc< x
   ·have hd:decide (acc< x)=true:=by simpa using hlt
    gi_wp2_with (gi_at_call 161;refine(callsIn_wide.2 (sR _ _ _)).mono ?_;rintro e w' ⟨rfl,rfl⟩)
    refine⟨aS.setCell (R:=(· =w.heap.size)) (p:=⟨w.heap.size,0,none⟩) (aS.refl _ _) (fun _=>rfl) _,?_,h2'.QM (by simp) _,h3'.setCell (Nat.le_refl _) _⟩;have hb:=h1'.set 0 (.int .i64 x);simp only [List.setIfInBounds_toArray,List.set_cons_zero]at hb;rw [HS.out,show iY true x acc=x by simp [iY];omega];exact hb
   ·have hd:decide (acc< x)=false:=by simpa using hlt
    gi_wp2_with (gi_at_call 161;refine(callsIn_wide.2 (sR _ _ _)).mono ?_;rintro e w' ⟨rfl,rfl⟩)
    refine⟨aS.refl _ _,?_,h2',h3'⟩;rw [HS.out,show iY true x acc=acc by simp [iY];omega];exact h1'
  ·by_cases hlt:x< acc
   ·have hd:decide (x< acc)=true:=by simpa using hlt
    gi_wp2_with (gi_at_call 162;refine(callsIn_wide.2 (sO _ _ _)).mono ?_;rintro e w' ⟨rfl,rfl⟩)
    refine⟨aS.setCell (R:=(· =w.heap.size)) (p:=⟨w.heap.size,0,none⟩) (aS.refl _ _) (fun _=>rfl) _,?_,h2'.QM (by simp) _,h3'.setCell (Nat.le_refl _) _⟩;have hb:=h1'.set 0 (.int .i64 x);simp only [List.setIfInBounds_toArray,List.set_cons_zero]at hb;rw [HS.out,show iY false x acc=x by simp [iY];omega];exact hb
   ·have hd:decide (x< acc)=false:=by simpa using hlt
    gi_wp2_with (gi_at_call 162;refine(callsIn_wide.2 (sO _ _ _)).mono ?_;rintro e w' ⟨rfl,rfl⟩)
    refine⟨aS.refl _ _,?_,h2',h3'⟩;rw [HS.out,show iY false x acc=acc by simp [iY];omega];exact h1'
 case hdone=>
  rintro D W ⟨h1,h2,h3⟩ hD hDd
  have c1:=h1.cell 0
  simp only [List.getElem?_toArray,List.getElem?_cons_zero,List.length_map,List.take_length]at c1
  gi_wp2
  refine o5 [D] (.inr rfl) rfl (by simp) (by simpa using hDd) (fun w=>results_tmp rfl _ _ _) (fun w4 ht4=>⟨rfl,?_⟩)
  exact h3.trans (ht4.below (by have:=h3.size;omega) (fun q hq=>by simp;omega))
theorem FL:∃i,uz Tryz.prog 41 2 i (.int .i64 0) 1 8:=Lg Tryz.underlying41 kR rfl (by decide)
def gP(t h:List Int)(down:Bool)(i:Nat):Int:= iC down (gi h i) ((List.range (fI i h.length t.length)).map fun k=>gi h (aM i t.length+k)+(if down then- gi t (dc (aM i t.length+k) i)else gi t (dc (aM i t.length+k) i)))
def jE(t h:List Int)(down:Bool):List Int:=(List.range h.length).map (gP t h down)
def fO(t h:List Int)(down:Bool)(k:Nat):List Int:=(List.range h.length).map fun i=>if i< k then gP t h down i else 0
theorem ze(t h:List Int)(down:Bool):fO t h down 0=List.replicate h.length 0:=by apply List.ext_getElem <;> simp [fO]
theorem Be(t h:List Int)(down:Bool):fO t h down h.length=jE t h down:=by
 apply List.ext_getElem;·simp [fO,jE]
 ·intro i h1 h2;simp [fO,jE]at h1 ⊢;omega
theorem tH(t h:List Int)(down:Bool)(k:Nat):(fO t h down k).set k (gP t h down k)=fO t h down (k+1):=by
 apply List.ext_getElem;·simp [fO]
 ·intro i h1 h2;simp [fO]at h1 h2 ⊢;rw [List.getElem_set];by_cases e:k=i;·subst e;simp
  ·simp [e];by_cases h3:i< k;·simp [h3];intro h4;omega
   ·simp [h3];intro h4;omega
theorem mF(t h:List Int)(down:Bool)(k:Nat):(fO t h down k).length=h.length:=by simp [fO]
theorem yC(h t:List Int)(down:Bool)(i:Nat) : qx h t down i=((List.range (fI i h.length t.length)).map fun k=>gi h (aM i t.length+k)+(if down then- gi t (dc (aM i t.length+k) i)else gi t (dc (aM i t.length+k) i))).map fun v=> #[.int .i64 v]:=by simp [qx,J3]
theorem Bf(At Ah:Option Addr)(r ct n ch:Nat)(t h:List Int)(down:Bool)(w:World)(hn:n<=65536)(hr:r<=65536)(ht:dW w At r t)(hh:dW w Ah n h) (hhb:∀x∈h, -16777216<=x/\x<=16777216) (htb:∀x∈t,0<=x/\x<=16777216) : Calls Tryz.prog 118 #[.agg #[.slice At r ct],.slice Ah n ch,.bool down] w fun e w'=>∃g,w.heap.size<=g/\e= .returned (.slice (some ⟨g,0,none⟩) n n)/\ cP w' g 2 (bJ (jE t h down))/\Below w.heap.size w w':=by
 obtain⟨i0,hel⟩:=FL;have hmk:=fun W=>DQ hel n oM oM W;go_enter Tryz.func118,Tryz.ntmps118
 go_wp2
 have b1:=((cP.new w 59 #[.slice At r ct]).alloc (.cells #[.slice Ah n ch] 41)).alloc (.cells #[.bool down] 4) |>.alloc (.cells (bJ (List.replicate n 0)) 2)
 have b2:=((cP.new (w.alloc (.cells #[.slice At r ct] 59)) 41 #[.slice Ah n ch]).alloc (.cells #[.bool down] 4)).alloc (.cells (bJ (List.replicate n 0)) 2);have b3:=(cP.new ((w.alloc (.cells #[.slice At r ct] 59)).alloc (.cells #[.slice Ah n ch] 41)) 4 #[.bool down]).alloc (.cells (bJ (List.replicate n 0)) 2);have b4:=cP.new (((w.alloc (.cells #[.slice At r ct] 59)).alloc (.cells #[.slice Ah n ch] 41)).alloc (.cells #[.bool down] 4)) 2 (bJ (List.replicate n 0));have hb0:=(((bE w (.cells #[.slice At r ct] 59)).alloc (by simp) (.cells #[.slice Ah n ch] 41)).alloc (by simp;omega) (.cells #[.bool down] 4)).alloc (by simp;omega) (.cells (bJ (List.replicate n 0)) 2);have hs0:((((w.alloc (.cells #[.slice At r ct] 59)).alloc (.cells #[.slice Ah n ch] 41)).alloc (.cells #[.bool down] 4)).alloc (.cells (bJ (List.replicate n 0)) 2)).heap.size=w.heap.size+1+1+1+1:=by simp
 simp only [World.size_alloc]at b1 b2 b3 b4;generalize (((w.alloc (.cells #[.slice At r ct] 59)).alloc (.cells #[.slice Ah n ch] 41)).alloc (.cells #[.bool down] 4)).alloc (.cells (bJ (List.replicate n 0)) 2)=w0 at*;have hl1:h.length=n:=hh.1;rw [<-hl1,<-ze t h down]at b4;have Hl1:=Lib.hid hl1;clear hl1 hmk;have hh0:=hh.bA hb0;have ht0:=ht.bA hb0;have nA:∀b,Ah.map (·.block)=some b->0< n->b< w.heap.size:=fun b hb hn0=>by obtain⟨b',o,rfl,hb',_⟩:=hh.2.2 hn0;simp at hb;omega
 go_loopw [16] (fun kv wr=>∃k:Nat,k<=n/\kv= .int .i64 k/\cP wr (w.heap.size+1+1+1) 2 (bJ (fO t h down k))/\aS (· =w.heap.size+1+1+1) w0 wr) (fun kv wr=>n- (intOf kv).toNat)
 case atStart=>exact⟨0,Nat.zero_le _,rfl,b4,aS.refl _ _⟩
 case round=>
  obtain⟨k,hk,rfl,hbo,hT⟩:=hrel
  have c1:=hT.box b1 oM
  have c2:=hT.box b2 oM
  have c3:=hT.box b3 oM
  have hbw:Below w.heap.size w wr:=hb0.trans (hT.below oM (fun q hq=>by omega))
  by_cases hlt:k< n
  ·have hhw:=hh.bA hbw;have htw:=ht.bA hbw;obtain⟨bH,oH,rfl,hbH,hcH⟩:=ints_at hhw hlt;have d3:wr.cell? ⟨w.heap.size+1+1,0,none⟩=some (.bool down):=c3.cell 0;have d2:wr.cell? ⟨w.heap.size+1,0,none⟩=some (.slice (some ⟨bH,oH,none⟩) n ch):=c2.cell 0;have l1:=c1.lt;have l2:=c2.lt;have l3:=c3.lt;have l4:=hbo.lt;have hx1:cP (wr.alloc (.cells #[.int .i64 k] 3)) wr.heap.size 3 #[.int .i64 k]:=cP.new _ _ _;have hx2:=bE wr (.cells #[.int .i64 k] 3);have hx3:=HH wr (.cells #[.int .i64 k] 3);cases down
   ·go_wp2
    generalize wr.alloc (.cells #[.int .i64 k] 3)=wx at*;have e1:=c1.below hx2 l1;have e2:=c2.below hx2 l2;have e3:=c3.below hx2 l3;have e4:=hbo.below hx2 l4;have hi:wx.cell? ⟨wr.heap.size,0,none⟩=some (.int .i64 k):=hx1.cell 0;have hbx:Below w.heap.size w wx:=hbw.trans (hx2.mono oM);have hit:∀(R:Nat->Prop) (w':World),Below wx.drew.heap.size wx.drew w'->(∀k,R k->wx.drew.heap.size<=k/\k< w'.heap.size)->
     Iter Tryz.prog 158 #[.pointer (some ⟨wr.heap.size,0,none⟩),.pointer (some ⟨w.heap.size+1,0,none⟩),.pointer (some ⟨w.heap.size,0,none⟩),.pointer (some ⟨w.heap.size+1+1,0,none⟩)] (((List.range (fI k h.length t.length)).map fun q=>gi h (aM k t.length+q)+(if false then- gi t (dc (aM k t.length+q) k)else gi t (dc (aM k t.length+q) k))).map fun v=> #[.int .i64 v]) R w':=fun R w' hb hR=>by
     have hb':Below wx.heap.size wx w':=fE hb
     have hsx:∀q,q< wx.heap.size->¬R q:=fun q hq e=>by have:=(hR q e).1;have:wx.heap.size<=q:=this;omega
     have:=hx1.lt
     rw [<-yC]
     refine od _ _ _ _ k (some ⟨bH,oH,none⟩) At n ch r ct h t false w' R hlt hn hr (hx1.below hb' oM) (e2.below hb' oM) (e1.below hb' oM) (e3.below hb' oM) ((hh.bA hbx).below hb' (Nat.le_refl _)) ((ht.bA hbx).below hb' (Nat.le_refl _)) hhb htb (hsx _ oM) (hsx _ oM) (hsx _ oM) (hsx _ oM) ?_ ?_ (fun q e=>(hR q e).2)
     ·intro b hb2;simp at hb2;exact hsx _ oM
     ·intro hr0 b hb2;obtain⟨b',o,rfl,hb3,_⟩:=ht.2.2 hr0;simp at hb2;exact hsx _ (by have:=hbx.size;omega)
    have Hit:=Lib.hid hit;clear hit;go_region_with (go_at_call 160;refine(sB false 162 (.inr ⟨rfl,rfl⟩) _ _ 158 _ wx.drew (enters_of Tryz.func158 kR rfl) Hit.out).mono ?_;rintro e w' ⟨rfl,hbw'⟩;have q1:w'.cell? ⟨wr.heap.size,0,none⟩=some (.int .i64 k):=(hx1.below (w:=wx.drew) hbw' hx1.lt).cell 0;have q2:w'.cell? ⟨w.heap.size+1+1+1,k,none⟩=some (.int .i64 (gi (fO t h false k) k)):=((e4.below (w:=wx.drew) hbw' e4.lt).cell k).trans (eO _ _ (by rw [mF,Hl1.out];exact hlt));have q3:w'.frozen? ⟨w.heap.size+1+1+1,k,none⟩=false:=(e4.below (w:=wx.drew) hbw' e4.lt).frozen k)
    all_goals
     have hbw2:Below wx.heap.size wx w':=fE hbw'
     go_wp2
     go_roundw
     case rel=>
      refine⟨k+1,by omega,by go_num,?_,?_⟩
      ·have hs:=(e4.below hbw2 e4.lt).set k (.int .i64 (gP t h false k));rw [g9,tH]at hs;simpa [gP]using hs
      ·exact((hT.trans (aS.jk hx2)).trans (aS.jk hbw2)).setCell (fun _=>rfl) _
     case measure=>simp [intOf];omega
   ·go_wp2
    generalize wr.alloc (.cells #[.int .i64 k] 3)=wx at*;have e1:=c1.below hx2 l1;have e2:=c2.below hx2 l2;have e3:=c3.below hx2 l3;have e4:=hbo.below hx2 l4;have hi:wx.cell? ⟨wr.heap.size,0,none⟩=some (.int .i64 k):=hx1.cell 0;have hbx:Below w.heap.size w wx:=hbw.trans (hx2.mono oM);have hit:∀(R:Nat->Prop) (w':World),Below wx.drew.heap.size wx.drew w'->(∀k,R k->wx.drew.heap.size<=k/\k< w'.heap.size)->
     Iter Tryz.prog 158 #[.pointer (some ⟨wr.heap.size,0,none⟩),.pointer (some ⟨w.heap.size+1,0,none⟩),.pointer (some ⟨w.heap.size,0,none⟩),.pointer (some ⟨w.heap.size+1+1,0,none⟩)] (((List.range (fI k h.length t.length)).map fun q=>gi h (aM k t.length+q)+(if true then- gi t (dc (aM k t.length+q) k)else gi t (dc (aM k t.length+q) k))).map fun v=> #[.int .i64 v]) R w':=fun R w' hb hR=>by
     have hb':Below wx.heap.size wx w':=fE hb
     have hsx:∀q,q< wx.heap.size->¬R q:=fun q hq e=>by have:=(hR q e).1;have:wx.heap.size<=q:=this;omega
     have:=hx1.lt
     rw [<-yC]
     refine od _ _ _ _ k (some ⟨bH,oH,none⟩) At n ch r ct h t true w' R hlt hn hr (hx1.below hb' oM) (e2.below hb' oM) (e1.below hb' oM) (e3.below hb' oM) ((hh.bA hbx).below hb' (Nat.le_refl _)) ((ht.bA hbx).below hb' (Nat.le_refl _)) hhb htb (hsx _ oM) (hsx _ oM) (hsx _ oM) (hsx _ oM) ?_ ?_ (fun q e=>(hR q e).2)
     ·intro b hb2;simp at hb2;exact hsx _ oM
     ·intro hr0 b hb2;obtain⟨b',o,rfl,hb3,_⟩:=ht.2.2 hr0;simp at hb2;exact hsx _ (by have:=hbx.size;omega)
    have Hit:=Lib.hid hit;clear hit;go_region_with (go_at_call 160;refine(sB true 161 (.inl ⟨rfl,rfl⟩) _ _ 158 _ wx.drew (enters_of Tryz.func158 kR rfl) Hit.out).mono ?_;rintro e w' ⟨rfl,hbw'⟩;have q1:w'.cell? ⟨wr.heap.size,0,none⟩=some (.int .i64 k):=(hx1.below (w:=wx.drew) hbw' hx1.lt).cell 0;have q2:w'.cell? ⟨w.heap.size+1+1+1,k,none⟩=some (.int .i64 (gi (fO t h true k) k)):=((e4.below (w:=wx.drew) hbw' e4.lt).cell k).trans (eO _ _ (by rw [mF,Hl1.out];exact hlt));have q3:w'.frozen? ⟨w.heap.size+1+1+1,k,none⟩=false:=(e4.below (w:=wx.drew) hbw' e4.lt).frozen k)
    all_goals
     have hbw2:Below wx.heap.size wx w':=fE hbw'
     go_wp2
     go_roundw
     case rel=>
      refine⟨k+1,by omega,by go_num,?_,?_⟩
      ·have hs:=(e4.below hbw2 e4.lt).set k (.int .i64 (gP t h true k));rw [g9,tH]at hs;simpa [gP]using hs
      ·exact((hT.trans (aS.jk hx2)).trans (aS.jk hbw2)).setCell (fun _=>rfl) _
     case measure=>simp [intOf];omega
  ·obtain rfl:k=n:=by omega
   go_wp2
   go_ret
   refine⟨_,?_,rfl,?_,hbw⟩;·omega
   ·rw [<-Hl1.out,Be]at hbo;exact hbo
def jW(inn:Bool)(p:Pt):Int:=if inn then- p.1 else p.2
def gv(inn:Bool)(n:Int):Int:=if inn then- n else n
theorem Hf(a b:Int)(w:World):Calls Tryz.prog 248 #[.agg #[],.agg #[.int .i64 a,.int .i64 b]] w fun e w'=>e= .returned (.int .i64 (jW false (a,b)))/\Below w.heap.size w w':=by
 go_enter Tryz.func248,Tryz.ntmps248
 go_wp2
 go_ret
 exact⟨rfl,(bE _ _).alloc (by simp) _⟩
theorem AD(n:Int)(w:World):Calls Tryz.prog 247 #[.agg #[],.int .i64 n] w fun e w'=>e= .returned (.int .i64 (gv false n))/\Below w.heap.size w w':=by
 go_enter Tryz.func247,Tryz.ntmps247
 go_wp2
 go_ret
 exact⟨rfl,bE _ _⟩
theorem Gn(a b:Int)(w:World)(h: -1099511627776<=a/\a<=1099511627776):Calls Tryz.prog 250 #[.agg #[],.agg #[.int .i64 a,.int .i64 b]] w fun e w'=>e= .returned (.int .i64 (jW true (a,b)))/\Below w.heap.size w w':=by
 go_enter Tryz.func250,Tryz.ntmps250
 go_wp2
 go_ret
 exact⟨rfl,(bE _ _).alloc (by simp) _⟩
theorem Aj(n:Int)(w:World)(h: -1099511627776<=n/\n<=1099511627776):Calls Tryz.prog 249 #[.agg #[],.int .i64 n] w fun e w'=>e= .returned (.int .i64 (gv true n))/\Below w.heap.size w w':=by
 go_enter Tryz.func249,Tryz.ntmps249
 go_wp2
 go_ret
 exact⟨rfl,bE _ _⟩
theorem uh(w:World):(method 494 289 (.agg #[]) "deadwax/play.of").run Tryz.prog w= .ok (248,.agg #[]) w:=by kernel_rfl
theorem qT(w:World):(method 494 289 (.agg #[]) "deadwax/play.back").run Tryz.prog w= .ok (247,.agg #[]) w:=by kernel_rfl
theorem uf(w:World):(method 494 290 (.agg #[]) "deadwax/play.of").run Tryz.prog w= .ok (250,.agg #[]) w:=by kernel_rfl
theorem qS(w:World):(method 494 290 (.agg #[]) "deadwax/play.back").run Tryz.prog w= .ok (249,.agg #[]) w:=by kernel_rfl
def NU(tf:Nat)(lb:Array Value)(thr:List Int->List Int)(n:Nat)(h:List Int)(w:World):Prop:= ∀(A:Option Addr) (c:Nat) (W:World),Below w.heap.size w W->dW W A n h-> Calls Tryz.prog tf (#[.slice A n c]++lb) W fun e W'=>∃g,W.heap.size<=g/\e= .returned (.slice (some ⟨g,0,none⟩) n n)/\cP W' g 2 (bJ (thr h))/\Below W.heap.size W W'
def eT(inn:Bool)(l:List Int)(k:Nat):List Int:=(List.range l.length).map fun i=>if i< k then gv inn (gi l i)else gi l i
theorem qc(inn:Bool)(l:List Int):eT inn l 0=l:=by
 apply List.ext_getElem;·simp [eT]
 ·intro i h1 h2;simp [eT,kU h2]
theorem r8(inn:Bool)(l:List Int):eT inn l l.length=l.map (gv inn):=by
 apply List.ext_getElem;·simp [eT]
 ·intro i h1 h2;simp at h2;simp [eT,kU h2,h2]
theorem ja(inn:Bool)(l:List Int)(k:Nat):(eT inn l k).length=l.length:=by simp [eT]
theorem uF(inn:Bool)(l:List Int)(k:Nat)(h:k< l.length):gi (eT inn l k) k=gi l k:=by rw [kU (by rw [ja];exact h)];simp [eT]
theorem r9(inn:Bool)(l:List Int)(k:Nat):(eT inn l k).set k (gv inn (gi l k))=eT inn l (k+1):=by
 apply List.ext_getElem;·simp [eT]
 ·intro i h1 h2;simp [eT]at h1 h2 ⊢;rw [List.getElem_set];by_cases e:k=i;·subst e;simp
  ·simp [e];by_cases h3:i< k;·simp [h3];intro h4;omega
   ·simp [h3];intro h4;omega
theorem si(inn:Bool)(it:Nat)(hit:it=290/\inn=true\/it=289/\inn=false)(a b:Nat)(A:Option Addr)(n c:Nat)(l:List Pt)(tf:Nat)(lb:Array Value)(thr:List Int->List Int)(w:World) (hl:me w A n l) (hn:n<=4096) (hlb:∀p∈l, -4194304<=p.1/\p.1<=4194304/\ -4194304<=p.2/\p.2<=4194304) (ba:cP w a 42 #[.slice A n c]) (bb:cP w b 164 #[.func (.func tf) #[] lb]) (eg:∀args w,(callFunc tf args).run Tryz.prog w= .ok (.enter tf args) w) (ht:NU tf lb thr n (l.map (jW inn)) w) (hth:(thr (l.map (jW inn))).length=n) (htb:∀x∈thr (l.map (jW inn)), -1099511627776<=x/\x<=1099511627776) : Calls Tryz.prog 157 #[.iface it (.agg #[]),.pointer (some ⟨a,0,none⟩),.pointer (some ⟨b,0,none⟩)] w fun e w'=>∃g,w.heap.size<=g/\e= .returned (.slice (some ⟨g,0,none⟩) n n)/\ cP w' g 2 (bJ ((thr (l.map (jW inn))).map (gv inn)))/\Below w.heap.size w w':=by
 obtain⟨i0,hel⟩:=FL;have la:=ba.lt;have lb':=bb.lt;have c1:w.cell? ⟨a,0,none⟩=some (.slice A n c):=ba.cell 0;have hl1:=hl.1;have Hl1:=Lib.hid hl1;clear hl1;go_enter Tryz.func157,Tryz.ntmps157
 go_wp2
 have Hit:=Lib.hid hit;clear hit;rcases Hit.out with⟨rfl,rfl⟩ | ⟨rfl,rfl⟩
 ·go_region
  go_wp2
  have hd0:Below w.heap.size w w.drew:=(Below.refl _ _).drew;generalize w.drew=w0 at*;go_loopw [7,19] (fun v kv wr=>∃k:Nat,k<=n/\kv= .int .i64 k/\wr.ownsRow w.heap.size 2 1 v k (((l.map (jW true)).take k).flatMap z5)/\Below w.heap.size w wr) (fun v kv wr=>n- (intOf kv).toNat)
  case atStart=>exact⟨0,Nat.zero_le _,rfl,World.ownsRow_nil _ _ _ _,hd0⟩
  case round=>
   obtain⟨k,hk,rfl,hown,hbl⟩:=hrel
   by_cases hlt:k< n
   ·obtain⟨bP,oP,rfl,hbP,hc1,hc2⟩:=AH (hl.bA hbl) hlt;have hpb:=(uK.1 hlb) k (by rw [Hl1.out];exact hlt);have hx1:cP (wr.alloc (.cells #[.int .i64 (gp l k).1,.int .i64 (gp l k).2] 47)) wr.heap.size 47 #[.int .i64 (gp l k).1,.int .i64 (gp l k).2]:=cP.new _ _ _;have hx2:=bE wr (.cells #[.int .i64 (gp l k).1,.int .i64 (gp l k).2] 47);have m1:=fun w=>uf w;go_wp2_with (first
     | (go_at_call 250;refine(Gn _ _ _ oM).mono ?_;rintro e w1 ⟨rfl,hw1⟩;have hown1:=jX (jX hown hx2) hw1;have hbl1:=(hbl.trans (hx2.mono hbl.size)).trans (hw1.mono (by have:=hbl.size;simp;omega)))
     | (at_builtin;go_loud (refine qI hel rfl _ _ rfl rfl (hown1.alloc _) rfl (cP.new w1 2 _) rfl (by intro u hu;simp at hu;subst hu;rfl) oM (by decide) (by have:=hbl1.size;simp;omega) ?_);intro v' w2 hown2 hg2))
    go_roundw
    case rel=>
     refine⟨k+1,by omega,by go_num,?_,?_⟩
     ·have e:(l.map (jW true)).take (k+1)=(l.map (jW true)).take k++[jW true (gp l k)]:=by rw [List.take_succ_eq_append_getElem (by simp [Hl1.out,hlt])];simp [gR (l:=l) (k:=k) (by rw [Hl1.out];exact hlt)]
      rw [e,List.flatMap_append];simpa [z5]using hown2
     ·exact(hbl1.alloc hbl1.size _).grown hg2 (by have:=hbl1.size;simp;omega) (fun g e=>by have:=hown1.lt g e;omega)
    case measure=>simp [intOf];omega
   ·obtain rfl:k=n:=by omega
    obtain⟨A',c',rfl⟩:=sZ hown;rw [List.take_of_length_le (by simp [Hl1.out])]at hown;have hin:dW wr A' k (l.map (jW true)):=gk.AA xP Nat.one_pos hown;have d2:wr.cell? ⟨b,0,none⟩=some (.func (.func tf) #[] lb):=(bb.bA hbl).cell 0;go_wp2_with fail
    refine(ht A' c' wr hbl hin).mono ?_;rintro e w1 ⟨g,hg,rfl,hbg,hb1⟩;have hb2:Below w.heap.size w w1:=hbl.trans (hb1.mono hbl.size);generalize hL:thr (l.map (jW true))=L at*;have HL:=Lib.hid hL;have Hth:=Lib.hid hth;clear hL hth ht;go_wp2
    go_loopw [35] (fun kv wr2=>∃q:Nat,q<=k/\kv= .int .i64 q/\cP wr2 g 2 (bJ (eT true L q))/\Below w.heap.size w wr2) (fun kv wr2=>k- (intOf kv).toNat)
    case atStart=>exact⟨0,Nat.zero_le _,rfl,by rw [qc];exact hbg,hb2⟩
    case round=>
     obtain⟨q,hq,rfl,hbq,hbw⟩:=hrel
     by_cases hqk:q< k
     ·have f1:wr.cell? ⟨g,q,none⟩=some (.int .i64 (gi L q)):=by rw [hbq.cell,eO _ _ (by rw [ja,Hth.out];exact hqk),uF _ _ _ (by rw [Hth.out];exact hqk)]
      have hqb:=(fh.1 htb) q (by rw [Hth.out];exact hqk);have m2:=fun w=>qS w;have hbq2:∀w',Below wr.heap.size wr w'->w'.cell? ⟨g,q,none⟩=some (.int .i64 (gi L q))/\w'.frozen? ⟨g,q,none⟩=false:=fun w' hb=>⟨(hb.cell (p:=⟨g,q,none⟩) hbq.lt).trans f1,(hbq.bA hb).frozen q⟩;go_wp2_with (go_at_call 249;refine(Aj _ _ oM).mono ?_;rintro e w2 ⟨rfl,hw2⟩;obtain⟨f2,f3⟩:=hbq2 w2 hw2)
      go_roundw
      case rel=>
       refine⟨q+1,by omega,by go_num,?_,?_⟩
       ·have hs:=(hbq.bA hw2).set q (.int .i64 (gv true (gi L q)));rw [g9,r9]at hs;exact hs
       ·exact(hbw.trans (hw2.mono hbw.size)).setCell (p:=⟨g,q,none⟩) (by have:=hbl.size;simp;omega) _
      case measure=>simp [intOf];omega
     ·obtain rfl:q=k:=by omega
      go_wp2
      go_ret
      refine⟨g,by have:=hbl.size;omega,rfl,?_,hbw⟩;have:=Hth.out;rw [<-this,r8]at hbq;rw [HL.out];exact hbq
 ·go_region
  go_wp2
  have hd0:Below w.heap.size w w.drew:=(Below.refl _ _).drew;generalize w.drew=w0 at*;go_loopw [7,19] (fun v kv wr=>∃k:Nat,k<=n/\kv= .int .i64 k/\wr.ownsRow w.heap.size 2 1 v k (((l.map (jW false)).take k).flatMap z5)/\Below w.heap.size w wr) (fun v kv wr=>n- (intOf kv).toNat)
  case atStart=>exact⟨0,Nat.zero_le _,rfl,World.ownsRow_nil _ _ _ _,hd0⟩
  case round=>
   obtain⟨k,hk,rfl,hown,hbl⟩:=hrel
   by_cases hlt:k< n
   ·obtain⟨bP,oP,rfl,hbP,hc1,hc2⟩:=AH (hl.bA hbl) hlt;have hpb:=(uK.1 hlb) k (by rw [Hl1.out];exact hlt);have hx1:cP (wr.alloc (.cells #[.int .i64 (gp l k).1,.int .i64 (gp l k).2] 47)) wr.heap.size 47 #[.int .i64 (gp l k).1,.int .i64 (gp l k).2]:=cP.new _ _ _;have hx2:=bE wr (.cells #[.int .i64 (gp l k).1,.int .i64 (gp l k).2] 47);have m1:=fun w=>uh w;go_wp2_with (first
     | (go_at_call 248;refine(Hf _ _ _).mono ?_;rintro e w1 ⟨rfl,hw1⟩;have hown1:=jX (jX hown hx2) hw1;have hbl1:=(hbl.trans (hx2.mono hbl.size)).trans (hw1.mono (by have:=hbl.size;simp;omega)))
     | (at_builtin;go_loud (refine qI hel rfl _ _ rfl rfl (hown1.alloc _) rfl (cP.new w1 2 _) rfl (by intro u hu;simp at hu;subst hu;rfl) oM (by decide) (by have:=hbl1.size;simp;omega) ?_);intro v' w2 hown2 hg2))
    go_roundw
    case rel=>
     refine⟨k+1,by omega,by go_num,?_,?_⟩
     ·have e:(l.map (jW false)).take (k+1)=(l.map (jW false)).take k++[jW false (gp l k)]:=by rw [List.take_succ_eq_append_getElem (by simp [Hl1.out,hlt])];simp [gR (l:=l) (k:=k) (by rw [Hl1.out];exact hlt)]
      rw [e,List.flatMap_append];simpa [z5]using hown2
     ·exact(hbl1.alloc hbl1.size _).grown hg2 (by have:=hbl1.size;simp;omega) (fun g e=>by have:=hown1.lt g e;omega)
    case measure=>simp [intOf];omega
   ·obtain rfl:k=n:=by omega
    obtain⟨A',c',rfl⟩:=sZ hown;rw [List.take_of_length_le (by simp [Hl1.out])]at hown;have hin:dW wr A' k (l.map (jW false)):=gk.AA xP Nat.one_pos hown;have d2:wr.cell? ⟨b,0,none⟩=some (.func (.func tf) #[] lb):=(bb.bA hbl).cell 0;go_wp2_with fail
    refine(ht A' c' wr hbl hin).mono ?_;rintro e w1 ⟨g,hg,rfl,hbg,hb1⟩;have hb2:Below w.heap.size w w1:=hbl.trans (hb1.mono hbl.size);generalize hL:thr (l.map (jW false))=L at*;have HL:=Lib.hid hL;have Hth:=Lib.hid hth;clear hL hth ht;go_wp2
    go_loopw [35] (fun kv wr2=>∃q:Nat,q<=k/\kv= .int .i64 q/\cP wr2 g 2 (bJ (eT false L q))/\Below w.heap.size w wr2) (fun kv wr2=>k- (intOf kv).toNat)
    case atStart=>exact⟨0,Nat.zero_le _,rfl,by rw [qc];exact hbg,hb2⟩
    case round=>
     obtain⟨q,hq,rfl,hbq,hbw⟩:=hrel
     by_cases hqk:q< k
     ·have f1:wr.cell? ⟨g,q,none⟩=some (.int .i64 (gi L q)):=by rw [hbq.cell,eO _ _ (by rw [ja,Hth.out];exact hqk),uF _ _ _ (by rw [Hth.out];exact hqk)]
      have hqb:=(fh.1 htb) q (by rw [Hth.out];exact hqk);have m2:=fun w=>qT w;have hbq2:∀w',Below wr.heap.size wr w'->w'.cell? ⟨g,q,none⟩=some (.int .i64 (gi L q))/\w'.frozen? ⟨g,q,none⟩=false:=fun w' hb=>⟨(hb.cell (p:=⟨g,q,none⟩) hbq.lt).trans f1,(hbq.bA hb).frozen q⟩;go_wp2_with (go_at_call 247;refine(AD _ _).mono ?_;rintro e w2 ⟨rfl,hw2⟩;obtain⟨f2,f3⟩:=hbq2 w2 hw2)
      go_roundw
      case rel=>
       refine⟨q+1,by omega,by go_num,?_,?_⟩
       ·have hs:=(hbq.bA hw2).set q (.int .i64 (gv false (gi L q)));rw [g9,r9]at hs;exact hs
       ·exact(hbw.trans (hw2.mono hbw.size)).setCell (p:=⟨g,q,none⟩) (by have:=hbl.size;simp;omega) _
      case measure=>simp [intOf];omega
     ·obtain rfl:q=k:=by omega
      go_wp2
      go_ret
      refine⟨g,by have:=hbl.size;omega,rfl,?_,hbw⟩;have:=Hth.out;rw [<-this,r8]at hbq;rw [HL.out];exact hbq
theorem Oj:∃i,uz Tryz.prog 42 47 i (.agg #[.int .i64 0,.int .i64 0]) 2 16:=Lg Tryz.underlying42 kR rfl (by decide)
theorem NU.later{tf:Nat}{lb:Array Value}{thr:List Int->List Int}{n:Nat}{h:List Int}{w w':World}(ht:NU tf lb thr n h w)(hb:Below w.heap.size w w'):NU tf lb thr n h w':= fun A c W hW hi=>ht A c W (hb.trans (hW.mono hb.size)) hi
def fe(n:Nat)(li lo:List Int):List Pt:=(List.range n).map fun i=>(gi li i,gi lo i)
theorem zf(n:Nat)(li lo:List Int):fe (n+1) li lo=fe n li lo++[(gi li n,gi lo n)]:=by simp [fe,List.range_succ]
def f9(thr:List Int->List Int)(l:List Pt):List Pt:= fe l.length ((thr (l.map (jW true))).map (gv true)) ((thr (l.map (jW false))).map (gv false))
theorem zg(A:Option Addr)(n c:Nat)(l:List Pt)(tf:Nat)(lb:Array Value)(thr:List Int->List Int)(w:World) (hl:me w A n l) (hn:n<=4096) (hlb:∀p∈l, -4194304<=p.1/\p.1<=4194304/\ -4194304<=p.2/\p.2<=4194304) (eg:∀args w,(callFunc tf args).run Tryz.prog w= .ok (.enter tf args) w) (ht:∀inn,NU tf lb thr n (l.map (jW inn)) w) (hth:∀inn,(thr (l.map (jW inn))).length=n) (htb:∀inn,∀x∈thr (l.map (jW inn)), -1099511627776<=x/\x<=1099511627776) : Calls Tryz.prog 116 #[.slice A n c,.func (.func tf) #[] lb] w fun e w'=>∃v,e= .returned v/\w'.ownsRow w.heap.size 47 2 v n ((f9 thr l).flatMap o4)/\Below w.heap.size w w':=by
 obtain⟨i0,hel⟩:=Oj;have b1:=(cP.new w 42 #[.slice A n c]).alloc (.cells #[.func (.func tf) #[] lb] 164);have b2:=cP.new (w.alloc (.cells #[.slice A n c] 42)) 164 #[.func (.func tf) #[] lb];have hb:=(bE w (.cells #[.slice A n c] 42)).alloc (by simp) (.cells #[.func (.func tf) #[] lb] 164);have hs:((w.alloc (.cells #[.slice A n c] 42)).alloc (.cells #[.func (.func tf) #[] lb] 164)).heap.size=w.heap.size+1+1:=by simp
 simp only [World.size_alloc]at b2;have Heg:=Lib.hid eg;clear eg;go_enter Tryz.func116,Tryz.ntmps116
 go_wp2_with fail
 generalize (w.alloc (.cells #[.slice A n c] 42)).alloc (.cells #[.func (.func tf) #[] lb] 164)=w0 at*;refine(si false _ (.inr ⟨rfl,rfl⟩) _ _ A n c l tf lb thr w0 (hl.bA hb) hn hlb b1 b2 Heg.out ((ht false).later hb) (hth false) (htb false)).mono ?_;rintro e w1 ⟨go,hgo,rfl,hbo,hb1⟩;have b1':=b1.bA hb1;have b2':=b2.bA hb1;have hb':Below w.heap.size w w1:=hb.trans (hb1.mono oM);go_wp2_with fail
 refine(si true _ (.inl ⟨rfl,rfl⟩) _ _ A n c l tf lb thr w1 (hl.bA hb') hn hlb b1' b2' Heg.out ((ht true).later hb') (hth true) (htb true)).mono ?_;rintro e w2 ⟨gn,hgn,rfl,hbn,hb2⟩;have hbo2:=hbo.bA hb2;have hb'':Below w.heap.size w w2:=hb'.trans (hb2.mono hb'.size);generalize hLo:(thr (l.map (jW false))).map (gv false)=Lo at*;generalize hLi:(thr (l.map (jW true))).map (gv true)=Li at*;have HLo:=Lib.hid hLo;have HLi:=Lib.hid hLi;have hlo:Lo.length=n:=by rw [<-hLo];simp [hth]
 have hli:Li.length=n:=by rw [<-hLi];simp [hth]
 have Hlo:=Lib.hid hlo;have Hli:=Lib.hid hli;have Hht:=Lib.hid ht;have Hhth:=Lib.hid hth;have b1'':w2.cell? ⟨w.heap.size,0,none⟩=some (.slice A n c):=(b1'.bA hb2).cell 0;clear hLo hLi hlo hli ht hth;go_wp2
 have hg1:w.heap.size<=go:=by omega
 have hg2:w.heap.size<=gn:=by have:=hb1.size;omega
 go_loopw [8,21] (fun v kv wr=>∃k:Nat,k<=n/\kv= .int .i64 k/\wr.ownsRow w.heap.size 47 2 v k ((fe k Li Lo).flatMap o4)/\cP wr go 2 (bJ Lo)/\cP wr gn 2 (bJ Li)/\Below w.heap.size w wr) (fun v kv wr=>n- (intOf kv).toNat)
 case atStart=>exact⟨0,Nat.zero_le _,rfl,World.ownsRow_nil _ _ _ _,hbo2,hbn,hb''⟩
 case round=>
  obtain⟨k,hk,rfl,hown,hbo,hbn,hbl⟩:=hrel
  by_cases hlt:k< n
  ·have f1:wr.cell? ⟨go,k,none⟩=some (.int .i64 (gi Lo k)):=(hbo.cell k).trans (eO _ _ (by rw [Hlo.out];exact hlt));have f2:wr.cell? ⟨gn,k,none⟩=some (.int .i64 (gi Li k)):=(hbn.cell k).trans (eO _ _ (by rw [Hli.out];exact hlt));go_wp2
   have hown1:wr.drew.ownsRow w.heap.size 47 2 u8 k ((fe k Li Lo).flatMap o4):=hown;have hbo1:cP wr.drew go 2 (bJ Lo):=hbo;have hbn1:cP wr.drew gn 2 (bJ Li):=hbn;have hbl1:Below w.heap.size w wr.drew:=hbl.drew;go_region_law (refine Ep hel rfl _ _ rfl rfl (hown1.alloc _) rfl (cP.new wr.drew 47 _) rfl (by intro u hu;simp at hu;rcases hu with rfl |rfl <;> rfl) oM (by decide) (Nat.le_trans hbl1.size (by simp)) ?_;intro v' w2 hown2 hg2)
   all_goals
    go_wp2
    go_roundw
    case rel=>
     refine⟨k+1,by omega,by go_num,?_,?_,?_,?_⟩
     ·rw [zf,List.flatMap_append];exact hown2
     ·exact(hbo1.alloc _).grown hg2 (fun e=>Hg hown1 hbo1 (by decide) _ e.symm rfl)
     ·exact(hbn1.alloc _).grown hg2 (fun e=>Hg hown1 hbn1 (by decide) _ e.symm rfl)
     ·exact(hbl1.alloc hbl1.size _).grown hg2 (Nat.le_trans hbl1.size (by simp)) (fun g e=>by have:=hown1.lt g e;omega)
    case measure=>simp [intOf];omega
  ·obtain rfl:k=n:=by omega
   go_wp2
   go_ret
   refine⟨_,rfl,?_,hbl⟩;have e:f9 thr l=fe k Li Lo:=by rw [f9,HLo.out,HLi.out,hl.1]
   rw [e];exact hown
def l6(x lo hi:Int):Bool:=decide (lo<=x) && decide (x<=hi)
def kf(p:Pt):Bool:=l6 p.1 (-4194304) 4194304 && l6 p.2 (-4194304) 4194304
theorem oZ(p:Pt):kf p=true<-> -4194304<=p.1/\p.1<=4194304/\ -4194304<=p.2/\p.2<=4194304:=by simp [kf,l6];omega
def cA(l:List Pt):Int:=if 4096< l.length then 6 else if l.all kf then 0 else 2
theorem qe{l:List Pt}(h:cA l=0):l.length<=4096/\∀p∈l, -4194304<=p.1/\p.1<=4194304/\ -4194304<=p.2/\p.2<=4194304:=by
 unfold cA at h;split at h;·omega
 ·split at h;·rename_i h2;exact⟨by omega,fun p hp=>(oZ p).1 (List.all_eq_true.1 h2 p hp)⟩
  ·omega
theorem tY(x lo hi:Int)(w:World):Calls Tryz.prog 108 #[.int .i64 x,.int .i64 lo,.int .i64 hi] w fun e w'=>e= .returned (.bool (l6 x lo hi))/\w=w':=by
 go_enter Tryz.func108,Tryz.ntmps108
 go_wp2
 all_goals
  go_ret
  refine⟨?_,rfl⟩
  simp [l6, *]
 omega
theorem xO(a b:Int)(w:World):Calls Tryz.prog 127 #[.agg #[.int .i64 a,.int .i64 b]] w fun e w'=>e= .returned (.bool (kf (a,b)))/\Below w.heap.size w w':=by
 have hb:=bE w (.cells #[.int .i64 a,.int .i64 b] 47);cases h:l6 a (-4194304) 4194304;all_goals
  go_enter Tryz.func127,Tryz.ntmps127
  go_wp2_with ((with_reducible refine(tY _ _ _ _).mono ?_);rintro e w' ⟨rfl,rfl⟩)
  go_ret
  exact⟨by simp [kf,h],hb⟩
theorem tX{l:List Pt}{k:Nat}(h:k< l.length):(l.take (k+1)).all kf=((l.take k).all kf && kf (gp l k)):=by rw [wO h,List.all_append];simp
theorem vS{l:List Pt}{k:Nat}(h4:¬4096< l.length)(hk:k< l.length)(h:kf (gp l k)=false):cA l=2:=by unfold cA;rw [if_neg h4,if_neg];intro ha;have:=List.all_eq_true.1 ha (gp l k) (Gd hk);rw [h]at this;cases this
theorem t6{l:List Pt}(h4:¬4096< l.length)(h:l.all kf=true):cA l=0:=by unfold cA;rw [if_neg h4,if_pos h]
theorem sn(A:Option Addr)(n c:Nat)(l:List Pt)(w:World)(hl:me w A n l)(hn:n<=4611686018427387904) : Calls Tryz.prog 76 #[.slice A n c] w fun e w'=>e= .returned (.int .i64 (cA l))/\Below w.heap.size w w':=by
 have hl1:=hl.1;by_cases h4:4096< n
 ·go_enter Tryz.func76,Tryz.ntmps76
  go_wp2
  go_ret
  exact⟨dx (by rw [cA,if_pos oM]),Below.refl _ _⟩
 ·have Hl:=Lib.hid hl1;clear hl1;go_enter Tryz.func76,Tryz.ntmps76
  go_wp2
  go_loopw [10] (fun i wr=>∃k:Nat,k<=n/\i= .int .i64 k/\(l.take k).all kf=true/\Below w.heap.size w wr) (fun i _=>n- (intOf i).toNat)
  case atStart=>exact⟨0,Nat.zero_le _,rfl,rfl,Below.refl _ _⟩
  case round=>
   obtain⟨k,hk,rfl,hall,hbl⟩:=hrel
   have Hall:=Lib.hid hall
   clear hall
   by_cases hlt:k< n
   ·obtain⟨b,o,rfl,hb,hc1,hc2⟩:=AH (hl.bA hbl) hlt;have hx:=hbl.trans ((bE wr (.cells #[.int .i64 (gp l k).1,.int .i64 (gp l k).2] 47)).mono hbl.size);cases he:kf ((gp l k).1,(gp l k).2);all_goals
     have He:=Lib.hid he
     clear he
     go_wp2_with ((with_reducible refine(xO _ _ _).mono ?_);rintro e w' ⟨rfl,hw'⟩;rw [He.out])
    ·go_ret
     exact⟨dx (by rw [vS (by rw [Hl.out];exact h4) (by rw [Hl.out];exact hlt) He.out]),hx.trans (hw'.mono hx.size)⟩
    ·go_roundw
     case rel=>exact⟨k+1,by omega,by go_num,by rw [tX (by rw [Hl.out];exact hlt),Hall.out];exact He.out,hx.trans (hw'.mono hx.size)⟩
     case measure=>simp [intOf];omega
   ·obtain rfl:k=n:=by omega
    go_wp2
    go_ret
    have h:=Hall.out;rw [List.take_of_length_le (by rw [Hl.out];exact Nat.le_refl _)]at h;exact⟨dx (by rw [t6 (by rw [Hl.out];exact h4) h]),hbl⟩
end Go.Proofs.YtjmbpjlojjgggaaGreatDoor
