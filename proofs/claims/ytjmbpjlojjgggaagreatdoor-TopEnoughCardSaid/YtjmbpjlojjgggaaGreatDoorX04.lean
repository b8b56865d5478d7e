/-
  Several texts in one: Ranges over functions at numerals: the values that an iterator hands out, and the rounds. No condition. .. What a tip makes of one wall (walk): the numbers of the walls, one after another. Conditions: at most 65536 heights and elements, of amounts of at most 16777216, the elements not below 0.
-/
import Derived.Test.YtjmbpjlojjgggaaGreatDoorProg
import Derived.Deep.RegionWith
import Derived.Test.YtjmbpjlojjgggaaGreatDoorX03
import Derived.Test.YtjmbpjlojjgggaaGreatDoorX01
import Derived.Test.YtjmbpjlojjgggaaGreatDoorMD
import Derived.Test.YtjmbpjlojjgggaaGreatDoorMA
set_option maxRecDepth 100000
set_option maxHeartbeats 2000000
namespace Go.Ab
open Go.RowKit Go.Dw Go.Shelf
noncomputable section
def Dl{P:Program}(N:Nat){es:List (List V)}(Y:Ag P es)(c:Code)(Q:Exit->S->Nat->Bool->Prop):Nat->S->Nat->Bool->Prop
 |0,_,_,_=>False
 |m+1,s,k,g=>iF N Y c (e7 (Dl N Y c Q m) Q) s k g
theorem wk{P:Program}{N:Nat}{es:List (List V)}{Y:Ag P es}{Q:Exit->S->Nat->Bool->Prop}{c:Code}{s:S}{k:Nat}{g:Bool}(m:Nat)(h:Dl N Y c Q m s k g):iF N Y (.loop c) Q s k g:=by
 intro C A a w yc gm hj;refine wpIn_loop_rounds m ?_;have key:∀(m:Nat) (s:S) (k:Nat) (g:Bool) (C:Cx P N) (A:Nat->Prop) (a:Act) (w:World),Dl N Y c Q m s k g->Gr C Y A w->Gm C s a w->Y.J k g A w->Code.roundsIn Fence.wide 0 P c (fun e a' w'=>∃(s':S) (k':Nat) (g':Bool) (C':Cx P N) (A':Nat->Prop),Q e s' k' g'/\Gr C' Y A' w'/\Gm C' s' a' w'/\Y.J k' g' A' w') m a w:=by
  intro m;induction m with
  |zero=>intro s k g C A a w h;exact h.elim
  |succ m ih=>
   intro s k g C A a w h yc gm hj;refine wpIn_mono (h C A a w yc gm hj) ?_;rintro e a' w' ⟨s',k',g',C',A',q,yc',gm',hj'⟩;cases e with
   |normal=>exact ih s' k' g' C' A' a' w' q yc' gm' hj'
   |_=>exact⟨s',k',g',C',A',q,yc',gm',hj'⟩
 exact key m s k g C A a w h yc gm hj
section
variable {P:Program}(N:Nat){es:List (List V)}(Y:Ag P es) (Q:Exit->S->Nat->Bool->Prop)
def ua:List Fr->Exit->S->Nat->Bool->Prop
 | []=>Q
 | .c y::k=>e7 (fun s' n g=>iF N Y y (ua k) s' n g) (ua k)
 | .b id::k=>dH id (ua k)
 | .l y m::k=>e7 (Dl N Y y (ua k) m) (ua k)
 | .s::_=>fun _ _ _ _=>False
def Ad:CC->Nat->Bool->Prop
 | .code c k s,n,g=>iF N Y c (ua N Y Q k) s.den n g
 | .done e k s,n,g=>ua N Y Q k e s.den n g
 | .ops _ _ _ _ _ _,_,_=>False
end
structure JX where
  g:CC
  y:Option (List V)
  side:Option CC
  e:CT
def I5(tm:Nat->V)(ys:List Nat):Operand->Bool
 | .tmp t=>match jt ys t with
  |true=>true
  |false=>match tm t with
   | .c (.func (.yield _) _ _)=>true
   |_=>false
 |_=>false
def Gn(tm:Nat->V):List Nat->List Oper->Option Nat
 |_,[]=>none
 |ys,o::os=>match o.op with
  | .call c=>match c.callee with
   | .value fo=>match I5 tm ys fo with
    |true=>some 0
    |false=>match Gn tm ys os with
     |some n=>some (n+1)
     |none=>none
   |_=>match Gn tm ys os with
    |some n=>some (n+1)
    |none=>none
  | .move x=>match Gn tm (match I5 tm ys x with
   |true=>o.dst.getD 0::ys
   |false=>ys) os with
   |some n=>some (n+1)
   |none=>none
  |_=>match Gn tm ys os with
   |some n=>some (n+1)
   |none=>none
def K3(tm:Nat->V)(o:Oper):Option (V×List V):=match o.op with
 | .call c=>match c.callee with
  | .value fo=>match V.aP (c.args.toList.map (fun x=>ug (ev tm x))) && ((fo::c.args.toList).all fun x=>M7 (ev tm x))with
   |true=>some (ug (ev tm fo),c.args.toList.map (fun x=>ug (ev tm x)))
   |false=>none
  |_=>none
 |_=>none
def N3(gOk:Bool)(ol:List Oper)(tm:Nat->V)(o:Oper):Bool:=match o.guard with
 |none=>(opsV tm o).all fun v=>match v with
  | .gd _ _=>false
  |_=>true
 |some _=>match gOk with
  |false=>false
  |true=>match dP (ol.map (·.dst)) tm o with
   |some (some g)=>g
   |_=>false
def EZ(gOk:Bool)(call:dG)(T:List TI)(M:List Nat)(l:Nat)(ol:List Oper)(k:List Fr)(s:CS)(n:Nat):Option JX:=
 match ol[n]? with
  |some o=>match o.dst with
   |some d=>match decide (d< 1000)with
    |true=>match sM call T M ol (ol.take n) s []with
     |some (s1,_,e1)=>match N3 gOk ol s1.tr.get o with
      |true=>match K3 s1.tr.get o with
       |some (fv,as0)=>match sM call T M ol (ol.drop (n+1)) ⟨TR.put 10 s1.tr d (.b true),s1.sl,s1.nx⟩ []with
        |some (s2,_,e2)=>match sM call T M ol (ol.drop (n+1)) ⟨TR.put 10 s1.tr d (.b false),s1.sl,s1.nx⟩ []with
         |some (s3,_,e3)=>some ⟨.done .normal k ⟨s2.tr,s2.sl,s2.nx+1⟩,some as0,some (.done .normal k ⟨s3.tr,s3.sl,s3.nx+1⟩),.nd (.lf [(.vs [fv],.vs [.c (.func (.yield l) #[] #[])])]) (.nd e1 (.nd e2 e3))⟩
         |none=>none
        |none=>none
       |none=>none
      |false=>none
     |none=>none
    |false=>none
   |none=>none
  |none=>none
def Cr(gOk:Bool)(call:dG)(T:List TI)(M mu:List Nat)(N l:Nat):CC->Option JX
 | .done e k s=>match k with
  | []=>none
  | .c y::k=>match e with
   | .normal=>some ⟨.code y k s,none,none,c0⟩
   |e=>some ⟨.done e k s,none,none,c0⟩
  | .b id::k=>match e with
   | .exit id'=>match Nat.beq id' id with
    |true=>some ⟨.done .normal k s,none,none,c0⟩
    |false=>some ⟨.done (.exit id') k s,none,none,c0⟩
   |e=>some ⟨.done e k s,none,none,c0⟩
  | .l y m::k=>match e with
   | .normal=>match m with
    |0=>none
    |m+1=>some ⟨.code y (.l y m::k) s,none,none,c0⟩
   |e=>some ⟨.done e k s,none,none,c0⟩
  | .s::_=>none
 | .code c k s=>match c with
  | .skip=>some ⟨.done .normal k s,none,none,c0⟩
  | .exit id=>some ⟨.done (.exit id) k s,none,none,c0⟩
  | .ret=>some ⟨.done .ret k s,none,none,c0⟩
  | .seq x y=>some ⟨.code x (.c y::k) s,none,none,c0⟩
  | .block id x=>some ⟨.code x (.b id::k) s,none,none,c0⟩
  | .loop x=>some ⟨.code x (.l x 1000000::k) s,none,none,c0⟩
  | .cond c x y=>match ev s.tr.get c with
   | .c (.bool t)=>match t with
    |true=>some ⟨.code x k s,none,none,c0⟩
    |false=>some ⟨.code y k s,none,none,c0⟩
   |_=>none
  | .region _ ops dr=>match fm N ops.toList with
   |true=>match sM call T M ops.toList ops.toList (lI mu s ops.toList) []with
    |some (s',ks,e)=>match dr with
     |false=>some ⟨.done .normal k ⟨s'.tr,s'.sl,s'.nx+1⟩,none,none,e⟩
     |true=>match HY ops.toList ks with
      |true=>some ⟨.done .normal k ⟨s'.tr,s'.sl,s'.nx+1⟩,none,none,e⟩
      |false=>none
    |none=>match Gn s.tr.get [] ops.toList with
     |some n=>match dr with
      |false=>EZ gOk call T M l ops.toList k s n
      |true=>none
     |none=>none
   |false=>none
  |_=>none
 | .ops _ _ _ _ _ _=>none
section
variable {P:Program}{N:Nat}{es:List (List V)}{Y:Ag P es}{Q:Exit->S->Nat->Bool->Prop}{T:List TI}{M mu:List Nat}{call:dG}
theorem MS{y:Code}{k:List Fr}{e:Exit}{s:S}{n:Nat}{g:Bool}(hne:e≠ .normal)(h:ua N Y Q k e s n g):ua N Y Q (.c y::k) e s n g:=by cases e <;> first |exact absurd rfl hne |exact h
theorem MT{y:Code}{m:Nat}{k:List Fr}{e:Exit}{s:S}{n:Nat}{g:Bool}(hne:e≠ .normal)(h:ua N Y Q k e s n g):ua N Y Q (.l y m::k) e s n g:=by cases e <;> first |exact absurd rfl hne |exact h
theorem MR{id:Nat}{k:List Fr}{e:Exit}{s:S}{n:Nat}{g:Bool}(hne:∀i,e≠ .exit i)(h:ua N Y Q k e s n g):ua N Y Q (.b id::k) e s n g:=by cases e <;> first |exact absurd rfl (hne _) |exact h
theorem uv{c:Code}{s:S}{k:Nat}{g:Bool}(u:Nat)(h:iF N Y c (e7 (Dl N Y c Q u) Q) s k g):iF N Y (.loop c) Q s k g:=wk (u+1) h
def Dq(N:Nat){P:Program}{es:List (List V)}(Y:Ag P es)(Q:Exit->S->Nat->Bool->Prop)(g:CC)(x:JX):Prop:=
 (x.y=none->∀n b,Ad N Y Q x.g n b->Ad N Y Q g n b)/\
 ∀as0,x.y=some as0->∃sd,x.side=some sd/\∀n,es[n]?=some as0->Ad N Y Q x.g (n+1) true->Ad N Y Q sd n false->Ad N Y Q g n true
theorem fO{g g':CC}{e:CT}(h:∀n b,Ad N Y Q g' n b->Ad N Y Q g n b):Dq N Y Q g ⟨g',none,none,e⟩:=⟨fun _=>h,fun as0 h=>by cases h⟩
theorem p0:∀l:List V,A2 l l
 | []=>trivial
 |_::l=>⟨cA.refl _,p0 l⟩
theorem qu{tm:Nat->V}{o:Oper}(h:((opsV tm o).all fun v=>match v with
 | .gd _ _=>false
 |_=>true)=true){x:Operand}(hx:x∈o.op.operands):ug (ev tm x)=ev tm x:=by
 have:=List.all_eq_true.1 h _ (i6 (tm:=tm) hx)
 cases hv:ev tm x <;> rw [hv]at this <;> first |rfl |cases this
theorem HH(hT:aE T P)(hcl:bQ P call)(hfl:∀v∈es,V.cQ v=true){id n:Nat}{ops:Array Oper}{k:List Fr}{s:CS}{x:JX}(hok:fm N ops.toList=true)(h:EZ false call T M Y.l ops.toList k s n=some x)(he:gu x.e):Dq N Y Q (.code (.region id ops false) k s) x:=by
 have eo:ops=ops.toList.toArray:=by simp
 unfold EZ at h;split at h
 ·rename_i o ho;split at h
  ·rename_i d hd;split at h
   ·rename_i hlt;have hlt:=of_decide_eq_true hlt;split at h
    ·rename_i s1 ks1 e1 h1;split at h
     ·rename_i hgd;split at h
      ·rename_i fv as0 hy;split at h
       ·rename_i s2 ks2 e2 h2;split at h
        ·rename_i s3 ks3 e3 h3;injection h with h;subst h;obtain⟨he0,he1,he2,he3⟩:=he;refine⟨fun h=>(by cases h),fun as1 has=> ?_⟩;injection has with has;subst has;refine⟨_,rfl,fun m hm hk1 hk2=> ?_⟩;obtain⟨d',op,ty,pos,af,gd⟩:=o;simp only at hd;subst hd;unfold N3 at hgd;simp only at hgd;split at hgd
         ·unfold K3 at hy;simp only at hy;split at hy
          ·rename_i c;obtain⟨callee,args,ats⟩:=c;simp only at hy;split at hy
           ·rename_i fo;split at hy
            ·rename_i hfl0;simp only [Option.some.injEq,Prod.mk.injEq]at hy;obtain⟨rfl,rfl⟩:=hy;have ea:(args.toList.map fun x=>ug (ev s1.tr.get x))=args.toList.map (ev s1.tr.get):=List.map_congr_left fun x hx=>qu hgd (by simp only [Op.operands,Call.operands];simp at hx ⊢;exact .inr hx);have ef:ug (ev s1.tr.get fo)=ev s1.tr.get fo:=qu hgd (by simp [Op.operands,Call.operands]);have hf:=gk.hd he0;injection hf with hf;simp only [List.cons.injEq,and_true]at hf;rw [ef]at hf;rw [ea]at hm;have hflv:=hfl _ (List.mem_of_getElem? hm);show iF N Y (.region id ops false) (ua N Y Q k) s.den m true;rw [eo];refine yE n (by simpa using hok) ho fun C hF hdf=> ?_;obtain⟨q1,q2⟩:=cz hT hcl (C:=C) (K:=fun tm1 σ1 _=>N6 N Y ops.toList.toArray s.nx (ops.toList.drop (n+1)) fo args d (ua N Y Q k) m tm1 σ1) h1 he1;refine q2 ⟨hf,⟨_,hm,p0 _⟩,⟨hflv,fun v hv=>by rw [hm]at hv;injection hv with hv;subst hv;exact hflv⟩,fun C2 hF2 hd2=> ?_,fun C2 hF2 hd2=> ?_⟩;·obtain⟨r1,r2⟩:=cz hT hcl (C:=C2) (K:=fun tm' σ' _=>ua N Y Q k .normal ⟨tm',σ',s.nx+1⟩ (m+1) true) h2 he2;simp only at r1 r2;rw [TR.ga hlt,q1]at r2;exact r2 (by have:=hk1;unfold Ad CS.den at this;simp only at this;rw [r1,q1]at this;exact this)
             ·obtain⟨r1,r2⟩:=cz hT hcl (C:=C2) (K:=fun tm' σ' _=>ua N Y Q k .normal ⟨tm',σ',s.nx+1⟩ m false) h3 he3;simp only at r1 r2;rw [TR.ga hlt,q1]at r2;exact r2 (by have:=hk2;unfold Ad CS.den at this;simp only at this;rw [r1,q1]at this;exact this)
            ·cases hy
           ·cases hy
          ·cases hy
         ·cases hgd
        ·cases h
       ·cases h
      ·cases h
     ·cases h
    ·cases h
   ·cases h
  ·cases h
 ·cases h
theorem uT(hT:aE T P)(hcl:bQ P call)(hfl:∀v∈es,V.cQ v=true){g:CC}{x:JX}(h:Cr false call T M mu N Y.l g=some x)(he:gu x.e):Dq N Y Q g x:=by
 unfold Cr at h;split at h
 ·rename_i e k s;split at h;·cases h
  ·split at h;·injection h with h;subst h;exact fO fun n b hk=>hk
   ·rename_i hne;injection h with h;subst h;exact fO fun n b hk=>MS hne hk
  ·split at h
   ·split at h;·rename_i hb;injection h with h;subst h;have hb:=Nat.eq_of_beq_eq_true hb;subst hb;exact fO fun n b hk=>nR hk
    ·rename_i hb;injection h with h;subst h;exact fO fun n b hk=>Gl (by simpa using Nat.ne_of_beq_eq_false hb) hk
   ·rename_i hne;injection h with h;subst h;exact fO fun n b hk=>MR hne hk
  ·split at h
   ·split at h;·cases h
    ·injection h with h;subst h;exact fO fun n b hk=>hk
   ·rename_i hne;injection h with h;subst h;exact fO fun n b hk=>MT hne hk
  ·cases h
 ·rename_i c k s;split at h;·injection h with h;subst h;exact fO fun n b hk=>BQ hk
  ·injection h with h;subst h;exact fO fun n b hk=>BP hk
  ·injection h with h;subst h;exact fO fun n b hk=>DU hk
  ·injection h with h;subst h;exact fO fun n b hk=>DV hk
  ·injection h with h;subst h;exact fO fun n b hk=>yD hk
  ·injection h with h;subst h;exact fO fun n b hk=>uv 1000000 hk
  ·split at h
   ·rename_i t ht;split at h;·injection h with h;subst h;exact fO fun n b hk=>ta ht (fun _=>hk) fun h=>by cases h
    ·injection h with h;subst h;exact fO fun n b hk=>ta ht (fun h=>by cases h) fun _=>hk
   ·cases h
  ·rename_i id ops dr;split at h
   ·rename_i hok;split at h
    ·rename_i s' ks e hr;have e0:ops=ops.toList.toArray:=by simp
     split at h;·injection h with h;subst h;refine fO fun n b hk=>Am fun C hF hd=> ?_;refine kg (m9 mu s ops.toList) ?_;rw [e0];obtain⟨q1,q2⟩:=cz hT hcl (C:=C) (K:=fun tm' σ' _=>ua N Y Q k .normal ⟨tm',σ',(lI mu s ops.toList).nx+1⟩ n b) (by simpa using hr) he;refine kY (s:=(lI mu s ops.toList).den) (by simpa using hok) (q2 ?_);have:=hk;unfold Ad CS.den at this;simp only at this;rw [q1]at this;exact this
     ·split at h;·rename_i hdr;injection h with h;subst h;refine fO fun n b hk=>Am fun C hF hd=> ?_;refine kg (m9 mu s ops.toList) ?_;rw [e0];obtain⟨q1,q2⟩:=cz hT hcl (C:=C) (K:=fun tm' σ' ks'=>gS ops.toList ks'=true/\ua N Y Q k .normal ⟨tm',σ',(lI mu s ops.toList).nx+1⟩ n b) (by simpa using hr) he;refine jh (s:=(lI mu s ops.toList).den) (by simpa using hok) (q2 ⟨vc hdr,?_⟩);have:=hk;unfold Ad CS.den at this;simp only at this;rw [q1]at this;exact this
      ·cases h
    ·split at h
     ·split at h;·exact HH hT hcl hfl hok h he
      ·cases h
     ·cases h
   ·cases h
  ·cases h
 ·cases h
end
def K6(gOk:Bool)(call:dG)(T:List TI)(M mu:List Nat)(N l:Nat):Nat->CC->Option CT
 |0,_=>none
 |m+1,g=>match Cr gOk call T M mu N l g with
  |some x=>match x.y with
   |none=>match K6 gOk call T M mu N l m x.g with
    |some e=>some (.nd x.e e)
    |none=>none
   |some _=>none
  |none=>match g with
   | .done e [] _=>match e with
    | .ret=>some c0
    | .normal=>some c0
    |_=>none
   |_=>none
def pT(gOk:Bool)(call:dG)(T:List TI)(M mu:List Nat)(N l:Nat):Nat->CC->Option (List (List V)×CT)
 |0,_=>none
 |m+1,g=>match Cr gOk call T M mu N l g with
  |some x=>match x.y with
   |none=>match pT gOk call T M mu N l m x.g with
    |some (as0,e)=>some (as0,.nd x.e e)
    |none=>none
   |some a=>match x.side with
    |some sd=>match K6 gOk call T M mu N l 5000 sd with
     |some e0=>match pT gOk call T M mu N l m x.g with
      |some (as0,e)=>some (a::as0,.nd x.e (.nd e0 e))
      |none=>none
     |none=>none
    |none=>none
  |none=>match g with
   | .done e [] _=>match e with
    | .ret=>some ([],c0)
    | .normal=>some ([],c0)
    |_=>none
   |_=>none
theorem EY{P:Program}{N:Nat}{es:List (List V)}{Y:Ag P es}{T:List TI}{M mu:List Nat}{call:dG}(hT:aE T P)(hcl:bQ P call)(hfl:∀v∈es,V.cQ v=true){n:Nat}(hn:n< es.length):∀ {m:Nat}{g:CC}{e:CT},K6 false call T M mu N Y.l m g=some e->gu e->Ad N Y (iT es.length) g n false
 |0,_,_,h,_=>by cases h
 |m+1,g,e,h,he=>by
  unfold K6 at h;split at h
  ·rename_i x hx;split at h
   ·rename_i hy;split at h;·rename_i e1 h1;injection h with h;subst h;exact(uT (Q:=iT es.length) hT hcl hfl hx he.1).1 hy n false (EY hT hcl hfl hn h1 he.2)
    ·cases h
   ·cases h
  ·split at h
   ·rename_i e0 s;split at h;·exact⟨.inr rfl,(fun h=>nomatch h),fun _=>hn⟩
    ·exact⟨.inl rfl,(fun h=>nomatch h),fun _=>hn⟩
    ·cases h
   ·cases h
theorem uS{P:Program}{N:Nat}{es:List (List V)}{Y:Ag P es}{T:List TI}{M mu:List Nat}{call:dG}(hT:aE T P)(hcl:bQ P call)(hfl:∀v∈es,V.cQ v=true):∀ {m:Nat}{g:CC}{as0:List (List V)}{e:CT}{n:Nat},pT false call T M mu N Y.l m g=some (as0,e)->gu e->es.drop n=as0->n<=es.length->Ad N Y (iT es.length) g n true
 |0,_,_,_,_,h,_,_,_=>by cases h
 |m+1,g,as0,e,n,h,he,hd,hn=>by
  unfold pT at h;split at h
  ·rename_i x hx;split at h
   ·rename_i hy;split at h;·rename_i as1 e1 h1;simp only [Option.some.injEq,Prod.mk.injEq]at h;obtain⟨rfl,rfl⟩:=h;exact(uT (Q:=iT es.length) hT hcl hfl hx he.1).1 hy n true (uS hT hcl hfl h1 he.2 hd hn)
    ·cases h
   ·rename_i a hy;split at h
    ·rename_i sd hsd;split at h
     ·rename_i e0 h0;split at h
      ·rename_i as1 e1 h1;simp only [Option.some.injEq,Prod.mk.injEq]at h;obtain⟨rfl,rfl⟩:=h;have hlt:n< es.length:=by have:=congrArg List.length hd;simp only [List.length_drop,List.length_cons]at this;omega
       have hget:es[n]?=some a:=by have:=congrArg (·[0]?) hd;simpa using this
       have hdr:es.drop (n+1)=as1:=by have h2:=congrArg List.tail hd;simpa using h2
       obtain⟨sd',hs',hall⟩:=(uT (Q:=iT es.length) hT hcl hfl hx he.1).2 a hy;rw [hsd]at hs';injection hs' with hs';subst hs';exact hall n hget (uS hT hcl hfl h1 he.2.2 hdr oM) (EY hT hcl hfl hlt h0 he.2.1)
      ·cases h
     ·cases h
    ·cases h
  ·split at h
   ·rename_i e0 s;have fin:as0=[]->n=es.length:=fun h0=>by rw [h0]at hd;have:=congrArg List.length hd;simp only [List.length_drop,List.length_nil]at this;omega
    split at h;·simp only [Option.some.injEq,Prod.mk.injEq]at h;exact⟨.inr rfl,fun _=>fin h.1.symm,(fun h=>nomatch h)⟩
    ·simp only [Option.some.injEq,Prod.mk.injEq]at h;exact⟨.inl rfl,fun _=>fin h.1.symm,(fun h=>nomatch h)⟩
    ·cases h
   ·cases h
def CT.KQ:CT->List (CE×CE)
 | .lf l=>l
 | .nd a b=>a.KQ++b.KQ
theorem CT.vA:∀ {t:CT},gk t.KQ->gu t
 | .lf _,h=>h
 | .nd _ _,h=>⟨CT.vA h.l,CT.vA h.r⟩
def Cq(r:Option (List (List V)×CT)):Option (List (List V)):=match r with
 |some (as0,_)=>some as0
 |none=>none
def I6(r:Option (List (List V)×CT)):CT:=match r with
 |some (_,e)=>e
 |none=>c0
abbrev Bl:Type:=FuncId->List V->Option (List (List V)×CT)
def sY(P:Program)(itr:Bl):Prop:=∀f caps es e,itr f caps=some (es,e)->gu e->Dk P f caps es
theorem JG{P:Program}{N:Nat}{T:List TI}{M mu:List Nat}{call:dG}{f:FuncId}{fn:Func}{c:Code}{caps:List V}{es:List (List V)}(hT:aE T P)(hmx:P.follows .mixedOrders=true)(hcl:bQ P call)(hk:mO P f fn c N)(hres:fn.results= #[])(hargs:caps.length+1<=N)(hargs2:caps.length+1<=1000) (s0:Nat->CS) (h0:∀l,(s0 l).den=⟨fun t=>((V.c (.func (.yield l) #[] #[]))::caps).getD t .any,fun _=>none,1⟩) (hfl:∀v∈es,V.cQ v=true) (hv:∀l,Cq (pT false call T M mu N l 20000 (.code c [] (s0 l)))=some es) (he:∀l,gu (I6 (pT false call T M mu N l 20000 (.code c [] (s0 l))))):Dk P f caps es:=by
 refine yh hT hmx hk hres hargs fun Y=> ?_;have h1:=hv Y.l;have h2:=he Y.l;unfold Cq at h1;unfold I6 at h2;split at h1;·rename_i as0 e hr;rw [hr]at h2;injection h1 with h1;subst h1;have:=uS (Y:=Y) (n:=0) hT hcl hfl hr h2 rfl (Nat.zero_le _);unfold Ad at this;simp only at this;rw [h0]at this;exact this
 ·cases h1
def TR.keys(f:Nat->Nat):TR->List Nat
 | .e=>[]
 | .n _ l r=>f 0::(TR.keys (fun i=>f (2*i+1)) l++TR.keys (fun i=>f (2*i+2)) r)
def lX(tr:TR):List Nat->List (Nat×V)
 | []=>[]
 |t::l=>(t,tr.get t)::lX tr l
theorem vw{tr:TR}:∀ {l:List Nat},∀p∈lX tr l,tr.get p.1=p.2
 | [],p,h=>by simp [lX]at h
 |t::l,p,h=>by
  rcases List.mem_cons.1 h with rfl |h;·rfl
  ·exact vw (l:=l) p h
def C9:List (Nat×V)->TR
 | []=> .e
 |p::l=>TR.put 10 (C9 l) p.1 p.2
theorem nN:∀ {l:List (Nat×V)},(∀p∈l,p.1< 1000)->(C9 l).get=dL l
 | [],_=>by funext t;exact TR.i4 t
 |p::l,h=>by rw [C9,TR.ga (h p (by simp)),nN fun q hq=>h q (by simp [hq])];rfl
def setTR(tr:TR):List Nat->List V->TR
 |p::ps,v::vs=>setTR (TR.put 10 tr p v) ps vs
 |_,_=>tr
theorem oL:∀(ps:List Nat) (vs:List V) (tr:TR),(∀p∈ps,p< 1000)->(setTR tr ps vs).get=iO tr.get ps vs
 | [],vs,tr,_=>by cases vs <;> rfl
 |p::ps,[],tr,_=>rfl
 |p::ps,v::vs,tr,h=>by rw [setTR,iO,oL ps vs _ fun q hq=>h q (by simp [hq]),TR.ga (h p (by simp))]
def oY:List Nat->List Ob->List (Nat×Option Ob)
 |n::ns,o::l=>(n,some o)::oY ns l
 |_,_=>[]
theorem kU:∀(ns:List Nat) (l:List Ob),eJ (oY ns l)=bK (ns.zip l)
 | [],l=>by cases l <;> (funext i;rfl)
 |n::ns,[]=>by funext i;rfl
 |n::ns,o::l=>by
  funext i;show eJ ((n,some o)::oY ns l) i=bw (bK (ns.zip l)) n (some o) i;rw [<-kU ns l];simp only [eJ];split;·rename_i h;rw [Nat.eq_of_beq_eq_true h,ai]
  ·rename_i h;rw [aa _ _ (Nat.ne_of_beq_eq_false h)]
def i5(pn:List Nat):List Nat->List Nat
 | []=>[]
 |k::l=>match jt pn k with
  |true=>i5 pn l
  |false=>k::i5 pn l
def i9(np:Nat):List Nat:=(List.range np).map (500+ ·)
inductive RO where
  |nor (l:List Ob) (e:CT)
  |ext (c:Exit) (l:List Ob) (e:CT)
  |bad
@[irreducible] def fF:List Nat:=List.range 90
def Jf(pn:List Nat)(s:CS)(nl:List Nat):Option (List Ob×CT):=
 match sH (eJ s.sl) (Co nl) (pn++nl)with
  |some l=>match decide ((((pn++fF).zip (l.map Prod.snd)).map fun p=>ax (cK 0 nl) s.nx p.1).Nodup) && (Nat.ble nl.length 90 && (cK 0 nl).all fun p=>decide (p.1< 500))with
   |true=>some (l.map Prod.snd,.lf (dc (ax (cK 0 nl) s.nx) l))
   |false=>none
  |none=>none
def KF(pn:List Nat)(s:CS):Option (List Ob×CT):=Jf pn s (i5 pn (dQ (eJ s.sl) 1000 pn []))
def Ib(l:List Ob)(t:CT):Exit->RO
 | .normal=> .nor l t
 | .ret=> .ext .ret l t
 | .exit id=> .ext (.exit id) l t
 |_=> .bad
def rL(call:dG)(T:List TI)(M mu:List Nat)(N:Nat)(pn:List Nat)(tl:List (Nat×V))(ps:List Nat)(as0 bd:Code)(x:List V)(l:List Ob):RO:=
 match qM call FP T M mu N as0 ⟨setTR (C9 tl) ps x,oY (pn++fF) l,1⟩with
  |some (.normal,s1,t1)=>match qM call FP T M mu N bd s1 with
   |some (e,s2,t2)=>match KF pn s2 with
    |some (l',t3)=>Ib l' (uA t1 (uA t2 t3)) e
    |none=> .bad
   |none=> .bad
  |_=> .bad
def uK:Exit->Code
 | .exit id=> .exit id
 |_=> .ret
theorem nS{α β:Type}:∀ {l:List α}{m:List β}{p:α×β},p∈l.zip m->∃i:Nat,l[i]?=some p.1/\m[i]?=some p.2
 | [],_,p,h=>by simp at h
 |_::_,[],p,h=>by simp at h
 |a::l,b::m,p,h=>by
  rw [List.zip_cons_cons]at h;rcases List.mem_cons.1 h with rfl |h;·exact⟨0,rfl,rfl⟩
  ·obtain⟨i,h1,h2⟩:=nS h;exact⟨i+1,by simpa using h1,by simpa using h2⟩
theorem vb:∀ {nl:List Nat}{j m:Nat},m< j->(cK j nl).find? (·.1 == m)=none
 | [],_,_,_=>rfl
 |a::nl,j,m,h=>by
  rw [cK,List.find?_cons];have e:((j,a).1 == m)=false:=by simp only [beq_eq_false_iff_ne];omega
  rw [e];exact vb oM
theorem Ia{pn:List Nat}{s:CS}{l':List Ob}{e:CT}(hpn:∀p∈pn,500<=p/\p< 1000)(h:KF pn s=some (l',e))(he:gu e):Le s.den ⟨fun _=> .any,bK ((pn++fF).zip l'),1⟩:=by
 unfold KF at h;generalize i5 _ _=nl at h;unfold Jf at h;split at h
 ·rename_i l hl;split at h
  ·rename_i hb;simp only [Option.some.injEq,Prod.mk.injEq]at h;obtain⟨rfl,rfl⟩:=h;simp only [Bool.and_eq_true]at hb;obtain⟨hb1,hb2,hb3⟩:=hb;have hb2:=Nat.le_of_ble_eq_true hb2;obtain⟨hlen,hget⟩:=gN hl;have hE:gk _:=he;show Le ⟨s.tr.get,eJ s.sl,s.nx⟩ ⟨dL [],bK ((pn++fF).zip (l.map Prod.snd)),1⟩;refine aZ (tm:=s.tr.get) (σ:=eJ s.sl) (nx:=s.nx) (cK 0 nl) (tl:=[]) .nil (kW fun p hp=> ?_) hb1 hb3;obtain⟨i,h1,h2⟩:=nS hp;simp only [List.getElem?_map,Option.map_eq_some_iff]at h2;obtain⟨q,hq,hq2⟩:=h2;obtain⟨k,hk,hσ,hno⟩:=hget i q hq;have hg:ax (cK 0 nl) s.nx p.1=k:=by
    unfold ax;by_cases hi:i< pn.length;·rw [List.getElem?_append_left hi]at h1 hk;rw [hk]at h1;injection h1 with h1;have:=hpn k (List.mem_of_getElem? hk);rw [<-h1,oF oM];exact if_pos this
    ·rw [List.getElem?_append_right (Nat.le_of_not_lt hi)]at h1 hk;have hlt:=(List.getElem?_eq_some_iff.1 hk).1;have:p.1=0+(i- pn.length):=by unfold fF at h1;rw [List.getElem?_range oM]at h1;injection h1 with h1;omega
     rw [this,gE hk]
   refine⟨q.1,by rw [hg];exact hσ,?_⟩;rw [<-hq2];exact kD hno (de hE hq)
  ·cases h
 ·cases h
theorem zD{pn:List Nat}{tl:List (Nat×V)}{ps:List Nat}{x:List V}{l:List Ob}(htl:∀p∈tl,p.1< 1000)(hps:∀p∈ps,p< 1000):(CS.mk (setTR (C9 tl) ps x) (oY (pn++fF) l) 1).den=⟨iO (dL tl) ps x,bK ((pn++fF).zip l),1⟩:=by unfold CS.den;rw [oL _ _ _ hps,nN htl,kU]
section
variable {P:Program}{N:Nat}{T:List TI}{M mu:List Nat}{call:dG}{pn:List Nat}{tl:List (Nat×V)}{ps:List Nat}{as0 bd:Code}
def Nc(pn:List Nat)(ok:Nat->Prop)(sl:Nat->List Ob)(X:Nat->Code->List Ob->Prop)(k:Nat):RO->Prop
 | .nor l' e=>gu e/\ok (k+1)/\sl (k+1)=l'
 | .ext c l' e=>gu e/\X k (uK c) l'
 | .bad=>False
theorem CZ(hT:aE T P)(hcl:bQ P call)(hpn:∀p∈pn,500<=p/\p< 1000)(htl:∀p∈tl,p.1< 1000)(hps:∀p∈ps,p< 1000){ok:Nat->Prop}{sl:Nat->List Ob}{X:Nat->Code->List Ob->Prop}{k:Nat}{x:List V}{l:List Ob} (h:Nc pn ok sl X k (rL call T M mu N pn tl ps as0 bd x l)) (C':Cx P N):AW C' as0 (cv (fun s'=>AW C' bd (fJ (pn++fF) ok sl X k) s') (fun _ _=>False)) ⟨iO (dL tl) ps x,bK ((pn++fF).zip l),1⟩:=by
 rw [<-zD htl hps];unfold rL at h;split at h
 ·rename_i s1 t1 h1;split at h
  ·rename_i e s2 t2 h2;split at h
   ·rename_i l' t3 h3;have key:gu (uA t1 (uA t2 t3))->(Le s2.den ⟨fun _=> .any,bK ((pn++fF).zip l'),1⟩->fJ (pn++fF) ok sl X k e s2.den)->
     AW C' as0 (cv (fun s'=>AW C' bd (fJ (pn++fF) ok sl X k) s') (fun _ _=>False)) (CS.mk (setTR (C9 tl) ps x) (oY (pn++fF) l) 1).den:=by
     intro hE hR
     have hE:=jl hE
     have hE2:=jl hE.2
     have a2:=iZ (C:=C') (mu:=mu) hT hcl qm bd _ _ _ _ h2 hE2.1 (fJ (pn++fF) ok sl X k) (hR (Ia hpn h3 hE2.2))
     exact iZ (C:=C') (mu:=mu) hT hcl qm as0 _ _ _ _ h1 hE.1 (cv (fun s'=>AW C' bd (fJ (pn++fF) ok sl X k) s') (fun _ _=>False)) a2
    unfold Ib at h;split at h;·obtain⟨q1,q2,q3⟩:=h;exact key q1 fun hle=>⟨q2,by rw [q3];exact hle⟩
    ·obtain⟨q1,q2⟩:=h;exact key q1 fun hle=>⟨_,q2,hle⟩
    ·obtain⟨q1,q2⟩:=h;exact key q1 fun hle=>⟨_,q2,hle⟩
    ·exact h.elim
   ·exact h.elim
  ·exact h.elim
 ·exact h.elim
end
def Bg(rd:List V->List Ob->RO):List (List V)->List Ob->Option (Exit×List Ob×CT)
 | [],l=>some (.normal,l,c0)
 |x::es,l=>match rd x l with
  | .nor l' e=>match Bg rd es l' with
   |some (c,lf,e')=>some (c,lf,.nd e e')
   |none=>none
  | .ext c lf e=>match c with
   | .ret=>some (.ret,lf,e)
   | .exit id=>some (.exit id,lf,e)
   |_=>none
  | .bad=>none
def gY(rd:List V->List Ob->RO)(es:List (List V))(l0:List Ob):Nat->Option (List Ob)
 |0=>some l0
 |k+1=>match gY rd es l0 k,es[k]? with
  |some l,some x=>match rd x l with
   | .nor l' _=>some l'
   |_=>none
  |_,_=>none
theorem zS{rd:List V->List Ob->RO}{es:List (List V)}{l0:List Ob}{c:Exit}{lf:List Ob}{e:CT}(h:Bg rd es l0=some (c,lf,e))(he:gu e):∀k l,gY rd es l0 k=some l->k<=es.length/\∃t,Bg rd (es.drop k) l=some (c,lf,t)/\gu t
 |0,l,hl=>by simp only [gY,Option.some.injEq]at hl;subst hl;exact⟨Nat.zero_le _,e,h,he⟩
 |k+1,l,hl=>by
  simp only [gY]at hl;split at hl
  ·rename_i l1 x h1 hx;obtain⟨hk,t,h2,ht⟩:=zS h he k l1 h1;have hlt:=(List.getElem?_eq_some_iff.1 hx).1;have hdr:es.drop k=x::es.drop (k+1):=by
    rw [List.drop_eq_getElem_cons hlt];congr 1
    exact(List.getElem?_eq_some_iff.1 hx).2
   rw [hdr]at h2;unfold Bg at h2;split at hl
   ·rename_i l' e' hr;injection hl with hl;subst hl;rw [hr]at h2;simp only at h2;split at h2;·rename_i c1 lf1 e1 hw;simp only [Option.some.injEq,Prod.mk.injEq]at h2;obtain⟨rfl,rfl,rfl⟩:=h2;exact⟨hlt,_,hw,ht.2⟩
    ·cases h2
   ·cases hl
  ·cases hl
def lJ(np n:Nat):List Nat:=i9 np++(List.range n).map (500+np+ ·)
def fT(np:Nat)(nl:List Nat)(i:Nat):Nat:=match jt nl i with
 |true=>500+np+wY nl i
 |false=>i
def Ma(call:dG)(T:List TI)(M mu:List Nat)(N np:Nat)(ps:List Nat)(as0 bd:Code)(s:CS)(nl:List Nat)(ks:List Nat)(es:List (List V))(obs:List (Ob×Ob)):Option (Exit×CS×CT):=
 match (es.all fun x=>Nat.beq x.length ps.length) && (ps.all (fun p=>decide (p< N)) && (ps.all (fun p=>decide (p< 1000)) && (ks.all (fun p=>decide (p< 1000)) && (decide (500+np+nl.length<=1000) && ((eX (fT np nl) (lX s.tr ks)).all (fun p=>p.2.qf (lJ np nl.length)) && decide ((((lJ np nl.length++fF).zip (obs.map Prod.snd)).map fun p=>ax (cK (500+np) nl) s.nx p.1).Nodup))))))with
  |true=>match Bg (rL call T M mu N (lJ np nl.length) (eX (fT np nl) (lX s.tr ks)) ps as0 bd) es (obs.map Prod.snd)with
   |some (c,lf,e)=>some (c,⟨C9 (eX (fT np nl) (lX s.tr ks)),oY (lJ np nl.length++fF) lf,1⟩,.nd (.lf ((.vs (vals (lX s.tr ks)),.vs (V.bg (ax (cK (500+np) nl) s.nx) (vals (eX (fT np nl) (lX s.tr ks)))))::dc (ax (cK (500+np) nl) s.nx) obs)) e)
   |none=>none
  |false=>none
def L9(call:dG)(itr:Bl)(T:List TI)(M mu:List Nat)(N np:Nat)(g:Operand)(ps:List Nat)(as0 bd:Code)(s:CS)(ks nl:List Nat):Option (Exit×CS×CT):=
 match ev s.tr.get g with
  | .fn (.func gf) [] caps=>match V.aP caps with
   |true=>match itr gf caps with
    |some (es,e0)=>match sH (eJ s.sl) (fT np nl) (i9 np++nl)with
     |some obs=>match Ma call T M mu N np ps as0 bd s nl ks es obs with
      |some (c,s',e)=>some (c,s',.nd e0 e)
      |none=>none
     |none=>none
    |none=>none
   |false=>none
  |_=>none
def xD(s:CS)(g:Operand):CS:=Ck s (dQ (eJ s.sl) 1000 (ev s.tr.get g).ids [])
def Ih(call:dG)(itr:Bl)(T:List TI)(M mu:List Nat)(N np:Nat):Jz:=fun g ps as0 bd s=> L9 call itr T M mu N np g ps.toList as0 bd (xD s g) (TR.keys id (xD s g).tr) (i5 (i9 np) (dQ (eJ (xD s g).sl) 1000 (HB (lX (xD s g).tr (TR.keys id (xD s g).tr))++i9 np) []))
theorem rG{g:Nat->Nat}:∀ {l:List (Nat×V)}{p:Nat×V},p∈eX g l->∃q∈l,q.1=p.1
 | [],p,h=>by simp [eX]at h
 |q::l,p,h=>by
  rcases List.mem_cons.1 h with rfl |h;·exact⟨q,by simp,rfl⟩
  ·obtain⟨q',h1,h2⟩:=rG (l:=l) h;exact⟨q',by simp [h1],h2⟩
theorem vv{tr:TR}:∀ {l:List Nat}{p:Nat×V},p∈lX tr l->p.1∈l
 | [],p,h=>by simp [lX]at h
 |t::l,p,h=>by
  rcases List.mem_cons.1 h with rfl |h;·simp
  ·exact List.mem_cons_of_mem _ (vv h)
theorem nB:∀ {nl:List Nat}{j:Nat}{p:Nat×Nat},p∈cK j nl->j<=p.1/\p.1< j+nl.length
 | [],_,_,h=>by simp [cK]at h
 |a::nl,j,p,h=>by
  rcases List.mem_cons.1 h with rfl |h;·simp
  ·have:=nB h;simp only [List.length_cons];omega
theorem FT{P:Program}{N:Nat}{C:Cx P N}{Q:Exit->S->Prop}{tm:Nat->V}{σ:Nat->Option Ob}{nx:Nat}{g:Operand}{ps:Array Tmp}{as0 bd:Code}{gf:FuncId}{caps:List V}{es:List (List V)}(hF:C.F=Fence.wide)(pn:List Nat)(gl:List (Nat×Nat)) (hd:∀id x,C.dfs.pin id=some x->id∈pn/\∀p∈gl,p.1≠id) (it:Dk P gf caps es) (hg:ev tm g= .fn (.func gf) [] caps) (hidf:V.aP caps=true) (hlen:∀x∈es,x.length=ps.size) (hps:ps.toList.all (fun p=>decide (p< N))=true) (tl:List (Nat×V)) (rd:List V->List Ob->RO) (l0:List Ob) (hrd:∀ok sl X k x l,Nc pn ok sl X k (rd x l)->∀C':Cx P N,AW C' as0 (cv (fun s'=>AW C' bd (fJ (pn++fF) ok sl X k) s') (fun _ _=>False)) ⟨iO (dL tl) ps.toList x,bK ((pn++fF).zip l),1⟩) (hpn:∀p∈pn,500<=p/\p< 1000) (htl:tl.all (fun p=>p.2.qf pn)=true) (hid:∀p∈gl,p.1< 1000) (htm:jJ (fun p=>tm p.1=p.2.aW (ax gl nx)) tl) (hσ:jJ (fun p=>∃ob,σ (ax gl nx p.1)=some ob/\dN ob (p.2.aW (ax gl nx))) ((pn++fF).zip l0)) (hinj:decide ((((pn++fF).zip l0).map fun p=>ax gl nx p.1).Nodup)=true){c:Exit}{lf:List Ob}{e:CT}(hw:Bg rd es l0=some (c,lf,e)) (he:gu e) (hQ:Q c ⟨dL tl,bK ((pn++fF).zip lf),1⟩):AW C (.rangeFunc g ps as0 bd) Q ⟨tm,σ,nx⟩:=by
 have hat:=zS hw he;refine Gf hF pn fF gl hd it hg hidf hlen hps tl (fun k=>(gY rd es l0 k).isSome=true) (fun k=>(gY rd es l0 k).getD []) (fun k c sx=>∃l x c' e',gY rd es l0 k=some l/\es[k]?=some x/\rd x l= .ext c' sx e'/\uK c'=c) (by simp [gY]) (List.all_eq_true.2 fun p hp=>by simpa using hpn p hp) htl (List.all_eq_true.2 fun p hp=>decide_eq_true (hid p hp)) htm hσ hinj (fun C' _ k x hx hok=> ?_) (fun hok=> ?_) (fun k c sx hk hX=> ?_)
 ·obtain⟨l,hl⟩:=Option.isSome_iff_exists.1 hok;rw [hl,Option.getD_some];obtain⟨hk,t,ht,htE⟩:=hat k l hl;have hlt:=(List.getElem?_eq_some_iff.1 hx).1;have hdr:es.drop k=x::es.drop (k+1):=by
   rw [List.drop_eq_getElem_cons hlt];congr 1
   exact(List.getElem?_eq_some_iff.1 hx).2
  rw [hdr]at ht;refine hrd _ _ _ k x l ?_ C';unfold Bg at ht;split at ht
  ·rename_i l' e' hr;split at ht
   ·simp only [Option.some.injEq,Prod.mk.injEq]at ht;obtain⟨_,_,rfl⟩:=ht;have hst:gY rd es l0 (k+1)=some l':=by simp only [gY,hl,hx,hr]
    rw [hr];exact⟨htE.1,by simp only [hst,Option.isSome_some],by simp only [hst,Option.getD_some]⟩
   ·cases ht
  ·rename_i c' l' e' hr;rw [hr];split at ht;·simp only [Option.some.injEq,Prod.mk.injEq]at ht;obtain⟨_,_,rfl⟩:=ht;exact⟨htE,l,x,_,_,hl,hx,hr,rfl⟩
   ·simp only [Option.some.injEq,Prod.mk.injEq]at ht;obtain⟨_,_,rfl⟩:=ht;exact⟨htE,l,x,_,_,hl,hx,hr,rfl⟩
   ·cases ht
  ·cases ht
 ·obtain⟨l,hl⟩:=Option.isSome_iff_exists.1 hok;rw [hl,Option.getD_some];obtain⟨hk,t,ht,htE⟩:=hat _ l hl;rw [List.drop_length]at ht;simp only [Bg,Option.some.injEq,Prod.mk.injEq]at ht;obtain⟨rfl,rfl,_⟩:=ht;exact hQ
 ·obtain⟨l,x,c',e',hl,hx,hr,rfl⟩:=hX;obtain⟨hk',t,ht,htE⟩:=hat k l hl;have hdr:es.drop k=x::es.drop (k+1):=by
   rw [List.drop_eq_getElem_cons hk];congr 1
   exact(List.getElem?_eq_some_iff.1 hx).2
  rw [hdr]at ht;unfold Bg at ht;rw [hr]at ht;simp only at ht;split at ht;·simp only [Option.some.injEq,Prod.mk.injEq]at ht;obtain⟨rfl,rfl,_⟩:=ht;exact av hQ
  ·simp only [Option.some.injEq,Prod.mk.injEq]at ht;obtain⟨rfl,rfl,_⟩:=ht;exact cm hQ
  ·cases ht
theorem A5{P:Program}{N:Nat}{C:Cx P N}{T:List TI}{M mu:List Nat}{call:dG}{itr:Bl}{np:Nat}(hT:aE T P)(hcl:bQ P call)(hit:sY P itr)(hF:C.F=Fence.wide)(hpin:∀id x,C.dfs.pin id=some x->500<=id/\id< 500+np):vN C (Ih call itr T M mu N np):=by
 intro g ps as0 bd s e s' t h he Q hQ;have hle:∀ {P:Program}{N:Nat}(C:Cx P N) a w,Gm C s.den a w->Gm C (xD s g).den a w:=m8 s _;refine kg (s':=(xD s g).den) hle ?_;clear hle;unfold Ih at h;generalize xD s g=s0 at h ⊢;generalize i5 _ _=nl at h;generalize TR.keys id s0.tr=ks at h;unfold L9 at h;split at h
 ·rename_i gf caps hg;split at h
  ·rename_i hidf;split at h
   ·rename_i es e0 hes;split at h
    ·rename_i obs hobs;split at h
     ·rename_i c s1 e1 h2;simp only [Option.some.injEq,Prod.mk.injEq]at h;obtain⟨rfl,rfl,rfl⟩:=h;obtain⟨he0,he⟩:=he;unfold Ma at h2;split at h2
      ·rename_i hb;split at h2
       ·rename_i c1 lf e2 hw;simp only [Option.some.injEq,Prod.mk.injEq]at h2;obtain⟨rfl,rfl,rfl⟩:=h2;simp only [Bool.and_eq_true,decide_eq_true_eq]at hb;obtain⟨hb1,hb2,hb3,hb4,hb5,hb6,hb7⟩:=hb;obtain⟨hE,hew⟩:=he;have hE':gk _:=hE;have e1:=hE'.hd;injection e1 with e1;have hB:=hE'.tl;obtain⟨hlen,hget⟩:=gN hobs;have hps:∀p∈ps.toList,p< 1000:=fun p hp=>of_decide_eq_true (List.all_eq_true.1 hb3 p hp);have htl:∀p∈eX (fT np nl) (lX s0.tr ks),p.1< 1000:=fun p hp=>by obtain⟨q,hq,hq2⟩:=rG hp;rw [<-hq2];exact of_decide_eq_true (List.all_eq_true.1 hb4 _ (vv hq))
        have hpn:∀p∈lJ np nl.length,500<=p/\p< 1000:=fun p hp=>by unfold lJ i9 at hp;simp only [List.mem_append,List.mem_map,List.mem_range]at hp;rcases hp with⟨a,ha,rfl⟩ | ⟨a,ha,rfl⟩ <;> omega
        have hs1:(CS.mk (C9 (eX (fT np nl) (lX s0.tr ks))) (oY (lJ np nl.length++fF) lf) 1).den=⟨dL (eX (fT np nl) (lX s0.tr ks)),bK ((lJ np nl.length++fF).zip lf),1⟩:=by unfold CS.den;rw [nN htl,kU]
        rw [hs1]at hQ;have H1:∀ok sl X k x l,Nc (lJ np nl.length) ok sl X k (rL call T M mu N (lJ np nl.length) (eX (fT np nl) (lX s0.tr ks)) ps.toList as0 bd x l)->∀C':Cx P N,AW C' as0 (cv (fun s'=>AW C' bd (fJ (lJ np nl.length++fF) ok sl X k) s') (fun _ _=>False)) ⟨iO (dL (eX (fT np nl) (lX s0.tr ks))) ps.toList x,bK ((lJ np nl.length++fF).zip l),1⟩:=fun ok sl X k x l hr C'=>CZ hT hcl hpn htl hps hr C';have H2:∀p∈cK (500+np) nl,p.1< 1000:=fun p hp=>by have:=nB hp;omega
        have H3:=nH (g:=ax (cK (500+np) nl) s0.nx) (gi:=fT np nl) (tm:=s0.tr.get) (tl:=lX s0.tr ks) vw e1;generalize rL call T M mu N (lJ np nl.length) (eX (fT np nl) (lX s0.tr ks)) ps.toList as0 bd=rd at hw H1;generalize eX (fT np nl) (lX s0.tr ks)=tl at*;refine FT hF (lJ np nl.length) (cK (500+np) nl) (fun id x hx=> ?_) (hit _ _ _ _ hes he0) hg hidf (fun x hx=> ?_) hb2 tl rd (obs.map Prod.snd) H1 hpn hb6 H2 H3 (kW fun p hp=> ?_) (decide_eq_true hb7) hw hew hQ
        ·have:=hpin id x hx;refine⟨?_,fun p hp=> ?_⟩;·unfold lJ i9;simp only [List.mem_append,List.mem_map,List.mem_range];exact .inl ⟨id- 500,by omega,by omega⟩
         ·have:=nB hp;omega
        ·have:=List.all_eq_true.1 hb1 x hx;have:=Nat.eq_of_beq_eq_true this;simpa using this
        ·obtain⟨i,h1,h2⟩:=nS hp;simp only [List.getElem?_map,Option.map_eq_some_iff]at h2;obtain⟨q,hq,hq2⟩:=h2;obtain⟨k,hk,hσ,hno⟩:=hget i q hq;have hil:=(List.getElem?_eq_some_iff.1 hq).1;rw [hlen]at hil;have hpl:(i9 np).length=np:=by simp [i9]
         simp only [List.length_append,hpl]at hil;have hlk:ax (cK (500+np) nl) s0.nx p.1=k:=by
          unfold lJ at h1;rw [List.append_assoc]at h1;unfold ax;by_cases hi:i< np
          ·rw [List.getElem?_append_left oM]at h1 hk;rw [hk]at h1;injection h1 with h1;have hkk:k=500+i:=by unfold i9 at hk;rw [List.getElem?_map,List.getElem?_range hi]at hk;simp at hk;omega
           rw [<-h1,vb oM];exact if_pos oM
          ·rw [List.getElem?_append_right oM]at h1 hk;rw [hpl]at h1 hk;rw [List.getElem?_append_left (by simp;omega),List.getElem?_map,List.getElem?_range oM]at h1;simp only [Option.map_some,Option.some.injEq]at h1;rw [<-h1,gE hk]
         refine⟨q.1,by rw [hlk];exact hσ,?_⟩;rw [<-hq2];exact kD hno (de hB hq)
       ·cases h2
      ·cases h2
     ·cases h
    ·cases h
   ·cases h
  ·cases h
 ·cases h
end
end Go.Ab

namespace Go.Ab
open Go.RowKit Go.Dw Go.Shelf
noncomputable section
def vI{P:Program}{N:Nat}{es:List (List V)}(C:Cx P N)(Y:YE P es)(c:Code)(Q:Exit->S->Nat->Bool->Prop):Nat->S->Nat->Bool->Prop
 |0,_,_,_=>False
 |m+1,s,k,g=>sq C Y c (e7 (vI C Y c Q m) Q) s k g
theorem wm{P:Program}{N:Nat}{es:List (List V)}{C:Cx P N}{Y:YE P es}{Q:Exit->S->Nat->Bool->Prop}{c:Code}{s:S}{k:Nat}{g:Bool}(m:Nat)(h:vI C Y c Q m s k g):sq C Y (.loop c) Q s k g:=by
 intro a w gm hj hb;refine wpIn_loop_rounds m ?_;have key:∀(m:Nat) (s:S) (k:Nat) (g:Bool) (a:Act) (w:World),vI C Y c Q m s k g->Gm C s a w->Y.J k g w->Y.B<=w.heap.size->Code.roundsIn Fence.wide 0 P c (fun e a' w'=>∃s' k' g',Q e s' k' g'/\Gm C s' a' w'/\Y.J k' g' w'/\Y.B<=w'.heap.size) m a w:=by
  intro m;induction m with
  |zero=>intro s k g a w h;exact h.elim
  |succ m ih=>
   intro s k g a w h gm hj hb;refine wpIn_mono (h a w gm hj hb) ?_;rintro e a' w' ⟨s',k',g',q,gm',hj',hb'⟩;cases e with
   |normal=>exact ih s' k' g' a' w' q gm' hj' hb'
   |_=>exact⟨s',k',g',q,gm',hj',hb'⟩
 exact key m s k g a w h gm hj hb
section
variable {P:Program}{N:Nat}{es:List (List V)}(C:Cx P N) (Y:YE P es) (Q:Exit->S->Nat->Bool->Prop)
def sr:List Fr->Exit->S->Nat->Bool->Prop
 | []=>Q
 | .c y::k=>e7 (fun s' n g=>sq C Y y (sr k) s' n g) (sr k)
 | .b id::k=>dH id (sr k)
 | .l y m::k=>e7 (vI C Y y (sr k) m) (sr k)
 | .s::_=>fun _ _ _ _=>False
def Ac:CC->Nat->Bool->Prop
 | .code c k s,n,g=>sq C Y c (sr C Y Q k) s.den n g
 | .done e k s,n,g=>sr C Y Q k e s.den n g
 | .ops _ _ _ _ _ _,_,_=>False
end
section
variable {P:Program}{N:Nat}{es:List (List V)}{C:Cx P N}{Y:YE P es}{Q:Exit->S->Nat->Bool->Prop}{T:List TI}{M mu:List Nat}{call:dG}
theorem KY{y:Code}{k:List Fr}{e:Exit}{s:S}{n:Nat}{g:Bool}(hne:e≠ .normal)(h:sr C Y Q k e s n g):sr C Y Q (.c y::k) e s n g:=by cases e <;> first |exact absurd rfl hne |exact h
theorem KZ{y:Code}{m:Nat}{k:List Fr}{e:Exit}{s:S}{n:Nat}{g:Bool}(hne:e≠ .normal)(h:sr C Y Q k e s n g):sr C Y Q (.l y m::k) e s n g:=by cases e <;> first |exact absurd rfl hne |exact h
theorem KX{id:Nat}{k:List Fr}{e:Exit}{s:S}{n:Nat}{g:Bool}(hne:∀i,e≠ .exit i)(h:sr C Y Q k e s n g):sr C Y Q (.b id::k) e s n g:=by cases e <;> first |exact absurd rfl (hne _) |exact h
theorem uw{c:Code}{s:S}{k:Nat}{g:Bool}(u:Nat)(h:sq C Y c (e7 (vI C Y c Q u) Q) s k g):sq C Y (.loop c) Q s k g:=wm (u+1) h
def x8{P:Program}{es:List (List V)}{N:Nat}(C:Cx P N)(Y:YE P es)(Q:Exit->S->Nat->Bool->Prop)(g:CC)(x:JX):Prop:=
 (x.y=none->∀n b,Ac C Y Q x.g n b->Ac C Y Q g n b)/\
 ∀as0,x.y=some as0->∃sd,x.side=some sd/\∀n,es[n]?=some as0->Ac C Y Q x.g (n+1) true->Ac C Y Q sd n false->Ac C Y Q g n true
theorem dm{g g':CC}{e:CT}(h:∀n b,Ac C Y Q g' n b->Ac C Y Q g n b):x8 C Y Q g ⟨g',none,none,e⟩:=⟨fun _=>h,fun as0 h=>by cases h⟩
theorem E2(hT:aE T P)(hcl:bQ P call)(hC:YC C Y){id n:Nat}{ops:Array Oper}{k:List Fr}{s:CS}{x:JX}(hok:fm N ops.toList=true)(h:EZ true call T M Y.l ops.toList k s n=some x)(he:gu x.e):x8 C Y Q (.code (.region id ops false) k s) x:=by
 have eo:ops=ops.toList.toArray:=by simp
 unfold EZ at h;split at h
 ·rename_i o ho;split at h
  ·rename_i d hd;split at h
   ·rename_i hlt;have hlt:=of_decide_eq_true hlt;split at h
    ·rename_i s1 ks1 e1 h1;split at h
     ·rename_i hgd;split at h
      ·rename_i fv as0 hy;split at h
       ·rename_i s2 ks2 e2 h2;split at h
        ·rename_i s3 ks3 e3 h3;injection h with h;subst h;obtain⟨he0,he1,he2,he3⟩:=he;refine⟨fun h=>(by cases h),fun as1 has=> ?_⟩;injection has with has;subst has;refine⟨_,rfl,fun m hm hk1 hk2=> ?_⟩;obtain⟨d',op,ty,pos,af,gd⟩:=o;simp only at hd;subst hd;unfold K3 at hy;simp only at hy;split at hy
         ·rename_i c;obtain⟨callee,args,ats⟩:=c;simp only at hy;split at hy
          ·rename_i fo;split at hy
           ·rename_i hfl0;simp only [Bool.and_eq_true]at hfl0;simp only [Option.some.injEq,Prod.mk.injEq]at hy;obtain⟨rfl,rfl⟩:=hy;have hf:=gk.hd he0;injection hf with hf;simp only [List.cons.injEq,and_true]at hf;have ht:aR C ops.toList.toArray s.nx (ops.toList.drop (n+1)) (bw s1.tr.get d (.b true)) (eJ s1.sl) [] (fun tm' σ' _=>sr C Y Q k .normal ⟨tm',σ',s.nx+1⟩ (m+1) true)/\aR C ops.toList.toArray s.nx (ops.toList.drop (n+1)) (bw s1.tr.get d (.b false)) (eJ s1.sl) [] (fun tm' σ' _=>sr C Y Q k .normal ⟨tm',σ',s.nx+1⟩ m false):=by
             have q1:=(cz hT hcl (C:=C) (K:=fun _ _ _=>True) h1 he1).1;constructor;·obtain⟨r1,r2⟩:=cz hT hcl (C:=C) (K:=fun tm' σ' _=>sr C Y Q k .normal ⟨tm',σ',s.nx+1⟩ (m+1) true) h2 he2;simp only at r1 r2;rw [TR.ga hlt,q1]at r2;exact r2 (by have:=hk1;unfold Ac CS.den at this;simp only at this;rw [r1,q1]at this;exact this)
             ·obtain⟨r1,r2⟩:=cz hT hcl (C:=C) (K:=fun tm' σ' _=>sr C Y Q k .normal ⟨tm',σ',s.nx+1⟩ m false) h3 he3;simp only at r1 r2;rw [TR.ga hlt,q1]at r2;exact r2 (by have:=hk2;unfold Ac CS.den at this;simp only at this;rw [r1,q1]at this;exact this)
            show sq C Y (.region id ops false) (sr C Y Q k) s.den m true;rw [eo];unfold N3 at hgd;simp only at hgd;split at hgd;·have ea:(args.toList.map fun x=>ug (ev s1.tr.get x))=args.toList.map (ev s1.tr.get):=List.map_congr_left fun x hx=>qu hgd (by simp only [Op.operands,Call.operands];simp at hx ⊢;exact .inr hx);have ef:ug (ev s1.tr.get fo)=ev s1.tr.get fo:=qu hgd (by simp [Op.operands,Call.operands]);rw [ef]at hf;rw [ea]at hm;have hfl1:=hfl0.1;rw [ea]at hfl1;refine BV hC n (by simpa using hok) ho ?_;obtain⟨q1,q2⟩:=cz hT hcl (C:=C) (K:=fun tm1 σ1 _=>YS C Y ops.toList.toArray s.nx (ops.toList.drop (n+1)) fo args d (sr C Y Q k) m tm1 σ1) h1 he1;exact q2 ⟨hf,⟨_,hm,p0 _⟩,hfl1,ht.1,ht.2⟩
            ·rename_i gd';split at hgd;·rename_i g hg;subst hgd;refine yH hC n (by simpa using hok) ho ?_;obtain⟨q1,q2⟩:=cz hT hcl (C:=C) (K:=fun tm1 σ1 _=>N7 C Y ops.toList.toArray s.nx (ops.toList.drop (n+1)) fo args d ⟨some d,.call {callee:= .value fo,args:=args,argTypes:=ats},ty,pos,af,some gd'⟩ (sr C Y Q k) m tm1 σ1) h1 he1;exact q2 ⟨fN (ops:=ops.toList.toArray) (r:=some true) (by simpa using hg),hfl0.2,hf,⟨_,hm,p0 _⟩,hfl0.1,ht.1,ht.2⟩
             ·cases hgd
           ·cases hy
          ·cases hy
         ·cases hy
        ·cases h
       ·cases h
      ·cases h
     ·cases h
    ·cases h
   ·cases h
  ·cases h
 ·cases h
theorem qY(hT:aE T P)(hcl:bQ P call)(hC:YC C Y){g:CC}{x:JX}(h:Cr true call T M mu N Y.l g=some x)(he:gu x.e):x8 C Y Q g x:=by
 unfold Cr at h;split at h
 ·rename_i e k s;split at h;·cases h
  ·split at h;·injection h with h;subst h;exact dm fun n b hk=>hk
   ·rename_i hne;injection h with h;subst h;exact dm fun n b hk=>KY hne hk
  ·split at h
   ·split at h;·rename_i hb;injection h with h;subst h;have hb:=Nat.eq_of_beq_eq_true hb;subst hb;exact dm fun n b hk=>nR hk
    ·rename_i hb;injection h with h;subst h;exact dm fun n b hk=>Gl (by simpa using Nat.ne_of_beq_eq_false hb) hk
   ·rename_i hne;injection h with h;subst h;exact dm fun n b hk=>KX hne hk
  ·split at h
   ·split at h;·cases h
    ·injection h with h;subst h;exact dm fun n b hk=>hk
   ·rename_i hne;injection h with h;subst h;exact dm fun n b hk=>KZ hne hk
  ·cases h
 ·rename_i c k s;split at h;·injection h with h;subst h;exact dm fun n b hk=>DY hk
  ·injection h with h;subst h;exact dm fun n b hk=>DX hk
  ·injection h with h;subst h;exact dm fun n b hk=>GR hk
  ·injection h with h;subst h;exact dm fun n b hk=>GU hk
  ·injection h with h;subst h;exact dm fun n b hk=>BU hk
  ·injection h with h;subst h;exact dm fun n b hk=>uw 1000000 hk
  ·split at h
   ·rename_i t ht;split at h;·injection h with h;subst h;exact dm fun n b hk=>wo ht (fun _=>hk) fun h=>by cases h
    ·injection h with h;subst h;exact dm fun n b hk=>wo ht (fun h=>by cases h) fun _=>hk
   ·cases h
  ·rename_i id ops dr;split at h
   ·rename_i hok;split at h
    ·rename_i s' ks e hr;have e0:ops=ops.toList.toArray:=by simp
     split at h;·injection h with h;subst h;refine dm fun n b hk=>DW hC ?_;refine kg (m9 mu s ops.toList) ?_;rw [e0];obtain⟨q1,q2⟩:=cz hT hcl (C:=C) (K:=fun tm' σ' _=>sr C Y Q k .normal ⟨tm',σ',(lI mu s ops.toList).nx+1⟩ n b) (by simpa using hr) he;refine kY (s:=(lI mu s ops.toList).den) (by simpa using hok) (q2 ?_);have:=hk;unfold Ac CS.den at this;simp only at this;rw [q1]at this;exact this
     ·split at h;·rename_i hdr;injection h with h;subst h;refine dm fun n b hk=>DW hC ?_;refine kg (m9 mu s ops.toList) ?_;rw [e0];obtain⟨q1,q2⟩:=cz hT hcl (C:=C) (K:=fun tm' σ' ks'=>gS ops.toList ks'=true/\sr C Y Q k .normal ⟨tm',σ',(lI mu s ops.toList).nx+1⟩ n b) (by simpa using hr) he;refine jh (s:=(lI mu s ops.toList).den) (by simpa using hok) (q2 ⟨vc hdr,?_⟩);have:=hk;unfold Ac CS.den at this;simp only at this;rw [q1]at this;exact this
      ·cases h
    ·split at h
     ·split at h;·exact E2 hT hcl hC hok h he
      ·cases h
     ·cases h
   ·cases h
  ·cases h
 ·cases h
end
theorem AB{P:Program}{N:Nat}{es:List (List V)}{C:Cx P N}{Y:YE P es}{T:List TI}{M mu:List Nat}{call:dG}(hT:aE T P)(hcl:bQ P call)(hC:YC C Y){n:Nat}(hn:n< es.length):∀ {m:Nat}{g:CC}{e:CT},K6 true call T M mu N Y.l m g=some e->gu e->Ac C Y (iT es.length) g n false
 |0,_,_,h,_=>by cases h
 |m+1,g,e,h,he=>by
  unfold K6 at h;split at h
  ·rename_i x hx;split at h
   ·rename_i hy;split at h;·rename_i e1 h1;injection h with h;subst h;exact(qY (Q:=iT es.length) hT hcl hC hx he.1).1 hy n false (AB hT hcl hC hn h1 he.2)
    ·cases h
   ·cases h
  ·split at h
   ·rename_i e0 s;split at h;·exact⟨.inr rfl,(fun h=>nomatch h),fun _=>hn⟩
    ·exact⟨.inl rfl,(fun h=>nomatch h),fun _=>hn⟩
    ·cases h
   ·cases h
theorem qX{P:Program}{N:Nat}{es:List (List V)}{C:Cx P N}{Y:YE P es}{T:List TI}{M mu:List Nat}{call:dG}(hT:aE T P)(hcl:bQ P call)(hC:YC C Y):∀ {m:Nat}{g:CC}{as0:List (List V)}{e:CT}{n:Nat},pT true call T M mu N Y.l m g=some (as0,e)->gu e->es.drop n=as0->n<=es.length->Ac C Y (iT es.length) g n true
 |0,_,_,_,_,h,_,_,_=>by cases h
 |m+1,g,as0,e,n,h,he,hd,hn=>by
  unfold pT at h;split at h
  ·rename_i x hx;split at h
   ·rename_i hy;split at h;·rename_i as1 e1 h1;simp only [Option.some.injEq,Prod.mk.injEq]at h;obtain⟨rfl,rfl⟩:=h;exact(qY (Q:=iT es.length) hT hcl hC hx he.1).1 hy n true (qX hT hcl hC h1 he.2 hd hn)
    ·cases h
   ·rename_i a hy;split at h
    ·rename_i sd hsd;split at h
     ·rename_i e0 h0;split at h
      ·rename_i as1 e1 h1;simp only [Option.some.injEq,Prod.mk.injEq]at h;obtain⟨rfl,rfl⟩:=h;have hlt:n< es.length:=by have:=congrArg List.length hd;simp only [List.length_drop,List.length_cons]at this;omega
       have hget:es[n]?=some a:=by have:=congrArg (·[0]?) hd;simpa using this
       have hdr:es.drop (n+1)=as1:=by have h2:=congrArg List.tail hd;simpa using h2
       obtain⟨sd',hs',hall⟩:=(qY (Q:=iT es.length) hT hcl hC hx he.1).2 a hy;rw [hsd]at hs';injection hs' with hs';subst hs';exact hall n hget (qX hT hcl hC h1 he.2.2 hdr oM) (AB hT hcl hC hlt h0 he.2.1)
      ·cases h
     ·cases h
    ·cases h
  ·split at h
   ·rename_i e0 s;have fin:as0=[]->n=es.length:=fun h0=>by rw [h0]at hd;have:=congrArg List.length hd;simp only [List.length_drop,List.length_nil]at this;omega
    split at h;·simp only [Option.some.injEq,Prod.mk.injEq]at h;exact⟨.inr rfl,fun _=>fin h.1.symm,(fun h=>nomatch h)⟩
    ·simp only [Option.some.injEq,Prod.mk.injEq]at h;exact⟨.inl rfl,fun _=>fin h.1.symm,(fun h=>nomatch h)⟩
    ·cases h
   ·cases h
theorem GB{P:Program}{N:Nat}{T:List TI}{M mu:List Nat}{call:dG}{f:FuncId}{fn:Func}{c:Code}{caps:List V}{ins:List Ob}{es:List (List V)}(hT:aE T P)(hmx:P.follows .mixedOrders=true)(hcl:bQ P call)(hk:mO P f fn c N)(hres:fn.results= #[])(hargs:caps.length+1<=N)(hins:ins.length<=400) (s0:Nat->CS) (h0:∀l,(s0 l).den=⟨fun t=>((V.c (.func (.yield l) #[] #[]))::caps).getD t .any,dj ins,1⟩) (hv:∀l,Cq (pT true call T M mu N l 20000 (.code c [] (s0 l)))=some es) (he:∀l,gu (I6 (pT true call T M mu N l 20000 (.code c [] (s0 l))))):vH P f caps ins es:=by
 refine ym hT hmx hk hres hargs (fun C Y hC=> ?_) hins;have h1:=hv Y.l;have h2:=he Y.l;unfold Cq at h1;unfold I6 at h2;split at h1;·rename_i as0 e hr;rw [hr]at h2;injection h1 with h1;subst h1;have:=qX (C:=C) (Y:=Y) (n:=0) hT hcl hC hr h2 rfl (Nat.zero_le _);unfold Ac at this;simp only at this;rw [h0]at this;exact this
 ·cases h1
def Nq(pn:List Nat):Ob->Bool
 | .box _ cs=>V.cI pn cs
 | .row _ _ n f=>((List.range n).map f).all (V.cI pn)
 | .mp _ _=>false
theorem Ew{pn:List Nat}{o:Ob}(h:Nq pn o=true):o.bS pn:=by
 cases o with
 |box t cs=>exact h
 |row e sz n f=>intro i hi;exact List.all_eq_true.1 h _ (List.mem_map.2 ⟨i,List.mem_range.2 hi,rfl⟩)
 |mp _ _=>cases h
def FK(pn:List Nat)(s:CS):Option (List Ob×CT):=
 match sH (eJ s.sl) (fun i=>i) pn with
  |some l=>match decide (((pn.zip (l.map Prod.snd)).map fun p=>ax [] s.nx p.1).Nodup) && (l.map Prod.snd).all (Nq pn)with
   |true=>some (l.map Prod.snd,.lf (dc (ax [] s.nx) l))
   |false=>none
  |none=>none
theorem FL{pn:List Nat}{s:CS}{l':List Ob}{e:CT}(hpn:∀p∈pn,500<=p/\p< 1000)(h:FK pn s=some (l',e))(he:gu e):Le s.den ⟨fun _=> .any,bK (pn.zip l'),1⟩/\l'.length=pn.length/\∀o∈l',o.bS pn:=by
 unfold FK at h;split at h
 ·rename_i l hl;split at h
  ·rename_i hb;simp only [Option.some.injEq,Prod.mk.injEq]at h;obtain⟨rfl,rfl⟩:=h;simp only [Bool.and_eq_true]at hb;obtain⟨hb1,hb2⟩:=hb;obtain⟨hlen,hget⟩:=gN hl;have hE:gk _:=he;refine⟨?_,by simp [hlen],fun o ho=>Ew (List.all_eq_true.1 hb2 o ho)⟩;show Le ⟨s.tr.get,eJ s.sl,s.nx⟩ ⟨dL [],bK (pn.zip (l.map Prod.snd)),1⟩;refine aZ (tm:=s.tr.get) (σ:=eJ s.sl) (nx:=s.nx) [] (tl:=[]) .nil (kW fun p hp=> ?_) hb1 rfl;obtain⟨i,h1,h2⟩:=nS hp;simp only [List.getElem?_map,Option.map_eq_some_iff]at h2;obtain⟨q,hq,hq2⟩:=h2;obtain⟨k,hk,hσ,hno⟩:=hget i q hq;rw [hk]at h1;injection h1 with h1;have hg:ax [] s.nx p.1=k:=by have:=hpn k (List.mem_of_getElem? hk);unfold ax;rw [<-h1];exact if_pos this
   refine⟨q.1,by rw [hg];exact hσ,?_⟩;rw [<-hq2];exact kD hno (de hE hq)
  ·cases h
 ·cases h
def rK(call:dG)(T:List TI)(M mu:List Nat)(N:Nat)(pn:List Nat)(tl:List (Nat×V))(ps:List Nat)(as0 bd:Code)(x:List V)(l:List Ob):RO:=
 match qM call FP T M mu N as0 ⟨setTR (C9 tl) ps x,oY pn l,1⟩with
  |some (.normal,s1,t1)=>match qM call FP T M mu N bd s1 with
   |some (e,s2,t2)=>match FK pn s2 with
    |some (l',t3)=>Ib l' (uA t1 (uA t2 t3)) e
    |none=> .bad
   |none=> .bad
  |_=> .bad
def Jw(pn:List Nat)(ok:Nat->Prop)(sl:Nat->List Ob)(X:Nat->Code->List Ob->Prop)(k:Nat):RO->Prop
 | .nor l' e=>gu e/\(l'.length=pn.length->(∀o∈l',o.bS pn)->ok (k+1)/\sl (k+1)=l')
 | .ext c l' e=>gu e/\(l'.length=pn.length->(∀o∈l',o.bS pn)->X k (uK c) l')
 | .bad=>False
theorem xG{pn:List Nat}{tl:List (Nat×V)}{ps:List Nat}{x:List V}{l:List Ob}(htl:∀p∈tl,p.1< 1000)(hps:∀p∈ps,p< 1000):(CS.mk (setTR (C9 tl) ps x) (oY pn l) 1).den=⟨iO (dL tl) ps x,bK (pn.zip l),1⟩:=by unfold CS.den;rw [oL _ _ _ hps,nN htl,kU]
section
variable {P:Program}{N:Nat}{T:List TI}{M mu:List Nat}{call:dG}{pn:List Nat}{tl:List (Nat×V)}{ps:List Nat}{as0 bd:Code}
theorem CY(hT:aE T P)(hcl:bQ P call)(hpn:∀p∈pn,500<=p/\p< 1000)(htl:∀p∈tl,p.1< 1000)(hps:∀p∈ps,p< 1000){ok:Nat->Prop}{sl:Nat->List Ob}{X:Nat->Code->List Ob->Prop}{k:Nat}{x:List V}{l:List Ob} (h:Jw pn ok sl X k (rK call T M mu N pn tl ps as0 bd x l)) (C':Cx P N):AW C' as0 (cv (fun s'=>AW C' bd (fJ pn ok sl X k) s') (fun _ _=>False)) ⟨iO (dL tl) ps x,bK (pn.zip l),1⟩:=by
 rw [<-xG htl hps];unfold rK at h;split at h
 ·rename_i s1 t1 h1;split at h
  ·rename_i e s2 t2 h2;split at h
   ·rename_i l' t3 h3;have key:gu (uA t1 (uA t2 t3))->(Le s2.den ⟨fun _=> .any,bK (pn.zip l'),1⟩->l'.length=pn.length->(∀o∈l',o.bS pn)->fJ pn ok sl X k e s2.den)->
     AW C' as0 (cv (fun s'=>AW C' bd (fJ pn ok sl X k) s') (fun _ _=>False)) (CS.mk (setTR (C9 tl) ps x) (oY pn l) 1).den:=by
     intro hE hR
     have hE:=jl hE
     have hE2:=jl hE.2
     obtain⟨z1,z2,z3⟩:=FL hpn h3 hE2.2
     have a2:=iZ (C:=C') (mu:=mu) hT hcl qm bd _ _ _ _ h2 hE2.1 (fJ pn ok sl X k) (hR z1 z2 z3)
     exact iZ (C:=C') (mu:=mu) hT hcl qm as0 _ _ _ _ h1 hE.1 (cv (fun s'=>AW C' bd (fJ pn ok sl X k) s') (fun _ _=>False)) a2
    unfold Ib at h;split at h;·obtain⟨q1,q2⟩:=h;exact key q1 fun hle a b=>⟨(q2 a b).1,by rw [(q2 a b).2];exact hle⟩
    ·obtain⟨q1,q2⟩:=h;exact key q1 fun hle a b=>⟨_,q2 a b,hle⟩
    ·obtain⟨q1,q2⟩:=h;exact key q1 fun hle a b=>⟨_,q2 a b,hle⟩
    ·exact h.elim
   ·exact h.elim
  ·exact h.elim
 ·exact h.elim
end
def Hp(pn:List Nat)(l:List Ob):Bool:=Nat.beq l.length pn.length && l.all (Nq pn)
theorem y7{pn:List Nat}{l:List Ob}(h:Hp pn l=true):l.length=pn.length/\∀o∈l,o.bS pn:=by simp only [Hp,Bool.and_eq_true]at h;exact⟨Nat.eq_of_beq_eq_true h.1,fun o ho=>Ew (List.all_eq_true.1 h.2 o ho)⟩
def KG(pn:List Nat):RO->RO
 | .nor l e=>match Hp pn l with
  |true=> .nor l e
  |false=> .bad
 | .ext c l e=>match Hp pn l with
  |true=> .ext c l e
  |false=> .bad
 | .bad=> .bad
theorem AY{pn:List Nat}{r:RO}{l:List Ob}{e:CT}(h:KG pn r= .nor l e):r= .nor l e/\Hp pn l=true:=by
 unfold KG at h;split at h
 ·split at h;·rename_i hf;injection h with h1 h2;subst h1 h2;exact⟨rfl,hf⟩
  ·cases h
 ·split at h <;> cases h
 ·cases h
theorem AX{pn:List Nat}{r:RO}{c:Exit}{l:List Ob}{e:CT}(h:KG pn r= .ext c l e):r= .ext c l e/\Hp pn l=true:=by
 unfold KG at h;split at h;·split at h <;> cases h
 ·split at h;·rename_i hf;injection h with h1 h2 h3;subst h1 h2 h3;exact⟨rfl,hf⟩
  ·cases h
 ·cases h
theorem CV{P:Program}{N:Nat}{C:Cx P N}{Q:Exit->S->Prop}{tm:Nat->V}{σ:Nat->Option Ob}{nx:Nat}{g:Operand}{ps:Array Tmp}{as0 bd:Code}{gf:FuncId}{caps:List V}{ins:List Ob}{es:List (List V)}(ns:List Nat)(hF:C.F=Fence.wide)(hd:C.dfs=jY)(pn:List Nat)(gl:List (Nat×Nat)) (it:vH P gf caps ins es) (hg:ev tm g= .fn (.func gf) [] (V.bg (nu ns) caps)) (hidf:V.cc ins.length caps=true) (hns:ns.length=ins.length) (hnd:ns.Nodup) (hins:∀(i k:Nat) (o:Ob),ns[i]?=some k->ins[i]?=some o->σ k=some o/\Cm o=true) (hlen:∀x∈es,x.length=ps.size) (hps:ps.toList.all (fun p=>decide (p< N))=true) (tl:List (Nat×V)) (rd:List V->List Ob->RO) (l0:List Ob) (hl0:Hp pn l0=true) (hrd:∀ok sl X k x l,Jw pn ok sl X k (rd x l)->∀C':Cx P N,AW C' as0 (cv (fun s'=>AW C' bd (fJ pn ok sl X k) s') (fun _ _=>False)) ⟨iO (dL tl) ps.toList x,bK (pn.zip l),1⟩) (hpn:∀p∈pn,500<=p/\p< 1000) (hid:∀p∈gl,p.1< 1000) (htm:jJ (fun p=>tm p.1=p.2.aW (ax gl nx)) tl) (hσ:jJ (fun p=>∃ob,σ (ax gl nx p.1)=some ob/\dN ob (p.2.aW (ax gl nx))) (pn.zip l0)) (hinj:decide (((pn.zip l0).map fun p=>ax gl nx p.1).Nodup)=true) (hdis:∀p∈pn.zip l0,ax gl nx p.1∉ns){c:Exit}{lf:List Ob}{e:CT}(hw:Bg (fun x l=>KG pn (rd x l)) es l0=some (c,lf,e)) (he:gu e) (hQ:Q c ⟨dL tl,bK (pn.zip lf),1⟩):AW C (.rangeFunc g ps as0 bd) Q ⟨tm,σ,nx⟩:=by
 have hat:=zS hw he;generalize hR:(fun x l=>KG pn (rd x l))=rr at hw hat;have hst0:∀k l,gY rr es l0 k=some l->Hp pn l=true:=by
  intro k;cases k with
  |zero=>intro l hl;simp only [gY,Option.some.injEq]at hl;subst hl;exact hl0
  |succ k=>
   intro l hl;simp only [gY]at hl;split at hl
   ·rename_i l1 x h1 hx;split at hl;·rename_i l' e' hr;injection hl with hl;subst hl;rw [<-hR]at hr;exact(AY hr).2
    ·cases hl
   ·cases hl
 refine Gh ns hF hd it hg hidf hns hnd hins hlen hps pn gl tl (fun k=>(gY rr es l0 k).isSome=true) (fun k=>(gY rr es l0 k).getD []) (fun k c sx=>∃l x c' e',gY rr es l0 k=some l/\es[k]?=some x/\rr x l= .ext c' sx e'/\uK c'=c) (by simp [gY]) (List.all_eq_true.2 fun p hp=>by simpa using hpn p hp) (by simpa [gY]using (y7 hl0).1) (List.all_eq_true.2 fun p hp=>decide_eq_true (hid p hp)) htm hσ hinj (by simpa [gY]using hdis) (fun k o ho=> ?_) (fun k c sx hX o ho=> ?_) (fun C' _ k x hx hok=> ?_) (fun hok=> ?_) (fun k c sx hk hX=> ?_)
 ·cases hk:gY rr es l0 k with
  |none=>rw [hk]at ho;simp at ho
  |some l=>rw [hk]at ho;exact(y7 (hst0 k l hk)).2 o (by simpa using ho)
 ·obtain⟨l,x,c',e',hl,hx,hr,rfl⟩:=hX;rw [<-hR]at hr;exact(y7 (AX hr).2).2 o ho
 ·obtain⟨l,hl⟩:=Option.isSome_iff_exists.1 hok;rw [hl,Option.getD_some];obtain⟨hk,t,ht,htE⟩:=hat k l hl;have hlt:=(List.getElem?_eq_some_iff.1 hx).1;have hdr:es.drop k=x::es.drop (k+1):=by
   rw [List.drop_eq_getElem_cons hlt];congr 1
   exact(List.getElem?_eq_some_iff.1 hx).2
  rw [hdr]at ht;refine hrd _ _ _ k x l ?_ C';unfold Bg at ht;split at ht
  ·rename_i l' e' hr;split at ht
   ·simp only [Option.some.injEq,Prod.mk.injEq]at ht;obtain⟨_,_,rfl⟩:=ht;have hst:gY rr es l0 (k+1)=some l':=by simp only [gY,hl,hx,hr]
    rw [<-hR]at hr;rw [(AY hr).1];exact⟨htE.1,fun _ _=>⟨by simp only [hst,Option.isSome_some],by simp only [hst,Option.getD_some]⟩⟩
   ·cases ht
  ·rename_i c' l' e' hr;have hr':=hr;rw [<-hR]at hr';rw [(AX hr').1];split at ht;·simp only [Option.some.injEq,Prod.mk.injEq]at ht;obtain⟨_,_,rfl⟩:=ht;exact⟨htE,fun _ _=>⟨l,x,_,_,hl,hx,hr,rfl⟩⟩
   ·simp only [Option.some.injEq,Prod.mk.injEq]at ht;obtain⟨_,_,rfl⟩:=ht;exact⟨htE,fun _ _=>⟨l,x,_,_,hl,hx,hr,rfl⟩⟩
   ·cases ht
  ·cases ht
 ·obtain⟨l,hl⟩:=Option.isSome_iff_exists.1 hok;rw [hl,Option.getD_some];obtain⟨hk,t,ht,htE⟩:=hat _ l hl;rw [List.drop_length]at ht;simp only [Bg,Option.some.injEq,Prod.mk.injEq]at ht;obtain⟨rfl,rfl,_⟩:=ht;exact hQ
 ·obtain⟨l,x,c',e',hl,hx,hr,rfl⟩:=hX;obtain⟨hk',t,ht,htE⟩:=hat k l hl;have hdr:es.drop k=x::es.drop (k+1):=by
   rw [List.drop_eq_getElem_cons hk];congr 1
   exact(List.getElem?_eq_some_iff.1 hx).2
  rw [hdr]at ht;unfold Bg at ht;rw [hr]at ht;simp only at ht;split at ht;·simp only [Option.some.injEq,Prod.mk.injEq]at ht;obtain⟨rfl,rfl,_⟩:=ht;exact av hQ
  ·simp only [Option.some.injEq,Prod.mk.injEq]at ht;obtain⟨rfl,rfl,_⟩:=ht;exact cm hQ
  ·cases ht
abbrev mP:Type:=FuncId->List V->List Ob->Option (List (List V)×CT)
def nX(P:Program)(itr:mP):Prop:=∀f caps ins es e,itr f caps ins=some (es,e)->gu e->vH P f caps ins es
def EU(σ:Nat->Option Ob):List Nat->Option (List Ob)
 | []=>some []
 |k::l=>match σ k with
  |some o=>match Cm o with
   |true=>match EU σ l with
    |some r=>some (o::r)
    |none=>none
   |false=>none
  |none=>none
def B7:List Nat->List Nat
 | []=>[]
 |k::l=>match jt (B7 l) k with
  |true=>B7 l
  |false=>k::B7 l
structure Gx where
  caps:List V
  ns:List Nat
  ins:List Ob
  e:CT
def IU(caps caps':List V)(ns:List Nat)(ins:List Ob):Option Gx:=match rB ns && (V.cc ins.length caps' && Nat.ble ins.length 400)with
 |true=>some ⟨caps',ns,ins,.lf [(.vs caps,.vs (V.bg (nu ns) caps'))]⟩
 |false=>none
def IQ(σ:Nat->Option Ob)(caps:List V)(ns:List Nat):Option Gx:=match EU σ ns with
 |some ins=>IU caps (V.bg (fun i=>500+wY ns i) caps) ns ins
 |none=>none
def JP(σ:Nat->Option Ob)(caps:List V):Option Gx:=match V.aP caps with
 |true=>some ⟨caps,[],[],c0⟩
 |false=>IQ σ caps (B7 (V.oq caps))
theorem w6{σ:Nat->Option Ob}:∀ {ns:List Nat}{ins:List Ob},EU σ ns=some ins->ns.length=ins.length/\∀(i k:Nat) (o:Ob),ns[i]?=some k->ins[i]?=some o->σ k=some o/\Cm o=true
 | [],ins,h=>by simp only [EU,Option.some.injEq]at h;subst h;exact⟨rfl,fun i k o h=>by simp at h⟩
 |k::l,ins,h=>by
  simp only [EU]at h;split at h
  ·rename_i o ho;split at h
   ·rename_i hb;split at h
    ·rename_i r hr;injection h with h;subst h;obtain⟨h1,h2⟩:=w6 hr;refine⟨by simp [h1],fun i k' o' hk ho'=> ?_⟩;cases i with
     |zero=>simp at hk ho';subst hk ho';exact⟨ho,hb⟩
     |succ i=>exact h2 i k' o' (by simpa using hk) (by simpa using ho')
    ·cases h
   ·cases h
  ·cases h
theorem G1{σ:Nat->Option Ob}{caps:List V}{u:Gx}(h:JP σ caps=some u)(he:gu u.e):caps=V.bg (nu u.ns) u.caps/\V.cc u.ins.length u.caps=true/\u.ns.length=u.ins.length/\u.ns.Nodup/\(∀(i k:Nat) (o:Ob),u.ns[i]?=some k->u.ins[i]?=some o->σ k=some o/\Cm o=true)/\u.ins.length<=400:=by
 unfold JP at h;split at h;·rename_i hi;injection h with h;subst h;exact⟨(V.dn _ _ hi).symm,gK 0 caps hi,rfl,.nil,(fun i k o h=>by simp at h),Nat.zero_le _⟩
 ·generalize B7 _=ns at h;unfold IQ at h;split at h
  ·rename_i ins hins;obtain⟨h1,h2⟩:=w6 hins;unfold IU at h;split at h;·rename_i hb;injection h with h;subst h;simp only [Bool.and_eq_true]at hb;have hE:gk _:=he;have e1:=hE.hd;injection e1 with e1;exact⟨e1,hb.2.1,h1,oC hb.1,h2,Nat.le_of_ble_eq_true hb.2.2⟩
   ·cases h
  ·cases h
def CF(σ:Nat->Option Ob):List V->List Nat
 | []=>[]
 |v::l=>match v with
  | .ref i o=>match o with
   |0=>match σ i with
    |some (.box _ cs)=>match cs.all V.zc with
     |true=>i::CF σ l
     |false=>CF σ l
    |_=>CF σ l
   |_+1=>CF σ l
  |_=>CF σ l
def LP(mu:List Nat)(σ:Nat->Option Ob)(v:V):List Nat:=match v with
 | .fn (.func gf) _ caps=>match jt mu gf with
  |true=>CF σ caps
  |false=>[]
 |_=>[]
def M3:List (Nat×Option Ob)->List Nat
 | []=>[]
 | (k,o)::l=>match o with
  |some (.box _ cs)=>match V.aP cs && !V.cI [] cs with
   |true=>k::M3 l
   |false=>M3 l
  |_=>M3 l
def rJ(mu:List Nat)(s:CS)(g:Operand):CS:=Ck s (i5 (LP mu (eJ s.sl) (ev s.tr.get g)) (dQ (eJ s.sl) 1000 (ev s.tr.get g).ids [])++M3 s.sl)
def Lr(l:List Nat):List Nat->Bool
 | []=>true
 |k::ns=>match jt l k with
  |true=>false
  |false=>Lr l ns
def E8(tr:TR)(ns:List Nat):List Nat->List Nat
 | []=>[]
 |t::l=>match Lr (tr.get t).ids ns with
  |true=>t::E8 tr ns l
  |false=>E8 tr ns l
def Ej(v:V):List V:=match v with
 | .fn _ _ caps=>caps
 |_=>[]
def NC(v:V):List Nat:=match V.aP (Ej v)with
 |true=>[]
 |false=>B7 (V.oq (Ej v))
def I7(tr:TR)(ns:List Nat)(ks:List Nat):List Nat:=match ns with
 | []=>ks
 |k::l=>E8 tr (k::l) ks
def Jj(call:dG)(T:List TI)(M mu:List Nat)(N np:Nat)(ps:List Nat)(as0 bd:Code)(s:CS)(nl:List Nat)(ks ns:List Nat)(es:List (List V))(obs:List (Ob×Ob)):Option (Exit×CS×CT):=
 match (es.all fun x=>Nat.beq x.length ps.length) && (ps.all (fun p=>decide (p< N)) && (ps.all (fun p=>decide (p< 1000)) && (ks.all (fun p=>decide (p< 1000)) && (decide (500+np+nl.length<=1000) && (Hp (lJ np nl.length) (obs.map Prod.snd) && (decide ((((lJ np nl.length).zip (obs.map Prod.snd)).map fun p=>ax (cK (500+np) nl) s.nx p.1).Nodup) && (((lJ np nl.length).zip (obs.map Prod.snd)).all fun p=> !jt ns (ax (cK (500+np) nl) s.nx p.1))))))))with
  |true=>match Bg (fun x l=>KG (lJ np nl.length) (rK call T M mu N (lJ np nl.length) (eX (fT np nl) (lX s.tr ks)) ps as0 bd x l)) es (obs.map Prod.snd)with
   |some (c,lf,e)=>some (c,⟨C9 (eX (fT np nl) (lX s.tr ks)),oY (lJ np nl.length) lf,1⟩,.nd (.lf ((.vs (vals (lX s.tr ks)),.vs (V.bg (ax (cK (500+np) nl) s.nx) (vals (eX (fT np nl) (lX s.tr ks)))))::dc (ax (cK (500+np) nl) s.nx) obs)) e)
   |none=>none
  |false=>none
def Ji(call:dG)(itr:mP)(T:List TI)(M mu:List Nat)(N np:Nat)(g:Operand)(ps:List Nat)(as0 bd:Code)(s:CS)(ks nl:List Nat):Option (Exit×CS×CT):=
 match ev s.tr.get g with
  | .fn (.func gf) [] caps=>match JP (eJ s.sl) caps with
   |some u=>match itr gf u.caps u.ins with
    |some (es,e0)=>match sH (eJ s.sl) (fT np nl) (i9 np++nl)with
     |some obs=>match Jj call T M mu N np ps as0 bd s nl ks u.ns es obs with
      |some (c,s',e)=>some (c,s',.nd u.e (.nd e0 e))
      |none=>none
     |none=>none
    |none=>none
   |none=>none
  |_=>none
def Jh(call:dG)(itr:mP)(T:List TI)(M mu:List Nat)(N np:Nat)(g:Operand)(ps:List Nat)(as0 bd:Code)(s:CS)(ks:List Nat):Option (Exit×CS×CT):= Ji call itr T M mu N np g ps as0 bd s ks (i5 (i9 np) (dQ (eJ s.sl) 1000 (HB (lX s.tr ks)++i9 np) []))
def FQ(call:dG)(itr:mP)(T:List TI)(M mu:List Nat)(N np:Nat):Jz:=fun g ps as0 bd s=> Jh call itr T M mu N np g ps.toList as0 bd (rJ mu s g) (I7 (rJ mu s g).tr (NC (ev (rJ mu s g).tr.get g)) (TR.keys id (rJ mu s g).tr))
theorem FR{P:Program}{N:Nat}{C:Cx P N}{T:List TI}{M mu:List Nat}{call:dG}{itr:mP}{np:Nat}(hT:aE T P)(hcl:bQ P call)(hit:nX P itr)(hF:C.F=Fence.wide)(hd:C.dfs=jY):vN C (FQ call itr T M mu N np):=by
 intro g ps as0 bd s e s' t h he Q hQ;have hle:∀ {P:Program}{N:Nat}(C:Cx P N) a w,Gm C s.den a w->Gm C (rJ mu s g).den a w:=m8 s _;refine kg (s':=(rJ mu s g).den) hle ?_;clear hle;unfold FQ at h;generalize rJ mu s g=s0 at h ⊢;generalize I7 _ _ _=ks at h;unfold Jh at h;generalize i5 _ _=nl at h;unfold Ji at h;split at h
 ·rename_i gf caps hg;split at h
  ·rename_i u hu;split at h
   ·rename_i es e0 hes;split at h
    ·rename_i obs hobs;split at h
     ·rename_i c s1 e1 h2;simp only [Option.some.injEq,Prod.mk.injEq]at h;obtain⟨rfl,rfl,rfl⟩:=h;obtain⟨heu,he0,he⟩:=he;obtain⟨u1,u2,u3,u4,u5,u6⟩:=G1 hu heu;unfold Jj at h2;split at h2
      ·rename_i hb;split at h2
       ·rename_i c1 lf e2 hw;simp only [Option.some.injEq,Prod.mk.injEq]at h2;obtain⟨rfl,rfl,rfl⟩:=h2;simp only [Bool.and_eq_true,decide_eq_true_eq]at hb;obtain⟨hb1,hb2,hb3,hb4,hb5,hb6,hb7,hb8⟩:=hb;obtain⟨hE,hew⟩:=he;have hE':gk _:=hE;have e1:=hE'.hd;injection e1 with e1;have hB:=hE'.tl;obtain⟨hlen,hget⟩:=gN hobs;have hps:∀p∈ps.toList,p< 1000:=fun p hp=>of_decide_eq_true (List.all_eq_true.1 hb3 p hp);have htl:∀p∈eX (fT np nl) (lX s0.tr ks),p.1< 1000:=fun p hp=>by obtain⟨q,hq,hq2⟩:=rG hp;rw [<-hq2];exact of_decide_eq_true (List.all_eq_true.1 hb4 _ (vv hq))
        have hpn:∀p∈lJ np nl.length,500<=p/\p< 1000:=fun p hp=>by unfold lJ i9 at hp;simp only [List.mem_append,List.mem_map,List.mem_range]at hp;rcases hp with⟨a,ha,rfl⟩ | ⟨a,ha,rfl⟩ <;> omega
        have hs1:(CS.mk (C9 (eX (fT np nl) (lX s0.tr ks))) (oY (lJ np nl.length) lf) 1).den=⟨dL (eX (fT np nl) (lX s0.tr ks)),bK ((lJ np nl.length).zip lf),1⟩:=by unfold CS.den;rw [nN htl,kU]
        rw [hs1]at hQ;have H1:∀ok sl X k x l,Jw (lJ np nl.length) ok sl X k (rK call T M mu N (lJ np nl.length) (eX (fT np nl) (lX s0.tr ks)) ps.toList as0 bd x l)->∀C':Cx P N,AW C' as0 (cv (fun s'=>AW C' bd (fJ (lJ np nl.length) ok sl X k) s') (fun _ _=>False)) ⟨iO (dL (eX (fT np nl) (lX s0.tr ks))) ps.toList x,bK ((lJ np nl.length).zip l),1⟩:=fun ok sl X k x l hr C'=>CY hT hcl hpn htl hps hr C';have H2:∀p∈cK (500+np) nl,p.1< 1000:=fun p hp=>by have:=nB hp;omega
        have H3:=nH (g:=ax (cK (500+np) nl) s0.nx) (gi:=fT np nl) (tm:=s0.tr.get) (tl:=lX s0.tr ks) vw e1;generalize rK call T M mu N (lJ np nl.length) (eX (fT np nl) (lX s0.tr ks)) ps.toList as0 bd=rd at hw H1;generalize eX (fT np nl) (lX s0.tr ks)=tl at*;refine CV u.ns hF hd (lJ np nl.length) (cK (500+np) nl) (hit _ _ _ _ _ hes he0) (by rw [<-u1];exact hg) u2 u3 u4 u5 (fun x hx=> ?_) hb2 tl rd (obs.map Prod.snd) hb6 H1 hpn H2 H3 (kW fun p hp=> ?_) (decide_eq_true hb7) (fun p hp=>by have:=List.all_eq_true.1 hb8 p hp;simp only [Bool.not_eq_true']at this;exact qV this) hw hew hQ;·have:=List.all_eq_true.1 hb1 x hx;have:=Nat.eq_of_beq_eq_true this;simpa using this
        ·obtain⟨i,h1,h2⟩:=nS hp;simp only [List.getElem?_map,Option.map_eq_some_iff]at h2;obtain⟨q,hq,hq2⟩:=h2;obtain⟨k,hk,hσ,hno⟩:=hget i q hq;have hil:=(List.getElem?_eq_some_iff.1 hq).1;rw [hlen]at hil;have hpl:(i9 np).length=np:=by simp [i9]
         simp only [List.length_append,hpl]at hil;have hlk:ax (cK (500+np) nl) s0.nx p.1=k:=by
          unfold lJ at h1;unfold ax;by_cases hi:i< np
          ·rw [List.getElem?_append_left oM]at h1 hk;rw [hk]at h1;injection h1 with h1;have hkk:k=500+i:=by unfold i9 at hk;rw [List.getElem?_map,List.getElem?_range hi]at hk;simp at hk;omega
           rw [<-h1,vb oM];exact if_pos oM
          ·rw [List.getElem?_append_right oM]at h1 hk;rw [hpl]at h1 hk;rw [List.getElem?_map,List.getElem?_range oM]at h1;simp only [Option.map_some,Option.some.injEq]at h1;rw [<-h1,gE hk]
         refine⟨q.1,by rw [hlk];exact hσ,?_⟩;rw [<-hq2];exact kD hno (de hB hq)
       ·cases h2
      ·cases h2
     ·cases h
    ·cases h
   ·cases h
  ·cases h
 ·cases h
end
end Go.Ab

namespace Go.Ab
open Go.RowKit Go.Dw Go.Shelf
noncomputable section
def DQ:Nat->List V->TR->TR
 |_,[],tr=>tr
 |i,v::l,tr=>DQ (i+1) l (TR.put 10 tr i v)
theorem vZ:∀(l:List V) (i:Nat) (tr:TR) (t:Nat),i+l.length<=1000->(DQ i l tr).get t=if i<=t/\t< i+l.length then l.getD (t- i) .any else tr.get t
 | [],i,tr,t,_=>by simp only [DQ,List.length_nil];rw [if_neg oM]
 |v::l,i,tr,t,h=>by
  simp only [List.length_cons]at h;simp only [DQ,List.length_cons];rw [vZ l (i+1) _ t oM,TR.ga oM];by_cases h1:t=i;·subst h1;rw [if_neg oM,if_pos oM,ai,Nat.sub_self];rfl
  ·rw [aa _ _ h1];by_cases h2:i+1<=t/\t< i+1+l.length;·rw [if_pos h2,if_pos oM,show t- i=(t- (i+1))+1 by omega];rfl
   ·rw [if_neg h2,if_neg oM]
def ET:Nat->List Ob->List (Nat×Option Ob)
 |_,[]=>[]
 |k,o::l=>(k,some o)::ET (k+1) l
theorem w5:∀(l:List Ob) (k i:Nat),eJ (ET k l) i=if k<=i then l[i- k]? else none
 | [],k,i=>by simp [ET,eJ]
 |o::l,k,i=>by
  simp only [ET,eJ];split;·rename_i h;have h:=Nat.eq_of_beq_eq_true h;subst h;rw [if_pos (Nat.le_refl _),Nat.sub_self];rfl
  ·rename_i h;have h:=Nat.ne_of_beq_eq_false h;rw [w5 l (k+1) i];by_cases h2:k<=i;·rw [if_pos h2,if_pos oM,show i- k=(i- (k+1))+1 by omega];rfl
   ·rw [if_neg h2,if_neg oM]
def mJ(args:List V)(ins:List Ob):CS:=⟨DQ 0 args .e,ET 500 ins,1⟩
theorem jE{args:List V}{ins:List Ob}(h:args.length<=1000):(mJ args ins).den=⟨fun t=>args.getD t .any,dj ins,1⟩:=by
 unfold CS.den mJ;congr 1
 ·funext t;simp only;rw [vZ args 0 .e t oM,TR.i4];simp only [Nat.zero_le,true_and,Nat.zero_add,Nat.sub_zero];split;·rfl
  ·rename_i h1;rw [List.getD_eq_getElem?_getD,List.getElem?_eq_none oM];rfl
 ·funext i;exact w5 ins 500 i
def zB(s:CS):List ResultVar->List (Nat×V)
 | []=>[]
 | .tmp t::l=>(t,s.tr.get t)::zB s l
 | .cell a _::l=>(a,s.tr.get a)::zB s l
def xw(σ:Nat->Option Ob)(g:Nat->Nat):Nat->Nat->List (Option (Ob×Ob))
 |_,0=>[]
 |k,n+1=>(match σ k with
  |some o=>match xX g o with
   |some o'=>some (o,o')
   |none=>none
  |none=>none)::xw σ g (k+1) n
def rV:List (Option (Ob×Ob))->List (Option Ob)
 | []=>[]
 |o::l=>o.map Prod.snd::rV l
def Ao(g:Nat->Nat):List (Option (Ob×Ob))->List (CE×CE)
 | []=>[]
 |some p::l=>dc g [p]++Ao g l
 |none::l=>Ao g l
def F4(g:Nat->Nat):List Ob->List (CE×CE)
 | []=>[]
 |o::l=>tP g o++F4 g l
def Bb(g:Nat->Nat):List (Option Ob)->List (CE×CE)
 | []=>[]
 |some o::l=>tP g o++Bb g l
 |none::l=>Bb g l
def B3:Nat->List (Ob×Ob)->List (Nat×Ob)
 |_,[]=>[]
 |k,p::l=>(k,p.2)::B3 (k+1) l
theorem wz:∀ {l:List (Ob×Ob)}{k:Nat}{p:Nat×Ob},p∈B3 k l->∃(i:Nat) (q:Ob×Ob),l[i]?=some q/\p.1=k+i/\p.2=q.2
 | [],_,_,h=>by simp [B3]at h
 |q::l,k,p,h=>by
  rcases List.mem_cons.1 h with rfl |h;·exact⟨0,q,rfl,rfl,rfl⟩
  ·obtain⟨i,q',h1,h2,h3⟩:=wz h;exact⟨i+1,q',by simpa using h1,by omega,h3⟩
def IP(T:List TI)(fn:Func)(n:Nat)(s:CS)(nl:List Nat)(tl:List (Nat×V))(m:Nat)(all:List (Ob×Ob))(outs:List (Option (Ob×Ob))):Option CR:=
 match decide (((jO 0 (((all.take m).map Prod.snd).map some)++(jO 500 (rV outs)++B3 m (all.drop m))).map fun p=>ax (cK 0 nl) s.nx p.1).Nodup) && ((cK 0 nl).all (fun p=>decide (p.1< 500)) && (decide (((all.take m).map Prod.snd).length<=90) && Nat.ble nl.length 400))with
  |true=>match pW T ⟨dL (eX (Co nl) tl),bK (jO 0 (((all.take m).map Prod.snd).map some)++(jO 500 (rV outs)++B3 m (all.drop m))),1⟩ fn.results.toList with
   |some v=>some ⟨v,rV outs,(all.take m).map Prod.snd,.lf ((.vs (vals tl),.vs (V.bg (ax (cK 0 nl) s.nx) (vals (eX (Co nl) tl))))::
    (.vs [v],.vs [v.aW (aV ((all.take m).map Prod.snd).length n 1)])::(dc (ax (cK 0 nl) s.nx) all++(Ao (ax (cK 0 nl) s.nx) outs++(F4 (aV ((all.take m).map Prod.snd).length n 1) ((all.take m).map Prod.snd)++Bb (aV ((all.take m).map Prod.snd).length n 1) (rV outs)))))⟩
   |none=>none
  |false=>none
def IM(T:List TI)(fn:Func)(n:Nat)(s:CS)(nl:List Nat)(tl:List (Nat×V))(m:Nat):Option CR:=
 match sH (eJ s.sl) (Co nl) nl with
  |some all=>IP T fn n s nl tl m all (xw (eJ s.sl) (Co nl) 500 n)
  |none=>none
def IL(T:List TI)(fn:Func)(n:Nat)(s:CS)(nv:List Nat):Option CR:= IM T fn n s (nv++i5 (i9 n++nv) (dQ (eJ s.sl) 1000 (HB (zB s fn.results.toList)) [])) (zB s fn.results.toList) nv.length
def wA(T:List TI)(fn:Func)(n:Nat)(s:CS):Option CR:=match pW T s.den fn.results.toList with
 |some v0=>IL T fn n s (i5 (i9 n) (dQ (eJ s.sl) 1000 (v0.ids++i9 n) []))
 |none=>none
theorem rC{σ:Nat->Option Ob}{g:Nat->Nat}:∀ {n k i:Nat}{p:Ob×Ob},(xw σ g k n)[i]?=some (some p)->i< n/\σ (k+i)=some p.1/\xX g p.1=some p.2
 |0,_,_,_,h=>by simp [xw]at h
 |n+1,k,0,p,h=>by
  simp only [xw,List.getElem?_cons_zero,Option.some.injEq]at h;split at h
  ·rename_i o ho;split at h;·rename_i o' ho';simp only [Option.some.injEq]at h;subst h;exact⟨by omega,ho,ho'⟩
   ·cases h
  ·cases h
 |n+1,k,i+1,p,h=>by simp only [xw,List.getElem?_cons_succ]at h;obtain⟨h1,h2,h3⟩:=rC h;exact⟨by omega,by rw [<-h2];congr 1;omega,h3⟩
theorem xy{σ:Nat->Option Ob}{g:Nat->Nat}:∀ {n k:Nat},(xw σ g k n).length=n
 |0,_=>rfl
 |n+1,k=>by simp [xw,xy]
theorem rW:∀ {l:List (Option (Ob×Ob))}{i:Nat}{o:Option Ob},(rV l)[i]?=some o->∃q,l[i]?=some q/\o=q.map Prod.snd
 | [],_,_,h=>by simp [rV]at h
 |q::l,0,o,h=>by simp [rV]at h;exact⟨q,rfl,h.symm⟩
 |q::l,i+1,o,h=>by simpa using rW (l:=l) (by simpa [rV]using h)
theorem xI:∀ {l:List (Option (Ob×Ob))},(rV l).length=l.length
 | []=>rfl
 |_::l=>by simp [rV,xI]
theorem n9{g:Nat->Nat}:∀ {l:List (Option (Ob×Ob))},gk (Ao g l)->∀ {i:Nat}{p:Ob×Ob},l[i]?=some (some p)->gk (dc g [p])
 |some q::l,h,0,p,hp=>by simp at hp;subst hp;exact h.l
 |none::l,h,0,p,hp=>by simp at hp
 |some q::l,h,i+1,p,hp=>n9 h.r (by simpa using hp)
 |none::l,h,i+1,p,hp=>n9 (l:=l) h (by simpa using hp)
theorem tQ{g:Nat->Nat}:∀ {l:List Ob},gk (F4 g l)->∀ {i:Nat}{o:Ob},l[i]?=some o->gk (tP g o)
 |q::l,h,0,p,hp=>by simp at hp;subst hp;exact h.l
 |q::l,h,i+1,p,hp=>tQ h.r (by simpa using hp)
theorem oN{g:Nat->Nat}:∀ {l:List (Option Ob)},gk (Bb g l)->∀ {i:Nat}{o:Ob},l[i]?=some (some o)->gk (tP g o)
 |some q::l,h,0,p,hp=>by simp at hp;subst hp;exact h.l
 |none::l,h,0,p,hp=>by simp at hp
 |some q::l,h,i+1,p,hp=>oN h.r (by simpa using hp)
 |none::l,h,i+1,p,hp=>oN (l:=l) h (by simpa using hp)
theorem rH{s:CS}:∀ {rs:List ResultVar},∀p∈zB s rs,s.tr.get p.1=p.2
 | [],p,h=>by simp [zB]at h
 | .tmp t::l,p,h=>by
  rcases List.mem_cons.1 h with rfl |h;·rfl
  ·exact rH (rs:=l) p h
 | .cell a _::l,p,h=>by
  rcases List.mem_cons.1 h with rfl |h;·rfl
  ·exact rH (rs:=l) p h
theorem FB{g:Nat->Nat}{l:List (Option Ob)}(h:∀(i:Nat) (o:Ob),l[i]?=some (some o)->o.aW g=o):Jc g l=l:=by
 unfold Jc;refine List.ext_getElem? fun i=> ?_;rw [List.getElem?_map];cases hi:l[i]? with
 |none=>rfl
 |some o=>
  cases o with
  |none=>rfl
  |some o=>simp [h i o hi]
theorem Jk{l:List (Ob×Ob)}{m i:Nat}{q:Ob×Ob}(h:(l.take m)[i]?=some q):l[i]?=some q:=by
 rw [List.getElem?_take]at h;split at h;·exact h
 ·cases h
theorem Ar{T:List TI}{fn:Func}{n:Nat}{s:CS}{r:CR}{e:Exit}(hn:n<=400)(he:e= .normal\/e= .ret)(h:wA T fn n s=some r)(hE:gu r.e) :
    dV T fn n r.v r.outs r.obs e s.den/\r.outs.length=n/\r.obs.length<=90:=by
  unfold wA at h
  split at h
  · unfold IL at h
    generalize i5 (i9 n) _=nv at h
    generalize nv++i5 _ _=nl at h
    generalize nv.length=m at h
    unfold IM at h
    split at h
    · rename_i obs hobs
      unfold IP at h
      split at h
      · rename_i hb
        split at h
        · rename_i v hv
          injection h with h;subst h
          simp only [Bool.and_eq_true]at hb
          obtain⟨hb1,hb2,hb3,hb4⟩:=hb
          have hob:=of_decide_eq_true hb3
          obtain⟨hlen,hget⟩:=gN hobs
          have hnl:=Nat.le_of_ble_eq_true hb4
          have hE':gk _:=hE
          have e1:=hE'.hd
          injection e1 with e1
          have e2:=hE'.tl.hd
          injection e2 with e2
          have hB:=hE'.tl.tl.l
          have hO:=hE'.tl.tl.r.l
          have hS:=hE'.tl.tl.r.r.l
          have hSO:=hE'.tl.tl.r.r.r
          simp only [V.bg,List.cons.injEq,and_true]at e2
          refine⟨L8 (tm:=s.tr.get) (σ:=eJ s.sl) (nx:=s.nx) (cK 0 nl) (eX (Co nl) (zB s fn.results.toList)) (B3 m (obs.drop m)) he (nH rH e1) (kW fun p hp=> ?_) hb1 hb2 hb3 hv rfl e2.symm (FB fun i o hi=> ?_),by rw [xI,xy],hob⟩
          · rcases List.mem_append.1 hp with hp |hp
            · obtain⟨i,h1,h2⟩:=qo hp
              simp only [List.getElem?_map,Option.map_eq_some_iff]at h2
              obtain⟨o',⟨q,hq,rfl⟩,h4⟩:=h2
              injection h4 with h4
              have hq:=Jk hq
              obtain⟨k,hk,hσ,hno⟩:=hget i q hq
              have hg:ax (cK 0 nl) s.nx p.1=k:=by
                unfold ax
                rw [h1,gE hk]
              refine⟨q.1,by rw [hg];exact hσ,?_⟩
              rw [<-h4]
              exact kD hno (de hB hq)
            rcases List.mem_append.1 hp with hp |hp
            rotate_left
            · obtain⟨i,q,hq,h1,h2⟩:=wz hp
              rw [List.getElem?_drop]at hq
              obtain⟨k,hk,hσ,hno⟩:=hget (m+i) q hq
              have hg:ax (cK 0 nl) s.nx p.1=k:=by
                unfold ax
                rw [h1,show m+i=0+(m+i) by omega,gE hk]
              refine⟨q.1,by rw [hg];exact hσ,?_⟩
              rw [h2]
              exact kD hno (de hB hq)
            · obtain⟨i,h1,h2⟩:=qo hp
              obtain⟨q,hq,hq2⟩:=rW h2
              cases q with
              |none=>cases hq2
              |some q=>
                simp only [Option.map_some,Option.some.injEq]at hq2
                obtain⟨hin,hσ,hno⟩:=rC hq
                have hg:ax (cK 0 nl) s.nx p.1=500+i:=by
                  unfold ax
                  rw [h1,oF oM]
                  exact if_pos oM
                refine⟨q.1,by rw [hg];exact hσ,?_⟩
                rw [hq2]
                exact kD hno (n9 hO hq)
          · by_cases hlt:i< ((obs.take m).map Prod.snd).length
            · rw [List.getElem?_append_left (by simpa using hlt)]at hi
              simp only [List.getElem?_map,Option.map_eq_some_iff]at hi
              obtain⟨o',⟨q,hq,rfl⟩,h4⟩:=hi
              injection h4 with h4
              have hq0:=hq
              have hq:=Jk hq
              obtain⟨k,hk,hσ,hno⟩:=hget i q hq
              rw [<-h4]
              exact xg hno (tQ hS (i:=i) (by rw [List.getElem?_map,hq0];rfl))
            · rw [List.getElem?_append_right (by simpa using Nat.le_of_not_lt hlt)]at hi
              obtain⟨q,hq,hq2⟩:=rW hi
              cases q with
              |none=>cases hq2
              |some q=>
                simp only [Option.map_some,Option.some.injEq]at hq2
                obtain⟨hin,hσ,hno⟩:=rC hq
                rw [hq2]
                rw [hq2]at hi
                exact xg hno (oN hSO hi)
        · cases h
      · cases h
    · cases h
  · cases h
def Nr:Ob->V
 | .row _ sz n f=> .sl sz n f
 | .box _ cs=> .ptr cs
 | .mp _ _=> .any
def Hs:Nat->List Ob->List V->List V
 |_,[],args=>args
 |k,o::l,args=>Hs (k+1) l (V.nT k (Nr o) args)
def wX:List Ob->Bool
 | []=>true
 | .row _ _ n f::l=>match ((List.range n).map f).all V.aP with
  |true=>wX l
  |false=>false
 | .box _ cs::l=>match V.aP cs with
  |true=>wX l
  |false=>false
 | .mp _ _::_=>false
theorem qU:∀ {l:List Ob},wX l=true->∀ {i:Nat}{o:Ob},l[i]?=some o->match o with
  | .row _ _ n f=>∀i,i< n->V.aP (f i)=true
  | .box _ cs=>V.aP cs=true
  | .mp _ _=>False
 | [],_,i,o,hi=>by simp at hi
 | .row e sz n f::l,h,i,o,hi=>by
  simp only [wX]at h;split at h
  ·rename_i ha;cases i with
   |zero=>simp at hi;subst hi;intro j hj;have:=gG ha j;rwa [lA hj]at this
   |succ i=>exact qU h (by simpa using hi)
  ·cases h
 | .box t cs::l,h,i,o,hi=>by
  simp only [wX]at h;split at h
  ·rename_i ha;cases i with
   |zero=>simp at hi;subst hi;exact ha
   |succ i=>exact qU h (by simpa using hi)
  ·cases h
 | .mp _ _::l,h,i,o,hi=>by simp [wX]at h
theorem Lf{w:World}{L:Nat->Prop}{ρ:Nat->Option Value}{id:Nat}{v0:V}(h0:∀y,ρ id=some y->R w L ρ v0 y){us:List V}{xs:List Value}(h:RV w L ρ us xs):RV w L ρ (V.nT id v0 us) xs:=by
 refine⟨by rw [V.ff];exact h.1,fun i u x hu hx=> ?_⟩;rw [V.f7]at hu;cases hc:us[i]? with
 |none=>rw [hc]at hu;cases hu
 |some a=>rw [hc]at hu;simp only [Option.map_some,Option.some.injEq]at hu;subst hu;exact mQ h0 _ _ (h.2 i a x hc hx)
theorem Dx{w:World}{L:Nat->Prop}{ρ:Nat->Option Value}{xs:List Value}:∀(l:List Ob) (k:Nat) (us:List V),(∀i o,l[i]?=some o->∀y,ρ (k+i)=some y->R w L ρ (Nr o) y)->RV w L ρ us xs->RV w L ρ (Hs k l us) xs
 | [],_,_,_,h=>h
 |o::l,k,us,h0,h=>Dx l (k+1) _ (fun i o' hi y hy=>h0 (i+1) o' (by simpa using hi) y (by rw [<-hy];congr 1;omega)) (Lf (fun y hy=>h0 0 o rfl y hy) h)
theorem AM.keep{P:Program}{f:FuncId}{args:List V}{ins:List Ob}{v:V}(h:AM P f (Hs 500 ins args) [] v [] [])(hi:V.aP (Hs 500 ins args)=true)(hi2:wX ins=true)(hv:v.qO=true):AM P f args ins v (ins.map some) []:=by
 refine⟨h.1,fun W LB L w ρ vs hwl hWL hG hρ hvs=> ?_⟩;have hins:∀i o,ins[i]?=some o->dj ins (500+i)=some o:=fun i o hi=>by unfold dj;rw [if_pos oM,Nat.add_sub_cancel_left];exact hi
 obtain⟨Lx,hLx⟩:∃Lx:Nat->Prop,∀b,Lx b<->L b\/∃i x,i< ins.length/\ρ (500+i)=some x/\blk x=some b:=⟨_,fun _=>Iff.rfl⟩;have hobj:∀i o,ins[i]?=some o->∃y,ρ (500+i)=some y/\(∀k,blk y=some k->k< w.heap.size/\W k/\¬L k)/\R w Lx ρ (Nr o) y:=by
  intro i o hio;have hlt:=(List.getElem?_eq_some_iff.1 hio).1;have hr:=hG.ob _ _ (hins i o hio);have hc:=qU hi2 hio;have fin:∀u y,ρ (500+i)=some y->(∀k,blk y=some k->k< w.heap.size/\W k/\¬L k)->R w (fun b=>L b\/blk y=some b) ρ u y->∃y,ρ (500+i)=some y/\(∀k,blk y=some k->k< w.heap.size/\W k/\¬L k)/\R w Lx ρ u y:=fun u y h1 h2 h3=> ⟨y,h1,h2,h3.ext ⟨fun b hb=>⟨(hLx b).2 (hb.imp id fun h=>⟨i,y,hlt,h1,h⟩),rfl⟩,fun _ _ h=>h⟩⟩;cases o with
  |row e sz n row=>obtain⟨y,h1,h2,h3⟩:=hr.slice hc;exact fin _ y h1 h2 h3
  |box t cs=>obtain⟨y,h1,h2,h3⟩:=hr.ptr hc;exact fin _ y h1 h2 h3
  |mp _ _=>exact hc.elim
 have hLb:∀b,Lx b->b< w.heap.size:=fun b hb=>by
  rcases(hLx b).1 hb with hb | ⟨i,x,hil,hx,hbx⟩;·exact(hG.ll b hb).1
  ·obtain⟨y,h1,h2,_⟩:=hobj i _ (List.getElem?_eq_getElem hil);rw [h1]at hx;injection hx with hx;subst hx
   exact(h2 b hbx).1
 have ex:Ext w L ρ w Lx ρ:=⟨fun b hb=>⟨(hLx b).2 (.inl hb),rfl⟩,fun _ _ h=>h⟩;have hrv:RV w Lx ρ0 (Hs 500 ins args) vs.toList:=by refine RV.free (ρ:=ρ) ?_ hi;refine Dx ins 500 args (fun i o hio y hy=> ?_) ⟨hvs.1,fun i u x hu hx=>(hvs.2 i u x hu hx).ext ex⟩;obtain⟨y',h1,_,h3⟩:=hobj i o hio;rw [h1]at hy;injection hy with hy;subst hy;exact h3
 refine(h.2 (fun b=>w.heap.size<=b) (fun b=>Lx b\/w.heap.size<=b) Lx w ρ0 vs (fun b hb=> .inr hb) (fun b hb hL=>by have:=hLb b hL;omega) ⟨fun b hb=>⟨hLb b hb,.inl hb⟩,fun b hb=>⟨hb,.inr hb⟩,(fun id o ho=>by unfold dj at ho;split at ho <;> simp at ho),(fun i j x y k _ _ _ hx=>by cases hx),hG.nh ex⟩ (fun _ _=>rfl) hrv).mono ?_;rintro e w' ⟨x,rfl,ht,L',ρ',hG',hE',hx,hnn⟩;have hbel:Below w.heap.size w w':=ht.below (Nat.le_refl _) fun j hj hW=>by have hW':w.heap.size<=j:=hW;omega
 obtain⟨hG2,ex2⟩:=hG.quiet hbel (L':=L) (fun _ h=>h) (fun _ h=> .inl h);have eo:fR (ins.map some) []=dj ins:=by
  funext id;unfold fR dj;by_cases h5:500<=id;·rw [if_pos h5,if_pos h5,List.getElem?_map];cases ins[id- 500]? <;> rfl
  ·rw [if_neg h5,if_neg h5];simp
 refine⟨x,rfl,aI.fQ hbel fun k _ hk=>(hG.new k hk).1,L,ρ,?_,ex2,hx.qO hv,fun j _ hj=>hρ j hj⟩;rw [eo];exact hG2
theorem Br{T:List TI}{P:Program}(hT:aE T P)(hmx:P.follows .mixedOrders=true){f:FuncId}{fn:Func}{c:Code}{N:Nat}(hk:mO P f fn c N){args:List V}{ins:List Ob}{v:V}{obs:List Ob}(hargs:args.length<=N)(hn4:ins.length<=400)(ho9:obs.length<=90)
    (h:∀C:Cx P N,C.F=Fence.wide->C.dfs=jY->AW C c (dV T fn 0 v [] obs) ⟨fun t=>args.getD t .any,dj ins,1⟩):AM P f args ins v (ins.map fun _=>none) obs:=by
  refine⟨hk.call,fun W LB L w ρ vs hwl hWL hG hρn hvs=> ?_⟩
  obtain⟨C,hW,hLB,hd,hFw⟩:∃C:Cx P N,C.W=W/\C.LB=LB/\C.dfs=jY/\C.F=Fence.wide:=⟨⟨W,LB,hwl,jY,hmx,Fence.wide,.inl rfl⟩,rfl,rfl,rfl,rfl⟩
  have hvl:vs.size=args.length:=by have:=hvs.1;simpa using this.symm
  refine callsIn_wide.1 (callsIn_of_wp_marks (n:=0) hk.hf hk.hb trivial ?_ rfl)
  have hw:=h C hFw hd
  unfold AW at hw
  rw [hFw]at hw
  refine wpIn_mono (hw _ w ⟨L,ρ,⟨?_,fun id hid=> ?_,fun t=> ?_,?_,?_,fun id x hp=> ?_⟩⟩) ?_
  · rw [hW,hLB];exact hG
  · have hid':1*100000<=id:=hid
    exact hρn id (.inr oM)
  · by_cases ht:t< args.length
    · have h1:args[t]?=some args[t]:=List.getElem?_eq_getElem ht
      obtain⟨x,hx,hr⟩:=hvs.get h1
      have e1:args.getD t .any=args[t]:=by simp [List.getD_eq_getElem?_getD,h1]
      have e2:(vs++Array.replicate (fn.ntmps- vs.size) undef).getD t undef=x:=by
        rw [Array.getD_eq_getD_getElem?,Array.getElem?_append_left oM]
        have:vs[t]?=some x:=by simpa using hx
        rw [this];rfl
      show R w L ρ (args.getD t .any) _
      rw [e1,e2];exact hr
    · have e1:args.getD t .any= .any:=by simp [List.getD_eq_getElem?_getD,List.getElem?_eq_none (Nat.le_of_not_lt ht)]
      show R w L ρ (args.getD t .any) _
      rw [e1];exact .any _ _
  · rw [<-hk.hn]at hargs ⊢
    simp;omega
  · exact⟨[],by rw [hd];rfl,by simp,by simp⟩
  · rw [hd]at hp;cases hp
  · rintro e a' w' ⟨s',⟨he,s'',hle,hres,hob,hout,hcv,hco,hcu⟩,g',t⟩
    obtain⟨L',ρ',g''⟩:=hle C a' w' g'
    rw [hW]at t
    obtain⟨Ds,d1,d2,d3⟩:=g''.defers
    rw [hd,show jY.tl=[]from rfl,List.append_nil]at d1
    refine fq Ds he d1 d2 (fun D hD=>(d3 D hD).1) fun w2 ht2=> ?_
    obtain⟨g2,e2⟩:=g''.g.marks ht2 d3
    obtain⟨x,hx,hr⟩:=jc hT g2 (fun t=>(g''.tm t).ext e2) fn hres
    have hWD:∀D∈Ds,W D:=fun D hD=>by have:=(d3 D hD).2.1;rw [hW]at this;exact this
    have tt:aI W w w2:=t.trans (ht2.mono fun k _ hkD=>hWD k hkD)
    refine⟨x,hx,x,rfl,tt,?_⟩
    have hr2:R w2 L' (fun i=>ρ' (aV obs.length 0 s''.nx i)) v x:=j6 _ _ _ (by rw [hcv];exact hr)
    have hlt:∀i,i< obs.length->aV obs.length 0 s''.nx i=i:=fun i hi=>by unfold aV;rw [if_pos (.inl hi)]
    have hoF:∀id o,fR (ins.map fun _=>none) obs id=some o->s''.σ id=some o/\aV obs.length 0 s''.nx id=id/\o.aW (aV obs.length 0 s''.nx)=o:=by
      intro id o ho
      unfold fR at ho
      split at ho
      · rename_i h5
        rw [List.getElem?_map]at ho
        cases hq:ins[id- 500]? with
        |none=>rw [hq]at ho;cases ho
        |some q=>rw [hq]at ho;cases ho
      · exact⟨hob id o ho,hlt id (List.getElem?_eq_some_iff.1 ho).1,hco o (List.mem_of_getElem? ho)⟩
    have hfr:∀i,obs.length<=i->ρ' (aV obs.length 0 s''.nx i)=none:=fun i hi=>by
      have e3:aV obs.length 0 s''.nx i=s''.nx*100000+i:=if_neg oM
      rw [e3]
      exact g''.fr _ (by unfold bz;omega)
    obtain⟨ρ2,hρ2⟩:∃ρ2:Nat->Option Value,∀i,ρ2 i=if 500<=i/\i< 500+ins.length then ρ i else ρ' (aV obs.length 0 s''.nx i):=⟨_,fun _=>rfl⟩
    have hρlt:∀i,i< 500->ρ2 i=ρ' (aV obs.length 0 s''.nx i):=fun i hi=>by rw [hρ2,if_neg oM]
    have hE2:Ext w2 L' (fun i=>ρ' (aV obs.length 0 s''.nx i)) w2 (fun b=>L' b\/L b) ρ2:=⟨fun b hb=>⟨.inl hb,rfl⟩,fun id v hv=>by
      by_cases hi:id< obs.length
      · rw [hρlt id oM];exact hv
      · have hv:ρ' (aV obs.length 0 s''.nx id)=some v:=hv
        rw [hfr id oM]at hv;cases hv⟩
    refine⟨fun b=>L' b\/L b,ρ2,⟨fun b hb=> ?_,fun b hb=> ?_,fun id o ho=> ?_,fun i j x y k hij hi hj=> ?_,g2.K5 hE2.l⟩,⟨fun b hb=>⟨.inr hb,tt.block b (hG.ll b hb).1 fun hc=>hWL b hc hb⟩,fun id x hx=> ?_⟩,hr2.ext hE2,fun j hj hj5=> ?_⟩
    · rcases hb with hb |hb
      · have:=g2.ll b hb
        rw [hLB]at this
        exact⟨this.1,this.2⟩
      · exact⟨Nat.lt_of_lt_of_le (hG.ll b hb).1 tt.size,(hG.ll b hb).2⟩
    · exact hG.new b (Nat.le_trans tt.size hb)
    · obtain⟨q1,q2,q3⟩:=hoF id o ho
      have hr0:=g2.ob id o q1
      rw [hW]at hr0
      have hr:Real W w2 L' (fun i=>ρ' (aV obs.length 0 s''.nx i)) id o:=Real.aW (by rw [q2,q3];exact hr0)
      obtain⟨y,hy,hy2⟩:=hr.lt
      refine hr.keep hE2 fun x k hx hk=> ?_
      rw [hx]at hy;injection hy with hy;subst hy
      refine⟨rfl,?_⟩
      rintro(h1 |h1)
      · exact(hy2 k hk).2.2 h1
      · exact hWL k (hy2 k hk).2.1 h1
    · have key:∀i,fR (ins.map fun _=>none) obs i≠none->s''.σ i≠none/\aV obs.length 0 s''.nx i=i/\i< 500:=fun i hi=>by
        cases ho:fR (ins.map fun _=>none) obs i with
        |none=>exact absurd ho hi
        |some o=>
          obtain⟨q1,q2,_⟩:=hoF i o ho
          refine⟨by rw [q1];simp,q2,?_⟩
          unfold fR at ho
          split at ho
          · rw [List.getElem?_map]at ho
            cases hq:ins[i- 500]? with
            |none=>rw [hq]at ho;cases ho
            |some q=>rw [hq]at ho;cases ho
          · omega
      rw [hρlt i (key i hi).2.2,hρlt j (key j hj).2.2,(key i hi).2.1,(key j hj).2.1]
      exact g2.sep i j x y k hij (key i hi).1 (key j hj).1
    · by_cases h5:500<=id/\id< 500+ins.length
      · rw [hρ2,if_pos h5];exact hx
      · rw [hρn id oM]at hx;cases hx
    · rw [hρ2,if_neg oM]
      exact hfr j hj
abbrev ML:Type:=List (FuncId×List Nat)
def Gu:ML->FuncId->List Nat
 | [],_=>[]
 | (k,m)::l,f=>match Nat.beq f k with
  |true=>m
  |false=>Gu l f
def G9(mu:List Nat)(f:FuncId)(args:List V)(ins:List Ob):CS:=match jt mu f with
 |true=>mJ args ins
 |false=>Ck (mJ args ins) ((List.range ins.length).map (500+ ·))
theorem Au(mu:List Nat)(f:FuncId)(args:List V)(ins:List Ob):Le (mJ args ins).den (G9 mu f args ins).den:=by
 unfold G9;split;·exact Le.refl _
 ·exact m8 _ _
def Ig(call:dG)(itr:Bl)(itrI:mP)(T:List TI)(M mu:List Nat)(N np:Nat):Jz:=fun g ps as0 bd s=>match np with
 |0=>match FQ call itrI T M mu N 0 g ps as0 bd s with
  |some r=>some r
  |none=>Ih call itr T M mu N 0 g ps as0 bd s
 |k+1=>Ih call itr T M mu N (k+1) g ps as0 bd s
theorem A4{P:Program}{N:Nat}{C:Cx P N}{T:List TI}{M mu:List Nat}{call:dG}{itr:Bl}{itrI:mP}{np:Nat}(hT:aE T P)(hcl:bQ P call)(hit:sY P itr)(hitI:nX P itrI)(hF:C.F=Fence.wide)(hpin:∀id x,C.dfs.pin id=some x->500<=id/\id< 500+np)(htl:C.dfs.tl=[]):vN C (Ig call itr itrI T M mu N np):=by
 intro g ps as0 bd s e s' t h he Q hQ;unfold Ig at h;split at h
 ·split at h
  ·rename_i r hr;injection h with h;subst h;have hd:C.dfs=jY:=by
    have hp:C.dfs.pin=fun _=>none:=by
     funext id;cases hx:C.dfs.pin id with
     |none=>rfl
     |some x=>have:=hpin id x hx;omega
    generalize C.dfs=D at hp htl;cases D;simp only at hp htl;subst hp htl;rfl
   exact FR hT hcl hitI hF hd _ _ _ _ _ _ _ _ hr he Q hQ
  ·exact A5 hT hcl hit hF hpin _ _ _ _ _ _ _ _ h he Q hQ
 ·exact A5 hT hcl hit hF hpin _ _ _ _ _ _ _ _ h he Q hQ
def Ln(T:List TI)(fn:Func)(n:Nat)(r:Exit×CS×CT):Option CR:=match r.1 with
 | .ret=>oE (wA T fn n r.2.1) none fun q=>some ⟨q.v,q.outs,q.obs,uA r.2.2 q.e⟩
 | .normal=>oE (wA T fn n r.2.1) none fun q=>some ⟨q.v,q.outs,q.obs,uA r.2.2 q.e⟩
 |_=>none
def B4(call:dG)(itr:Bl)(itrI:mP)(T:List TI)(M mu:List Nat)(f:FuncId)(fn:Func)(c:Code)(args:List V)(ins:List Ob):Option CR:= oE (qM call (Ig call itr itrI T M mu fn.ntmps ins.length) T M mu fn.ntmps c (G9 mu f args ins)) none (Ln T fn ins.length)
def IK(o:Option CR)(ins:List Ob)(els:Option CR):Option CR:=match o with
 |some r=>match r.outs with
  | []=>match r.obs with
   | []=>match r.v.qO with
    |true=>some ⟨r.v,ins.map some,[],r.e⟩
    |false=>els
   |_::_=>els
  |_::_=>els
 |none=>none
def II(T:List TI)(fn:Func)(ins:List Ob)(r:Exit×CS×CT):Option CR:=match r.1 with
 | .ret=>oE (wA T fn 0 r.2.1) none fun q=>some ⟨q.v,ins.map fun _=>none,q.obs,uA r.2.2 q.e⟩
 | .normal=>oE (wA T fn 0 r.2.1) none fun q=>some ⟨q.v,ins.map fun _=>none,q.obs,uA r.2.2 q.e⟩
 |_=>none
def IJ(call:dG)(itr:Bl)(itrI:mP)(T:List TI)(M mu:List Nat)(f:FuncId)(fn:Func)(c:Code)(args:List V)(ins:List Ob):Option CR:= oE (qM call (Ig call itr itrI T M mu fn.ntmps 0) T M mu fn.ntmps c (G9 mu f args ins)) none (II T fn ins)
def D8(call:dG)(itr:Bl)(itrI:mP)(T:List TI)(M mu:List Nat)(f:FuncId)(fn:Func)(c:Code)(args:List V)(ins:List Ob):Option CR:=match ins with
 | []=>B4 call itr itrI T M mu f fn c args []
 |o::l=>match jt mu f with
  |true=>B4 call itr itrI T M mu f fn c args (o::l)
  |false=>match wX (o::l) && V.aP (Hs 500 (o::l) args)with
   |true=>IK (B4 call itr itrI T M mu f fn c (Hs 500 (o::l) args) []) (o::l) (B4 call itr itrI T M mu f fn c args (o::l))
   |false=>match B4 call itr itrI T M mu f fn c args (o::l)with
    |some r=>some r
    |none=>IJ call itr itrI T M mu f fn c args (o::l)
def Kh(caps:List V)(l:Nat):CS:=mJ (V.c (.func (.yield l) #[] #[])::caps) []
theorem EX{caps:List V}{l:Nat}(h:caps.length+1<=1000):(Kh caps l).den=⟨fun t=>((V.c (.func (.yield l) #[] #[]))::caps).getD t .any,fun _=>none,1⟩:=by
 have h1:=jE (args:=V.c (.func (.yield l) #[] #[])::caps) (ins:=[]) (by simpa using h);have e:dj []=fun _=>none:=by funext i;unfold dj;split <;> simp
 rw [e]at h1;exact h1
def EW(caps:List V)(ins:List Ob)(l:Nat):CS:=mJ (V.c (.func (.yield l) #[] #[])::caps) ins
theorem Cp{caps:List V}{ins:List Ob}{l:Nat}(h:caps.length+1<=1000):(EW caps ins l).den=⟨fun t=>((V.c (.func (.yield l) #[] #[]))::caps).getD t .any,dj ins,1⟩:= jE (args:=V.c (.func (.yield l) #[] #[])::caps) (ins:=ins) (by simpa using h)
def AA(call:dG)(T:List TI)(M mu:List Nat)(N:Nat)(c:Code)(caps:List V)(ins:List Ob)(l:Nat):Option (List (List V)×CT):=pT true call T M mu N l 20000 (.code c [] (EW caps ins l))
def Ec(P:Program)(T:List TI)(M:ML)(mu:List Nat)(call:dG):mP:=fun f caps ins=>match P.funcs[f]? with
 |some fn=>match fn.body with
  |some c=>match fn.name == "runtime.NumGoroutine" with
   |false=>match fn.results with
    | ⟨[]⟩=>match Nat.ble (caps.length+1) 1000 && (Nat.ble (caps.length+1) fn.ntmps && Nat.ble ins.length 400)with
     |true=>match AA call T (Gu M f) mu fn.ntmps c caps ins 0 with
      |some (es,_)=>some (es,.lf [(.ys fun l=>Cq (AA call T (Gu M f) mu fn.ntmps c caps ins l),.ys fun _=>some es),(.n fun l=>(I6 (AA call T (Gu M f) mu fn.ntmps c caps ins l)).KQ.map Prod.fst,.n fun l=>(I6 (AA call T (Gu M f) mu fn.ntmps c caps ins l)).KQ.map Prod.snd)])
      |none=>none
     |false=>none
    |_=>none
   |true=>none
  |none=>none
 |none=>none
def HE(gOk:Bool)(call:dG)(T:List TI)(M mu:List Nat)(N:Nat)(c:Code)(caps:List V)(l:Nat):Option (List (List V)×CT):=pT gOk call T M mu N l 20000 (.code c [] (Kh caps l))
def Eb(gOk:Bool)(P:Program)(T:List TI)(M:ML)(mu:List Nat)(call:dG):Bl:=fun f caps=>match P.funcs[f]? with
 |some fn=>match fn.body with
  |some c=>match fn.name == "runtime.NumGoroutine" with
   |false=>match fn.results with
    | ⟨[]⟩=>match Nat.ble (caps.length+1) 1000 && Nat.ble (caps.length+1) fn.ntmps with
     |true=>match HE gOk call T (Gu M f) mu fn.ntmps c caps 0 with
      |some (es,_)=>match gOk || es.all V.cQ with
       |true=>some (es,.lf [(.ys fun l=>Cq (HE gOk call T (Gu M f) mu fn.ntmps c caps l),.ys fun _=>some es),(.n fun l=>(I6 (HE gOk call T (Gu M f) mu fn.ntmps c caps l)).KQ.map Prod.fst,.n fun l=>(I6 (HE gOk call T (Gu M f) mu fn.ntmps c caps l)).KQ.map Prod.snd)])
       |false=>none
      |none=>none
     |false=>none
    |_=>none
   |true=>none
  |none=>none
 |none=>none
theorem GZ{P:Program}{T:List TI}(hT:aE T P)(hmx:P.follows .mixedOrders=true){M:ML}{mu:List Nat}{call:dG}(hcl:bQ P call):sY P (Eb false P T M mu call):=by
 intro f caps es e h hE;unfold Eb at h;split at h
 ·rename_i fn hf;split at h
  ·rename_i c hc;split at h
   ·rename_i hname;split at h
    ·rename_i hres;split at h
     ·rename_i hb;simp only [Bool.and_eq_true]at hb;split at h
      ·rename_i es0 e0 hr;split at h;·rename_i hfl;simp only [Option.some.injEq,Prod.mk.injEq]at h;obtain⟨rfl,rfl⟩:=h;have hE':gk _:=hE;have h1:=hE'.hd;have h2:=hE'.tl.hd;injection h1 with h1;injection h2 with h2;exact JG hT hmx hcl ⟨hf,hc,rfl,hname⟩ hres (Nat.le_of_ble_eq_true hb.2) (Nat.le_of_ble_eq_true hb.1) (Kh caps) (fun l=>EX (Nat.le_of_ble_eq_true hb.1)) (fun v hv=>List.all_eq_true.1 (by simpa using hfl) v hv) (fun l=>congrFun h1 l) fun l=>CT.vA (qL (congrFun h2 l))
       ·cases h
      ·cases h
     ·cases h
    ·cases h
   ·cases h
  ·cases h
 ·cases h
theorem Ed{P:Program}{T:List TI}(hT:aE T P)(hmx:P.follows .mixedOrders=true){M:ML}{mu:List Nat}{call:dG}(hcl:bQ P call):nX P (Ec P T M mu call):=by
 intro f caps ins es e h hE;unfold Ec at h;split at h
 ·rename_i fn hf;split at h
  ·rename_i c hc;split at h
   ·rename_i hname;split at h
    ·rename_i hres;split at h
     ·rename_i hb;simp only [Bool.and_eq_true]at hb;split at h;·rename_i es0 e0 hr;simp only [Option.some.injEq,Prod.mk.injEq]at h;obtain⟨rfl,rfl⟩:=h;have hE':gk _:=hE;have h1:=hE'.hd;have h2:=hE'.tl.hd;injection h1 with h1;injection h2 with h2;exact GB hT hmx hcl ⟨hf,hc,rfl,hname⟩ hres (Nat.le_of_ble_eq_true hb.2.1) (Nat.le_of_ble_eq_true hb.2.2) (EW caps ins) (fun l=>Cp (Nat.le_of_ble_eq_true hb.1)) (fun l=>congrFun h1 l) fun l=>CT.vA (qL (congrFun h2 l))
      ·cases h
     ·cases h
    ·cases h
   ·cases h
  ·cases h
 ·cases h
def NH(mu:List Nat)(call:dG):dG:=fun f args ins=>match args with
 | []=>match ins with
  | []=>match jt mu (1000000+f)with
   |true=>some ⟨.b true,[],[],c0⟩
   |false=>call f [] []
  |o::l=>call f [] (o::l)
 |a::l=>call f (a::l) ins
def Du(P:Program)(mu:List Nat):Prop:=∀f,jt mu (1000000+f)=true->AM P f [] [] (.b true) [] []
theorem Kx{P:Program}{mu:List Nat}{call:dG}(hK:Du P mu)(hcl:bQ P call):bQ P (NH mu call):=by
 refine⟨fun f args ins r hm h hE=> ?_,fun name t r n h hv=>hcl.2 name t r n h hv⟩;unfold NH at h;split at h
 ·split at h
  ·split at h;·rename_i hk;injection h with h;subst h;exact hK f hk
   ·exact hcl.1 _ _ _ _ hm h hE
  ·exact hcl.1 _ _ _ _ hm h hE
 ·exact hcl.1 _ _ _ _ hm h hE
theorem FE{P:Program}:∀ {mu:List Nat},(mu.all fun f=>Nat.ble f 999999)=true->Du P mu
 | [],_,f,h=>by cases h
 |k::l,hm,f,h=>by
  simp only [List.all_cons,Bool.and_eq_true]at hm;simp only [jt]at h;split at h;·rename_i hb;have:=Nat.eq_of_beq_eq_true hb;have:=Nat.le_of_ble_eq_true hm.1;omega
  ·exact FE hm.2 f h
def M1:List (FuncId×List V×V)->FuncId->Option (List V×V)
 | [],_=>none
 |k::l,f=>match Nat.beq f k.1 with
  |true=>some k.2
  |false=>M1 l f
def CH(K:List (FuncId×List V×V))(call:dG):dG:=fun f args ins=>match Nat.beq f Fy with
 |true=>call Fy args ins
 |false=>match ins with
  | []=>match M1 K f with
   |some k=>some ⟨k.2,[],[],.lf [(.vs args,.vs k.1)]⟩
   |none=>call f args []
  |o::l=>call f args (o::l)
def j5(P:Program)(K:List (FuncId×List V×V)):Prop:=∀f k,M1 K f=some k->AM P f k.1 [] k.2 [] []
theorem qi{P:Program}{K:List (FuncId×List V×V)}{call:dG}(hK:j5 P K)(hcl:bQ P call):bQ P (CH K call):=by
 refine⟨fun f args ins r hm h hE=> ?_,fun name t r n h hv=>hcl.2 name t r n h hv⟩;unfold CH at h;rw [hm]at h;simp only at h;split at h
 ·split at h;·rename_i k hk;injection h with h;subst h;have hE':gk _:=hE;have e1:=hE'.hd;injection e1 with e1;rw [e1];exact hK f k hk
  ·exact hcl.1 _ _ _ _ hm h hE
 ·exact hcl.1 _ _ _ _ hm h hE
def JO(P:Program)(args:List V):Option CR:=match args with
 | [.fn (.method name) [] [],.c (.int .i64 n)]=>match Fl P name n.toNat with
  |some f=>some ⟨.i (f:Int),[],[],c0⟩
  |none=>none
 |_=>none
def jj(O:dG->dG)(P:Program)(T:List TI)(M:ML)(mu:List Nat):Nat->dG
 |0=>fun _ _ _=>none
 |d+1=>fun f args ins=>match Nat.beq f Fy with
  |true=>JO P args
  |false=>match P.funcs[f]? with
   |some fn=>match fn.body with
    |some c=>match fn.name == "runtime.NumGoroutine" with
     |false=>match Nat.ble args.length 1000 && (Nat.ble args.length fn.ntmps && Nat.ble ins.length 400)with
      |true=>D8 (O (jj O P T M mu d)) (Eb false P T M mu (O (jj O P T M mu d))) (Ec P T M mu (O (jj O P T M mu d))) T (Gu M f) mu f fn c args ins
      |false=>none
     |true=>none
    |none=>none
   |none=>none
def tq(P:Program)(T:List TI)(M:ML)(mu:List Nat):Nat->dG:=jj (NH mu) P T M mu
theorem jk{P:Program}{T:List TI}{call:dG}{itr:Bl}{itrI:mP}(hT:aE T P)(hmx:P.follows .mixedOrders=true)(hcl:bQ P call)(hit:sY P itr)(hitI:nX P itrI){M mu:List Nat}{f:FuncId}{fn:Func}{c:Code}{args:List V}{ins:List Ob}{r:CR}(hk:mO P f fn c fn.ntmps)(ha:args.length<=1000)(ha2:args.length<=fn.ntmps)(hi:ins.length<=400) (h:B4 call itr itrI T M mu f fn c args ins=some r) (hE:gu r.e):AM P f args ins r.v r.outs r.obs:=by
 obtain⟨q,hq,h⟩:=cx h;obtain⟨e,s,t⟩:=q;have key:(e= .normal\/e= .ret)->oE (wA T fn ins.length s) none (fun q=>some ⟨q.v,q.outs,q.obs,uA t q.e⟩)=some r->AM P f args ins r.v r.outs r.obs:=by intro he h;obtain⟨r',hr',h⟩:=cx h;injection h with h;subst h;have hE:=jl hE;obtain⟨q1,q2,q3⟩:=Ar hi he hr' hE.2;refine s6 hT hmx hk ha2 q2 hi q3 fun C hF hpin htl=> ?_;have:=iZ (C:=C) (mu:=mu) hT hcl (A4 hT hcl hit hitI hF hpin htl) c _ _ _ _ hq hE.1 (dV T fn ins.length r'.v r'.outs r'.obs) q1;rw [<-jE ha];exact kg (Au mu f args ins) this
 unfold Ln at h;split at h;·rename_i h0;exact key (.inr h0) h
 ·rename_i h0;exact key (.inl h0) h
 ·cases h
theorem Ea{P:Program}{T:List TI}{call:dG}{itr:Bl}{itrI:mP}(hT:aE T P)(hmx:P.follows .mixedOrders=true)(hcl:bQ P call)(hit:sY P itr)(hitI:nX P itrI){M mu:List Nat}{f:FuncId}{fn:Func}{c:Code}{args:List V}{ins:List Ob}{r:CR}(hk:mO P f fn c fn.ntmps)(ha:args.length<=1000)(ha2:args.length<=fn.ntmps)(hi:ins.length<=400) (h:IJ call itr itrI T M mu f fn c args ins=some r) (hE:gu r.e):AM P f args ins r.v r.outs r.obs:=by
 obtain⟨q,hq,h⟩:=cx h;obtain⟨e,s,t⟩:=q;have key:(e= .normal\/e= .ret)->oE (wA T fn 0 s) none (fun q=>some ⟨q.v,ins.map fun _=>none,q.obs,uA t q.e⟩)=some r->AM P f args ins r.v r.outs r.obs:=by intro he h;obtain⟨r',hr',h⟩:=cx h;injection h with h;subst h;have hE:=jl hE;obtain⟨q1,q2,q3⟩:=Ar (Nat.zero_le _) he hr' hE.2;have e0:r'.outs=[]:=List.eq_nil_of_length_eq_zero q2;rw [e0]at q1;refine Br hT hmx hk ha2 hi q3 fun C hF hd=> ?_;have:=iZ (C:=C) (mu:=mu) hT hcl (A4 hT hcl hit hitI hF (fun id x hx=>by rw [hd]at hx;cases hx) (by rw [hd];rfl)) c _ _ _ _ hq hE.1 (dV T fn 0 r'.v [] r'.obs) q1;rw [<-jE ha];exact kg (Au mu f args ins) this
 unfold II at h;split at h;·rename_i h0;exact key (.inr h0) h
 ·rename_i h0;exact key (.inl h0) h
 ·cases h
theorem uN:∀(l:List Ob) (k:Nat) (args:List V),(Hs k l args).length=args.length
 | [],_,_=>rfl
 |o::l,k,args=>by rw [Hs,uN l,V.ff]
theorem D9{P:Program}{T:List TI}{call:dG}{itr:Bl}{itrI:mP}(hT:aE T P)(hmx:P.follows .mixedOrders=true)(hcl:bQ P call)(hit:sY P itr)(hitI:nX P itrI){M mu:List Nat}{f:FuncId}{fn:Func}{c:Code}{args:List V}{ins:List Ob}{r:CR}(hk:mO P f fn c fn.ntmps)(ha:args.length<=1000)(ha2:args.length<=fn.ntmps)(hi:ins.length<=400) (h:D8 call itr itrI T M mu f fn c args ins=some r) (hE:gu r.e):AM P f args ins r.v r.outs r.obs:=by
 unfold D8 at h;split at h;·exact jk hT hmx hcl hit hitI hk ha ha2 hi h hE
 ·split at h;·exact jk hT hmx hcl hit hitI hk ha ha2 hi h hE
  ·split at h
   ·rename_i hb;simp only [Bool.and_eq_true]at hb;unfold IK at h;split at h
    ·rename_i q hq;split at h
     ·rename_i ho;split at h
      ·rename_i hob;split at h;·rename_i hf;injection h with h;subst h;have:=jk hT hmx hcl hit hitI hk (by rw [uN];exact ha) (by rw [uN];exact ha2) (Nat.zero_le _) hq hE;rw [ho,hob]at this;exact this.keep hb.2 hb.1 hf
       ·exact jk hT hmx hcl hit hitI hk ha ha2 hi h hE
      ·exact jk hT hmx hcl hit hitI hk ha ha2 hi h hE
     ·exact jk hT hmx hcl hit hitI hk ha ha2 hi h hE
    ·cases h
   ·split at h;·rename_i r' hr';injection h with h;subst h;exact jk hT hmx hcl hit hitI hk ha ha2 hi hr' hE
    ·exact Ea hT hmx hcl hit hitI hk ha ha2 hi h hE
theorem kZ{O:dG->dG}{P:Program}{T:List TI}(hT:aE T P)(hmx:P.follows .mixedOrders=true){M:ML}{mu:List Nat}(hO:∀c,bQ P c->bQ P (O c)):∀d,bQ P (jj O P T M mu d)
  |0=>⟨fun f args ins r _ h _=>by(cases h),fun name t r n h _=>by(cases h)⟩
  |d+1=>by
    refine⟨fun f args ins r hm h hE=> ?_,fun name t r n h hv=> ?_⟩
    · unfold jj at h
      rw [hm]at h
      simp only at h
      split at h
      · rename_i fn hf
        split at h
        · rename_i c hc
          split at h
          · rename_i hname
            split at h
            · rename_i hb
              simp only [Bool.and_eq_true]at hb
              exact D9 hT hmx (hO _ (kZ hT hmx hO d)) (GZ hT hmx (hO _ (kZ hT hmx hO d))) (Ed hT hmx (hO _ (kZ hT hmx hO d))) ⟨hf,hc,rfl,hname⟩ (Nat.le_of_ble_eq_true hb.1) (Nat.le_of_ble_eq_true hb.2.1) (Nat.le_of_ble_eq_true hb.2.2) h hE
            · cases h
          · cases h
        · cases h
      · cases h
    · have h:JO P [.fn (.method name) [] [],.i (t:Int)]=some r:=h
      unfold JO at h
      simp only at h
      split at h
      · rename_i f hf
        injection h with h;subst h
        simp only [V.c.injEq,Value.int.injEq,true_and]at hv
        have:=Fm hf
        simp only [Int.toNat_natCast]at this
        rw [<-hv]
        simpa using this
      · cases h
def cV(o:Option CR):Option (V×List (Option Ob)×List Ob):=match o with
 |some r=>some (r.v,r.outs,r.obs)
 |none=>none
def cT(o:Option CR):CT:=match o with
 |some r=>r.e
 |none=>c0
theorem D4{O:dG->dG}{P:Program}{T:List TI}(hT:aE T P)(hmx:P.follows .mixedOrders=true)(M:ML)(mu:List Nat)(hO:∀c,bQ P c->bQ P (O c)){f:FuncId}{args:List V}{ins:List Ob}{v:V}{outs:List (Option Ob)}{obs:List Ob}(h:cV (jj O P T M mu 40 f args ins)=some (v,outs,obs))(hE:(cT (jj O P T M mu 40 f args ins)).l=(cT (jj O P T M mu 40 f args ins)).r)(hf9:Nat.beq f Fy=false:=by rfl):AM P f args ins v outs obs:=by
 unfold cV at h;unfold cT at hE;split at h
 ·rename_i r hr;simp only [hr]at hE;injection h with h;injection h with h1 h2;injection h2 with h2 h3;subst h1 h2 h3;cases hm:Nat.beq f Fy with
  |false=>exact(kZ hT hmx hO 40).1 f args ins r hm hr (y5 hE)
  |true=>rw [hm]at hf9;cases hf9
 ·cases h
theorem Ni{P:Program}{T:List TI}(hT:aE T P)(hmx:P.follows .mixedOrders=true)(M:ML)(mu:List Nat)(hK:Du P mu){f:FuncId}{args:List V}{ins:List Ob}{v:V}{outs:List (Option Ob)}{obs:List Ob}(h:cV (tq P T M mu 40 f args ins)=some (v,outs,obs))(hE:(cT (tq P T M mu 40 f args ins)).l=(cT (tq P T M mu 40 f args ins)).r)(hf9:Nat.beq f Fy=false:=by rfl):AM P f args ins v outs obs:=
 D4 hT hmx M mu (fun _=>Kx hK) h hE hf9
theorem BZ{P:Program}{T:List TI}(hT:aE T P)(hmx:P.follows .mixedOrders=true)(M:ML)(mu:List Nat){f:FuncId}{args:List V}{ins:List Ob}{v:V}{outs:List (Option Ob)}{obs:List Ob}(h:cV (tq P T M mu 40 f args ins)=some (v,outs,obs))(hE:(cT (tq P T M mu 40 f args ins)).l=(cT (tq P T M mu 40 f args ins)).r)(hm:(mu.all fun f=>Nat.ble f 999999)=true:=by decide)(hf9:Nat.beq f Fy=false:=by rfl):AM P f args ins v outs obs:=Ni hT hmx M mu (FE hm) h hE hf9
theorem AM.ac{P:Program}{f:FuncId}{args:List V}{v:V}{obs:List Ob}(h:AM P f args [] v [] obs)(ho:obs.length<=400):AC P f args v obs:=by
 refine⟨h.1,fun L w vs hL hgl hv=> ?_⟩;refine(h.2 (fun b=>w.heap.size<=b) (fun b=>L b\/w.heap.size<=b) L w ρ0 vs (fun b hb=> .inr hb) (fun b hb hl=>by have:=hL b hl;omega) ⟨fun b hb=>⟨hL b hb,.inl hb⟩,fun b hb=>⟨hb,.inr hb⟩,(fun id o ho=>by unfold dj at ho;split at ho <;> simp at ho),(fun i j x y k _ _ _ hx=>by cases hx),hgl⟩ (fun _ _=>rfl) hv).mono ?_;rintro e w' ⟨x,rfl,ht,L',ρ',hG',hE',hx,hnn⟩;have eo:fR [] obs=mE obs:=by
  funext id;unfold fR mE;by_cases h5:500<=id;·rw [if_pos h5,show obs[id]?=none from List.getElem?_eq_none oM];simp
  ·rw [if_neg h5]
 rw [eo]at hG';exact⟨x,rfl,ht.below (Nat.le_refl _) fun j hj hW=>by have hW':w.heap.size<=j:=hW;omega,L',ρ',hG',fun b hb=>(hE'.l b hb).1,hx,fun j hj=>hnn j hj (by simp only [List.length_nil,Nat.add_zero];omega)⟩
theorem AC.am{P:Program}{f:FuncId}{args:List V}{v:V}(h:AC P f args v [])(ha:V.aP args=true)(hv:v.bM=true):AM P f args [] v [] []:=by
 refine⟨h.1,fun W LB L w ρ vs hwl hWL hG hρ hvs=> ?_⟩;refine(h.2 L w vs (fun b hb=>(hG.ll b hb).1) hG.gl (hvs.free ha)).mono ?_;rintro e w' ⟨x,rfl,hbel,L',ρ',hG',hL',hx,_⟩;obtain⟨Lx,hLx⟩:∃Lx:Nat->Prop,∀b,Lx b<->L b\/(L' b/\w.heap.size<=b):=⟨_,fun _=>Iff.rfl⟩;obtain⟨hG2,ex2⟩:=hG.quiet hbel (L':=Lx) (fun b hb=>(hLx b).2 (.inl hb)) (fun b hb=>by
  rcases(hLx b).1 hb with hb |hb;·exact .inl hb
  ·exact .inr ⟨hb.2,(hG'.ll b hb.1).1⟩)
 have eo:fR [] []=dj []:=by funext id;unfold fR dj;split <;> simp
 refine⟨x,rfl,aI.fQ hbel fun k _ hk=>(hG.new k hk).1,Lx,ρ,?_,ex2,?_,fun j _ hj=>hρ j hj⟩;·rw [eo];exact hG2
 ·have:=hx.free hv ρ;refine this.mono (fun b hb=>⟨(hLx b).2 ?_,rfl⟩) fun _ _ h=>h;rcases(hG'.ll b hb).2 with h |h;·exact .inl h
  ·exact .inr ⟨hb,h⟩
theorem nE{P:Program}:j5 P []:=fun f k h=>by cases h
theorem cC{P:Program}{K:List (FuncId×List V×V)}{f0:FuncId}{a0:List V}{v0:V}(h0:AC P f0 a0 v0 [])(ha:V.aP a0=true)(hv:v0.bM=true)(h:j5 P K):j5 P ((f0,a0,v0)::K):=by
 intro f k hk;simp only [M1]at hk;split at hk;·rename_i hb;injection hk with hk;subst hk;have:=Nat.eq_of_beq_eq_true hb;rw [this];exact h0.am ha hv
 ·exact h f k hk
end
end Go.Ab

namespace Go.Ab
open Go.RowKit Go.Dw
def Cn(p:Nat->Bool)(n:Nat):Int:=match (List.range n).find? p with |some i=>(i:Int) |none=> -1
theorem kz{p:Nat->Bool}{n:Nat}:(Cn p n= -1/\∀j,j< n->p j=false)\/∃i,i< n/\Cn p n=i/\p i=true/\∀j,j< i->p j=false:=by
 cases h:(List.range n).find? p with
 |none=>exact .inl ⟨by rw [Cn,h],by simpa using h⟩
 |some i=>obtain⟨h1,h2,h3⟩:=List.find?_range_eq_some.1 h;exact .inr ⟨i,by simpa using h2,by rw [Cn,h],h1,by simpa using h3⟩
def bL:Nat->Nat->Nat
 |_,0=>1
 |0,_+1=>0
 |n+1,k+1=>bL n k+bL n (k+1)
theorem iY(n:Nat):bL n 0=1:=by cases n <;> rfl
theorem iX(n k:Nat):bL (n+1) (k+1)=bL n k+bL n (k+1):=rfl
theorem oa:∀(n k:Nat),n< k->bL n k=0
 |0,k+1,_=>rfl
 |n+1,k+1,h=>by rw [iX,oa n k oM,oa n (k+1) oM]
theorem qG:∀n:Nat,bL n n=1
 |0=>rfl
 |n+1=>by rw [iX,qG n,oa n (n+1) oM]
theorem uC:∀(n k:Nat),bL n k<=2 ^ n
 |0,0=>by decide
 |n+1,0=>by rw [iY];exact Nat.one_le_two_pow
 |0,k+1=>Nat.zero_le _
 |n+1,k+1=>by rw [iX,Nat.pow_succ];have:=uC n k;have:=uC n (k+1);omega
theorem uB{n:Nat}(h:n<=50)(k:Nat):bL n k<=1125899906842624:=Nat.le_trans (uC n k) (Nat.le_trans (Nat.pow_le_pow_right (by decide) h) (by decide))
def Dh(n s k:Nat):Nat:=if k<=s then bL n (s- k)else 0
def bG(b r s:Nat):Nat->Nat
 |0=>0
 |m+1=>bG b r s m+bL b m*Dh r s m
theorem sn(r s:Nat):∀m:Nat,bG 0 r s (m+1)=bL r s
 |0=>by simp [bG,iY,Dh]
 |m+1=>by rw [bG,sn r s m];simp [bL]
theorem xV(b r s:Nat):∀m:Nat,bG (b+1) r (s+1) (m+1)=bG b r (s+1) (m+1)+bG b r s m
 |0=>by simp [bG,iY]
 |m+1=>by
  rw [bG,xV b r s m,bG.eq_2 b r (s+1) (m+1),bG.eq_2 b r s m,iX,Nat.add_mul];have:Dh r (s+1) (m+1)=Dh r s m:=by simp [Dh]
  rw [this];omega
theorem xU(b r:Nat):∀m:Nat,bG b r 0 (m+1)=1
 |0=>by simp [bG,iY,Dh]
 |m+1=>by rw [bG,xU b r m];simp [Dh]
theorem sk:∀(b r s m:Nat),bG b r s m<=bL (b+r) s
 |b,r,s,0=>by simp [bG]
 |0,r,s,m+1=>by rw [sn,Nat.zero_add];exact Nat.le_refl _
 |b+1,r,0,m+1=>by rw [xU,iY];exact Nat.le_refl _
 |b+1,r,s+1,m+1=>by rw [xV,show b+1+r=(b+r)+1 by omega,iX];have:=sk b r (s+1) (m+1);have:=sk b r s m;omega
theorem Bh{b n:Nat}(h:b<=n):∀m:Nat,m<=b->bG b (n- b) n m=0
 |0,_=>rfl
 |m+1,hm=>by rw [bG,Bh h m oM,Dh,if_pos oM,oa (n- b) (n- m) oM];rfl
def ir(n b:Nat)(re ac:Int)(s m:Nat):Bool:= decide (1000*((bL n s:Int)- bG 0 n s (m+1))<=re*bL n s) && decide (1000*(bG b (n- b) s (m+1):Int)<=ac*bL n s)
def rU(n b:Nat)(re ac:Int)(s:Nat):Int:=Cn (ir n b re ac s) (n+1)
def Ij(n b:Nat)(re ac:Int):Int:=Cn (fun s=>decide (0<=rU n b re ac s)) (n+1)
theorem KM{n b:Nat}{re ac:Int}(hb:1<=b)(hn:b<=n)(hr:0<=re)(ha:0<=ac):ir n b re ac n (b- 1)=true:=by
 have e:b- 1+1=b:=by omega
 rw [ir,e,Bh hn b (Nat.le_refl _),qG];obtain⟨c,rfl⟩:∃c,b=c+1:=⟨b- 1,by omega⟩;rw [sn,qG];simp only [Bool.and_eq_true,decide_eq_true_eq];omega
theorem C5{n b:Nat}{re ac:Int}{s:Nat}(h:rU n b re ac s= -1)(j:Nat)(hj:j<=n):ir n b re ac s j=false:=by
 rcases kz (p:=ir n b re ac s) (n:=n+1)with⟨_,h2⟩ | ⟨m,_,e2,_,_⟩;·exact h2 j oM
 ·have e3:rU n b re ac s=m:=e2;rw [e3]at h;omega
theorem KL{n b:Nat}{re ac:Int}(hb:1<=b)(hn:b<=n)(hr:0<=re)(ha:0<=ac) : ∃s m:Nat,Ij n b re ac=s/\rU n b re ac s=m/\s<=n/\m<=n/\ir n b re ac s m=true/\(∀k,k< s->rU n b re ac k= -1)/\∀j,j< m->ir n b re ac s j=false:=by
 rcases kz (p:=fun s=>decide (0<=rU n b re ac s)) (n:=n+1)with⟨_,h⟩ | ⟨s,hs,e,h,h0⟩
 ·exfalso;have h1:=h n oM;rcases kz (p:=ir n b re ac n) (n:=n+1)with⟨e2,h2⟩ | ⟨m,hm,e2,h2,_⟩;·have:=h2 (b- 1) oM;rw [KM hb hn hr ha]at this;cases this
  ·have e3:rU n b re ac n=m:=e2;rw [e3]at h1;simp at h1
 ·rcases kz (p:=ir n b re ac s) (n:=n+1)with⟨e2,h2⟩ | ⟨m,hm,e2,h2,h3⟩;·have e3:rU n b re ac s= -1:=e2;rw [e3]at h;cases h
  ·refine⟨s,m,e,e2,by omega,by omega,h2,fun k hk=> ?_,h3⟩;have h4:=h0 k hk;rcases kz (p:=ir n b re ac k) (n:=n+1)with⟨e4,_⟩ | ⟨j,_,e4,_,_⟩;·exact e4
   ·have e5:rU n b re ac k=j:=e4;rw [e5]at h4;simp at h4
structure Mt where
  a:Nat
  b:Nat
  m:Int
def Mt.c(x:Mt):List V:=[.i x.a,.i x.b,.i x.m]
def gmt(l:List Mt)(k:Nat):Mt:=l.getD k ⟨0,0,0⟩
def V.NA(l:List Mt):V:= .sl 3 l.length fun k=>(gmt l k).c
def g9:Nat->List Int->List Int->Nat->Nat->Int->List Mt
 |0,_,_,_,_,_=>[]
 |u+1,x,y,i,k,d=>
  if 0< d then
   let n:=min (min (gi x i) (gi y k)) d
   let x':=x.set i (gi x i- n)
   let y':=y.set k (gi y k- n)
   let rest:=if gi x' i=0 then g9 u x' y' (i+1) k (d- n)else if gi y' k=0 then g9 u x' y' i (k+1) (d- n)else g9 u x' y' i k (d- n)
   if 0< n then⟨i,k,n⟩::rest else rest
   else []
def jV(x:List Int)(i:Nat):Int:=(x.drop i).sum
def NN(x:List Int):Prop:=∀v∈x,0<=v
theorem js{x:List Int}{i:Nat}(h:i< x.length):gi x i∈x:=by rw [gi,List.getD_eq_getElem?_getD,List.getElem?_eq_getElem h];exact List.getElem_mem _
theorem lC{x:List Int}{i:Nat}(h:i< x.length):jV x i=gi x i+jV x (i+1):=by rw [jV,jV,List.drop_eq_getElem_cons h,List.sum_cons,gi,List.getD_eq_getElem?_getD,List.getElem?_eq_getElem h];rfl
theorem F6{x:List Int}{i:Nat}(h:x.length<=i):jV x i=0:=by rw [jV,List.drop_eq_nil_of_le h];rfl
theorem nM{x:List Int}{i j:Nat}(v:Int)(h:i< j):jV (x.set i v) j=jV x j:=by rw [jV,jV,List.drop_set_of_lt h]
theorem iI{x:List Int}{i:Nat}(v:Int)(h:i< x.length):gi (x.set i v) i=v:=by simp [gi,h]
theorem Cl{x:List Int}{i j:Nat}(v:Int)(h:i≠j):gi (x.set i v) j=gi x j:=by simp [gi,List.getElem?_set_ne h]
theorem j4{x:List Int}{i:Nat}{v:Int}(h:NN x)(hv:0<=v):NN (x.set i v):=fun w hw=>by
 rcases List.mem_or_eq_of_mem_set hw with h1 |h1;·exact h w h1
 ·rw [h1];exact hv
theorem Bc:∀(x:List Int),NN x->0<=x.sum
 | [],_=>by decide
 |v::x,h=>by rw [List.sum_cons];have:=h v (by simp);have:=Bc x fun w hw=>h w (by simp [hw]);omega
theorem F5{x:List Int}(h:NN x)(i:Nat):0<=jV x i:=Bc _ fun w hw=>h w (List.mem_of_mem_drop hw)
theorem qt{x:List Int}(h:NN x){i:Nat}(hi:0< jV x i):i< x.length:=by
 rcases Nat.lt_or_ge i x.length with h1 |h1;·exact h1
 ·rw [F6 h1]at hi;omega
structure sZ(u:Nat)(x y:List Int)(i k:Nat)(d:Int):Prop where
  nx:NN x
  ny:NN y
  d0:0<=d
  dx:d<=jV x i
  dy:d<=jV y k
  fu:0< d->(x.length- i)+(y.length- k)<=u
theorem sZ.ix{u x y i k d}(h:sZ u x y i k d)(hd:0< d):i< x.length:=qt h.nx (by have:=h.dx;omega)
theorem sZ.iy{u x y i k d}(h:sZ u x y i k d)(hd:0< d):k< y.length:=qt h.ny (by have:=h.dy;omega)
def cB(x y:List Int)(i k:Nat)(d:Int):Int:=min (min (gi x i) (gi y k)) d
theorem sZ.n0{u x y i k d}(h:sZ u x y i k d)(hd:0< d):0<=cB x y i k d/\cB x y i k d<=d/\cB x y i k d<=gi x i/\cB x y i k d<=gi y k:=by have h1:=h.nx _ (js (h.ix hd));have h2:=h.ny _ (js (h.iy hd));unfold cB;omega
theorem sZ.Mb{u x y i k d}(h:sZ (u+1) x y i k d)(hd:0< d)(h0:gi x i- cB x y i k d=0):sZ u (x.set i (gi x i- cB x y i k d)) (y.set k (gi y k- cB x y i k d)) (i+1) k (d- cB x y i k d):=by
 obtain⟨n0,n1,n2,n3⟩:=h.n0 hd;have hx:=h.ix hd;have hy:=h.iy hd;have e1:=lC hx;have e2:=lC hy;refine⟨j4 h.nx oM,j4 h.ny oM,by omega,?_,?_,fun _=> ?_⟩;·rw [nM _ oM];have:=h.dx;omega
 ·rw [lC (by simpa using hy),iI _ hy,nM _ oM];have:=h.dy;omega
 ·have:=h.fu hd;simp only [List.length_set];omega
theorem sZ.Mc{u x y i k d}(h:sZ (u+1) x y i k d)(hd:0< d)(h0:gi y k- cB x y i k d=0):sZ u (x.set i (gi x i- cB x y i k d)) (y.set k (gi y k- cB x y i k d)) i (k+1) (d- cB x y i k d):=by
 obtain⟨n0,n1,n2,n3⟩:=h.n0 hd;have hx:=h.ix hd;have hy:=h.iy hd;have e1:=lC hx;have e2:=lC hy;refine⟨j4 h.nx oM,j4 h.ny oM,by omega,?_,?_,fun _=> ?_⟩;·rw [lC (by simpa using hx),iI _ hx,nM _ oM];have:=h.dx;omega
 ·rw [nM _ oM];have:=h.dy;omega
 ·have:=h.fu hd;simp only [List.length_set];omega
theorem sZ.Md{u x y i k d}(h:sZ (u+1) x y i k d)(hd:0< d)(h0:¬gi x i- cB x y i k d=0)(h1:¬gi y k- cB x y i k d=0):d- cB x y i k d=0/\sZ u (x.set i (gi x i- cB x y i k d)) (y.set k (gi y k- cB x y i k d)) i k (d- cB x y i k d):=by
 obtain⟨n0,n1,n2,n3⟩:=h.n0 hd;have hx:=h.ix hd;have hy:=h.iy hd;have e0:d- cB x y i k d=0:=by unfold cB at *;omega
 refine⟨e0,j4 h.nx oM,j4 h.ny oM,by omega,?_,?_,fun h=>by omega⟩;·rw [e0];exact F5 (j4 h.nx oM) _
 ·rw [e0];exact F5 (j4 h.ny oM) _
theorem xb(u:Nat)(x y:List Int)(i k:Nat){d:Int}(h:¬0< d):g9 u x y i k d=[]:=by
 cases u with
 |zero=>rfl
 |succ u=>rw [g9,if_neg h]
def vG(x y:List Int)(i k:Nat)(d:Int):List Mt:=if 0< cB x y i k d then [⟨i,k,cB x y i k d⟩]else []
theorem Fv{u x y i k d}(h:sZ (u+1) x y i k d)(hd:0< d)(h0:gi x i- cB x y i k d=0):g9 (u+1) x y i k d=vG x y i k d++g9 u (x.set i (gi x i- cB x y i k d)) (y.set k (gi y k- cB x y i k d)) (i+1) k (d- cB x y i k d):=by
 rw [g9,if_pos hd];show(if 0< cB x y i k d then _::(if gi (x.set i (gi x i- cB x y i k d)) i=0 then _ else _)else(if gi (x.set i (gi x i- cB x y i k d)) i=0 then _ else _))=_;rw [if_pos (show gi (x.set i (gi x i- cB x y i k d)) i=0 by rw [iI _ (h.ix hd)];exact h0),vG];by_cases hn:0< cB x y i k d;·rw [if_pos hn,if_pos hn];rfl
 ·rw [if_neg hn,if_neg hn];rfl
theorem Fw{u x y i k d}(h:sZ (u+1) x y i k d)(hd:0< d)(h0:¬gi x i- cB x y i k d=0)(h1:gi y k- cB x y i k d=0):g9 (u+1) x y i k d=vG x y i k d++g9 u (x.set i (gi x i- cB x y i k d)) (y.set k (gi y k- cB x y i k d)) i (k+1) (d- cB x y i k d):=by
 rw [g9,if_pos hd];show(if 0< cB x y i k d then _::(if gi (x.set i (gi x i- cB x y i k d)) i=0 then _ else(if gi (y.set k (gi y k- cB x y i k d)) k=0 then _ else _))else(if gi (x.set i (gi x i- cB x y i k d)) i=0 then _ else(if gi (y.set k (gi y k- cB x y i k d)) k=0 then _ else _)))=_;rw [if_neg (show ¬gi (x.set i (gi x i- cB x y i k d)) i=0 by rw [iI _ (h.ix hd)];exact h0),if_pos (show gi (y.set k (gi y k- cB x y i k d)) k=0 by rw [iI _ (h.iy hd)];exact h1),vG];by_cases hn:0< cB x y i k d;·rw [if_pos hn,if_pos hn];rfl
 ·rw [if_neg hn,if_neg hn];rfl
theorem Fx{u x y i k d}(h:sZ (u+1) x y i k d)(hd:0< d)(h0:¬gi x i- cB x y i k d=0)(h1:¬gi y k- cB x y i k d=0):g9 (u+1) x y i k d=vG x y i k d++g9 u (x.set i (gi x i- cB x y i k d)) (y.set k (gi y k- cB x y i k d)) i k (d- cB x y i k d):=by
 rw [g9,if_pos hd];show(if 0< cB x y i k d then _::(if gi (x.set i (gi x i- cB x y i k d)) i=0 then _ else(if gi (y.set k (gi y k- cB x y i k d)) k=0 then _ else _))else(if gi (x.set i (gi x i- cB x y i k d)) i=0 then _ else(if gi (y.set k (gi y k- cB x y i k d)) k=0 then _ else _)))=_;rw [if_neg (show ¬gi (x.set i (gi x i- cB x y i k d)) i=0 by rw [iI _ (h.ix hd)];exact h0),if_neg (show ¬gi (y.set k (gi y k- cB x y i k d)) k=0 by rw [iI _ (h.iy hd)];exact h1),vG];by_cases hn:0< cB x y i k d;·rw [if_pos hn,if_pos hn];rfl
 ·rw [if_neg hn,if_neg hn];rfl
theorem Fu{u x y i k d}(h:sZ (u+1) x y i k d)(hd:0< d):∃R,g9 (u+1) x y i k d=vG x y i k d++R:=by
 by_cases h0:gi x i- cB x y i k d=0;·exact⟨_,Fv h hd h0⟩
 ·by_cases h1:gi y k- cB x y i k d=0;·exact⟨_,Fw h hd h0 h1⟩
  ·exact⟨_,Fx h hd h0 h1⟩
theorem xd:∀(u:Nat) (x y:List Int) (i k:Nat) (d:Int),(g9 u x y i k d).length<=u
 |0,_,_,_,_,_=>Nat.le_refl _
 |u+1,x,y,i,k,d=>by
  have h1:=fun x y i k d=>xd u x y i k d;rw [g9];split;·simp only;split <;> (try rw [List.length_cons]) <;> split <;> (try split) <;> first |exact Nat.succ_le_succ (h1 _ _ _ _ _) |exact Nat.le_succ_of_le (h1 _ _ _ _ _)
  ·simp
theorem Em{L A R:List Mt}{q:Nat}(h:L.drop q=A++R):L.drop (q+A.length)=R:=by rw [<-List.drop_drop,h,List.drop_left]
theorem G3{L A R:List Mt}{q:Nat}(hq:q<=L.length)(h:L.drop q=A++R):q+A.length<=L.length:=by have:=congrArg List.length h;rw [List.length_drop,List.length_append]at this;omega
structure Ou where
  u:Nat
  x:List Int
  y:List Int
  i:Nat
  k:Nat
  d:Int
  q:Nat
theorem J9{L R:List Mt}{z:Mt}{q:Nat}(h:L.drop q=z::R):q< L.length/\gmt L q=z/\L.drop (q+1)=R:=by
 have h1:q< L.length:=by
  rcases Nat.lt_or_ge q L.length with h1 |h1;·exact h1
  ·rw [List.drop_eq_nil_of_le h1]at h;cases h
 rw [List.drop_eq_getElem_cons h1]at h;injection h with h2 h3;exact⟨h1,by rw [gmt,List.getD_eq_getElem?_getD,List.getElem?_eq_getElem h1];exact h2,h3⟩
theorem EF(x:List Int)(i:Nat)(v:Int)(j:Nat)(hi:i< x.length):gi (x.set i v) j=if j=i then v else gi x j:=by
 by_cases h:j=i;·subst h;rw [if_pos rfl,iI _ hi]
 ·rw [if_neg h,Cl _ (Ne.symm h)]
structure Bo(u:Nat)(x y:List Int)(i k:Nat)(d:Int):Prop where
  nx:NN x
  ny:NN y
  d0:0<=d
  dx:d<=jV x i
  dy:d<=jV y k
  fu:(x.length- i)+(y.length- k)+d.toNat<=u
theorem Bo.ix{u x y i k d}(h:Bo u x y i k d)(hd:0< d):i< x.length:=qt h.nx (by have:=h.dx;omega)
theorem Bo.iy{u x y i k d}(h:Bo u x y i k d)(hd:0< d):k< y.length:=qt h.ny (by have:=h.dy;omega)
theorem Bo.pos{u x y i k d}(h:Bo u x y i k d)(hd:0< d):∃v,u=v+1:=⟨u- 1,by have:=h.fu;omega⟩
def Ks(x y:List Int)(d:Int):Int:=if x.sum< d\/y.sum< d then 15 else 0
def K7(x y:List Int)(d:Int):V:=if Ks x y d=0 then .tup [V.NA (g9 (x.length+y.length) x y 0 0 d),.i 0]else .tup [.nil,.i 15]
theorem rz{x y:List Int}{d:Int}:Ks x y d=0<->d<=x.sum/\d<=y.sum:=by
 unfold Ks;split
 ·constructor;·intro h;omega
  ·intro h;omega
 ·constructor;·intro h;omega
  ·intro h;rfl
def lV(F:Nat->Nat->Nat):List V:=(List.range 2601).map fun j=>V.i (F (j / 51) (j% 51))
theorem vm(F:Nat->Nat->Nat):(lV F).length=2601:=by simp [lV]
theorem vn(g:Nat->Nat)(F:Nat->Nat->Nat):V.bg g (lV F)=lV F:=by kernel_rfl
theorem Ik(F:Nat->Nat->Nat):V.aP (lV F)=true:=by kernel_rfl
theorem vl{F:Nat->Nat->Nat}{n k o:Nat}{x:Int}(hn:n< 51)(hk:k< 51)(ho:o=n*51+k)(hx:(F n k:Int)=x):(lV F)[o]?=some (V.i x):=by
 subst ho hx;have h1:(n*51+k) / 51=n:=by omega
 have h2:(n*51+k)% 51=k:=by omega
 have h3:n*51+k< 2601:=by omega
 simp [lV,h1,h2,h3]
theorem A9{F G:Nat->Nat->Nat}{n k:Nat}{x:Int}(hn:n< 51)(hk:k< 51)(hx:(G n k:Int)=x)(hG:∀a b,b< 51->¬(a=n/\b=k)->G a b=F a b):(lV F).set (n*51+k) (V.i x)=lV G:=by
 subst hx;refine List.ext_getElem (by simp [lV]) fun j h1 h2=> ?_;have hj:j< 2601:=by rw [vm]at h2;exact h2
 by_cases h:j=n*51+k
 ·subst h;have h1:(n*51+k) / 51=n:=by omega
  have h2:(n*51+k)% 51=k:=by omega
  simp [lV,h1,h2]
 ·rw [List.getElem_set_ne (Ne.symm h)];simp [lV];rw [hG _ _ oM oM]
def vB:V:= .ptr (lV bL)
def nO(n k a b:Nat):Nat:=if a< n\/a=n/\b< k then bL a b else 0
def B6(n:Nat)(k:Int):Int:=if k< 0 then 0 else bL n k.toNat
theorem uD(n k:Nat):B6 n k=bL n k:=by rw [B6,if_neg oM,Int.toNat_natCast]
theorem G2(n s k:Nat):B6 n ((s:Int)- k)=Dh n s k:=by
 unfold B6 Dh;by_cases h:k<=s;·rw [if_neg oM,if_pos h,show((s:Int)- k).toNat=s- k by omega]
 ·rw [if_pos oM,if_neg h];rfl
end Go.Ab

namespace Go.Dw
open Go.RowKit Go.Shelf
def jR(r:Option Nat):Fence:={Fence.wide with round:=r}
section
variable {P:Program}{ops:Array Oper}{md:Region.Mode}{w:World}{r:Option Nat}{m:Nat}
theorem pZ{o:Oper}{a:Act}{K:Act->Prop}{K':Act->World->Prop}{Q':Exit->Act->World->Prop}(h:∀a,K a->K' a w)(hh:o.still P a w K):o.wpIn (jR r) m P a w K' Q':=by
 refine⟨fun _ _=>trivial,?_⟩;have hs:o.semAt (jR r).round a.eval=execOp a.eval o\/∃c,o.op= .defer c:=by
  cases r with
  |none=>exact .inl rfl
  |some l=>
   by_cases hd:∃c,o.op= .defer c;·exact .inr hd
   ·exact .inl (Oper.semAt_some l a.eval o (fun c e=>hd ⟨c,e⟩))
 unfold Oper.still at hh;rcases hs with hs | ⟨c,hc⟩
 ·rw [hs];generalize (execOp a.eval o).run P w=x at*;cases x with
  |ok n w'=>
   cases n <;> simp only [Oper.stillUpon]at hh <;> simp only [Oper.uponIn]
   case enter f args=>
    obtain⟨rfl,v,hc,hn⟩:=hh
    refine⟨fun h=>by simp [jR,Fence.wide]at h,?_⟩
    show CallsIn Fence.wide (m- 1) P f args w' _
    exact callsIn_wide.2 (hc.mono fun e w'' ⟨he,hw⟩=>by subst he;subst hw;exact h _ hn)
   all_goals (obtain⟨rfl,h2⟩:=hh;exact h _ h2)
  |halt x w'=>simp only [Oper.stillUpon]at hh
 ·exfalso;unfold execOp at hh;rw [hc]at hh;simp only [Sem.run_bind]at hh;generalize (resolve a.eval c o.type).run P w=x at hh;cases x with
  |ok d w'=>simp [Result.andThen,Oper.stillUpon]at hh
  |halt x w'=>simp [Result.andThen,Oper.stillUpon]at hh
theorem sj{i:Nat}{a:Act}{K:Act->Prop}{K':Act->World->Prop}{Q':Exit->Act->World->Prop}(h:∀a,K a->K' a w)(hh:stOp P ops w i K a):wpOpIn (jR r) m P ops Q' i K' a w:=by
 unfold stOp at hh;unfold wpOpIn;split;·rename_i ho;simp only [ho]at hh;exact h _ hh
 ·rename_i o ho;simp only [ho]at hh;split;·rename_i hw;simp only [hw,if_true]at hh;exact pZ h hh
  ·rename_i hw;simp only [hw]at hh;exact⟨fun _ _=>trivial,h _ hh⟩
theorem jS{n g:Nat}{L:Array Bool->Act->Prop}{Q':Exit->Act->World->Prop}(hL:∀listed a,L listed a->wpAnyIn (jR r) m P md ops Q' g listed a w) : ∀(f:Nat) (listed:Array Bool) (a:Act),wpAnyL P md ops w n L f listed a->wpAnyIn (jR r) m P md ops Q' (f+g) listed a w
 |0,listed,a,h=>by rw [Nat.zero_add];exact hL _ _ h
 |f+1,listed,a,h=>by rw [show f+1+g=(f+g)+1 by omega];exact⟨fun h0=>absurd h0 h.1,fun i hi=>sj (fun a' h'=>jS hL f _ a' h') (h.2 i hi).2⟩
theorem kT{Q':Exit->Act->World->Prop}:∀(l:List Oper) (k:Nat) (listed:Array Bool) (a:Act) (w:World),(∀j,l[j]?=ops[k+j]?)-> Region.seqB md ops l.length k listed=true->wpListIn (jR r) m P ops Q' l a w->wpAnyIn (jR r) m P md ops Q' l.length listed a w
 | [],_,_,_,_,_,hB,h=>⟨by simpa [Region.seqB]using hB,h⟩
 |o::l,k,listed,a,w,hl,hB,h=>by
  have h0:ops[k]?=some o:=by simpa using (hl 0).symm
  simp only [List.length_cons,Region.seqB,Bool.and_eq_true,decide_eq_true_eq]at hB;refine⟨fun h1=>(by rw [hB.1]at h1;cases h1),fun i hi=> ?_⟩;rw [hB.1]at hi;have hik:i=k:=by simpa using hi
  subst hik;have hw:wpOpIn (jR r) m P ops Q' i (wpListIn (jR r) m P ops Q' l) a w:=by unfold wpOpIn;simp only [h0];exact h
  exact wpOpIn_mono (fun a' w' h'=>kT l (i+1) _ a' w' (fun j=>by have:=hl (j+1);simpa [Nat.add_assoc,Nat.add_comm 1 j]using this) hB.2 h') hw
theorem jf{id:Nat}{Q:Exit->Act->World->Prop}{a:Act}{w:World}{l:List Oper}(n:Nat)(hm:P.follows .mixedOrders=true)(hB:Region.lexTailB .any l.toArray n=true) (h:wpStill P l.toArray w.drew (fun a'=>wpListIn (jR r) m P l.toArray Q (l.drop n) a' w.drew) (l.take n) a):(Code.region id l.toArray true).wpIn (jR r) m P Q a w:=by
 simp only [Region.lexTailB,Bool.and_eq_true,decide_eq_true_eq]at hB;obtain⟨⟨⟨⟨hsel,hn⟩,hs⟩,hc⟩,hlex⟩:=hB;have hn':n< l.length:=by simpa using hn
 have htl:(l.take n).length=n:=by simp;omega
 have hdl:(l.drop n).length=l.toArray.size- n:=by simp
 have inv0:HeadInv .any l.toArray n (Array.replicate l.toArray.size false):= ⟨by simp,fun j oj _ hl=>(by rw [getD_replicate_false]at hl;cases hl),fun t _ ht=>getD_in (by simpa using ht) (getD_replicate_false _ _)⟩;have H:=wpAnyL_lex (md:= .any) (g:=l.toArray.size- n) hsel hs hc hn (l.take n) 0 _ a (fun j hj=>by
  have hj':j< n:=by rw [htl]at hj;exact hj
  simp [hj']) (by simpa using htl) inv0 (by rw [htl];exact hlex) h
 refine wpIn_region_any hm ?_;have:=jS (r:=r) (m:=m) (Q':=Q) (g:=l.toArray.size- n) (fun listed a' hL=>by have:=kT (r:=r) (m:=m) (md:= .any) (Q':=Q) (l.drop n) n listed a' w.drew (fun j=>by simp [List.getElem?_drop]) (by rw [hdl];exact hL.1) hL.2;rwa [hdl]at this) _ _ _ H;rw [htl,show n+(l.toArray.size- n)=l.toArray.size by omega]at this;exact this
theorem jX{id lp:Nat}{Q:Exit->Act->World->Prop}{a:Act}{w:World}{l:List Oper}(n:Nat)(hm:P.follows .mixedOrders=true)(hB:Region.lexTailB .any l.toArray n=true)
 (h:wpStill P l.toArray w.drew (fun a'=>wpListIn (Fence.wide.inRound lp) m P l.toArray Q (l.drop n) a' w.drew) (l.take n) a):(Code.region id l.toArray true).wpIn (Fence.wide.inRound lp) m P Q a w:=
 jf (r:=some lp) n hm hB h
end
end Go.Dw

namespace Go.Proofs.YtjmbpjlojjgggaaGreatDoor
open Go.RowKit Go.Dw Go.Shelf
attribute [local go_sem] Oper.semAt_some
def fM(u i:Nat):Nat:=max (u- i) (i- u)
def aJ(i r:Nat):Nat:=i+1- r
def fP(i n r:Nat):Nat:=min n (i+r)- aJ i r
def xh(i r k:Nat):Array Value:= #[.int .i64 ((aJ i r:Int)+(k:Int)),.int .i64 (fM (aJ i r+k) i:Nat)]
def iL(i n r:Nat):List (Array Value):=(List.range (fP i n r)).map (xh i r)
theorem CB(bi br bn i n r:Nat)(hi:i<=65536)(hn:n<=65536)(hr:r<=65536)(w:World)(R:Nat->Prop) (h1:cj w bi 3 #[.int .i64 i]) (h2:cj w br 3 #[.int .i64 r]) (h3:cj w bn 3 #[.int .i64 n]) (r1:¬R bi) (r2:¬R br) (r3:¬R bn) : Iter Tryz.prog 182 #[.pointer (some ⟨bi,0,none⟩),.pointer (some ⟨br,0,none⟩),.pointer (some ⟨bn,0,none⟩)] (iL i n r) R w:=by
 intro l J Jx W hT hl hlW hJ hJx hY h0;have hb:∀wr,aI (fun k=>R k\/k=l) W wr->wr.cell? ⟨bi,0,none⟩=some (.int .i64 i)/\wr.cell? ⟨br,0,none⟩=some (.int .i64 r)/\wr.cell? ⟨bn,0,none⟩=some (.int .i64 n):=fun wr ht=> ⟨(ht.box (hT.box h1 r1) (by rintro(e |e);exact r1 e;have:=h1.lt;omega)).cell 0,(ht.box (hT.box h2 r2) (by rintro(e |e);exact r2 e;have:=h2.lt;omega)).cell 0,
   (ht.box (hT.box h3 r3) (by rintro(e |e);exact r3 e;have:=h3.lt;omega)).cell 0⟩
 obtain⟨c1,c2,c3⟩:=hb W (aI.refl _ _);have e1:max (0:Int) ((i:Int)- (r:Int)+1)=((aJ i r:Nat):Int):=by unfold aJ;omega
 refine callsIn_of_wp Tryz.func182 rfl trivial ?_ rfl;simp only [Tryz.ntmps182,List.size_toArray,List.length_cons,List.length_nil,Nat.reduceAdd,Nat.reduceSub,Array.replicate_succ,Array.replicate_zero,List.push_toArray,List.append_toArray,List.nil_append,List.cons_append];gi_wp2
 gi_loopw [5] (fun u wr=>∃k:Nat,k<=fP i n r/\u= .int .i64 ((aJ i r:Int)+(k:Int))/\J k wr/\aI (fun k=>R k\/k=l) W wr) (fun u wr=>n- (intOf u).toNat)
 case atStart=>exact⟨0,Nat.zero_le _,rfl,h0,aI.refl _ _⟩
 case round=>
  obtain⟨k,hk,rfl,hJk,hTk⟩:=hrel
  obtain⟨d1,d2,d3⟩:=hb wr hTk
  have e2:min (n:Int) ((i:Int)+(r:Int))=((min n (i+r):Nat):Int):=by omega
  by_cases hlt:k< fP i n r
  ·obtain⟨fn,tmps,assign,body,hy,hR⟩:=hY k (xh i r k) wr (by simp [iL,hlt]) hTk.size hJk;have e3:max ((aJ i r:Int)+(k:Int)- (i:Int)) ((i:Int)- ((aJ i r:Int)+(k:Int)))=((fM (aJ i r+k) i:Nat):Int):=by unfold fM;omega
   have hlt':aJ i r+k< min n (i+r):=by unfold fP at hlt;omega
   unfold xh at hy;gi_wp2
   refine hR.mono ?_;rintro e W2 ⟨bb,rfl,hT2,hJ2,hJ3⟩;cases bb;rotate_left
   ·gi_wp2
    go_roundw
    case rel=>exact⟨k+1,by omega,by go_num,hJ2 (by simp),hTk.trans hT2⟩
    case measure=>simp [intOf];omega
   ·gi_wp2
    refine bodyPost_ret (results_none rfl _ _ _) rfl ?_;exact⟨⟨_,rfl⟩,.inr ⟨k,by simpa [iL]using hlt,hJ3 (by simp)⟩⟩
  ·have hge:min n (i+r)<=aJ i r+k:=by unfold fP at hlt;omega
   have hk2:k=fP i n r:=by omega
   subst hk2;gi_wp2
   go_end0
   exact⟨⟨_,rfl⟩,.inl (by simpa [iL]using hJk)⟩
theorem zm(i n r:Int)(w:World):Calls Tryz.prog 159 #[.int .i64 i,.int .i64 n,.int .i64 r] w fun e w'=> e= .returned (.func (.func 182) #[] #[.pointer (some ⟨w.heap.size,0,none⟩),.pointer (some ⟨w.heap.size+2,0,none⟩),.pointer (some ⟨w.heap.size+1,0,none⟩)])/\ cj w' w.heap.size 3 #[.int .i64 i]/\cj w' (w.heap.size+2) 3 #[.int .i64 r]/\cj w' (w.heap.size+1) 3 #[.int .i64 n]/\Below w.heap.size w w'/\w'.heap.size=w.heap.size+3:=by
 go_enter Tryz.func159,Tryz.ntmps159
 go_wp2
 go_ret
 have b1:=cj.new w 3 #[.int .i64 i];have b2:=cj.new (w.alloc (.cells #[.int .i64 i] 3)) 3 #[.int .i64 n];have b3:=cj.new ((w.alloc (.cells #[.int .i64 i] 3)).alloc (.cells #[.int .i64 n] 3)) 3 #[.int .i64 r];simp only [World.size_alloc]at b2 b3;exact⟨rfl,(b1.alloc _).alloc _,b3,b2.alloc _,(((Below.refl _ _).alloc (Nat.le_refl _) _).alloc (by simp) _).alloc (by simp;omega) _,by simp⟩
def HX(h t:List Int)(down:Bool)(i k:Nat):Array Value:= #[.int .i64 (gi h (aJ i t.length+k)+(if down then- gi t (fM (aJ i t.length+k) i)else gi t (fM (aJ i t.length+k) i)))]
def pI(h t:List Int)(down:Bool)(i:Nat):List (Array Value):=(List.range (fP i h.length t.length)).map (HX h t down i)
theorem nC(bi bh bt bd i:Nat)(Ah At:Option Addr)(n ch r ct:Nat)(h t:List Int)(down:Bool)(w:World)(R:Nat->Prop) (hi:i< n) (hn:n<=65536) (hr:r<=65536) (h1:cj w bi 3 #[.int .i64 i]) (h2:cj w bh 41 #[.slice Ah n ch]) (h3:cj w bt 59 #[.slice At r ct]) (h4:cj w bd 4 #[.bool down]) (hh:dY w Ah n h) (ht:dY w At r t) (hhb:∀x∈h, -16777216<=x/\x<=16777216) (htb:∀x∈t,0<=x/\x<=16777216) (r1:¬R bi) (r2:¬R bh) (r3:¬R bt) (r4:¬R bd) (r5:∀b,Ah.map (·.block)=some b->¬R b) (r6:0< r->∀b,At.map (·.block)=some b->¬R b) (hR:∀k,R k->k< w.heap.size) : Iter Tryz.prog 158 #[.pointer (some ⟨bi,0,none⟩),.pointer (some ⟨bh,0,none⟩),.pointer (some ⟨bt,0,none⟩),.pointer (some ⟨bd,0,none⟩)] (pI h t down i) R w:=by
 intro l J Jx W hT hl hlW hJ hJx hY h0;have nl:∀b,b< w.heap.size->b≠l:=fun b hb=>by omega
 have tb:∀ {wr:World}{b ty}{cs},aI (fun k=>R k\/k=l) W wr->cj w b ty cs->¬R b->cj wr b ty cs:=fun ht hb hr=>ht.box (hT.box hb hr) (by rintro(e |e);exact hr e;exact nl _ hb.lt e);have c1:W.cell? ⟨bi,0,none⟩=some (.int .i64 i):=(hT.box h1 r1).cell 0;have c2:W.cell? ⟨bh,0,none⟩=some (.slice Ah n ch):=(hT.box h2 r2).cell 0;have c3:W.cell? ⟨bt,0,none⟩=some (.slice At r ct):=(hT.box h3 r3).cell 0;have hbW:=cj.new W 161 #[.func (.yield l) #[] #[]];have hb0:=bp W (.cells #[.func (.yield l) #[] #[]] 161);have d1:=(World.cell?_alloc_lt W (.cells #[.func (.yield l) #[] #[]] 161) ⟨bi,0,none⟩ (by have:=(hT.box h1 r1).lt;exact this)).trans c1;have d2:=(World.cell?_alloc_lt W (.cells #[.func (.yield l) #[] #[]] 161) ⟨bh,0,none⟩ (by have:=(hT.box h2 r2).lt;exact this)).trans c2;have d3:=(World.cell?_alloc_lt W (.cells #[.func (.yield l) #[] #[]] 161) ⟨bt,0,none⟩ (by have:=(hT.box h3 r3).lt;exact this)).trans c3;refine callsIn_of_wp_marks Tryz.func158 rfl trivial ?_ rfl;simp only [Tryz.ntmps158,List.size_toArray,List.length_cons,List.length_nil,Nat.reduceAdd,Nat.reduceSub,Array.replicate_succ,Array.replicate_zero,List.push_toArray,List.append_toArray,List.nil_append,List.cons_append];gi_wp2_with (gi_at_call 159;refine(callsIn_wide.2 (zm _ _ _ _)).mono ?_;rintro e w' ⟨rfl,e1,e2,e3,e4,e5⟩)
 have hT':aI (fun k=>R k\/k=l) W w':=aI.gR (qD hb0 e4 (by simp));have hBW:cj w' W.heap.size 161 #[.func (.yield l) #[] #[]]:=hbW.bq e4;rw [World.size_alloc]at*;refine xT (gf:=182) rfl (enters_of Tryz.func182 kR rfl)
  (CB _ _ _ i n r oM oM oM w' (fun k=>R k\/k=l) e1 e2 e3 (by rintro(e |e);have:=hR _ e;have:=hT.size;omega;omega) (by rintro(e |e);have:=hR _ e;have:=hT.size;omega;omega) (by rintro(e |e);have:=hR _ e;have:=hT.size;omega;omega))
  (by rintro k (e |e);have:=hR _ e;have:=hT.size;omega;omega) (by intro x hx;simp [iL]at hx;obtain⟨k,_,rfl⟩:=hx;rfl)
  (fun k W'=>J k W'/\aI (fun k=>R k\/k=l) W W'/\cj W' W.heap.size 161 #[.func (.yield l) #[] #[]]) (fun k c W'=>c= .ret/\Jx k W')
  (fun k W1 W2 h hb=>⟨hJ k W1 W2 h.1 (hb.mono oM),h.2.1.later hb oM,h.2.2.below hb oM⟩)
  (fun k c W1 W2 h hb=>⟨h.1,hJx k W1 W2 h.2 (hb.mono oM)⟩) ⟨hJ 0 W w' h0 (qD hb0 (by rw [World.size_alloc];exact e4) (by simp)),hT',hBW⟩ ?hround ?hdone ?hstop
 case hround=>
  rintro l2 k x W2 hl2 hl2' hx ⟨hJ2,hT2,hB2⟩
  obtain⟨hk,rfl⟩:k< fP i n r/\xh i r k=x:=by
   unfold iL at hx;rw [List.getElem?_map]at hx;by_cases hk:k< fP i n r;·rw [List.getElem?_range hk]at hx;exact⟨hk,by simpa using hx⟩
   ·rw [List.getElem?_eq_none (by simpa using hk)]at hx;cases hx
  unfold xh
  gi_wp2
  refine⟨aI.refl _ _,fun W3 hT3=> ?_⟩
  have hb3:Below w'.heap.size W2 W3:=hT3.below (by have:=hT2.size;omega) (fun q hq=>by omega)
  have hT3':aI (fun q=>R q\/q=l) W W3:=hT2.later hb3 oM
  have hB3:=hB2.below hb3 oM
  have hJ3:=hJ k W2 W3.drew hJ2 (hb3.mono oM).drew
  have nl':∀ {A:Option Addr}{b},A.map (·.block)=some b->(∃b o,A=some (⟨b,o,none⟩:Addr)/\b< w.heap.size)->b≠l:=by rintro A b hA ⟨b',o,rfl,hb⟩;simp at hA;omega
  have hdk:fM (aJ i r+k) i< r:=by unfold fM aJ fP aJ at *;omega
  have hlk:aJ i r+k< n:=by unfold fP aJ at *;omega
  obtain⟨bH,oH,rfl,hbH,hcH⟩:=ints_at hh hlk
  obtain⟨bT,oT,rfl,hbT,hcT⟩:=ints_at ht hdk
  have f1:W3.cell? ⟨bh,0,none⟩=some (.slice (some ⟨bH,oH,none⟩) n ch):=(tb hT3' h2 r2).cell 0
  have f2:W3.cell? ⟨bt,0,none⟩=some (.slice (some ⟨bT,oT,none⟩) r ct):=(tb hT3' h3 r3).cell 0
  have f3:W3.cell? ⟨bd,0,none⟩=some (.bool down):=(tb hT3' h4 r4).cell 0
  have f4:W3.cell? ⟨W.heap.size,0,none⟩=some (.func (.yield l) #[] #[]):=hB3.cell 0
  have f5:W3.cell? ⟨bH,oH+(aJ i r+k),none⟩=some (.int .i64 (gi h (aJ i r+k))):= ((hT3'.cell (p:=⟨bH,oH+(aJ i r+k),none⟩) (by have:=hT.size;exact Nat.lt_of_lt_of_le hbH this) (by rintro(e |e);exact r5 _ rfl e;exact nl _ hbH e)).trans (hT.cell (p:=⟨bH,oH+(aJ i r+k),none⟩) hbH (r5 _ rfl))).trans hcH
  have f6:W3.cell? ⟨bT,oT+fM (aJ i r+k) i,none⟩=some (.int .i64 (gi t (fM (aJ i r+k) i))):= ((hT3'.cell (p:=⟨bT,oT+fM (aJ i r+k) i,none⟩) (by have:=hT.size;exact Nat.lt_of_lt_of_le hbT this) (by rintro(e |e);exact r6 oM _ rfl e;exact nl _ hbT e)).trans (hT.cell (p:=⟨bT,oT+fM (aJ i r+k) i,none⟩) hbT (r6 oM _ rfl))).trans hcT
  have hl1:=hh.1
  have hl2:=ht.1
  have g1:=(eI.1 hhb) (aJ i r+k) oM
  have g2:=(eI.1 htb) (fM (aJ i r+k) i) oM
  obtain⟨fn,tmps,assign,body,hy,hRd⟩:=hY k (HX h t down i k) W3.drew (by subst hl2;subst hl1;simp [pI,hk]) hT3'.size hJ3
  unfold HX at hy
  rw [hl2]at hy
  have hw1:IntKind.i64.wrap (gi h (aJ i r+k)+gi t (fM (aJ i r+k) i))=gi h (aJ i r+k)+gi t (fM (aJ i r+k) i):=IntWalk.i64_in _ oM
  have hw2:IntKind.i64.wrap (gi h (aJ i r+k)+ -gi t (fM (aJ i r+k) i))=gi h (aJ i r+k)+ -gi t (fM (aJ i r+k) i):=IntWalk.i64_in _ oM
  have x1:(0:Int)<=(aJ i r:Int)+(k:Int):=by omega
  have x2:(aJ i r:Int)+(k:Int)< (n:Int):=by omega
  have x3:((aJ i r:Int)+(k:Int)).toNat=aJ i r+k:=by omega
  have HL1:=Lib.hid hl1
  have HL2:=Lib.hid hl2
  clear hl1 hl2 hcH hcT c1 c2 c3 d1 d2 d3
  cases down
  all_goals
   simp only [Bool.false_eq_true,if_false,if_true]at hy
   gi_wp2
   refine jX 7 kR kR ?_
   simp only [List.take_succ_cons,List.take_zero,List.drop_succ_cons,List.drop_zero]
   repeat still_step
   refine wpStill_nil ?_
   gi_wp2
   refine(sN l2 hRd).mono ?_
   rintro e W4 ⟨bb,rfl,hT4,hJ4,hJ5⟩
   have hT4':aI (fun k=>R k\/k=l) W3 W4:=⟨hT4.os,hT4.tape,hT4.output,hT4.size,hT4.block⟩
   cases bb
   ·gi_wp2
    exact⟨hT4',rfl,hJ5 (by simp)⟩
   ·gi_wp2
    exact⟨hT4',hJ4 (by simp),hT3'.trans hT4',hT4'.box hB3 (by rintro(e |e);have:=hR _ e;have:=hT.size;omega;omega)⟩
 case hdone=>
  rintro D W2 ⟨hJ2,hT2,hB2⟩ hD hDd
  gi_wp2
  refine oe [D] (.inl rfl) rfl (by simp) (by simpa using hDd) (fun w=>results_none rfl _ _ _) (fun w4 ht4=>⟨⟨_,rfl⟩,.inl ?_⟩)
  have e:(pI h t down i).length=(iL i n r).length:=by simp [pI,iL,hh.1,ht.1]
  rw [e]
  exact hJ _ _ _ hJ2 (ht4.below (by have:=hT2.size;omega) (fun q hq=>by simp;omega))
 case hstop=>
  rintro D k c W2 hk ⟨rfl,hJ2⟩ hD hDd
  gi_wp2
  have hDl:D< W2.heap.size:=(Array.getElem?_eq_some_iff.1 hDd).1
  refine oe [D] (.inr rfl) rfl (by simp) (by simpa using hDd) (fun w=>results_none rfl _ _ _) (fun w4 ht4=>⟨⟨_,rfl⟩,.inr ⟨k,?_,?_⟩⟩)
  ·have e:(pI h t down i).length=(iL i n r).length:=by simp [pI,iL,hh.1,ht.1]
   rw [e];exact hk
  ·exact hJx _ _ _ hJ2 (ht4.below oM (fun q hq=>by simp;omega))
theorem ri(a b:Int)(w:World):Calls Tryz.prog 162 #[.int .i64 a,.int .i64 b] w fun e w'=>e= .returned (.bool (decide (a< b)))/\w=w':=by
 go_enter Tryz.func162,Tryz.ntmps162
 go_wp2
 go_ret
 exact⟨rfl,rfl⟩
theorem ry(a b:Int)(w:World):Calls Tryz.prog 161 #[.int .i64 a,.int .i64 b] w fun e w'=>e= .returned (.bool (decide (b< a)))/\w=w':=by
 go_enter Tryz.func161,Tryz.ntmps161
 go_wp2
 go_ret
 exact⟨rfl,rfl⟩
def i7(down:Bool)(x acc:Int):Int:=if down then max acc x else min acc x
def lQ(down:Bool)(f:Int)(l:List Int):Int:=l.foldl (fun acc x=>i7 down x acc) f
theorem qP(down:Bool)(bf:Nat)(hbf:bf=161/\down=true\/bf=162/\down=false)(f:Int)(vs:List Int)(gf:Nat)(lb:Array Value)(w:World)(eg:∀args w,(callFunc gf args).run Tryz.prog w= .ok (.enter gf args) w) (hit:∀R w',Below w.heap.size w w'->(∀k,R k->w.heap.size<=k/\k< w'.heap.size)->Iter Tryz.prog gf lb (vs.map fun v=> #[.int .i64 v]) R w') : Calls Tryz.prog 160 #[.int .i64 f,.func (.func gf) #[] lb,.func (.func bf) #[] #[]] w fun e w'=>e= .returned (.int .i64 (lQ down f vs))/\Below w.heap.size w w':=by
 refine(callsIn_wide (n:=0)).1 ?_;refine callsIn_of_wp_marks Tryz.func160 rfl trivial ?_ rfl;simp only [Tryz.ntmps160,List.size_toArray,List.length_cons,List.length_nil,Nat.reduceAdd,Nat.reduceSub,Array.replicate_succ,Array.replicate_zero,List.push_toArray,List.append_toArray,List.nil_append,List.cons_append];gi_wp2
 have hb1:=cj.new w 2 #[.int .i64 f];have hb2:=cj.new (w.alloc (.cells #[.int .i64 f] 2)) 296 #[.func (.func bf) #[] #[]];have hb1':=hb1.alloc (.cells #[.func (.func bf) #[] #[]] 296);have hbl:=(bp w (.cells #[.int .i64 f] 2)).alloc (by simp) (.cells #[.func (.func bf) #[] #[]] 296);have hsz:((w.alloc (.cells #[.int .i64 f] 2)).alloc (.cells #[.func (.func bf) #[] #[]] 296)).heap.size=w.heap.size+2:=by simp
 rw [World.size_alloc]at hb2;generalize (w.alloc (.cells #[.int .i64 f] 2)).alloc (.cells #[.func (.func bf) #[] #[]] 296)=w0 at*;refine xT (gf:=gf) rfl eg (hit (· =w.heap.size) w0 hbl (by intro k e;omega)) (by intro k e;omega) (by intro x hx;simp at hx;obtain⟨v,_,rfl⟩:=hx;rfl)
  (fun k W=>cj W w.heap.size 2 #[.int .i64 (lQ down f (vs.take k))]/\cj W (w.heap.size+1) 296 #[.func (.func bf) #[] #[]]/\Below w.heap.size w W) (fun _ _ _=>False)
  (fun k W1 W2 h hb=>⟨h.1.below hb oM,h.2.1.below hb oM,h.2.2.trans (hb.mono oM)⟩) (fun _ _ _ _ h _=>h) ⟨by simpa [lQ]using hb1',hb2,hbl⟩ ?hround ?hdone (fun _ _ _ _ _ h=>h.elim)
 case hround=>
  rintro l k x W hl hl' hx ⟨h1,h2,h3⟩
  obtain⟨hk,rfl⟩:∃hk:k< vs.length,#[.int .i64 vs[k]]=x:=by
   rw [List.getElem?_map]at hx;by_cases hk:k< vs.length;·rw [List.getElem?_eq_getElem hk]at hx;exact⟨hk,by simpa using hx⟩
   ·rw [List.getElem?_eq_none oM]at hx;cases hx
  gi_wp2
  refine⟨aI.refl _ _,fun W3 hT3=> ?_⟩
  have h1':=hT3.box h1 oM
  have h2':=hT3.box h2 oM
  have h3':Below w.heap.size w W3:=h3.trans (hT3.below (by have:=h3.size;omega) (fun q hq=>by omega))
  have c1:=h1'.cell 0
  have c2:=h2'.cell 0
  have c3:=h1'.frozen 0
  have hs:lQ down f (vs.take (k+1))=i7 down vs[k] (lQ down f (vs.take k)):=by rw [List.take_succ_eq_append_getElem hk,lQ,List.foldl_append];rfl
  have HS:=Lib.hid hs
  clear hs hx
  simp only [List.getElem?_toArray,List.getElem?_cons_zero]at c1 c2
  generalize hacc:lQ down f (vs.take k)=acc at*
  generalize vs[k]=x at*
  have Hacc:=Lib.hid hacc
  clear hacc
  rcases hbf with⟨rfl,rfl⟩ | ⟨rfl,rfl⟩
  ·by_cases hlt:acc< x
   ·have hd:decide (acc< x)=true:=by simpa using hlt
    gi_wp2_with (gi_at_call 161;refine(callsIn_wide.2 (ry _ _ _)).mono ?_;rintro e w' ⟨rfl,rfl⟩)
    refine⟨aI.setCell (R:=(· =w.heap.size)) (p:=⟨w.heap.size,0,none⟩) (aI.refl _ _) (fun _=>rfl) _,?_,h2'.N9 (by simp) _,h3'.setCell (Nat.le_refl _) _⟩;have hb:=h1'.set 0 (.int .i64 x);simp only [List.setIfInBounds_toArray,List.set_cons_zero]at hb;rw [HS.out,show i7 true x acc=x by simp [i7];omega];exact hb
   ·have hd:decide (acc< x)=false:=by simpa using hlt
    gi_wp2_with (gi_at_call 161;refine(callsIn_wide.2 (ry _ _ _)).mono ?_;rintro e w' ⟨rfl,rfl⟩)
    refine⟨aI.refl _ _,?_,h2',h3'⟩;rw [HS.out,show i7 true x acc=acc by simp [i7];omega];exact h1'
  ·by_cases hlt:x< acc
   ·have hd:decide (x< acc)=true:=by simpa using hlt
    gi_wp2_with (gi_at_call 162;refine(callsIn_wide.2 (ri _ _ _)).mono ?_;rintro e w' ⟨rfl,rfl⟩)
    refine⟨aI.setCell (R:=(· =w.heap.size)) (p:=⟨w.heap.size,0,none⟩) (aI.refl _ _) (fun _=>rfl) _,?_,h2'.N9 (by simp) _,h3'.setCell (Nat.le_refl _) _⟩;have hb:=h1'.set 0 (.int .i64 x);simp only [List.setIfInBounds_toArray,List.set_cons_zero]at hb;rw [HS.out,show i7 false x acc=x by simp [i7];omega];exact hb
   ·have hd:decide (x< acc)=false:=by simpa using hlt
    gi_wp2_with (gi_at_call 162;refine(callsIn_wide.2 (ri _ _ _)).mono ?_;rintro e w' ⟨rfl,rfl⟩)
    refine⟨aI.refl _ _,?_,h2',h3'⟩;rw [HS.out,show i7 false x acc=acc by simp [i7];omega];exact h1'
 case hdone=>
  rintro D W ⟨h1,h2,h3⟩ hD hDd
  have c1:=h1.cell 0
  simp only [List.getElem?_toArray,List.getElem?_cons_zero,List.length_map,List.take_length]at c1
  gi_wp2
  refine oe [D] (.inr rfl) rfl (by simp) (by simpa using hDd) (fun w=>results_tmp rfl _ _ _) (fun w4 ht4=>⟨rfl,?_⟩)
  exact h3.trans (ht4.below (by have:=h3.size;omega) (fun q hq=>by simp;omega))
theorem En:∃i,sW Tryz.prog 41 2 i (.int .i64 0) 1 8:=IW Tryz.underlying41 kR rfl (by decide)
def jG(t h:List Int)(down:Bool)(i:Nat):Int:= lQ down (gi h i) ((List.range (fP i h.length t.length)).map fun k=>gi h (aJ i t.length+k)+(if down then- gi t (fM (aJ i t.length+k) i)else gi t (fM (aJ i t.length+k) i)))
def pP(t h:List Int)(down:Bool):List Int:=(List.range h.length).map (jG t h down)
def fk(t h:List Int)(down:Bool)(k:Nat):List Int:=(List.range h.length).map fun i=>if i< k then jG t h down i else 0
theorem xQ(t h:List Int)(down:Bool):fk t h down 0=List.replicate h.length 0:=by apply List.ext_getElem <;> simp [fk]
theorem zQ(t h:List Int)(down:Bool):fk t h down h.length=pP t h down:=by
 apply List.ext_getElem;·simp [fk,pP]
 ·intro i h1 h2;simp [fk,pP]at h1 ⊢;omega
theorem sg(t h:List Int)(down:Bool)(k:Nat):(fk t h down k).set k (jG t h down k)=fk t h down (k+1):=by
 apply List.ext_getElem;·simp [fk]
 ·intro i h1 h2;simp [fk]at h1 h2 ⊢;rw [List.getElem_set];by_cases e:k=i;·subst e;simp
  ·simp [e];by_cases h3:i< k;·simp [h3];intro h4;omega
   ·simp [h3];intro h4;omega
theorem lZ(t h:List Int)(down:Bool)(k:Nat):(fk t h down k).length=h.length:=by simp [fk]
theorem xk(h t:List Int)(down:Bool)(i:Nat) : pI h t down i=((List.range (fP i h.length t.length)).map fun k=>gi h (aJ i t.length+k)+(if down then- gi t (fM (aJ i t.length+k) i)else gi t (fM (aJ i t.length+k) i))).map fun v=> #[.int .i64 v]:=by simp [pI,HX]
theorem zR(At Ah:Option Addr)(r ct n ch:Nat)(t h:List Int)(down:Bool)(w:World)(hn:n<=65536)(hr:r<=65536)(ht:dY w At r t)(hh:dY w Ah n h) (hhb:∀x∈h, -16777216<=x/\x<=16777216) (htb:∀x∈t,0<=x/\x<=16777216) : Calls Tryz.prog 118 #[.agg #[.slice At r ct],.slice Ah n ch,.bool down] w fun e w'=>∃g,w.heap.size<=g/\e= .returned (.slice (some ⟨g,0,none⟩) n n)/\ cj w' g 2 (bx (pP t h down))/\Below w.heap.size w w':=by
 obtain⟨i0,hel⟩:=En;have hmk:=fun W=>Cy hel n oM oM W;go_enter Tryz.func118,Tryz.ntmps118
 go_wp2
 have b1:=((cj.new w 59 #[.slice At r ct]).alloc (.cells #[.slice Ah n ch] 41)).alloc (.cells #[.bool down] 4) |>.alloc (.cells (bx (List.replicate n 0)) 2)
 have b2:=((cj.new (w.alloc (.cells #[.slice At r ct] 59)) 41 #[.slice Ah n ch]).alloc (.cells #[.bool down] 4)).alloc (.cells (bx (List.replicate n 0)) 2);have b3:=(cj.new ((w.alloc (.cells #[.slice At r ct] 59)).alloc (.cells #[.slice Ah n ch] 41)) 4 #[.bool down]).alloc (.cells (bx (List.replicate n 0)) 2);have b4:=cj.new (((w.alloc (.cells #[.slice At r ct] 59)).alloc (.cells #[.slice Ah n ch] 41)).alloc (.cells #[.bool down] 4)) 2 (bx (List.replicate n 0));have hb0:=(((bp w (.cells #[.slice At r ct] 59)).alloc (by simp) (.cells #[.slice Ah n ch] 41)).alloc (by simp;omega) (.cells #[.bool down] 4)).alloc (by simp;omega) (.cells (bx (List.replicate n 0)) 2);have hs0:((((w.alloc (.cells #[.slice At r ct] 59)).alloc (.cells #[.slice Ah n ch] 41)).alloc (.cells #[.bool down] 4)).alloc (.cells (bx (List.replicate n 0)) 2)).heap.size=w.heap.size+1+1+1+1:=by simp
 simp only [World.size_alloc]at b1 b2 b3 b4;generalize (((w.alloc (.cells #[.slice At r ct] 59)).alloc (.cells #[.slice Ah n ch] 41)).alloc (.cells #[.bool down] 4)).alloc (.cells (bx (List.replicate n 0)) 2)=w0 at*;have hl1:h.length=n:=hh.1;rw [<-hl1,<-xQ t h down]at b4;have Hl1:=Lib.hid hl1;clear hl1 hmk;have hh0:=hh.bq hb0;have ht0:=ht.bq hb0;have nA:∀b,Ah.map (·.block)=some b->0< n->b< w.heap.size:=fun b hb hn0=>by obtain⟨b',o,rfl,hb',_⟩:=hh.2.2 hn0;simp at hb;omega
 go_loopw [16] (fun kv wr=>∃k:Nat,k<=n/\kv= .int .i64 k/\cj wr (w.heap.size+1+1+1) 2 (bx (fk t h down k))/\aI (· =w.heap.size+1+1+1) w0 wr) (fun kv wr=>n- (intOf kv).toNat)
 case atStart=>exact⟨0,Nat.zero_le _,rfl,b4,aI.refl _ _⟩
 case round=>
  obtain⟨k,hk,rfl,hbo,hT⟩:=hrel
  have c1:=hT.box b1 oM
  have c2:=hT.box b2 oM
  have c3:=hT.box b3 oM
  have hbw:Below w.heap.size w wr:=hb0.trans (hT.below oM (fun q hq=>by omega))
  by_cases hlt:k< n
  ·have hhw:=hh.bq hbw;have htw:=ht.bq hbw;obtain⟨bH,oH,rfl,hbH,hcH⟩:=ints_at hhw hlt;have d3:wr.cell? ⟨w.heap.size+1+1,0,none⟩=some (.bool down):=c3.cell 0;have d2:wr.cell? ⟨w.heap.size+1,0,none⟩=some (.slice (some ⟨bH,oH,none⟩) n ch):=c2.cell 0;have l1:=c1.lt;have l2:=c2.lt;have l3:=c3.lt;have l4:=hbo.lt;have hx1:cj (wr.alloc (.cells #[.int .i64 k] 3)) wr.heap.size 3 #[.int .i64 k]:=cj.new _ _ _;have hx2:=bp wr (.cells #[.int .i64 k] 3);have hx3:=FZ wr (.cells #[.int .i64 k] 3);cases down
   ·go_wp2
    generalize wr.alloc (.cells #[.int .i64 k] 3)=wx at*;have e1:=c1.below hx2 l1;have e2:=c2.below hx2 l2;have e3:=c3.below hx2 l3;have e4:=hbo.below hx2 l4;have hi:wx.cell? ⟨wr.heap.size,0,none⟩=some (.int .i64 k):=hx1.cell 0;have hbx:Below w.heap.size w wx:=hbw.trans (hx2.mono oM);have hit:∀(R:Nat->Prop) (w':World),Below wx.drew.heap.size wx.drew w'->(∀k,R k->wx.drew.heap.size<=k/\k< w'.heap.size)->
     Iter Tryz.prog 158 #[.pointer (some ⟨wr.heap.size,0,none⟩),.pointer (some ⟨w.heap.size+1,0,none⟩),.pointer (some ⟨w.heap.size,0,none⟩),.pointer (some ⟨w.heap.size+1+1,0,none⟩)] (((List.range (fP k h.length t.length)).map fun q=>gi h (aJ k t.length+q)+(if false then- gi t (fM (aJ k t.length+q) k)else gi t (fM (aJ k t.length+q) k))).map fun v=> #[.int .i64 v]) R w':=fun R w' hb hR=>by
     have hb':Below wx.heap.size wx w':=fc hb
     have hsx:∀q,q< wx.heap.size->¬R q:=fun q hq e=>by have:=(hR q e).1;have:wx.heap.size<=q:=this;omega
     have:=hx1.lt
     rw [<-xk]
     refine nC _ _ _ _ k (some ⟨bH,oH,none⟩) At n ch r ct h t false w' R hlt hn hr (hx1.below hb' oM) (e2.below hb' oM) (e1.below hb' oM) (e3.below hb' oM) ((hh.bq hbx).below hb' (Nat.le_refl _)) ((ht.bq hbx).below hb' (Nat.le_refl _)) hhb htb (hsx _ oM) (hsx _ oM) (hsx _ oM) (hsx _ oM) ?_ ?_ (fun q e=>(hR q e).2)
     ·intro b hb2;simp at hb2;exact hsx _ oM
     ·intro hr0 b hb2;obtain⟨b',o,rfl,hb3,_⟩:=ht.2.2 hr0;simp at hb2;exact hsx _ (by have:=hbx.size;omega)
    have Hit:=Lib.hid hit;clear hit;go_region_with (go_at_call 160;refine(qP false 162 (.inr ⟨rfl,rfl⟩) _ _ 158 _ wx.drew (enters_of Tryz.func158 kR rfl) Hit.out).mono ?_;rintro e w' ⟨rfl,hbw'⟩;have q1:w'.cell? ⟨wr.heap.size,0,none⟩=some (.int .i64 k):=(hx1.below (w:=wx.drew) hbw' hx1.lt).cell 0;have q2:w'.cell? ⟨w.heap.size+1+1+1,k,none⟩=some (.int .i64 (gi (fk t h false k) k)):=((e4.below (w:=wx.drew) hbw' e4.lt).cell k).trans (dK _ _ (by rw [lZ,Hl1.out];exact hlt));have q3:w'.frozen? ⟨w.heap.size+1+1+1,k,none⟩=false:=(e4.below (w:=wx.drew) hbw' e4.lt).frozen k)
    all_goals
     have hbw2:Below wx.heap.size wx w':=fc hbw'
     go_wp2
     go_roundw
     case rel=>
      refine⟨k+1,by omega,by go_num,?_,?_⟩
      ·have hs:=(e4.below hbw2 e4.lt).set k (.int .i64 (jG t h false k));rw [f8,sg]at hs;simpa [jG]using hs
      ·exact((hT.trans (aI.gR hx2)).trans (aI.gR hbw2)).setCell (fun _=>rfl) _
     case measure=>simp [intOf];omega
   ·go_wp2
    generalize wr.alloc (.cells #[.int .i64 k] 3)=wx at*;have e1:=c1.below hx2 l1;have e2:=c2.below hx2 l2;have e3:=c3.below hx2 l3;have e4:=hbo.below hx2 l4;have hi:wx.cell? ⟨wr.heap.size,0,none⟩=some (.int .i64 k):=hx1.cell 0;have hbx:Below w.heap.size w wx:=hbw.trans (hx2.mono oM);have hit:∀(R:Nat->Prop) (w':World),Below wx.drew.heap.size wx.drew w'->(∀k,R k->wx.drew.heap.size<=k/\k< w'.heap.size)->
     Iter Tryz.prog 158 #[.pointer (some ⟨wr.heap.size,0,none⟩),.pointer (some ⟨w.heap.size+1,0,none⟩),.pointer (some ⟨w.heap.size,0,none⟩),.pointer (some ⟨w.heap.size+1+1,0,none⟩)] (((List.range (fP k h.length t.length)).map fun q=>gi h (aJ k t.length+q)+(if true then- gi t (fM (aJ k t.length+q) k)else gi t (fM (aJ k t.length+q) k))).map fun v=> #[.int .i64 v]) R w':=fun R w' hb hR=>by
     have hb':Below wx.heap.size wx w':=fc hb
     have hsx:∀q,q< wx.heap.size->¬R q:=fun q hq e=>by have:=(hR q e).1;have:wx.heap.size<=q:=this;omega
     have:=hx1.lt
     rw [<-xk]
     refine nC _ _ _ _ k (some ⟨bH,oH,none⟩) At n ch r ct h t true w' R hlt hn hr (hx1.below hb' oM) (e2.below hb' oM) (e1.below hb' oM) (e3.below hb' oM) ((hh.bq hbx).below hb' (Nat.le_refl _)) ((ht.bq hbx).below hb' (Nat.le_refl _)) hhb htb (hsx _ oM) (hsx _ oM) (hsx _ oM) (hsx _ oM) ?_ ?_ (fun q e=>(hR q e).2)
     ·intro b hb2;simp at hb2;exact hsx _ oM
     ·intro hr0 b hb2;obtain⟨b',o,rfl,hb3,_⟩:=ht.2.2 hr0;simp at hb2;exact hsx _ (by have:=hbx.size;omega)
    have Hit:=Lib.hid hit;clear hit;go_region_with (go_at_call 160;refine(qP true 161 (.inl ⟨rfl,rfl⟩) _ _ 158 _ wx.drew (enters_of Tryz.func158 kR rfl) Hit.out).mono ?_;rintro e w' ⟨rfl,hbw'⟩;have q1:w'.cell? ⟨wr.heap.size,0,none⟩=some (.int .i64 k):=(hx1.below (w:=wx.drew) hbw' hx1.lt).cell 0;have q2:w'.cell? ⟨w.heap.size+1+1+1,k,none⟩=some (.int .i64 (gi (fk t h true k) k)):=((e4.below (w:=wx.drew) hbw' e4.lt).cell k).trans (dK _ _ (by rw [lZ,Hl1.out];exact hlt));have q3:w'.frozen? ⟨w.heap.size+1+1+1,k,none⟩=false:=(e4.below (w:=wx.drew) hbw' e4.lt).frozen k)
    all_goals
     have hbw2:Below wx.heap.size wx w':=fc hbw'
     go_wp2
     go_roundw
     case rel=>
      refine⟨k+1,by omega,by go_num,?_,?_⟩
      ·have hs:=(e4.below hbw2 e4.lt).set k (.int .i64 (jG t h true k));rw [f8,sg]at hs;simpa [jG]using hs
      ·exact((hT.trans (aI.gR hx2)).trans (aI.gR hbw2)).setCell (fun _=>rfl) _
     case measure=>simp [intOf];omega
  ·obtain rfl:k=n:=by omega
   go_wp2
   go_ret
   refine⟨_,?_,rfl,?_,hbw⟩;·omega
   ·rw [<-Hl1.out,zQ]at hbo;exact hbo
end Go.Proofs.YtjmbpjlojjgggaaGreatDoor
