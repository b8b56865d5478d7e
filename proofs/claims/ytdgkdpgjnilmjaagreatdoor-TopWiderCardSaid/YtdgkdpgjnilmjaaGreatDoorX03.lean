/-
  Several texts in one: Objects that are not written any more, or not needed any more, with what holds them. No condition. .. A contract whose row is not written any more. No condition.
-/
import Derived.Test.YtdgkdpgjnilmjaaGreatDoorX02
import Derived.Test.YtdgkdpgjnilmjaaGreatDoorX00
namespace Go.Ab
open Go.RowKit Go.Dw
def Hx(id:Nat)(v0:V):Ob->Ob->Prop
 | .box t cs,.box t' cs'=>t=t'/\(cs'=V.lz id v0 cs\/cs'=cs)
 | .row e sz n f,.row e' sz' n' f'=>e=e'/\sz=sz'/\n=n'/\∀i,i< n->f' i=V.lz id v0 (f i)\/f' i=f i
 | .mp s f,.mp s' f'=>s=s'/\(f'=f.map (V.fz id v0)\/f'=f)
 |_,_=>False
theorem DL{w:World}{L:Nat->Prop}{ρ:Nat->Option Value}{id:Nat}{v0:V}(h0:∀y,ρ id=some y->R w L ρ v0 y){us:List V}{xs:List Value}(h:RL w L ρ us xs):RL w L ρ (V.lz id v0 us) xs:=by
 refine⟨by rw [<-h.1,V.dH],fun i u x hu hx=> ?_⟩;rw [V.e8]at hu;cases hc:us[i]? with
 |none=>rw [hc]at hu;cases hu
 |some u'=>rw [hc]at hu;injection hu with hu;subst hu;obtain⟨q1,q2⟩:=h.2 i u' x hc hx;exact⟨mV h0 _ _ q1,q2⟩
theorem Real.z{W L:Nat->Prop}{w:World}{ρ:Nat->Option Value}{id j:Nat}{v0:V}{o o':Ob}(h0:∀y,ρ id=some y->R w L ρ v0 y)(h:Real W w L ρ j o)(hz:Hx id v0 o o'):Real W w L ρ j o':=by
 cases o with
 |box t cs=>
  cases o' with
  |box t' cs'=>
   obtain⟨rfl,rfl |rfl⟩:=hz;·obtain⟨b,xs,h1,h2,h3,h4,h5⟩:=h;exact⟨b,xs,h1,h2,h3,h4,DL h0 h5⟩
   ·exact h
  |row _ _ _ _=>exact hz.elim
  |mp _ _=>exact hz.elim
 |row e sz n f=>
  cases o' with
  |row e' sz' n' f'=>
   obtain⟨rfl,rfl,rfl,hf⟩:=hz;obtain⟨v,xs,h1,h2,h3,h4,h5⟩:=h;have hlen:∀i,i< n->(f' i).length=(f i).length:=fun i hi=>by
    rcases hf i hi with e |e <;> rw [e]
    exact V.dH _ _ _
   refine⟨v,xs,h1,h2,fun i hi=>(hlen i hi).trans (h3 i hi),?_,h5⟩;have key:∀(m:Nat),m<=n->∀xs,RL w L ρ (aF m f).flatten xs->RL w L ρ (aF m f').flatten xs:=by
    intro m;induction m with
    |zero=>intro _ xs h;exact h
    |succ m ih=>
     intro hm xs h;have e1:∀g:Nat->List V,(aF (m+1) g).flatten=(aF m g).flatten++g m:=fun g=>by simp [aF,List.range_succ]
     rw [e1]at h ⊢;have hl:=h.1;rw [List.length_append]at hl;have ex:xs=xs.take (aF m f).flatten.length++xs.drop (aF m f).flatten.length:=by simp
     have ha:RL w L ρ (aF m f).flatten (xs.take (aF m f).flatten.length):=by have:=h.sub 0 (aF m f).flatten.length;simpa using this
     have hb:RL w L ρ (f m) (xs.drop (aF m f).flatten.length):=by have:=h.sub (aF m f).flatten.length (f m).length;rw [List.drop_left,List.take_length,List.take_of_length_le (by rw [List.length_drop];omega)]at this;exact this
     rw [ex];refine(ih oM _ ha).append ?_;rcases hf m oM with e |e <;> rw [e]
     ·exact DL h0 hb
     ·exact hb
   exact key n (Nat.le_refl _) xs h4
  |box _ _=>exact hz.elim
  |mp _ _=>exact hz.elim
 |mp s f=>
  cases o' with
  |mp s' f'=>
   obtain⟨rfl,rfl |rfl⟩:=hz;·obtain⟨B,es,cl,hv',hBW,hBL,hh,hl⟩:=h;exact⟨B,es,cl,hv',hBW,hBL,hh,hl.Gu (fun v=>by rw [V.fz]) fun i u x _ hr=>mV h0 _ _ hr⟩
   ·exact h
  |box _ _=>exact hz.elim
  |row _ _ _ _=>exact hz.elim
theorem Le.Jh{s:S}(id:Nat){ob:Ob}(hσ:s.σ id=some ob)(v0:V){σ':Nat->Option Ob}(hs:∀i o',σ' i=some o'->i≠id/\∃o,s.σ i=some o/\Hx id v0 o o') (h0:∀(W:Nat->Prop) (w:World) (L:Nat->Prop) (ρ:Nat->Option Value),Real W w L ρ id ob->∀y,ρ id=some y->R w (fun b=>L b\/blk y=some b) ρ v0 y):Le s ⟨fun t=>V.fz id v0 (s.tm t),σ',s.nx⟩:=by
 intro P N C a w ⟨L,ρ,h⟩;have hr:=h.g.ob id _ hσ;obtain⟨v,hv,hlt⟩:=hr.lt;have ex:Ext w L ρ w (fun b=>L b\/blk v=some b) ρ:=⟨fun b hb=>⟨.inl hb,rfl⟩,fun _ _ h=>h⟩;have h0':∀y,ρ id=some y->R w (fun b=>L b\/blk v=some b) ρ v0 y:=fun y hy=>by
  have hy':=hy;rw [hv]at hy';injection hy' with hy';subst hy'
  exact h0 _ _ _ _ hr _ hy
 refine⟨fun b=>L b\/blk v=some b,ρ,⟨⟨fun b hbl=> ?_,h.g.new,fun id' o' (ho:σ' id'=some o')=> ?_,fun i j x y k hij (hi:σ' i≠none) (hj:σ' j≠none)=> ?_,h.g.td ex⟩,h.fr,fun t=>mV h0' _ _ ((h.tm t).ext ex),h.size,?_,h.pin⟩⟩
 ·rcases hbl with hbl |hbl;·exact h.g.ll b hbl
  ·exact⟨(hlt b hbl).1,C.wl b (hlt b hbl).2.1⟩
 ·obtain⟨hne,o,ho',hz⟩:=hs id' o' ho;have k:=(h.g.ob id' o ho').keep ex fun x k hx hk=>⟨rfl,by
   rintro(hL |hL)
   ·obtain⟨y,hy,hy2⟩:=(h.g.ob id' o ho').lt;rw [hx]at hy;injection hy with hy;subst hy
    exact(hy2 k hk).2.2 hL
   ·exact h.g.sep id' id x v k hne (by rw [ho'];simp) (by rw [hσ];simp) hx hv hk hL⟩
  exact k.z h0' hz
 ·obtain⟨o1,ho1⟩:=Option.ne_none_iff_exists'.1 hi;obtain⟨o2,ho2⟩:=Option.ne_none_iff_exists'.1 hj;obtain⟨_,p1,hp1,_⟩:=hs i o1 ho1;obtain⟨_,p2,hp2,_⟩:=hs j o2 ho2;exact h.g.sep i j x y k hij (by rw [hp1];simp) (by rw [hp2];simp)
 ·obtain⟨Ds,h4,h5,h6⟩:=h.defers;refine⟨Ds,h4,h5,fun D hD=> ?_⟩;obtain⟨h7,h8,h9⟩:=h6 D hD;refine⟨h7,h8,?_⟩;rintro(hL |hL);·exact h9 hL
  ·exact hr.fV hv hL h7
theorem zR{P:Program}{W LB:Nat->Prop}{d:Option Tmp}{ty:TypeId}{pos:String}{af:Array Edge}{gd:Option (Nat×Bool)}{ev:Operand->V}(t t':TypeId)(x y:Operand){e0 sz n id el:Nat}{row:Nat->List V}(he:cz P t=some el)(hx:ev x= .own id)(hy:ev y= .nil)(hn:0< n) : aQ P W LB ⟨d,.binOp .eql t x y t',ty,pos,af,gd⟩ ev (.b false) [(id,.row e0 sz n row)] [] []/\aQ P W LB ⟨d,.binOp .neq t x y t',ty,pos,af,gd⟩ ev (.b true) [(id,.row e0 sz n row)] [] []:=by
 have hu:=bE he;have run:∀w A c',(Op.equalIn Op.maxDepth t (.slice (some A) n c') (.slice none 0 0)).run P w= .ok false w:=by intro w A c';show(Op.equalIn (_+1) t _ _).run P w=_;unfold Op.equalIn;simp [ax hu]
 have key:∀ {σ:Nat->Option Ob}{w:World}{L:Nat->Prop}{ρ:Nat->Option Value}{g:Operand->Value},G W LB σ w L ρ->R w L ρ (ev x) (g x)->R w L ρ (ev y) (g y)->σ id=some (.row e0 sz n row)->∃A c',g x= .slice (some A) n c'/\g y= .slice none 0 0:=by
  intro σ w L ρ g hG h1 h2 hσ;rw [hx]at h1;rw [hy]at h2;have hρ:=h1.cy;obtain⟨v,xs,hv,hown,_⟩:=hG.ob id _ hσ;rw [hρ]at hv;injection hv with hv
  rcases hown.2 with⟨_,h0⟩ | ⟨g',cap,cur,h3,_⟩;·omega
  ·refine⟨_,_,hv.trans h3,?_⟩;generalize g y=Y at h2;cases h2;rfl
 constructor;·intro σ w L ρ g hG hr hpre _;obtain⟨A,c',e1,e2⟩:=key hG (hr x (by simp [Op.operands])) (hr y (by simp [Op.operands])) (hpre _ (List.mem_cons_self ..));exact aS.value (v:= .bool false) (w':=w) rfl (by simp [execOp,e1,e2,eqGuard,binOp,Op.equal,run w A c']) ⟨L,ρ,hG,.c _ _,aU.refl _ _,Ext.refl _ _ _,fun _ _=>rfl,cG.refl _ _⟩
 ·intro σ w L ρ g hG hr hpre _;obtain⟨A,c',e1,e2⟩:=key hG (hr x (by simp [Op.operands])) (hr y (by simp [Op.operands])) (hpre _ (List.mem_cons_self ..));exact aS.value (v:= .bool true) (w':=w) rfl (by simp [execOp,e1,e2,eqGuard,binOp,Op.equal,run w A c']) ⟨L,ρ,hG,.c _ _,aU.refl _ _,Ext.refl _ _ _,fun _ _=>rfl,cG.refl _ _⟩
theorem zK{P:Program}{d:Option Tmp}{ty:TypeId}{pos:String}{af:Array Edge}{gd:Option (Nat×Bool)}{ev:Operand->V}(t:Nat)(x:Operand)(h:iA P t=some true):aA P ⟨d,.makeInterface t x,ty,pos,af,gd⟩ ev (.ifc t (ev x)):= aA.same rfl fun w L ρ g hr=>by
 have h1:=hr x (by simp [Op.operands]);refine⟨.iface t (g x),?_,.ifc _ _ _ _ h1⟩;unfold iA at h;cases hu:P.underlying t with
 |none=>rw [hu]at h;cases h
 |some u=>
  rw [hu]at h;have hr':=fun w=>ax (w:=w) hu;cases u <;> first
   | (simp at h;done)
   |simp [execOp,Instr.makeInterface,hr']
theorem xJ{P:Program}{d:Option Tmp}{ty:TypeId}{pos:String}{af:Array Edge}{gd:Option (Nat×Bool)}{ev:Operand->V}(x:Operand){t:Nat}{v:V}(hx:ev x= .ifc t v):aA P ⟨d,.nilCheck x,ty,pos,af,gd⟩ ev (.ifc t v):= aA.same rfl fun w L ρ g hr=>by
 have h1:=hr x (by simp [Op.operands]);rw [hx]at h1;have h2:∃y,g x= .iface t y:=by generalize g x=y at h1;cases h1;exact⟨_,rfl⟩
 refine⟨g x,?_,h1⟩;obtain⟨y,hy⟩:=h2;simp [execOp,hy]
def sj(P:Program)(name:String)(t:Nat)(f:FuncId):Prop:=∀(v:Value) (w:World),(method (P.types.size+Made.depth) t v name).run P w= .ok (f,v) w
def A9(P:Program)(name:String)(t:Nat):Option FuncId:=match P.info? t with
 |some i=>match i.methods.find? (·.name == name)with
  |some m=>match m.path.toList with
   | []=>match m.func with
    |some (f,false)=>match iA P t with
     |some true=>some f
     |_=>none
    |_=>none
   |_::_=>none
  |none=>none
 |none=>none
theorem Ba{P:Program}{name:String}{t:Nat}{f:FuncId}(h:A9 P name t=some f):sj P name t f:=by
 intro v w;unfold A9 at h;split at h
 ·rename_i i hi;split at h
  ·rename_i m hm;split at h
   ·rename_i hp;split at h
    ·rename_i f' hf;split at h
     ·rename_i ha;injection h with h;subst h;have hti:(typeInfo t).run P w= .ok i w:=by simp [typeInfo,go_sem,hi]
      unfold iA at ha;cases hu:P.underlying t with
      |none=>rw [hu]at ha;cases ha
      |some u=>
       rw [hu]at ha;have hr':=fun w=>ax (w:=w) hu;show(method ((P.types.size+99)+1) t v name).run P w=_;unfold method;cases u <;> first
        | (simp at ha;done)
        |simp [hti,hm,hp,hf,follow,receiverAt,hr',Place.get]
     ·cases h
    ·cases h
   ·cases h
  ·cases h
 ·cases h
noncomputable section
inductive TR where
  |e
  |n (v:V) (l r:TR)
def TR.get:TR->Nat->V:=TR.rec (motive:=fun _=>Nat->V) (fun _=> .any) (fun v _ _ gl gr t=>Nat.rec (motive:=fun _=>V) v (fun t' _=>Bool.rec (motive:=fun _=>V) (gr (Nat.div t' 2)) (gl (Nat.div t' 2)) (Nat.beq (Nat.mod t' 2) 0)) t)
def TR.put:Nat->TR->Nat->V->TR:=Nat.rec (motive:=fun _=>TR->Nat->V->TR) (fun tr _ _=>tr) (fun _ ih tr t v=>TR.rec (motive:=fun _=>TR)
 (Nat.rec (motive:=fun _=>TR) (.n v .e .e) (fun t' _=>Bool.rec (motive:=fun _=>TR) (.n .any .e (ih .e (Nat.div t' 2) v)) (.n .any (ih .e (Nat.div t' 2) v) .e) (Nat.beq (Nat.mod t' 2) 0)) t)
 (fun u l r _ _=>Nat.rec (motive:=fun _=>TR) (.n v l r) (fun t' _=>Bool.rec (motive:=fun _=>TR) (.n u l (ih r (Nat.div t' 2) v)) (.n u (ih l (Nat.div t' 2) v) r) (Nat.beq (Nat.mod t' 2) 0)) t) tr)
theorem TR.gE(t:Nat):TR.get .e t= .any:=rfl
theorem TR.jT(v:V)(l r:TR):TR.get (.n v l r) 0=v:=rfl
theorem qP(t:Nat):Nat.beq (Nat.mod t 2) 0=decide (t% 2=0):=by show Nat.beq (t% 2) 0=_;rcases Nat.mod_two_eq_zero_or_one t with h |h <;> rw [h] <;> rfl
theorem TR.i5(v:V)(l r:TR)(t:Nat):TR.get (.n v l r) (t+1)=if t% 2=0 then l.get (t / 2)else r.get (t / 2):=by
 show Bool.rec (motive:=fun _=>V) (r.get (Nat.div t 2)) (l.get (Nat.div t 2)) (Nat.beq (Nat.mod t 2) 0)=_;rw [qP];by_cases h:t% 2=0;·rw [if_pos h,decide_eq_true h];rfl
 ·rw [if_neg h,decide_eq_false h];rfl
theorem TR.Fp(d:Nat)(v:V):TR.put (d+1) .e 0 v= .n v .e .e:=rfl
theorem TR.Fs(d:Nat)(u:V)(l r:TR)(v:V):TR.put (d+1) (.n u l r) 0 v= .n v l r:=rfl
theorem TR.Fq(d:Nat)(t:Nat)(v:V):TR.put (d+1) .e (t+1) v=if t% 2=0 then .n .any (TR.put d .e (t / 2) v) .e else .n .any .e (TR.put d .e (t / 2) v):=by
 show Bool.rec (motive:=fun _=>TR) _ _ (Nat.beq (Nat.mod t 2) 0)=_;rw [qP];by_cases h:t% 2=0;·rw [if_pos h,decide_eq_true h];rfl
 ·rw [if_neg h,decide_eq_false h];rfl
theorem TR.Ft(d:Nat)(u:V)(l r:TR)(t:Nat)(v:V):TR.put (d+1) (.n u l r) (t+1) v=if t% 2=0 then .n u (TR.put d l (t / 2) v) r else .n u l (TR.put d r (t / 2) v):=by
 show Bool.rec (motive:=fun _=>TR) _ _ (Nat.beq (Nat.mod t 2) 0)=_;rw [qP];by_cases h:t% 2=0;·rw [if_pos h,decide_eq_true h];rfl
 ·rw [if_neg h,decide_eq_false h];rfl
theorem TR.kW:∀(d:Nat) (tr:TR) (t t':Nat) (v:V),t+1< 2 ^ d->(TR.put d tr t v).get t'=if t'=t then v else tr.get t'
  |0,_,t,_,_,h=>by simp at h
  |d+1,.e,0,t',v,h=>by
    rw [TR.Fp]
    cases t' with
    |zero=>rw [TR.jT,if_pos rfl]
    |succ t'=>rw [TR.i5,TR.gE,TR.gE,if_neg (by omega:¬t'+1=0)];split <;> rfl
  |d+1,.n u l r,0,t',v,h=>by
    rw [TR.Fs]
    cases t' with
    |zero=>rw [TR.jT,if_pos rfl]
    |succ t'=>rw [TR.i5,TR.i5,if_neg (by omega:¬t'+1=0)]
  |d+1,.e,t+1,t',v,h=>by
    have hd:t / 2+1< 2 ^ d:=by rw [Nat.pow_succ]at h;omega
    rw [TR.Fq]
    by_cases hm:t% 2=0
    · rw [if_pos hm]
      cases t' with
      |zero=>rw [TR.jT,if_neg oM,TR.gE]
      |succ t'=>
        rw [TR.i5,TR.gE,TR.gE,TR.kW d .e _ _ _ hd,TR.gE]
        by_cases he:t'=t
        · subst he;rw [if_pos hm,if_pos rfl,if_pos rfl]
        · rw [if_neg (by omega:¬t'+1=t+1)]
          split
          · rw [if_neg oM]
          · rfl
    · rw [if_neg hm]
      cases t' with
      |zero=>rw [TR.jT,if_neg oM,TR.gE]
      |succ t'=>
        rw [TR.i5,TR.gE,TR.gE,TR.kW d .e _ _ _ hd,TR.gE]
        by_cases he:t'=t
        · subst he;rw [if_neg hm,if_pos rfl,if_pos rfl]
        · rw [if_neg (by omega:¬t'+1=t+1)]
          split
          · rfl
          · rw [if_neg oM]
  |d+1,.n u l r,t+1,t',v,h=>by
    have hd:t / 2+1< 2 ^ d:=by rw [Nat.pow_succ]at h;omega
    rw [TR.Ft]
    by_cases hm:t% 2=0
    · rw [if_pos hm]
      cases t' with
      |zero=>rw [TR.jT,TR.jT,if_neg oM]
      |succ t'=>
        rw [TR.i5,TR.i5,TR.kW d l _ _ _ hd]
        by_cases he:t'=t
        · subst he;rw [if_pos hm,if_pos rfl,if_pos rfl]
        · rw [if_neg (by omega:¬t'+1=t+1)]
          split
          · rw [if_neg oM]
          · rfl
    · rw [if_neg hm]
      cases t' with
      |zero=>rw [TR.jT,TR.jT,if_neg oM]
      |succ t'=>
        rw [TR.i5,TR.i5,TR.kW d r _ _ _ hd]
        by_cases he:t'=t
        · subst he;rw [if_neg hm,if_pos rfl,if_pos rfl]
        · rw [if_neg (by omega:¬t'+1=t+1)]
          split
          · rfl
          · rw [if_neg oM]
theorem TR.ir{tr:TR}{t:Nat}{v:V}(h:t< 1000):(TR.put 10 tr t v).get=bU tr.get t v:=by funext t';rw [TR.kW 10 tr t t' v oM];rfl
def dV:List (Nat×Option Ob)->Nat->Option Ob
 | [],_=>none
 | (k,o)::l,i=>match Nat.beq i k with
  |true=>o
  |false=>dV l i
def yd:List (Nat×Option Ob)->Nat->List (Nat×Option Ob)
 | [],_=>[]
 | (k',o')::l,k=>match Nat.beq k k' with
  |true=>yd l k
  |false=>(k',o')::yd l k
def BD:List (Nat×Option Ob)->Nat->Option Ob->List (Nat×Option Ob)
 | [],k,o=>[(k,o)]
 | (k',o')::l,k,o=>match Nat.beq k k' with
  |true=>(k,o)::l
  |false=>(k',o')::BD l k o
def Fo(l:List (Nat×Option Ob))(k:Nat)(o:Option Ob):List (Nat×Option Ob):=match o with
 |none=>yd l k
 |some o=>BD l k (some o)
theorem vu:∀(l:List (Nat×Option Ob)) (k i:Nat),dV (yd l k) i=if i=k then none else dV l i
 | [],k,i=>by simp only [yd,dV];split <;> rfl
 | (k',o')::l,k,i=>by
  simp only [yd];split
  ·rename_i h;have h:=Nat.eq_of_beq_eq_true h;subst h;rw [vu l k i];simp only [dV];split;·rfl
   ·rename_i h2;split;·rename_i h3;exact absurd (Nat.eq_of_beq_eq_true h3) h2
    ·rfl
  ·rename_i h;have h:=Nat.ne_of_beq_eq_false h;simp only [dV];split;·rename_i h2;have h2:=Nat.eq_of_beq_eq_true h2;rw [if_neg oM]
   ·exact vu l k i
theorem A3:∀(l:List (Nat×Option Ob)) (k:Nat) (o:Option Ob) (i:Nat),dV (BD l k o) i=if i=k then o else dV l i
 | [],k,o,i=>by
  simp only [BD,dV];split;·rename_i h;rw [if_pos (Nat.eq_of_beq_eq_true h)]
  ·rename_i h;rw [if_neg (Nat.ne_of_beq_eq_false h)]
 | (k',o')::l,k,o,i=>by
  simp only [BD];split
  ·rename_i h;have h:=Nat.eq_of_beq_eq_true h;subst h;simp only [dV];split;·rename_i h;rw [if_pos (Nat.eq_of_beq_eq_true h)]
   ·rename_i h;rw [if_neg (Nat.ne_of_beq_eq_false h)]
  ·rename_i h;have h:=Nat.ne_of_beq_eq_false h;simp only [dV];split;·rename_i h2;have h2:=Nat.eq_of_beq_eq_true h2;rw [if_neg oM]
   ·exact A3 l k o i
theorem Fi(l:List (Nat×Option Ob))(k:Nat)(o:Option Ob)(i:Nat):dV (Fo l k o) i=if i=k then o else dV l i:=by
 cases o with
 |none=>exact vu l k i
 |some o=>exact A3 l k (some o) i
theorem C9(l:List (Nat×Option Ob))(k:Nat)(o:Option Ob):dV (Fo l k o)=bU (dV l) k o:=by funext i;exact Fi l k o i
def wY:List (Nat×Option Ob)->List (Nat×Option Ob)->List (Nat×Option Ob)
 |l,[]=>l
 |l,(k,o)::δ=>wY (Fo l k o) δ
theorem tE:∀(δ l:List (Nat×Option Ob)),dV (wY l δ)=bA (dV l) δ
 | [],l=>rfl
 | (k,o)::δ,l=>by rw [wY,tE,C9,bA]
structure CS where
  tr:TR
  sl:List (Nat×Option Ob)
  nx:Nat
def CS.den(s:CS):S:=⟨s.tr.get,dV s.sl,s.nx⟩
def GC(tr:TR)(d:Option Tmp)(v:V):TR:=match d with
 |some t=>TR.put 10 tr t v
 |none=>tr
theorem Bp{tr:TR}{d:Option Tmp}{v:V}(h:∀t,d=some t->t< 1000):(GC tr d v).get=cZ tr.get d v:=by
 cases d with
 |none=>rfl
 |some t=>exact TR.ir (h t rfl)
inductive CT where
  |lf (l:List (CE×CE))
  |nd (a b:CT)
inductive CU where
  |lf (l:List CE)
  |nd (a b:CU)
def CT.l:CT->CU
 | .lf l=> .lf (l.map Prod.fst)
 | .nd a b=> .nd a.l b.l
def CT.r:CT->CU
 | .lf l=> .lf (l.map Prod.snd)
 | .nd a b=> .nd a.r b.r
def iK:CT->Prop
 | .lf l=>gP l
 | .nd a b=>iK a/\iK b
theorem vg:∀ {t:CT},t.l=t.r->iK t
 | .lf l,h=>by simp only [CT.l,CT.r,CU.lf.injEq]at h;exact ve h
 | .nd a b,h=>by simp only [CT.l,CT.r,CU.nd.injEq]at h;exact⟨vg h.1,vg h.2⟩
mutual
def V.ids:V->List Nat
 | .agg cs=>V.lO cs
 | .tup cs=>V.lO cs
 | .fn _ a b=>V.lO a++V.lO b
 | .ifc _ v=>v.ids
 | .gd _ v=>v.ids
 | .alt _ v u=>v.ids++u.ids
 | .own i=>[i]
 | .ref i _=>[i]
 | .oel i _ _ _=>[i]
 | .osl i _ _ _=>[i]
 |_=>[]
def V.lO:List V->List Nat
 | []=>[]
 |v::l=>v.ids++V.lO l
end
def gZ:List Nat->Nat->Bool
 | [],_=>false
 |k::l,i=>match Nat.beq i k with
  |true=>true
  |false=>gZ l i
def EZ:List (List V)->List Nat->List Nat
 | [],t=>t
 |r::l,t=>match V.aZ r with
  |true=>EZ l t
  |false=>V.lO r++EZ l t
def dZ(σ:Nat->Option Ob):Nat->List Nat->List Nat->List Nat
 |0,_,seen=>seen
 |_+1,[],seen=>seen
 |k+1,i::todo,seen=>match gZ seen i with
  |true=>dZ σ k todo seen
  |false=>match σ i with
   |some (.box _ cs)=>dZ σ k (V.lO cs++todo) (seen++[i])
   |some (.row _ _ n f)=>dZ σ k (EZ ((List.range n).map f) todo) (seen++[i])
   |_=>dZ σ k todo (seen++[i])
def tu:List Nat->Nat->Nat
 | [],_=>0
 |k::l,i=>match Nat.beq i k with
  |true=>0
  |false=>tu l i+1
def rowOf(l:List (List V))(i:Nat):List V:=l.getD i []
def uu(g:Nat->Nat):Ob->Option Ob
 | .box t cs=>some (.box t (V.aP g cs))
 | .row e sz n f=>match ((List.range n).map f).all V.aZ with
  |true=>some (.row e sz n (rowOf ((List.range n).map f)))
  |false=>some (.row e sz n (rowOf (((List.range n).map f).map (V.aP g))))
 | .mp s f=>match f.l.all fun p=>p.2.bX with
  |true=>some (.mp s f)
  |false=>none
def tA(σ:Nat->Option Ob)(g:Nat->Nat):List Nat->Option (List (Ob×Ob))
 | []=>some []
 |k::ns=>match σ k with
  |some o=>match uu g o with
   |some o'=>match tA σ g ns with
    |some l=>some ((o,o')::l)
    |none=>none
   |none=>none
  |none=>none
def Hy(g:Nat->Nat)(n:Nat)(f f':Nat->List V):List (CE×CE):=match ((List.range n).map f).all V.aZ with
 |true=>[]
 |false=>(List.range n).map fun i=>(.vs (f i),.vs (V.aP g (f' i)))
def uT(g:Nat->Nat):Ob×Ob->List (CE×CE)
 | (.box _ cs,.box _ cs')=>[(.vs cs,.vs (V.aP g cs'))]
 | (.row _ _ n f,.row _ _ _ f')=>Hy g n f f'
 |_=>[]
def de(g:Nat->Nat):List (Ob×Ob)->List (CE×CE)
 | []=>[]
 |p::l=>uT g p++de g l
def E2(k:Nat):Ob×Ob->Bool
 | (_,.box _ cs)=>V.cB k cs
 | (.row _ _ n f,.row _ _ _ f')=>match ((List.range n).map f).all V.aZ with
  |true=>true
  |false=>((List.range n).map f').all (V.cB k)
 |_=>true
def pq(n:Nat):List (Ob×Ob)->Bool
 | []=>true
 |p::l=>E2 n p && pq n l
theorem cM{g:Nat->Nat}{l:List V}(h:V.aZ l=true):V.aP g l=l:=V.cM g l h
theorem fm{l:List (List V)}(h:l.all V.aZ=true)(i:Nat):V.aZ (rowOf l i)=true:=by
 unfold rowOf;rw [List.getD_eq_getElem?_getD];cases hi:l[i]? with
 |none=>rfl
 |some x=>exact List.all_eq_true.1 h x (List.mem_of_getElem? hi)
theorem jD{f:Nat->List V}{n i:Nat}(h:i< n):rowOf ((List.range n).map f) i=f i:=by unfold rowOf;rw [List.getD_eq_getElem?_getD,List.getElem?_map,List.getElem?_range h];rfl
theorem Bb{f:MF}(h:(f.l.all fun p=>p.2.bX)=true)(g:Nat->Nat):f.map (V.bg g)=f:=by
 obtain⟨l,rest⟩:=f;show MF.mk (l.map fun p=>(p.1,V.bg g p.2)) rest=⟨l,rest⟩;congr 1
 have h':∀p∈l,p.2.bX=true:=fun p hp=>List.all_eq_true.1 h p hp;clear h;induction l with
 |nil=>rfl
 |cons p l ih=>rw [List.map_cons,ih fun q hq=>h' q (by simp [hq]),V.dK g _ (h' p (by simp))]
theorem Da{f:MF}(h:(f.l.all fun p=>p.2.bX)=true){k:MK}{u:V}(hu:f.look k=some u):u.bX=true:=by
 obtain⟨l,rest⟩:=f;have h':∀p∈l,p.2.bX=true:=fun p hp=>List.all_eq_true.1 h p hp;have hu':fH rest k l=some u:=hu;clear h hu;induction l with
 |nil=>simp only [fH,Option.map_eq_some_iff]at hu';obtain⟨v,_,rfl⟩:=hu';rfl
 |cons p l ih=>
  simp only [fH]at hu';split at hu';·injection hu' with hu';subst hu';exact h' p (by simp)
  ·exact ih (fun q hq=>h' q (by simp [hq])) hu'
theorem lT{g gi:Nat->Nat}{o o':Ob}(h:uu gi o=some o')(he:gP (de g [(o,o')])):dQ o (o'.bg g):=by
 have he:gP (uT g (o,o')):=fun p hp=>he p (by simp only [de,List.append_nil];exact hp);cases o with
 |box t cs=>simp only [uu,Option.some.injEq]at h;subst h;have h1:=he.hd;injection h1 with h1;exact⟨rfl,h1⟩
 |row e sz n f=>
  simp only [uu]at h;split at h;·rename_i hi;injection h with h;subst h;refine⟨rfl,rfl,rfl,fun i hi'=> ?_⟩;show f i=V.aP g (rowOf ((List.range n).map f) i);rw [cM (fm hi i),jD hi']
  ·rename_i hi;injection h with h;subst h;refine⟨rfl,rfl,rfl,fun i hi'=> ?_⟩;simp only [uT,Hy,hi]at he;have h1:=he (.vs (f i),.vs (V.aP g (rowOf (((List.range n).map f).map (V.aP gi)) i))) (List.mem_map.2 ⟨i,List.mem_range.2 hi',rfl⟩);injection h1 with h1
 |mp str f=>
  simp only [uu]at h;split at h;·rename_i hi;injection h with h;subst h;refine⟨rfl,fun k=> ?_⟩;show f.look k=(f.map (V.bg g)).look k;rw [Bb hi g]
  ·cases h
theorem Fj{n:Nat}{gi:Nat->Nat}{o o':Ob}(h:uu gi o=some o')(he:pq n [(o,o')]=true):o'.iL n:=by
 have he:E2 n (o,o')=true:=by simpa only [pq,Bool.and_true]using he
 cases o with
 |box t cs=>simp only [uu,Option.some.injEq]at h;subst h;exact he
 |row e sz m f=>
  simp only [uu]at h;split at h;·rename_i hi;injection h with h;subst h;exact fun i _=>fD n _ (fm hi i)
  ·rename_i hi;injection h with h;subst h;intro i hi';simp only [E2,hi]at he;exact List.all_eq_true.1 he _ (List.mem_map.2 ⟨i,List.mem_range.2 hi',rfl⟩)
 |mp str f=>
  simp only [uu]at h;split at h;·rename_i hi;injection h with h;subst h;exact fun k u hu=>jx n u (Da hi hu)
  ·cases h
def qw(g:Nat->Nat):Ob->List (CE×CE)
 | .box _ cs=>[(.vs cs,.vs (V.aP g cs))]
 | .row _ _ n f=>Hy g n f f
 |_=>[]
theorem yV{l:List (List V)}{i:Nat}(h:l.length<=i):rowOf l i=[]:=by unfold rowOf;rw [List.getD_eq_getElem?_getD,List.getElem?_eq_none h];rfl
theorem tH{g gi:Nat->Nat}{o o':Ob}(h:uu gi o=some o')(he:gP (qw g o')):o'.bg g=o':=by
 cases o with
 |box t cs=>simp only [uu,Option.some.injEq]at h;subst h;have h1:=he.hd;injection h1 with h1;rw [Ob.bg,<-h1]
 |row e sz m f=>
  simp only [uu]at h;split at h
  ·rename_i hi;injection h with h;subst h;rw [Ob.bg];congr 1
   funext i;exact cM (fm hi i)
  ·injection h with h;subst h;rw [Ob.bg];congr 1
   funext i;by_cases hlt:i< m
   ·generalize ((List.range m).map f).map (V.aP gi)=l at he;simp only [qw,Hy]at he;split at he;·rename_i ha;exact cM (by have:=List.all_eq_true.1 ha _ (List.mem_map.2 ⟨i,List.mem_range.2 hlt,rfl⟩);exact this)
    ·have h1:=he (.vs (rowOf l i),.vs (V.aP g (rowOf l i))) (List.mem_map.2 ⟨i,List.mem_range.2 hlt,rfl⟩);injection h1 with h1;exact h1.symm
   ·rw [yV (by simp;omega)];rfl
 |mp str f=>
  simp only [uu]at h;split at h;·rename_i hi;injection h with h;subst h;show Ob.mp str (f.map (V.bg g))= .mp str f;rw [Bb hi g]
  ·cases h
theorem mB{g:Nat->Nat}{p:Ob×Ob}{l:List (Ob×Ob)}(h:gP (de g (p::l))):gP (de g [p])/\gP (de g l):= ⟨fun q hq=>h q (List.mem_append.2 (.inl (by simpa only [de,List.append_nil]using hq))),fun q hq=>h q (List.mem_append.2 (.inr hq))⟩
theorem qf{n:Nat}{p:Ob×Ob}{l:List (Ob×Ob)}(h:pq n (p::l)=true):pq n [p]=true/\pq n l=true:=by simp only [pq,Bool.and_eq_true,Bool.and_true]at h ⊢;exact h
theorem i9{σ:Nat->Option Ob}{gi:Nat->Nat}:∀ {ns:List Nat}{l:List (Ob×Ob)},tA σ gi ns=some l->l.length=ns.length/\∀(i:Nat) (p:Ob×Ob),l[i]?=some p->∃k,ns[i]?=some k/\σ k=some p.1/\uu gi p.1=some p.2
 | [],l,h=>by simp only [tA,Option.some.injEq]at h;subst h;exact⟨rfl,fun i p h=>by simp at h⟩
 |k::ns,l,h=>by
  simp only [tA]at h;split at h
  ·rename_i o ho;split at h
   ·rename_i o' ho';split at h
    ·rename_i l' hl;injection h with h;subst h;obtain⟨h1,h2⟩:=i9 hl;refine⟨by simp [h1],fun i p hp=> ?_⟩;cases i with
     |zero=>simp at hp;subst hp;exact⟨k,rfl,ho,ho'⟩
     |succ i=>simpa using h2 i p (by simpa using hp)
    ·cases h
   ·cases h
  ·cases h
theorem dS{g:Nat->Nat}:∀ {l:List (Ob×Ob)},gP (de g l)->∀ {i:Nat}{p:Ob×Ob},l[i]?=some p->gP (de g [p])
 |q::l,h,0,p,hp=>by simp at hp;subst hp;exact(mB h).1
 |q::l,h,i+1,p,hp=>dS (mB h).2 (by simpa using hp)
theorem tv{n:Nat}:∀ {l:List (Ob×Ob)},pq n l=true->∀ {i:Nat}{p:Ob×Ob},l[i]?=some p->pq n [p]=true
 |q::l,h,0,p,hp=>by simp at hp;subst hp;exact(qf h).1
 |q::l,h,i+1,p,hp=>tv (qf h).2 (by simpa using hp)
structure CR where
  v:V
  outs:List (Option Ob)
  obs:List Ob
  e:CT
abbrev dO:Type:=FuncId->List V->List Ob->Option CR
def Bf:Nat:=999999999
def cw(P:Program)(call:dO):Prop:=(∀f args ins r,Nat.beq f Bf=false->call f args ins=some r->iK r.e->AM P f args ins r.v r.outs r.obs)/\ ∀(name:String) (t:Nat) (r:CR) (n:Int),call Bf [.fn (.method name) [] [],.i (t:Int)] []=some r->r.v= .i n->sj P name t n.toNat
structure SX where
  v:V
  pre:List (Nat×Ob)
  δ:List (Nat×Option Ob)
  e:CT
def om:List Nat->Bool
 | []=>true
 |k::l=>match gZ l k with
  |true=>false
  |false=>om l
def z0(call:dO)(nx:Nat)(d:Nat)(f:FuncId)(as0:List V)(ns:List Nat)(l:List (Ob×Ob)):Option SX:=
 match decide (d< 1000) && (om ns && (V.cB l.length (V.aP (fun i=>500+tu ns i) as0) && (pq l.length l && !Nat.beq f Bf)))with
  |true=>match call f (V.aP (fun i=>500+tu ns i) as0) (l.map Prod.snd)with
   |some r=>match Nat.ble r.obs.length 90 && Nat.beq r.outs.length l.length with
    |true=>some ⟨r.v.bg (aI nx (some d) ns),gI ns (l.map Prod.fst),gG (aI nx (some d) ns) ns r.outs++ck (aI nx (some d) ns) 0 r.obs,
     .nd (.lf ((.vs as0,.vs (V.aP (aI nx (some d) ns) (V.aP (fun i=>500+tu ns i) as0)))::de (aI nx (some d) ns) l)) r.e⟩
    |false=>none
   |none=>none
  |false=>none
def sL(call:dO)(nx:Nat)(σ:Nat->Option Ob)(o:Oper)(f:FuncId)(as0:List V):Option SX:=
 match o.dst with
  |some d=>match tA σ (fun i=>500+tu (dZ σ 1000 (V.lO as0) []) i) (dZ σ 1000 (V.lO as0) [])with
   |some l=>z0 call nx d f as0 (dZ σ 1000 (V.lO as0) []) l
   |none=>none
  |none=>none
def I4(M:List Nat)(tm:Nat->V)(o:Oper):List Nat:=match o.op with
 | .box _ y=>match bQ (ug (ev tm y))with
  |some us=>match V.aZ us with
   |true=>M
   |false=>[o.dst.getD 0]
  |none=>M
 | .buildSlice _ n parts=>match n with
  |0=>[o.dst.getD 0]
  |_+1=>match V.aZ (parts.toList.map fun p=>ug (ev tm p.2))with
   |true=>M
   |false=>[o.dst.getD 0]
 |_=>M
def p0(o:Oper):Bool:=match o.dst with
 |some t=>Nat.ble t 999
 |none=>match o.op with
  | .store _ _ _=>true
  | .insert _ _ _ _=>true
  | .mapUpdate _ _ _ _=>true
  |_=>false
theorem z5{o:Oper}(h:p0 o=true):jN o=true:=by
 unfold p0 at h;unfold jN;split at h;·rename_i t ht;have:=Nat.le_of_ble_eq_true h;simp only [ht];exact decide_eq_true (Nat.lt_succ_of_le this)
 ·rename_i ht;simp only [ht];exact h
def H6(T:List TI)(M:List Nat)(nx:Nat)(tm:Nat->V)(σ:Nat->Option Ob)(o:Oper):Option SX:=
 match o.op with
  | .pick x a b=>match ev tm x with
   | .c (.bool t)=>match ov t (ug (ev tm a)) (ug (ev tm b))with
    |some v=>match jc o with
     |true=>some ⟨v,[],[],.lf (Iv (Hz (t == true) (ev tm a)++Hz (t == false) (ev tm b)))⟩
     |false=>none
    |none=>none
   |_=>none
  |_=>match p0 o && pH (opsV tm o)with
   |true=>match (w5 T false o (fun x=>ug (ev tm x)) σ).dec with
    |true=>match mK T false (I4 M tm o) nx o (fun x=>ug (ev tm x)) σ with
     |some r=>some ⟨r.v,r.pre,r.δ,.lf [(.p r.c,.p (w5 T false o (fun x=>ug (ev tm x)) σ).den)]⟩
     |none=>none
    |false=>match (w5 T true o (fun x=>ug (ev tm x)) σ).dec with
     |true=>match mK T true (I4 M tm o) nx o (fun x=>ug (ev tm x)) σ with
      |some r=>some ⟨r.v,r.pre,r.δ,.lf [(.p r.c,.p (w5 T true o (fun x=>ug (ev tm x)) σ).den)]⟩
      |none=>none
     |false=>none
   |false=>none
def vC(T:List TI)(tm:Nat->V)(σ:Nat->Option Ob)(o:Oper):Option SX:=match o.op with
 | .binOp op t x y _=>match ev tm x with
  | .own id=>match ev tm y with
   | .nil=>match (T.getD t bw).elem with
    |some _=>match σ id with
     |some (.row e sz n row)=>match n with
      |0=>none
      |k+1=>match jc o with
       |true=>match op with
        | .eql=>some ⟨.b false,[(id,.row e sz (k+1) row)],[],.lf []⟩
        | .neq=>some ⟨.b true,[(id,.row e sz (k+1) row)],[],.lf []⟩
        |_=>none
       |false=>none
     |_=>none
    |none=>none
   |_=>none
  |_=>none
 |_=>none
theorem oa:∀ {l:List Nat}{i:Nat},gZ l i=false->i∉l
 | [],_,_=>by simp
 |k::l,i,h=>by
  simp only [gZ]at h;split at h;·cases h
  ·rename_i hb;have hb:=Nat.ne_of_beq_eq_false hb;simp only [List.mem_cons,not_or];exact⟨hb,oa h⟩
theorem lV:∀ {l:List Nat},om l=true->l.Nodup
 | [],_=> .nil
 |k::l,h=>by
  simp only [om]at h;split at h;·cases h
  ·rename_i hb;exact List.nodup_cons.2 ⟨oa hb,lV h⟩
section
variable {P:Program}{W LB:Nat->Prop}{T:List TI}{M:List Nat}{nx:Nat}{tm:Nat->V}{σ:Nat->Option Ob}{o:Oper}{x:SX}{call:dO}
def B5(P:Program)(W LB:Nat->Prop)(nx:Nat)(tm:Nat->V)(σ:Nat->Option Ob)(o:Oper)(x:SX):Prop:= ∃nw,aQ P W LB o (ev tm) x.v x.pre nw x.δ/\(∀p∈x.pre,σ p.1=some p.2)/\jJ nx o.dst nw/\∀t,o.dst=some t->t< 1000
theorem iY(hT:aO T P){wr:Bool}{r:SR}(hd:(p0 o && pH (opsV tm o))=true)(h:mK T wr M nx o (fun x=>ug (ev tm x)) σ=some r)(hc:r.c){e:CT}:B5 P W LB nx tm σ o ⟨r.v,r.pre,r.δ,e⟩:=by simp only [Bool.and_eq_true]at hd;have hd:jN o=true/\pH (opsV tm o)=true:=⟨z5 hd.1,hd.2⟩;rw [A0]at h;obtain⟨h1,h2,h3⟩:=eZ (W:=W) (LB:=LB) hT o h hc (gU hd.1);exact⟨r.nw,h1.weaken fun x hx _ _ _ _ hy=>hy.ug (lU hd.2 _ (jd hx)),h2,D9 hd.1 h3,fun t ht=>sS hd.1 ht⟩
theorem wV{c:Prop}{q:PQ}(h:CE.p c=CE.p q.den)(hq:q.dec=true):c:=by injection h with h;rw [h];exact PQ.ok hq
theorem Ae(hT:aO T P)(h:H6 T M nx tm σ o=some x)(he:iK x.e):B5 P W LB nx tm σ o x:=by
 unfold H6 at h;split at h
 ·rename_i xx a b hop;split at h
  ·rename_i t hx;split at h
   ·rename_i v hv;split at h;·rename_i hd;injection h with h;subst h;have hp:=gP.ps he;obtain⟨d,op,ty,pos,af,gd⟩:=o;simp only at hop;subst hop;refine⟨[],(sy xx a b hx (s9 hp.l) (s9 hp.r) (je hv)).step,by simp,by simp [jJ],fun t ht=> ?_⟩;simp only at ht;subst ht;simpa [jc]using hd
    ·cases h
   ·cases h
  ·cases h
 ·split at h
  ·rename_i hd;split at h
   ·rename_i hq;split at h;·rename_i r hr;injection h with h;subst h;exact iY hT hd hr (wV he.hd hq)
    ·cases h
   ·split at h
    ·rename_i hq;split at h;·rename_i r hr;injection h with h;subst h;exact iY hT hd hr (wV he.hd hq)
     ·cases h
    ·cases h
  ·cases h
theorem pZ(hcl:cw P call)(hwl:∀b,W b->LB b){f:FuncId}{as0:List V}(hpl:ij o.op=true)(hex:IY P o (ev tm) f as0)(h:sL call nx σ o f as0=some x)(he:iK x.e):B5 P W LB nx tm σ o x:=by
  unfold sL at h
  split at h
  · rename_i d hd
    split at h
    · rename_i l hl
      generalize dZ σ 1000 (V.lO as0) []=ns at h hl
      unfold z0 at h
      split at h
      · rename_i hb
        split at h
        · rename_i r hr
          split at h
          · rename_i hb2
            injection h with h;subst h
            simp only [Bool.and_eq_true,decide_eq_true_eq]at hb hb2
            obtain⟨hb0,hb1,hb3,hb4,hbm⟩:=hb
            obtain⟨hbo,hbl⟩:=hb2
            have hbl:=Nat.eq_of_beq_eq_true hbl
            have hbo:=Nat.le_of_ble_eq_true hbo
            obtain⟨hlen,hget⟩:=i9 hl
            have hE:=he.1
            have h1:=hE.hd
            injection h1 with h1
            have hB:=hE.tl
            have am:=hcl.1 _ _ _ _ (by simpa using hbm) hr he.2
            refine⟨(List.range r.obs.length).map (ay nx (some d)),pX (W:=W) (LB:=LB) (d:=some d) (ins':=l.map Prod.fst) am hwl ns hpl hex nx h1 (by simpa using hb3) (by simpa using hb0) hbo (lV hb1) (by simp [hlen]) (by simpa using hbl) (by simp) (fun i o o' h2 h3=> ?_),fun p hp=> ?_,?_,?_⟩
            · simp only [List.getElem?_map,Option.map_eq_some_iff]at h2 h3
              obtain⟨p,hp,rfl⟩:=h2
              obtain⟨q,hq,rfl⟩:=h3
              rw [hp]at hq
              injection hq with hq
              subst hq
              obtain⟨k,_,_,hn⟩:=hget i p hp
              exact⟨lT hn (dS hB hp),by simpa using Fj hn (tv hb4 hp)⟩
            · have key:∀(ns:List Nat) (l:List (Ob×Ob)),(∀(i:Nat) (p:Ob×Ob),l[i]?=some p->∃k,ns[i]?=some k/\σ k=some p.1)->∀p∈gI ns (l.map Prod.fst),σ p.1=some p.2:=by
                intro ns
                induction ns with
                |nil=>intro l _ p hp;simp [gI]at hp
                |cons k ns ih=>
                  intro l hl p hp
                  cases l with
                  |nil=>simp [gI]at hp
                  |cons q l=>
                    simp only [List.map_cons,gI,List.mem_cons]at hp
                    rcases hp with rfl |hp
                    · obtain⟨k',h1,h2⟩:=hl 0 q rfl
                      simp at h1;subst h1
                      exact h2
                    · exact ih l (fun i p hp=>by simpa using hl (i+1) p (by simpa using hp)) p hp
              exact key ns l (fun i p hp=>(hget i p hp).imp fun k h=>⟨h.1,h.2.1⟩) p hp
            · intro id hid
              obtain⟨j,hj,rfl⟩:=List.mem_map.1 hid
              have hj':j< r.obs.length:=by simpa using hj
              refine⟨d,hd,?_,?_,?_⟩ <;> simp only [ay,Option.getD_some] <;> omega
            · intro t ht
              rw [hd]at ht
              simp only [Option.some.injEq]at ht
              subst ht
              exact hb0
          · cases h
        · cases h
      · cases h
    · cases h
  · cases h
theorem tj{ar:Array Operand}{w:World}{L:Nat->Prop}{ρ:Nat->Option Value}{g:Operand->Value}{e:Operand->V}(hr:∀x∈ar,R w L ρ (e x) (g x)):RV w L ρ (ar.toList.map e) (ar.map g).toList:=by refine⟨by simp,fun i u x hu hx=> ?_⟩;simp only [List.getElem?_map,Option.map_eq_some_iff,Array.toList_map]at hu hx;obtain⟨p,hp,rfl⟩:=hu;obtain⟨q,hq,rfl⟩:=hx;rw [hp]at hq;injection hq with hq;subst hq;exact hr p (by simpa using List.mem_of_getElem? hp)
theorem z4(hcl:cw P call)(hwl:∀b,W b->LB b){f:FuncId}{as0:List V}(hq:wA (ev tm) o=some (f,as0))(h:sL call nx σ o f as0=some x)(he:iK x.e):B5 P W LB nx tm σ o x:=by
 obtain⟨d',fo,ar,ats,ty,pos,af,gd,first,caps,rfl,hf,ha⟩:=uX hq;refine pZ hcl hwl rfl (fun w L ρ g hr=> ?_) h he;have h1:=hr fo (by simp [Op.operands,Call.operands]);rw [hf]at h1;obtain⟨xs,ys,e1,hx,hy⟩:=h1.i4;have hz:RV w L ρ (ar.toList.map (ev tm)) (ar.map g).toList:=tj fun p hp=>hr p (by simp [Op.operands,Call.operands,hp]);refine⟨xs++ar.map g++ys,fun hcf=> ?_,?_⟩;·simp [execOp,resolve,Deferred.ofValue,invoke,e1,hcf]
 ·rw [<-ha];have:=(hx.append hz).append hy;simpa using this
def A8(e:Operand->V)(o:Oper):Option (String×Nat×List V):=match o.op with
 | .call c=>match c.callee with
  | .value fo=>match e fo with
   | .fn (.method name) [.ifc t v] []=>some (name,t,v::c.args.toList.map e)
   |_=>none
  |_=>none
 |_=>none
def Ac(call:dO)(nx:Nat)(σ:Nat->Option Ob)(o:Oper)(q:String×Nat×List V):Option SX:=match call Bf [.fn (.method q.1) [] [],.i (q.2.1:Int)] []with
 |some r=>match r.v with
  | .c (.int .i64 n)=>sL call nx σ o n.toNat q.2.2
  |_=>none
 |none=>none
theorem Ad(hcl:cw P call)(hwl:∀b,W b->LB b){q:String×Nat×List V}(hq:A8 (ev tm) o=some q)(h:Ac call nx σ o q=some x)(he:iK x.e):B5 P W LB nx tm σ o x:=by
 obtain⟨d,op,ty,pos,af,gd⟩:=o;unfold A8 at hq;simp only at hq;split at hq
 ·rename_i c;obtain⟨callee,ar,ats⟩:=c;simp only at hq;split at hq
  ·rename_i fo;split at hq
   ·rename_i name t v hf;injection hq with hq;subst hq;unfold Ac at h;split at h
    ·rename_i r hr;split at h
     ·rename_i n hn;have hm:=hcl.2 name t r n hr hn;refine pZ hcl hwl rfl (fun w L ρ g hrr=> ?_) h he;have h1:=hrr fo (by simp [Op.operands,Call.operands]);rw [hf]at h1;obtain⟨xs,ys,e1,hx,hy⟩:=h1.i4;have hy0:ys= #[]:=by have:=hy.1;simpa using this.symm
      subst hy0;obtain⟨x0,hx0,hr0⟩:=hx.get (i:=0) (u:= .ifc t v) rfl;have hl1:xs.size=1:=by have:=hx.1;simpa using this.symm
      obtain⟨y,e2,hy2⟩:∃y,x0= .iface t y/\R w L ρ v y:=by cases hr0;exact⟨_,rfl,by assumption⟩
      have e3:xs= #[.iface t y]:=by
       rw [e2]at hx0;apply Array.ext';have:xs.toList.length=1:=by simpa using hl1
       match hxl:xs.toList,this with
       | [a],_=>rw [hxl]at hx0;simp at hx0;rw [hx0]
      have hz:RV w L ρ (ar.toList.map (ev tm)) (ar.map g).toList:=tj fun p hp=>hrr p (by simp [Op.operands,Call.operands,hp]);refine⟨#[y]++ar.map g,fun hcf=> ?_,?_⟩
      ·obtain⟨A,hA⟩:∃A,A= #[Value.iface t y]++ar.map g:=⟨_,rfl⟩;have hA0:A[0]?=some (.iface t y):=by rw [hA,Array.getElem?_append_left (by simp)];rfl
       have hA1:A.extract 1 A.size=ar.map g:=by rw [hA];apply Array.ext';simp [List.take_of_length_le]
       have e5:(method (P.types.size+100) t y name).run P w= .ok (n.toNat,y) w:=hm y w;have e6:(execOp g ⟨d,.call {callee:= .value fo,args:=ar,argTypes:=ats},ty,pos,af,gd⟩).run P w=(invoke (.fn (.method name) #[]) A).run P w:=by rw [hA];simp [execOp,resolve,Deferred.ofValue,e1,e3]
       rw [e6];simp only [invoke,hA0,hA1,callMethod];simp [go_sem,e5,hcf]
      ·have:=(RV.nil (w:=w) (L:=L) (ρ:=ρ)).cons hy2;have:=this.append hz;simpa using this
     ·cases h
    ·cases h
   ·cases hq
  ·cases hq
 ·cases hq
def Cy(T:List TI)(tm:Nat->V)(o:Oper):Option SX:=match o.op with
 | .makeInterface t x=>match (T.getD t bw).agg with
  |some true=>match jc o with
   |true=>some ⟨.ifc t (ev tm x),[],[],.lf []⟩
   |false=>none
  |_=>none
 | .nilCheck x=>match ev tm x with
  | .ifc t v=>match jc o with
   |true=>some ⟨.ifc t v,[],[],.lf []⟩
   |false=>none
  |_=>none
 |_=>none
theorem wv(hT:aO T P)(h:Cy T tm o=some x):B5 P W LB nx tm σ o x:=by
 obtain⟨d,op,ty,pos,af,gd⟩:=o;unfold Cy at h;split at h
 ·rename_i t xx hop;simp only at hop;subst hop;split at h
  ·rename_i ha;split at h;·rename_i hd;injection h with h;subst h;exact⟨[],(zK t xx (hT.agg ha)).step,by simp,by simp [jJ],fun t ht=>by simp only at ht;subst ht;simpa [jc]using hd⟩
   ·cases h
  ·cases h
 ·rename_i xx hop;simp only at hop;subst hop;split at h
  ·rename_i t v hx;split at h;·rename_i hd;injection h with h;subst h;exact⟨[],(xJ xx hx).step,by simp,by simp [jJ],fun t ht=>by simp only at ht;subst ht;simpa [jc]using hd⟩
   ·cases h
  ·cases h
 ·cases h
theorem yI(hT:aO T P)(h:vC T tm σ o=some x):B5 P W LB nx tm σ o x:=by
  obtain⟨d,op,ty,pos,af,gd⟩:=o
  unfold vC at h
  split at h
  · rename_i bo t xx y t' hop
    simp only at hop
    subst hop
    split at h
    · rename_i id hx
      split at h
      · rename_i hy
        split at h
        · rename_i el hel
          split at h
          · rename_i e sz n row hσ
            split at h
            · cases h
            · split at h
              · rename_i hd
                have hd':∀t,d=some t->t< 1000:=fun t ht=>by
                  subst ht
                  simpa [jc]using hd
                split at h
                · injection h with h;subst h
                  exact⟨[],(zR t t' xx y (hT.elem hel) hx hy (Nat.succ_pos _)).1,by simpa using hσ,by simp [jJ],hd'⟩
                · injection h with h;subst h
                  exact⟨[],(zR t t' xx y (hT.elem hel) hx hy (Nat.succ_pos _)).2,by simpa using hσ,by simp [jJ],hd'⟩
                · cases h
              · cases h
          · cases h
        · cases h
      · cases h
    · cases h
  · cases h
end
def TR.map(f:V->V):TR->TR
 | .e=> .e
 | .n v l r=> .n (f v) (l.map f) (r.map f)
theorem TR.get_map{f:V->V}(hf:f .any= .any):∀(tr:TR) (t:Nat),(tr.map f).get t=f (tr.get t)
 | .e,t=>by rw [TR.map,TR.gE,hf]
 | .n v l r,0=>by rw [TR.map,TR.jT,TR.jT]
 | .n v l r,t+1=>by rw [TR.map,TR.i5,TR.i5,TR.get_map hf l,TR.get_map hf r];split <;> rfl
def Gy(id:Nat)(v:V):Ob->Ob
 | .box t cs=>match V.aZ cs with
  |true=> .box t cs
  |false=> .box t (V.lz id v cs)
 | .row e sz n f=>match ((List.range n).map f).all V.aZ with
  |true=> .row e sz n f
  |false=> .row e sz n (rowOf (((List.range n).map f).map (V.lz id v)))
 | .mp s f=>match f.l.all fun p=>p.2.bX with
  |true=> .mp s f
  |false=> .mp s (f.map (V.fz id v))
theorem vL{f:Nat->List V}{g:List V->List V}{n i:Nat}(h:i< n):rowOf (((List.range n).map f).map g) i=g (f i):=by unfold rowOf;rw [List.getD_eq_getElem?_getD,List.getElem?_map,List.getElem?_map,List.getElem?_range h];rfl
theorem Fl(id:Nat)(v:V)(o:Ob):Hx id v o (Gy id v o):=by
 cases o with
 |box t cs=>
  simp only [Gy];split;·exact⟨rfl,.inr rfl⟩
  ·exact⟨rfl,.inl rfl⟩
 |row e sz n f=>
  simp only [Gy];split;·exact⟨rfl,rfl,rfl,fun _ _=> .inr rfl⟩
  ·exact⟨rfl,rfl,rfl,fun i hi=> .inl (vL hi)⟩
 |mp s f=>
  simp only [Gy];split;·exact⟨rfl,.inr rfl⟩
  ·exact⟨rfl,.inl rfl⟩
def lz(id:Nat)(v:V):List (Nat×Option Ob)->List (Nat×Option Ob)
 | []=>[]
 | (k,o)::l=>match Nat.beq k id with
  |true=>lz id v l
  |false=>(k,o.map (Gy id v))::lz id v l
theorem vt(id:Nat)(v:V):∀(l:List (Nat×Option Ob)) (i:Nat) (o':Ob),dV (lz id v l) i=some o'->i≠id/\∃o,dV l i=some o/\Hx id v o o'
 | [],i,o',h=>by cases h
 | (k,o)::l,i,o',h=>by
  simp only [lz]at h;split at h
  ·rename_i hk;have hk:=Nat.eq_of_beq_eq_true hk;obtain⟨h1,o,h2,h3⟩:=vt id v l i o' h;refine⟨h1,o,?_,h3⟩;simp only [dV];split;·rename_i h4;exact absurd ((Nat.eq_of_beq_eq_true h4).trans hk) h1
   ·exact h2
  ·rename_i hk;have hk:=Nat.ne_of_beq_eq_false hk;simp only [dV]at h ⊢;split at h
   ·rename_i h4;have h4:=Nat.eq_of_beq_eq_true h4;refine⟨by omega,?_⟩;cases o with
    |none=>cases h
    |some o=>simp only [Option.map_some,Option.some.injEq]at h;subst h;exact⟨o,rfl,Fl _ _ _⟩
   ·exact vt id v l i o' h
def Aw(s:CS)(id:Nat)(v:V):CS:=⟨s.tr.map (V.fz id v),lz id v s.sl,s.nx⟩
theorem qZ(s:CS)(id:Nat)(v:V){ob:Ob}(hσ:dV s.sl id=some ob)(h0:∀(W:Nat->Prop) (w:World) (L:Nat->Prop) (ρ:Nat->Option Value),Real W w L ρ id ob->∀y,ρ id=some y->R w (fun b=>L b\/blk y=some b) ρ v y):Le s.den (Aw s id v).den:=by
 have h1:Le s.den ⟨fun t=>V.fz id v (s.tr.get t),dV (lz id v s.sl),s.nx⟩:=Le.Jh (s:=s.den) id hσ v (fun i o' h=>vt id v s.sl i o' h) h0;have e1:(s.tr.map (V.fz id v)).get=fun t=>V.fz id v (s.tr.get t):=by funext t;exact TR.get_map (by rw [V.fz]) _ _
 simp only [Aw,CS.den];rw [e1];exact @h1
def EP(s:CS)(id:Nat):CS:=match Nat.ble 0 id with
 |false=>s
 |true=>match dV s.sl id with
  |some (.row _ sz n f)=>match ((List.range n).map f).all V.aZ with
   |true=>Aw s id (.sl sz n (rowOf ((List.range n).map f)))
   |false=>s
  |some (.box _ cs)=>match V.aZ cs with
   |true=>Aw s id (.ptr cs)
   |false=>s
  |some (.mp p _)=>match Nat.beq p.2 0 with
   |true=>Aw s id .any
   |false=>s
  |none=>s
def Av(s:CS):List Nat->CS
 | []=>s
 |id::l=>EP (Av s l) id
theorem CO(s:CS)(id:Nat):Le s.den (EP s id).den:=by
 unfold EP;split;·exact Le.refl _
 ·split
  ·rename_i e sz n f hσ;split
   ·rename_i hi;refine qZ s id _ hσ fun W w L ρ hr y hy=> ?_;have hi':∀i,i< n->V.aZ (f i)=true:=fun i hi'=>by have:=fm hi i;rwa [jD hi']at this
    obtain⟨v,h1,_,h3⟩:=hr.slice hi';rw [hy]at h1;injection h1 with h1;subst h1
    exact zu h3 fun i hi''=>(jD hi'').symm
   ·exact Le.refl _
  ·rename_i t0 cs hσ;split
   ·rename_i hi;refine qZ s id _ hσ fun W w L ρ hr y hy=> ?_;obtain⟨v,h1,_,h3⟩:=hr.ptr hi;rw [hy]at h1;injection h1 with h1;subst h1
    exact h3
   ·exact Le.refl _
  ·rename_i hσ;split;·exact qZ s id _ hσ fun W w L ρ _ y _=> .any _ _
   ·exact Le.refl _
  ·exact Le.refl _
theorem nq(s:CS):∀l:List Nat,Le s.den (Av s l).den
 | []=>Le.refl _
 |id::l=>Le.trans (nq s l) (CO _ id)
def I5:List (Nat×Operand)->Nat->Option Operand
 | [],_=>none
 | (k,y)::l,t=>match Nat.beq t k with
  |true=>some y
  |false=>I5 l t
def Bi(en:List (Nat×Operand))(x:Operand):Operand:=match x with
 | .tmp t=>match I5 en t with
  |some y=>y
  |none=> .tmp t
 |x=>x
def Eb(tm:Nat->V)(en:List (Nat×Operand)):List Operand->List Nat
 | []=>[]
 |x::l=>(ug (ev tm (Bi en x))).ids++Eb tm en l
def iT(mu:List Nat)(tm:Nat->V):List (Nat×Operand)->List Oper->List Nat
 |_,[]=>[]
 |en,o::os=>match o.op with
  | .call c=>match c.callee with
   | .value fo=>match ug (ev tm (Bi en fo))with
    | .fn (.func f) _ _=>match gZ mu f with
     |true=>iT mu tm en os
     |false=>Eb tm en c.args.toList++iT mu tm en os
    |_=>iT mu tm en os
   |_=>iT mu tm en os
  | .move y=>match o.dst with
   |some t=>iT mu tm ((t,Bi en y)::en) os
   |none=>iT mu tm en os
  |_=>iT mu tm en os
def ri:List Oper->Bool
 | []=>false
 |o::os=>match o.op with
  | .call c=>match c.callee with
   | .value _=>true
   |_=>ri os
  | .binOp .eql _ _ _ _=>true
  | .binOp .neq _ _ _ _=>true
  |_=>ri os
def mY(mu:List Nat)(s:CS)(ol:List Oper):CS:=match ri ol with
 |false=>s
 |true=>Av s (dZ (dV s.sl) 1000 (iT mu s.tr.get [] ol) [])
theorem qY(mu:List Nat)(s:CS)(ol:List Oper):Le s.den (mY mu s ol).den:=by
 unfold mY;split;·exact Le.refl _
 ·exact nq _ _
structure qF where
  call:dO
  M:List Nat
  nx:Nat
  tm:Nat->V
  σ:Nat->Option Ob
  o:Oper
def BB{α:Type}(b:Bool)(x:Option α):Option α:=Bool.rec (motive:=fun _=>Option α) none x b
def oE{α β:Type}(o:Option α)(els:Option β)(f:α->Option β):Option β:=Option.rec (motive:=fun _=>Option β) els f o
theorem cN{α:Type}{b:Bool}{x:Option α}{y:α}(h:BB b x=some y):b=true/\x=some y:=by
 cases b with
 |true=>exact⟨rfl,h⟩
 |false=>cases h
def D8:V->Bool
 | .gd _ _=>false
 |_=>true
def dB(d:Option Tmp):Bool:=Option.rec (motive:=fun _=>Bool) false (fun t=>Nat.ble t 999) d
def cP(T:List TI)(p:qF):Option SX:=H6 T p.M p.nx p.tm p.σ p.o
def Ek(p:qF)(x:Operand)(f:V->Option SX):Option SX:=BB (D8 (ev p.tm x)) (f (ev p.tm x))
def Hr(p:qF)(r:Option SR)(q:PQ):Option SX:=BB (and q.dec (dB p.o.dst)) (oE r none fun r=>some ⟨r.v,r.pre,r.δ,(.lf [])⟩)
def DA:V->Option (IntKind×Int)
 | .c (.int k n)=>some (k,n)
 |_=>none
def AX:IntKind->Nat
 | .i8=>0
 | .i16=>1
 | .i32=>2
 | .i64=>3
 | .u8=>4
 | .u16=>5
 | .u32=>6
 | .u64=>7
theorem AY{a b:IntKind}(h:Nat.beq (AX a) (AX b)=true):a=b:=by have h:=Nat.eq_of_beq_eq_true h;cases a <;> cases b <;> first |rfl | (simp [AX]at h)
def HW(op:BinOp):IntKind->Int->Int->Option (PQ×V):=match op with
 | .add=>fun k a b=>some (ze k (a+b),.c (.int k (a+b)))
 | .sub=>fun k a b=>some (ze k (a- b),.c (.int k (a- b)))
 | .mul=>fun k a b=>some (ze k (a*b),.c (.int k (a*b)))
 | .quo=>fun k a b=>some (.and (.lt 0 b) (ze k a),.c (.int k (a.tdiv b)))
 | .rem=>fun k a b=>some (.ne b 0,.c (.int k (a.tmod b)))
 | .eql=>fun _ a b=>some (.tt,.b (decide (a=b)))
 | .neq=>fun _ a b=>some (.tt,.b (!decide (a=b)))
 | .lss=>fun _ a b=>some (.tt,.b (decide (a< b)))
 | .leq=>fun _ a b=>some (.tt,.b (decide (a<=b)))
 | .gtr=>fun _ a b=>some (.tt,.b (decide (b< a)))
 | .geq=>fun _ a b=>some (.tt,.b (decide (b<=a)))
 |_=>fun _ _ _=>none
theorem C0(k:IntKind)(n:Int):(ze k n).den=ur k n:=by cases k <;> rfl
theorem EE{op:BinOp}{k:IntKind}{a b:Int}{q:PQ}{v:V}(h:HW op k a b=some (q,v)):∃c,xZ false op (.c (.int k a)) (.c (.int k b))=some (c,v)/\(q.dec=true->c):=by refine⟨q.den,?_,PQ.ok⟩;cases op <;> simp only [HW,Option.some.injEq,Prod.mk.injEq,reduceCtorEq]at h <;> (rw [<-h.1,<-h.2];simp [xZ,Cv,PQ.den,C0])
def B0(_:Call)(T:List TI)(p:qF):Option SX:=match wA (ev p.tm) p.o with
 |some (f,as0)=>sL p.call p.nx p.σ p.o f as0
 |none=>match A8 (ev p.tm) p.o with
  |some q=>Ac p.call p.nx p.σ p.o q
  |none=>cP T p
def IX(_:TypeId)(_:Operand)(T:List TI)(p:qF):Option SX:=Cy T p.tm p.o
def HM(T:List TI)(p:qF):Option SX:=oE (vC T p.tm p.σ p.o) (cP T p) some
def Jn(T:List TI)(p:qF)(op:BinOp)(u v:IntKind×Int):Option SX:=oE (BB (Nat.beq (AX u.1) (AX v.1)) (HW op u.1 u.2 v.2)) (HM T p) fun r=>BB (and r.1.dec (dB p.o.dst)) (some ⟨r.2,[],[],(.lf [])⟩)
def IW(op:BinOp)(_:TypeId)(x y:Operand)(_:TypeId)(T:List TI)(p:qF):Option SX:=oE (DA (ev p.tm x)) (HM T p) fun u=>oE (DA (ev p.tm y)) (HM T p) fun v=>Jn T p op u v
def El(x:Operand)(T:List TI)(p:qF):Option SX:=BB (and (D8 (ev p.tm x)) (dB p.o.dst)) (some ⟨ev p.tm x,[],[],(.lf [])⟩)
def B1(t:TypeId)(x:Operand)(T:List TI)(p:qF):Option SX:=Ek p x fun v=>Hr p (jb T t p.σ v) (wZ p.σ v)
def v9(t:TypeId)(x y:Operand)(T:List TI)(p:qF):Option SX:=Ek p x fun u=>Ek p y fun v=>BB (and (rF p.σ u v).dec (Option.rec (motive:=fun _=>Bool) true (fun _=>false) p.o.dst)) (oE (fY T t p.σ u v) none fun r=>some ⟨r.v,r.pre,r.δ,(.lf [])⟩)
def FL(t:TypeId)(x:Operand)(f:Nat)(T:List TI)(p:qF):Option SX:=Ek p x fun v=>Hr p (AU T t f v) .tt
def xIdx(t:TypeId)(x y:Operand)(T:List TI)(p:qF):Option SX:=Ek p x fun u=>Ek p y fun v=>Hr p (AV T t p.σ u v) (Dl T t p.σ u v)
def FM(x:Operand)(T:List TI)(p:qF):Option SX:=oE (mI (ev p.tm x)) (Cy T p.tm p.o) fun r=>BB (and (D8 (ev p.tm x)) (dB p.o.dst)) (some ⟨r.v,r.pre,r.δ,(.lf [])⟩)
def FK(x:Operand)(i:Nat)(T:List TI)(p:qF):Option SX:=Ek p x fun v=>Hr p (ja v i) .tt
def Em(op:Op):List TI->qF->Option SX:=Op.rec (motive:=fun _=>List TI->qF->Option SX) El El (fun _ _ _=>cP) (fun _=>cP) (fun _ _=>cP) (fun _ _=>cP) (fun _ _ _=>cP) (fun _ _ _ _=>cP) B1 v9 (fun _=>cP) (fun _=>cP) FM IW (fun _ _ _=>cP) (fun _ _ _=>cP) (fun _ _=>cP) IX (fun _ _ _=>cP) (fun _ _=>cP) (fun _ _=>cP) (fun _ _ _=>cP) (fun _ _ _ _ _=>cP) FL (fun _ _ _=>cP) xIdx (fun _ _ _=>cP) (fun _ _ _ _=>cP) (fun _ _ _ _=>cP) (fun _ _ _=>cP) (fun _ _ _ _=>cP) (fun _ _=>cP) (fun _ _=>cP) (fun _=>cP) (fun _ _ _ _=>cP) FK B0 (fun _=>cP) (fun _=>cP) (fun _=>cP) (fun _ _=>cP) (fun _ _ _=>cP) (fun _ _=>cP) op
theorem jC{α β:Type}{o:Option α}{els:Option β}{f:α->Option β}{y:β}(h:oE o els f=some y):(∃a,o=some a/\f a=some y)\/(o=none/\els=some y):=by
 cases o with
 |none=>exact .inr ⟨rfl,h⟩
 |some a=>exact .inl ⟨a,rfl,h⟩
theorem cx{α β:Type}{o:Option α}{f:α->Option β}{y:β}(h:oE o none f=some y):∃a,o=some a/\f a=some y:=by
 rcases jC h with h | ⟨_,h⟩;·exact h
 ·cases h
theorem gk{v:V}(h:D8 v=true):ug v=v:=by cases v <;> first |rfl |cases h
theorem fP{p:qF}{x:Operand}{f:V->Option SX}{y:SX}(h:Ek p x f=some y):D8 (ev p.tm x)=true/\f (ev p.tm x)=some y:=cN h
theorem ko{v:V}(h:D8 v=true):pH [v]=true:=by cases v <;> first |rfl |cases h
theorem vw{u v:V}(h:D8 u=true)(k:D8 v=true):pH [u,v]=true:=by cases u <;> first |exact ko k |cases h
theorem mE{o:Oper}(h:dB o.dst=true):p0 o=true:=by
 unfold dB at h;unfold p0;cases hd:o.dst with
 |none=>rw [hd]at h;cases h
 |some t=>rw [hd]at h;exact h
theorem lg{p:qF}{r:Option SR}{q:PQ}{y:SX}(h:Hr p r q=some y):q.dec=true/\dB p.o.dst=true/\∃r',r=some r'/\y=⟨r'.v,r'.pre,r'.δ,.lf []⟩:=by obtain⟨h1,h2⟩:=cN h;simp only [Bool.and_eq_true]at h1;obtain⟨r',h3,h4⟩:=cx h2;injection h4 with h4;exact⟨h1.1,h1.2,r',h3,h4.symm⟩
theorem A4{T:List TI}{t:Nat}{σ:Nat->Option Ob}{v:V}{r:SR}(h:jb T t σ v=some r)(hq:(wZ σ v).dec=true):r.c:=by
 have hq:=PQ.ok hq;unfold jb at h;unfold wZ at hq;split at h
 ·split at h;·injection h with h;subst h;trivial
  ·cases h
 ·split at h
  ·rename_i hσ;simp only [hσ]at hq;split at h;·injection h with h;subst h;exact hq
   ·cases h
  ·cases h
 ·split at h
  ·rename_i hσ;simp only [hσ]at hq;split at h
   ·split at h;·injection h with h;subst h;exact hq
    ·cases h
   ·cases h
  ·cases h
 ·cases h
theorem y7{T:List TI}{t:Nat}{σ:Nat->Option Ob}{u v:V}{r:SR}(h:fY T t σ u v=some r)(hq:(rF σ u v).dec=true):r.c:=by
 have hq:=PQ.ok hq;unfold fY at h;unfold rF at hq;split at h
 ·rename_i us hus;simp only [hus]at hq;split at h
  ·split at h
   ·rename_i hσ;simp only [hσ]at hq;split at h;·injection h with h;subst h;exact hq
    ·cases h
   ·cases h
  ·split at h
   ·rename_i hσ;simp only [hσ]at hq;split at h;·injection h with h;subst h;exact hq
    ·cases h
   ·cases h
  ·cases h
 ·cases h
theorem Fe{T:List TI}{t:Nat}{σ:Nat->Option Ob}{u v:V}{r:SR}(h:AV T t σ u v=some r)(hq:(Dl T t σ u v).dec=true):r.c:=by
 have hq:=PQ.ok hq;unfold AV at h;split at h
 ·rename_i _ i _;unfold kN at h;split at h
  ·split at h
   ·split at h;·injection h with h;subst h;exact hq
    ·cases h
   ·cases h
  ·split at h
   ·rename_i n el ha;have hq:(yO T t i).den:=hq;unfold yO at hq;simp only [ha]at hq;split at h;·injection h with h;subst h;exact hq
    ·cases h
   ·cases h
  ·split at h
   ·rename_i n el ha;have hq:(yO T t i).den:=hq;unfold yO at hq;simp only [ha]at hq;split at h;·injection h with h;subst h;exact hq
    ·cases h
   ·cases h
  ·split at h
   ·split at h
    ·rename_i hσ;simp only [Dl,hσ]at hq;split at h;·injection h with h;subst h;exact hq
     ·cases h
    ·cases h
   ·cases h
  ·cases h
 ·cases h
theorem Fc{T:List TI}{t f:Nat}{v:V}{r:SR}(h:AU T t f v=some r):r.c:=by
 unfold AU at h;split at h;·split at h <;> first | (injection h with h;subst h;trivial) |cases h
 ·cases h
theorem vp{v:V}{i:Nat}{r:SR}(h:ja v i=some r):r.c:=by
 unfold ja at h;split at h
 ·split at h;·injection h with h;subst h;trivial
  ·cases h
 ·cases h
theorem C4{v:V}{r:SR}(h:mI v=some r):r.c:=by
 unfold mI at h;split at h;·injection h with h;subst h;trivial
 ·cases h
theorem fT{T:List TI}{wr:Bool}{M:List Nat}{nx:Nat}{o:Oper}{e:Operand->V}{σ:Nat->Option Ob}{r:SR}(h:vq T wr M nx o e σ=some r):mK T wr M nx o e σ=some r:=by unfold mK;rw [h]
theorem qA{v:V}{k:IntKind}{n:Int}(h:DA v=some (k,n)):v= .c (.int k n):=by
 unfold DA at h;split at h;·injection h with h;injection h with h1 h2;subst h1 h2;rfl
 ·cases h
theorem B2{P:Program}{W LB:Nat->Prop}{call:dO}{T:List TI}{M:List Nat}{nx:Nat}{tm:Nat->V}{σ:Nat->Option Ob}{o:Oper}{x:SX}(hT:aO T P)(hcl:cw P call)(hwl:∀b,W b->LB b)(h:Em o.op T ⟨call,M,nx,tm,σ,o⟩=some x)(he:iK x.e):B5 P W LB nx tm σ o x:=by
 obtain⟨d,op,ty,pos,af,gd⟩:=o;have old:∀ {x:SX},cP T ⟨call,M,nx,tm,σ,⟨d,op,ty,pos,af,gd⟩⟩=some x->iK x.e->B5 P W LB nx tm σ ⟨d,op,ty,pos,af,gd⟩ x:=fun h he=>Ae hT h he;have oldB:∀ {x:SX},HM T ⟨call,M,nx,tm,σ,⟨d,op,ty,pos,af,gd⟩⟩=some x->iK x.e->B5 P W LB nx tm σ ⟨d,op,ty,pos,af,gd⟩ x:=fun h he=>by
  rcases jC h with⟨y,hy,h⟩ | ⟨_,h⟩;·injection h with h;subst h;exact yI hT hy
  ·exact Ae hT h he
 cases op;case move y=>
  obtain⟨h1,h2⟩:=cN h
  simp only [Bool.and_eq_true]at h1
  injection h2 with h2;subst h2
  have e1:=gk h1.1
  have:=iY (W:=W) (LB:=LB) (M:=M) (wr:=false) (nx:=nx) (σ:=σ) (o:=⟨d,.move y,ty,pos,af,gd⟩) (e:= .lf []) hT (by simp only [Bool.and_eq_true];exact⟨mE (o:=⟨d,.move y,ty,pos,af,gd⟩) h1.2,ko h1.1⟩) (fT rfl) trivial
  simp only [aH,e1]at this
  exact this
 case assign y=>
  obtain⟨h1,h2⟩:=cN h
  simp only [Bool.and_eq_true]at h1
  injection h2 with h2;subst h2
  have e1:=gk h1.1
  have:=iY (W:=W) (LB:=LB) (M:=M) (wr:=false) (nx:=nx) (σ:=σ) (o:=⟨d,.assign y,ty,pos,af,gd⟩) (e:= .lf []) hT (by simp only [Bool.and_eq_true];exact⟨mE (o:=⟨d,.assign y,ty,pos,af,gd⟩) h1.2,ko h1.1⟩) (fT rfl) trivial
  simp only [aH,e1]at this
  exact this
 case binOp bo t y z t'=>
  rcases jC h with⟨u,hu,h⟩ | ⟨_,h⟩
  ·rcases jC h with⟨v,hv,h⟩ | ⟨_,h⟩
   ·rcases jC h with⟨r,hr,h⟩ | ⟨_,h⟩;·obtain⟨hk,hr⟩:=cN hr;obtain⟨h1,h2⟩:=cN h;simp only [Bool.and_eq_true]at h1;injection h2 with h2;subst h2;obtain⟨k,a⟩:=u;obtain⟨k',b⟩:=v;have hk:=AY hk;simp only at hk;subst hk;obtain⟨q,w⟩:=r;obtain⟨c,hc1,hc2⟩:=EE hr;have eu:=qA hu;have ev':=qA hv;simp only at eu ev';have:=iY (W:=W) (LB:=LB) (M:=M) (wr:=false) (nx:=nx) (σ:=σ) (o:=⟨d,.binOp bo t y z t',ty,pos,af,gd⟩) (tm:=tm) (r:=aH c w) (e:= .lf []) hT (by simp only [Bool.and_eq_true];exact⟨mE (o:=⟨d,.binOp bo t y z t',ty,pos,af,gd⟩) h1.2,vw (by rw [eu];rfl) (by rw [ev'];rfl)⟩) (fT (by show C6 T false bo t (ug (ev tm y)) (ug (ev tm z))=_;rw [eu,ev'];show C6 T false bo t (.c (.int k a)) (.c (.int k b))=_;unfold C6;rw [hc1])) (hc2 h1.1);exact this
    ·exact oldB h he
   ·exact oldB h he
  ·exact oldB h he
 case load t y=>
  have h:B1 t y T ⟨call,M,nx,tm,σ,⟨d,.load t y,ty,pos,af,gd⟩⟩=some x:=h
  unfold B1 at h
  obtain⟨h1,h2⟩:=fP h
  obtain⟨h3,h4,r,h5,rfl⟩:=lg h2
  exact iY (W:=W) (LB:=LB) (M:=M) (wr:=false) hT (by simp only [Bool.and_eq_true];exact⟨mE h4,ko h1⟩) (fT (by show jb T t σ (ug (ev tm y))=_;rw [gk h1];exact h5)) (A4 h5 h3)
 case store t y z=>
  have h:v9 t y z T ⟨call,M,nx,tm,σ,⟨d,.store t y z,ty,pos,af,gd⟩⟩=some x:=h
  unfold v9 at h
  obtain⟨h1,h2⟩:=fP h
  obtain⟨k1,k2⟩:=fP h2
  obtain⟨h3,h4⟩:=cN k2
  simp only [Bool.and_eq_true]at h3
  obtain⟨r,h5,h6⟩:=cx h4
  injection h6 with h6;subst h6
  have hd:d=none:=by
   cases d with
   |none=>rfl
   |some t=>exact absurd h3.2 (by simp)
  subst hd
  exact iY (W:=W) (LB:=LB) (M:=M) (wr:=false) hT (by simp only [Bool.and_eq_true];exact⟨rfl,vw h1 k1⟩) (fT (by show fY T t σ (ug (ev tm y)) (ug (ev tm z))=_;rw [gk h1,gk k1];exact h5)) (y7 h5 h3.1)
 case fieldAddr t y f=>
  have h:FL t y f T ⟨call,M,nx,tm,σ,⟨d,.fieldAddr t y f,ty,pos,af,gd⟩⟩=some x:=h
  unfold FL at h
  obtain⟨h1,h2⟩:=fP h
  obtain⟨h3,h4,r,h5,rfl⟩:=lg h2
  exact iY (W:=W) (LB:=LB) (M:=M) (wr:=false) hT (by simp only [Bool.and_eq_true];exact⟨mE h4,ko h1⟩) (fT (by show AU T t f (ug (ev tm y))=_;rw [gk h1];exact h5)) (Fc h5)
 case indexAddr t y z=>
  have h:xIdx t y z T ⟨call,M,nx,tm,σ,⟨d,.indexAddr t y z,ty,pos,af,gd⟩⟩=some x:=h
  unfold xIdx at h
  obtain⟨h1,h2⟩:=fP h
  obtain⟨k1,k2⟩:=fP h2
  obtain⟨h3,h4,r,h5,rfl⟩:=lg k2
  exact iY (W:=W) (LB:=LB) (M:=M) (wr:=false) hT (by simp only [Bool.and_eq_true];exact⟨mE h4,vw h1 k1⟩) (fT (by show AV T t σ (ug (ev tm y)) (ug (ev tm z))=_;rw [gk h1,gk k1];exact h5)) (Fe h5 h3)
 case nilCheck y=>
  have h:FM y T ⟨call,M,nx,tm,σ,⟨d,.nilCheck y,ty,pos,af,gd⟩⟩=some x:=h
  unfold FM at h
  rcases jC h with⟨r,h5,h⟩ | ⟨_,h⟩
  ·obtain⟨h1,h2⟩:=cN h;simp only [Bool.and_eq_true]at h1;injection h2 with h2;subst h2;have h5:mI (ev tm y)=some r:=h5;exact iY (W:=W) (LB:=LB) (M:=M) (wr:=false) hT (by simp only [Bool.and_eq_true];exact⟨mE h1.2,ko h1.1⟩) (by unfold mK;show(match ru T ⟨d,.nilCheck y,ty,pos,af,gd⟩ (fun x=>ug (ev tm x)) σ with |some r=>some r |none=>_)=_;rw [show ru T ⟨d,.nilCheck y,ty,pos,af,gd⟩ (fun x=>ug (ev tm x)) σ=some r from by show mI (ug (ev tm y))=_;rw [gk h1.1];exact h5]) (C4 h5)
  ·exact wv hT h
 case extract y i=>
  have h:FK y i T ⟨call,M,nx,tm,σ,⟨d,.extract y i,ty,pos,af,gd⟩⟩=some x:=h
  unfold FK at h
  obtain⟨h1,h2⟩:=fP h
  obtain⟨h3,h4,r,h5,rfl⟩:=lg h2
  exact iY (W:=W) (LB:=LB) (M:=M) (wr:=false) hT (by simp only [Bool.and_eq_true];exact⟨mE h4,ko h1⟩) (fT (by show ja (ug (ev tm y)) i=_;rw [gk h1];exact h5)) (vp h5)
 case makeInterface t y=>exact wv hT h
 case call c=>
  have h:B0 c T ⟨call,M,nx,tm,σ,⟨d,.call c,ty,pos,af,gd⟩⟩=some x:=h
  unfold B0 at h
  split at h
  ·exact z4 hcl hwl (by assumption) h he
  ·split at h;·exact Ad hcl hwl (by assumption) h he
   ·exact old h he
 all_goals exact old h he
def uU(a b:CT):CT:=match a with
 | .lf l=>match l with
  | []=>b
  |x::l=> .nd (.lf (x::l)) b
 | .nd c d=> .nd (.nd c d) b
theorem j8{a b:CT}(h:iK (uU a b)):iK a/\iK b:=by
 unfold uU at h;split at h
 ·split at h;·exact⟨(fun p hp=>nomatch hp),h⟩
  ·exact h
 ·exact h
abbrev KS:Type:=List (List Nat×List Nat)
abbrev RK:Type:=CS->KS->Option (CS×KS×CT)
def IB(call:dO)(T:List TI)(M:List Nat)(o:Oper)(ih:RK)(s:CS)(ks:KS):Option (CS×KS×CT):= oE (Em o.op T ⟨call,M,s.nx,s.tr.get,dV s.sl,o⟩) none fun x=>oE (ih ⟨GC s.tr o.dst x.v,wY s.sl x.δ,s.nx⟩ ((aR x.δ,cU x.pre++aR x.δ)::ks)) none fun r=>some (r.1,r.2.1,uU x.e r.2.2)
def Bt(call:dO)(T:List TI)(M:List Nat)(ol:List Oper)(o:Oper)(ih:RK)(s:CS)(ks:KS):Option (CS×KS×CT):=match o.guard with
 |none=>IB call T M o ih s ks
 |some _=>match fB (ol.map (·.dst)) s.tr.get o with
  |some (some g)=>match g with
   |true=>IB call T M o ih s ks
   |false=>match o.dst with
    |some t=>match Nat.ble t 999 with
     |true=>ih ⟨TR.put 10 s.tr t (.gd false (.b false)),s.sl,s.nx⟩ (([],[])::ks)
     |false=>none
    |none=>none
  |_=>none
def pI(call:dO)(T:List TI)(M:List Nat)(ol:List Oper)(os:List Oper):RK:=List.rec (motive:=fun _=>RK) (fun s ks=>some (s,ks,.lf [])) (fun o _ ih=>Bt call T M ol o ih) os
theorem Bs(call:dO)(T:List TI)(M:List Nat)(ol:List Oper)(s:CS)(ks:KS):pI call T M ol [] s ks=some (s,ks,.lf []):=rfl
theorem yP(call:dO)(T:List TI)(M:List Nat)(ol:List Oper)(o:Oper)(os:List Oper)(s:CS)(ks:KS):pI call T M ol (o::os) s ks=Bt call T M ol o (pI call T M ol os) s ks:=rfl
theorem dJ{P:Program}{N:Nat}{C:Cx P N}{T:List TI}{M:List Nat}{call:dO}(hT:aO T P)(hcl:cw P call){ol:List Oper}{K:(Nat->V)->(Nat->Option Ob)->List (List Nat×List Nat)->Prop} : ∀ {os:List Oper}{s:CS}{ks:List (List Nat×List Nat)}{s':CS}{ks':List (List Nat×List Nat)}{e:CT},pI call T M ol os s ks=some (s',ks',e)->iK e->s'.nx=s.nx/\(K s'.tr.get (dV s'.sl) ks'.reverse->bq C ol.toArray s.nx os s.tr.get (dV s.sl) ks.reverse K)
 | [],s,ks,s',ks',e,h,he=>by simp only [Bs,Option.some.injEq,Prod.mk.injEq]at h;obtain⟨rfl,rfl,rfl⟩:=h;exact⟨rfl,id⟩
 |o::os,s,ks,s',ks',e,h,he=>by
  have run:cH ol.toArray s.tr.get o=some true->IB call T M o (pI call T M ol os) s ks=some (s',ks',e)->s'.nx=s.nx/\(K s'.tr.get (dV s'.sl) ks'.reverse->bq C ol.toArray s.nx (o::os) s.tr.get (dV s.sl) ks.reverse K):=by intro hw h;obtain⟨x,hx,h⟩:=cx h;obtain⟨r,h1,h⟩:=cx h;obtain⟨s1,ks1,e1⟩:=r;simp only [Option.some.injEq,Prod.mk.injEq]at h;obtain⟨rfl,rfl,rfl⟩:=h;have he:=j8 he;obtain⟨nw,q1,q2,q3,q4⟩:=B2 (W:=C.W) (LB:=C.LB) hT hcl C.wl hx he.1;obtain⟨r1,r2⟩:=dJ hT hcl (C:=C) (K:=K) h1 he.2;refine⟨r1,fun hk=>⟨⟨true,x.v,x.pre,nw,x.δ⟩,⟨hw,fun _=>⟨q1,q2,q3⟩,by simp⟩,?_⟩⟩;have:=r2 hk;rw [Bp q4,tE,List.reverse_cons]at this;exact this
  rw [yP]at h;unfold Bt at h;split at h;·rename_i hg;exact run (by unfold cH;rw [hg]) h
  ·rename_i gd' hg;split at h
   ·rename_i g hgv;have hw:=eO (ops:=ol.toArray) (r:=some g) (by simpa using hgv);split at h;·exact run hw h
    ·split at h
     ·rename_i t ht;split at h;·rename_i hlt;obtain⟨r1,r2⟩:=dJ hT hcl (C:=C) (K:=K) h he;refine⟨r1,fun hk=> ?_⟩;have:=r2 hk;rw [TR.ir (Nat.lt_succ_of_le (Nat.le_of_ble_eq_true hlt)),List.reverse_cons]at this;exact zA (by simpa using hgv) ht this
      ·cases h
     ·cases h
   ·cases h
def Gz(ops:List Oper):Bool:=
 decide ((ops.filterMap (·.dst)).Nodup) &&
 (List.range ops.length).all (fun i=>match ops[i]? with
  |some o=>(d7 o).all (· < i) &&
   (List.range ops.length).all (fun j=>j == i || match ((ops.map (·.dst))[j]?).bind id with
    |some t=> !(looks (ops.map (·.dst)) o).contains t || (d7 o).contains j || (reach ops ops.length [j]).contains i
    |none=>true)
  |none=>true)
def HF(ks:KS):Bool:=ks.all fun p=>p.1.isEmpty
def Dg(ops:List Oper)(ks:KS):Bool:=Gz ops && (HF ks || gu ops ks.reverse)
theorem wQ{ops:List Oper}{kr:KS}(h:Dg ops kr=true):gu ops kr.reverse=true:=by
 simp only [Dg,Bool.and_eq_true,Bool.or_eq_true]at h;have hm:HF kr=true->HF kr.reverse=true:=fun h=>by simpa [HF]using h
 generalize kr.reverse=ks at h hm ⊢;obtain⟨h1,h2 |h2⟩:=h
 ·simp only [Gz,Bool.and_eq_true]at h1;obtain⟨h3,h4⟩:=h1;simp only [gu,Bool.and_eq_true];refine⟨h3,List.all_eq_true.2 fun i hi=> ?_⟩;have h5:=List.all_eq_true.1 h4 i hi;have h2:=hm h2;have hw:∀(j:Nat) (w f:List Nat),ks[j]?=some (w,f)->w=[]:=fun j w f hj=>by have:=List.all_eq_true.1 h2 _ (List.mem_of_getElem? hj);simpa using this
  cases ho:ops[i]? with
  |none=>rfl
  |some o=>
   rw [ho]at h5;simp only [Bool.and_eq_true]at h5 ⊢;refine⟨h5,?_⟩;cases hk:ks[i]? with
   |none=>rfl
   |some p=>
    obtain⟨wi,fi⟩:=p;simp only [Bool.or_eq_true];refine .inr (List.all_eq_true.2 fun j hj=> ?_);cases hkj:ks[j]? with
    |none=>rfl
    |some q=>obtain⟨wj,fj⟩:=q;have e1:=hw i wi fi hk;have e2:=hw j wj fj hkj;subst e1 e2;simp
 ·exact h2
inductive CC where
  |code (c:Code) (k:List Fr) (s:CS)
  |ops (ol:List Oper) (dr:Bool) (rest:List Oper) (s:CS) (ks:List (List Nat×List Nat)) (k:List Fr)
  |done (e:Exit) (k:List Fr) (s:CS)
def CC.den:CC->HN
 | .code c k s=> .code c k s.den
 | .ops ol dr rest s ks k=> .ops ol dr rest s.tr.get (dV s.sl) s.nx ks k
 | .done e k s=> .done e k s.den
def c0:CT:= .lf []
abbrev FO:Type:=Operand->Array Tmp->Code->Code->CS->Option (Exit×CS×CT)
def wh{P:Program}{N:Nat}(C:Cx P N)(rng:FO):Prop:=∀g ps as0 bd s e s' t,rng g ps as0 bd s=some (e,s',t)->iK t->∀Q:Exit->S->Prop,Q e s'.den->AW C (.rangeFunc g ps as0 bd) Q s.den
def Fx:FO:=fun _ _ _ _ _=>none
theorem xd{P:Program}{N:Nat}{C:Cx P N}:wh C Fx:=fun _ _ _ _ _ _ _ _ h=>by cases h
abbrev EK:Type:=CS->Option (Exit×CS×CT)
def E3:Exit->Bool
 | .normal=>true
 |_=>false
theorem E4{e:Exit}(h:E3 e=true):e= .normal:=by cases e <;> first |rfl |cases h
theorem AP{e:Exit}(h:E3 e=false):e≠ .normal:=by intro he;subst he;cases h
def BO:V->Option Bool
 | .c (.bool t)=>some t
 |_=>none
theorem BP{v:V}{t:Bool}(h:BO v=some t):v= .b t:=by
 unfold BO at h;split at h;·injection h with h;subst h;rfl
 ·cases h
def F6(t:CT)(q:Exit×CS×CT):Option (Exit×CS×CT):=some (q.1,q.2.1,uU t q.2.2)
def sU(b:EK)(r:Exit×CS×CT):Option (Exit×CS×CT):=Bool.rec (motive:=fun _=>Option (Exit×CS×CT)) (some r) (oE (b r.2.1) none (F6 r.2.2)) (E3 r.1)
def Ga(a b:EK):EK:=fun s=>oE (a s) none (sU b)
def F5(c:Operand)(a b:EK):EK:=fun s=>oE (BO (ev s.tr.get c)) none fun t=>Bool.rec (motive:=fun _=>Option (Exit×CS×CT)) (b s) (a s) t
def F1(id:Nat):Exit->Exit
 | .exit id'=>match Nat.beq id' id with
  |true=> .normal
  |false=> .exit id'
 |e=>e
def EJ(id:Nat)(a:EK):EK:=fun s=>oE (a s) none fun r=>some (F1 id r.1,r.2)
def wO(a:EK)(k:Nat):EK:=Nat.rec (motive:=fun _=>EK) a (fun _ ih s=>oE (ih s) none (sU ih)) k
def F7(a:EK):EK:=fun s=>oE (wO a 30 s) none fun r=>Bool.rec (motive:=fun _=>Option (Exit×CS×CT)) (some r) none (E3 r.1)
def Gx:Exit->Bool
 | .goto _=>false
 |_=>true
def EL(a:EK):EK:=fun s=>oE (a s) none fun r=>BB (Gx r.1) (some r)
def CA(e:Exit):EK:=fun s=>some (e,s,c0)
def F9(dr:Bool)(ol:List Oper)(r:CS×KS×CT):Option (Exit×CS×CT):=BB (Bool.rec (motive:=fun _=>Bool) true (Dg ol r.2.1) dr) (some (.normal,⟨r.1.tr,r.1.sl,r.1.nx+1⟩,r.2.2))
def F8(call:dO)(T:List TI)(M mu:List Nat)(N:Nat)(ops:Array Oper)(dr:Bool):EK:=fun s=>BB (fK N ops.toList) (oE (pI call T M ops.toList ops.toList (mY mu s ops.toList) []) none (F9 dr ops.toList))
def DW:EK:=fun _=>none
def s4(call:dO)(rng:FO)(T:List TI)(M mu:List Nat)(N:Nat)(c:Code):EK:=Code.rec (motive:=fun _=>EK) (CA .normal) (fun _ ops dr=>F8 call T M mu N ops dr) (fun _ _ a b=>Ga a b) (fun c _ _ a b=>F5 c a b) (fun id _ a=>EJ id a) (fun _ a=>F7 a) (fun f ps as0 bd _ _=>rng f ps as0 bd) (fun id=>CA (.exit id)) (fun _ a=>EL a) (fun _=>CA .normal) (fun _=>DW) (CA .ret) (fun _=>DW) c
section
variable {P:Program}{N:Nat}{C:Cx P N}{T:List TI}{M mu:List Nat}{call:dO}{rng:FO}
def x8(C:Cx P N)(c:Code)(f:EK):Prop:=∀s e s' t,f s=some (e,s',t)->iK t->∀Q:Exit->S->Prop,Q e s'.den->AW C c Q s.den
theorem nT{b:EK}{r q:Exit×CS×CT}(h:sU b r=some q):(E3 r.1=false/\q=r)\/(r.1= .normal/\∃p,b r.2.1=some p/\q=(p.1,p.2.1,uU r.2.2 p.2.2)):=by
 unfold sU at h;cases hn:E3 r.1 with
 |false=>rw [hn]at h;injection h with h;exact .inl ⟨rfl,h.symm⟩
 |true=>rw [hn]at h;obtain⟨p,hp,h⟩:=cx h;injection h with h;exact .inr ⟨E4 hn,p,hp,h.symm⟩
theorem CD{x y:Code}{a b:EK}(ha:x8 C x a)(hb:x8 C y b):x8 C (.seq x y) (Ga a b):=by
 intro s e s' t h he Q hQ;obtain⟨r,hr,h⟩:=cx h;obtain⟨e1,s1,t1⟩:=r;rcases nT h with⟨h1,h2⟩ | ⟨h1,p,hp,h2⟩;·simp only [Prod.mk.injEq]at h2;obtain⟨rfl,rfl,rfl⟩:=h2;refine uP (ha _ _ _ _ hr he _ ?_);have:=AP h1;cases e <;> first |exact absurd rfl this |exact hQ
 ·simp only at h1 hp;subst h1;obtain⟨e2,s2,t2⟩:=p;simp only [Prod.mk.injEq]at h2;obtain⟨rfl,rfl,rfl⟩:=h2;have he:=j8 he;exact uP (ha _ _ _ _ hr he.1 _ (hb _ _ _ _ hp he.2 _ hQ))
theorem kP{c:Code}{a:EK}(ha:x8 C c a){Q:Exit->S->Prop}:∀(k:Nat) (s:CS) (e:Exit) (s':CS) (t:CT),wO a k s=some (e,s',t)->iK t->(e= .normal->∀m,DI C c Q m s'.den->∃m',DI C c Q m' s.den)/\(e≠ .normal->Q e s'.den->∃m',DI C c Q m' s.den)
 |0,s,e,s',t,h,he=>by
  have h:a s=some (e,s',t):=h;refine⟨fun hn m hm=>⟨m+1,?_⟩,fun hn hq=>⟨1,?_⟩⟩;·subst hn;exact ha _ _ _ _ h he _ hm
  ·refine ha _ _ _ _ h he _ ?_;cases e <;> first |exact absurd rfl hn |exact hq
 |k+1,s,e,s',t,h,he=>by
  have h:oE (wO a k s) none (sU (wO a k))=some (e,s',t):=h;obtain⟨r,hr,h⟩:=cx h;obtain⟨e1,s1,t1⟩:=r;rcases nT h with⟨h1,h2⟩ | ⟨h1,p,hp,h2⟩;·simp only [Prod.mk.injEq]at h2;obtain⟨rfl,rfl,rfl⟩:=h2;exact kP ha k _ _ _ _ hr he
  ·simp only at h1 hp;subst h1;obtain⟨e2,s2,t2⟩:=p;simp only [Prod.mk.injEq]at h2;obtain⟨rfl,rfl,rfl⟩:=h2;have he:=j8 he;have q1:=kP (Q:=Q) ha k _ _ _ _ hr he.1;have q2:=kP (Q:=Q) ha k _ _ _ _ hp he.2;refine⟨fun hn m hm=> ?_,fun hn hq=> ?_⟩;·obtain⟨m1,h3⟩:=q2.1 hn m hm;exact q1.1 rfl m1 h3
   ·obtain⟨m1,h3⟩:=q2.2 hn hq;exact q1.1 rfl m1 h3
theorem CB(hT:aO T P)(hcl:cw P call){id:Nat}{ops:Array Oper}{dr:Bool}:x8 C (.region id ops dr) (F8 call T M mu N ops dr):=by
 intro s e s' t h he Q hQ;obtain⟨hok,h⟩:=cN h;obtain⟨r,hr,h⟩:=cx h;obtain⟨s1,ks,t1⟩:=r;obtain⟨hd,h⟩:=cN h;simp only [Option.some.injEq,Prod.mk.injEq]at h;obtain⟨rfl,rfl,rfl⟩:=h;have e0:ops=ops.toList.toArray:=by simp
 refine nJ (qY mu s ops.toList) ?_;cases dr with
 |false=>rw [e0];obtain⟨q1,q2⟩:=dJ hT hcl (C:=C) (K:=fun tm' σ' _=>Q .normal ⟨tm',σ',(mY mu s ops.toList).nx+1⟩) (by simpa using hr) he;refine lD (s:=(mY mu s ops.toList).den) (by simpa using hok) (q2 ?_);have hk':Q .normal ⟨s1.tr.get,dV s1.sl,s1.nx+1⟩:=hQ;rw [q1]at hk';exact hk'
 |true=>rw [e0];obtain⟨q1,q2⟩:=dJ hT hcl (C:=C) (K:=fun tm' σ' ks'=>gu ops.toList ks'=true/\Q .normal ⟨tm',σ',(mY mu s ops.toList).nx+1⟩) (by simpa using hr) he;refine j7 (s:=(mY mu s ops.toList).den) (by simpa using hok) (q2 ⟨wQ hd,?_⟩);have hk':Q .normal ⟨s1.tr.get,dV s1.sl,s1.nx+1⟩:=hQ;rw [q1]at hk';exact hk'
theorem kL(hT:aO T P)(hcl:cw P call)(hrg:wh C rng)(c:Code):x8 C c (s4 call rng T M mu N c):=by
 induction c with
 |skip=>intro s e s' t h he Q hQ;injection h with h;simp only [Prod.mk.injEq]at h;obtain⟨rfl,rfl,rfl⟩:=h;exact aC hQ
 |region id ops dr=>exact CB hT hcl
 |seq a b iha ihb=>exact CD iha ihb
 |cond c a b iha ihb=>
  intro s e s' t h he Q hQ;obtain⟨tt,ht,h⟩:=cx h;have ht:=BP ht;cases tt with
  |true=>exact kI ht (fun _=>iha _ _ _ _ h he Q hQ) fun h=>by cases h
  |false=>exact kI ht (fun h=>by cases h) fun _=>ihb _ _ _ _ h he Q hQ
 |block id a iha=>
  intro s e s' t h he Q hQ;obtain⟨r,hr,h⟩:=cx h;obtain⟨e1,s1,t1⟩:=r;simp only [Option.some.injEq,Prod.mk.injEq]at h;obtain⟨rfl,rfl,rfl⟩:=h;refine bx (iha _ _ _ _ hr he _ ?_);cases e1 with
  |exit id'=>
   simp only [F1]at hQ;split at hQ;·rename_i hb;have hb:=Nat.eq_of_beq_eq_true hb;subst hb;exact lq hQ
   ·rename_i hb;exact Hs (by simpa using Nat.ne_of_beq_eq_false hb) hQ
  |_=>exact hQ
 |loop a iha=>
  intro s e s' t h he Q hQ;obtain⟨r,hr,h⟩:=cx h;obtain⟨e1,s1,t1⟩:=r;cases hn:E3 e1 with
  |true=>simp only [hn]at h;cases h
  |false=>simp only [hn,Option.some.injEq,Prod.mk.injEq]at h;obtain⟨rfl,rfl,rfl⟩:=h;obtain⟨m,hm⟩:=(kP iha 30 _ _ _ _ hr he).2 (AP hn) hQ;exact lE m hm
 |rangeFunc f ps as0 bd _ _=>intro s e s' t h he Q hQ;exact hrg _ _ _ _ _ _ _ _ h he Q hQ
 |exit id=>intro s e s' t h he Q hQ;injection h with h;simp only [Prod.mk.injEq]at h;obtain⟨rfl,rfl,rfl⟩:=h;exact jt hQ
 |scope a iha=>intro s e s' t h he Q hQ;obtain⟨r,hr,h⟩:=cx h;obtain⟨e1,s1,t1⟩:=r;obtain⟨hg,h⟩:=cN h;simp only [Option.some.injEq,Prod.mk.injEq]at h;obtain⟨rfl,rfl,rfl⟩:=h;refine zT (iha _ _ _ _ hr he _ ?_);cases e1 <;> first |exact hQ |cases hg
 |label l=>intro s e s' t h he Q hQ;injection h with h;simp only [Prod.mk.injEq]at h;obtain⟨rfl,rfl,rfl⟩:=h;exact zS hQ
 |goto l=>intro s e s' t h;cases h
 |ret=>intro s e s' t h he Q hQ;injection h with h;simp only [Prod.mk.injEq]at h;obtain⟨rfl,rfl,rfl⟩:=h;exact aG hQ
 |refuse w=>intro s e s' t h;cases h
end
def EY:List (Nat×V)->List Nat
 | []=>[]
 |p::l=>p.2.ids++EY l
def AO(nl:List Nat)(i:Nat):Nat:=match gZ nl i with
 |true=>tu nl i
 |false=>i
def dW:Nat->List Nat->List (Nat×Nat)
 |_,[]=>[]
 |j,k::l=>(j,k)::dW (j+1) l
def iu(g:Nat->Nat):List (Nat×V)->List (Nat×V)
 | []=>[]
 |p::l=>(p.1,p.2.bg g)::iu g l
def vals:List (Nat×V)->List V
 | []=>[]
 |p::l=>p.2::vals l
theorem nj{α:Type}{p:α->Prop}:∀ {l:List α},(∀x∈l,p x)->lu p l
 | [],_=> .nil
 |x::l,h=> .cons (h x (by simp)) (nj fun y hy=>h y (by simp [hy]))
theorem nu:∀ {os:List (Option Ob)}{k:Nat}{p:Nat×Ob},p∈iG k os->∃i,p.1=k+i/\os[i]?=some (some p.2)
 | [],_,_,h=>by simp [iG]at h
 |none::os,k,p,h=>by obtain⟨i,h1,h2⟩:=nu (os:=os) h;exact⟨i+1,by omega,by simpa using h2⟩
 |some o::os,k,p,h=>by
  rcases List.mem_cons.1 h with rfl |h;·exact⟨0,rfl,rfl⟩
  ·obtain⟨i,h1,h2⟩:=nu (os:=os) h;exact⟨i+1,by omega,by simpa using h2⟩
theorem jB:∀ {nl:List Nat}{j i:Nat}{k:Nat},nl[i]?=some k->(dW j nl).find? (·.1 == j+i)=some (j+i,k)
 |a::nl,j,0,k,h=>by simp at h;subst h;simp [dW]
 |a::nl,j,i+1,k,h=>by
  have:=jB (j:=j+1) (i:=i) (nl:=nl) (by simpa using h);rw [dW,List.find?_cons];have e:((j,a).1 == j+(i+1))=false:=by simp
  rw [e,show j+(i+1)=j+1+i by omega];exact this
theorem qn:∀ {nl:List Nat}{j m:Nat},j+nl.length<=m->(dW j nl).find? (·.1 == m)=none
 | [],_,_,_=>rfl
 |a::nl,j,m,h=>by
  simp only [List.length_cons]at h;rw [dW,List.find?_cons];have e:((j,a).1 == m)=false:=by simp only [beq_eq_false_iff_ne];omega
  rw [e];exact qn oM
theorem ox{g gi:Nat->Nat}{tm:Nat->V}:∀ {tl:List (Nat×V)},(∀p∈tl,tm p.1=p.2)->vals tl=V.aP g (vals (iu gi tl))->lu (fun p=>tm p.1=p.2.bg g) (iu gi tl)
 | [],_,_=> .nil
 |p::tl,h,e=>by simp only [vals,iu,V.aP,List.cons.injEq]at e;exact .cons ((h p (by simp)).trans e.1) (ox (fun q hq=>h q (by simp [hq])) e.2)
end
end Go.Ab

namespace Go.Ab
open Go.RowKit Go.Dw Go.Shelf
structure HP(P:Program)(es:List (List V)) where
  l:Nat
  J:Nat->Bool->(Nat->Prop)->World->Prop
  L0:Nat->Prop
  B:Nat
  hY:∀k x A W1,k< es.length->HO es k x W1->(∀b,A b->B<=b/\b< W1.heap.size)->B<=W1.heap.size->J k true A W1->YieldAt Fence.wide 0 P l x W1 fun e W2=>∃b:Bool,e= .returned (.bool b)/\aU (fun i=>¬A i/\¬L0 i) W1 W2/\(b=true->J (k+1) true A W2)/\(b=false->J k false A W2)
  hJ:∀k g A W1 W2,J k g A W1->(∀b,A b->B<=b/\b< W1.heap.size)->B<=W1.heap.size->aU A W1 W2->J k g (fun b=>A b\/(W1.heap.size<=b/\b< W2.heap.size)) W2
  hL:∀b,L0 b->b< B
section
variable {P:Program}{N:Nat}{es:List (List V)}{Y:HP P es}{Q:Exit->S->Nat->Bool->Prop}{s:S}{k:Nat}{g:Bool}
end
def IM:V->Bool
 | .gd g _=>g
 |_=>true
theorem BQ{v:V}(h:IM v=true):pP true v:=by cases v <;> first |exact fun _=>h |trivial
structure I0{P:Program}{N:Nat}{es:List (List V)}(C:Cx P N)(Y:YE P es)(ops:Array Oper)(nx:Nat)(os:List Oper)(fo:Operand)(ar:Array Operand)(d:Nat)(y:Oper)(Q:Exit->S->Nat->Bool->Prop)(k:Nat)(tm:Nat->V)(σ:Nat->Option Ob):Prop where
  hg:cH ops tm y=some true
  hu:((fo::ar.toList).all fun x=>IM (ev tm x))=true
  hf:ug (ev tm fo)= .c (.func (.yield Y.l) #[] #[])
  hv:∃v,es[k]?=some v/\A2 (ar.toList.map fun x=>ug (ev tm x)) v
  bX:V.aZ (ar.toList.map fun x=>ug (ev tm x))=true
  t:bq C ops nx os (bU tm d (.b true)) σ [] fun tm' σ' _=>Q .normal ⟨tm',σ',nx+1⟩ (k+1) true
  f:bq C ops nx os (bU tm d (.b false)) σ [] fun tm' σ' _=>Q .normal ⟨tm',σ',nx+1⟩ k false
theorem uQ{P:Program}{N:Nat}{es:List (List V)}{C:Cx P N}{Y:YE P es}{Q:Exit->S->Nat->Bool->Prop}(hC:YC C Y){id nx k:Nat}{ol:List Oper}{tm:Nat->V}{σ:Nat->Option Ob}(n:Nat){fo:Operand}{ar:Array Operand}{ats:Array TypeId}{d:Nat}{ty:TypeId}{pos:String}{af:Array Edge}{gd':Nat×Bool} (hok:fK N ol=true) (hy:ol[n]?=some ⟨some d,.call {callee:= .value fo,args:=ar,argTypes:=ats},ty,pos,af,some gd'⟩) (h:bq C ol.toArray nx (ol.take n) tm σ [] fun tm1 σ1 _=>I0 C Y ol.toArray nx (ol.drop (n+1)) fo ar d ⟨some d,.call {callee:= .value fo,args:=ar,argTypes:=ats},ty,pos,af,some gd'⟩ Q k tm1 σ1):oY C Y (.region id ol.toArray false) Q ⟨tm,σ,nx⟩ k true:=by
 intro a w ⟨L,ρ,g⟩ hj hb;obtain⟨h1,h2⟩:=fL hok;obtain⟨tr,tm1,σ1,h3,ys⟩:=h.run;have hn:n< ol.length:=(List.getElem?_eq_some_iff.1 hy).1;obtain⟨y,hyd⟩:∃y:Oper,y=⟨some d,.call {callee:= .value fo,args:=ar,argTypes:=ats},ty,pos,af,some gd'⟩:=⟨_,rfl⟩;have hsp:ol=ol.take n++y::ol.drop (n+1):=by rw [hyd];have e1:ol.drop n=ol[n]::ol.drop (n+1):=List.drop_eq_getElem_cons hn;have e2:ol[n]=_:=(List.getElem?_eq_some_iff.1 hy).2;rw [<-e2,<-e1,List.take_append_drop]
 refine wpIn_region ?_;have hsz:ol.toArray.size=(ol.take n).length+(y::ol.drop (n+1)).length:=by simp;omega
 rw [List.range_eq_range',hsz];have hmem:∀o∈ol.take n++y::ol.drop (n+1),o∈ol:=fun o ho=>by rwa [<-hsp]at ho
 refine rH (P:=P) (W:=C.W) (LB:=C.LB) (ops:=ol.toArray) (nx:=nx) (N:=N) (dfs:=C.dfs) (.inl rfl) (by simpa using h1) (y::ol.drop (n+1)) (ol.take n) 0 tr tm tm1 σ σ1 a w w L ρ (bN nx) (fun j=>by rw [<-hsp];simp) h3 g (fun o ho t ht id h5 h6 h7=>h5) (fun id hid=>eN hid) (by rw [<-hsp];exact h2) (aU.refl _ _) ?_;intro a1 W1 L1 ρ1 fr1 g1 q1 q2 t1;rw [Nat.zero_add,List.length_take,Nat.min_eq_left (Nat.le_of_lt hn),List.length_cons,List.range'_succ,wpOpsIn_cons];have hj1:Y.J k true W1:=Y.hJ _ _ _ _ hj (t1.xY hb fun j hj hW=>(hC.W j hW).resolve_left oM);have hb1:Y.B<=W1.heap.size:=Nat.le_trans hb t1.size;obtain⟨v,hv,ha⟩:=ys.hv;have hk:k< es.length:=(List.getElem?_eq_some_iff.1 hv).1;have hargs:RV W1 L1 ρ0 v (ar.map a1.eval).toList:=by refine ha.rv (RV.free (ρ:=ρ1) ⟨by simp,fun i u x hu hx=> ?_⟩ ys.bX);simp only [List.getElem?_map,Option.map_eq_some_iff,Array.toList_map]at hu hx;obtain⟨p,hp,rfl⟩:=hu;obtain⟨q,hq,rfl⟩:=hx;rw [hp]at hq;injection hq with hq;subst hq;exact(g1.tm.eval g1.g.gl p).ug (BQ (List.all_eq_true.1 ys.hu p (List.mem_cons_of_mem _ (List.mem_of_getElem? hp))))
 have hLl:∀b,L1 b->(Y.L0 b\/Y.U b)\/Y.B<=b:=fun b hb=>hC.LB b (g1.g.ll b hb).2;obtain⟨fn,tmps,assign,body,hyr,hR⟩:=Y.hY k (ar.map a1.eval) W1 hk ⟨v,hv,L1,fun b hbl=>by
  rcases hLl b hbl with h |h;·exact .inl h
  ·exact .inr ⟨Nat.le_trans Y.hB h,(g1.g.ll b hbl).1,by have:=Y.hl.2;omega⟩,hargs⟩ hb1 hj1
 have hfe:a1.eval fo= .func (.yield Y.l) #[] #[]:=by have:=(g1.tm.eval g1.g.gl fo).ug (BQ (List.all_eq_true.1 ys.hu fo (List.mem_cons_self ..)));rw [ys.hf]at this;exact this.aJ
 have ho:ol.toArray[n]?=some y:=by simp [hy,hyd]
 unfold wpOpIn;rw [ho];simp only;have hwt:Region.wanted y (yielded ol.toArray a1.tmps)=true:=by rw [hyd];exact k9 g1.tm ys.hg
 rw [if_pos hwt];refine⟨fun f _=>trivial,?_⟩;have hrun:(y.semAt Fence.wide.round a1.eval).run P W1= .ok (.round Y.l fn tmps assign body) W1:=by rw [Oper.semAt_eq _ _ _ (fun c e=>by rw [hyd]at e;cases e),hyd];simp [execOp,resolve,Deferred.ofValue,invoke,hfe,hyr]
 rw [hrun,Oper.uponIn_round];refine⟨fun e=>by simp [Fence.wide]at e,hR.mono ?_⟩;rintro e W2 ⟨b,rfl,ht2,j1,j2⟩;have hyd2:y.dst=some d:=by rw [hyd]
 have hdN:d< N:=h1 y (hmem y (by simp)) d hyd2;have nL:∀j,L1 j->¬(Y.R0 j\/j=Y.l):=by
  rintro j hjl (h |rfl)
  ·have q:=Y.hR j h;rcases hLl j hjl with(h' |h') |h';·exact q.2 h'
   ·exact(Y.hU j h').2.2 h
   ·have:=Y.hB;omega
  ·rcases hLl _ hjl with(h' |h') |h';·have:=Y.hL _ h';have:=Y.hl.1;omega
   ·have:=(Y.hU _ h').1;have:=Y.hl.1;omega
   ·have:=Y.hl.2;omega
 have nW:∀j,C.W j->¬(Y.R0 j\/j=Y.l):=by
  rintro j hjw (h |rfl)
  ·rcases hC.W j hjw with hw |hw;·have q:=Y.hR j h;have:=Y.hB;omega
   ·exact(Y.hU j hw).2.2 h
  ·rcases hC.W _ hjw with hw |hw;·have:=Y.hl.2;omega
   ·have:=(Y.hU _ hw).1;have:=Y.hl.1;omega
 have ex:Ext W1 L1 ρ1 W2 L1 ρ1:=⟨fun b hb=>⟨hb,ht2.block b (g1.g.ll b hb).1 (nL b hb)⟩,fun _ _ h=>h⟩;have gb:∀z:Bool,z=b->nD C.W C.LB N C.dfs fr1 (bU tm1 d (.b z)) σ1 (a1.put y.dst (.bool b)) W2 L1 ρ1:=by
  rintro z rfl;rw [hyd2];refine⟨⟨fun b hb=>⟨Nat.lt_of_lt_of_le (g1.g.ll b hb).1 ht2.size,(g1.g.ll b hb).2⟩,fun b hb=>g1.g.new b (Nat.le_trans ht2.size hb),fun id o ho=> ?_,g1.g.sep,g1.g.td ex⟩,g1.fr,(show TM (cZ tm1 (some d) (V.b z)) _ _ _ _ from(g1.tm.ext ex).put (fun t ht=>by injection ht with ht;rw [<-ht,g1.size];exact hdN) (.c _ _)),by simp [Act.put,g1.size],?_,g1.pin⟩
  ·have hr1:=g1.g.ob id o ho;obtain⟨u,hu,hu2⟩:=hr1.lt;refine hr1.keep ex fun x j hx hj=> ?_;rw [hx]at hu;injection hu with hu;subst hu
   exact⟨ht2.block j (hu2 j hj).1 (nW j (hu2 j hj).2.1),(hu2 j hj).2.2⟩
  ·obtain⟨Es,p1,p2,p3⟩:=g1.defers;exact⟨Es,p1,p2,fun D hD=>⟨(ht2.block D (Array.getElem?_eq_some_iff.1 (p3 D hD).1).1 (nW D (p3 D hD).2.1)).trans (p3 D hD).1,(p3 D hD).2⟩⟩
 have hb2:Y.B<=W2.heap.size:=Nat.le_trans hb1 ht2.size;have hnd:((ol.drop (n+1)).filterMap (·.dst)).Nodup:=by rw [hsp,List.filterMap_append,List.filterMap_cons,hyd2]at h2;exact(List.nodup_cons.1 (List.nodup_append.1 h2).2.1).2
 have tail:∀(z:Bool) (k':Nat),z=b->Y.J k' z W2->bq C ol.toArray nx (ol.drop (n+1)) (bU tm1 d (.b z)) σ1 [] (fun tm' σ' _=>Q .normal ⟨tm',σ',nx+1⟩ k' z)->
  wpOpsIn Fence.wide 0 P ol.toArray (fun e a' w'=>∃s' k' g',Q e s' k' g'/\Gm C s' a' w'/\Y.J k' g' w'/\Y.B<=w'.heap.size) (List.range' (n+1) (ol.drop (n+1)).length) (a1.put y.dst (.bool b)) W2:=by
  intro z k' hz hj' hA
  obtain⟨tr2,tm2,σ2,h4,hq⟩:=hA.run
  exact oC (P:=P) (W:=C.W) (LB:=C.LB) (ops:=ol.toArray) (nx:=nx) (N:=N) (dfs:=C.dfs) (.inl rfl) (by simpa using h1) (ol.drop (n+1)) (n+1) tr2 _ tm2 _ σ2 _ W2 W2 L1 ρ1 fr1 (fun j=>by simp) h4 (gb z hz) (fun o ho=>q1 o (by simp [ho])) q2 hnd (aU.refl _ _) fun a' w' L' ρ' g' t'=>
   ⟨⟨tm2,σ2,nx+1⟩,k',z,hq,⟨L',ρ',g'⟩,Y.hJ _ _ _ _ hj' (t'.xY hb2 fun j hj hW=>(hC.W j hW).resolve_left oM),Nat.le_trans hb2 t'.size⟩
 cases b with
 |true=>exact tail true (k+1) rfl (j1 rfl) ys.t
 |false=>exact tail false k rfl (j2 rfl) ys.f
noncomputable section
section
variable {P:Program}(N:Nat){es:List (List V)}(Y:HP P es) (Q:Exit->S->Nat->Bool->Prop)
end
structure JX where
  g:CC
  y:Option (List V)
  side:Option CC
  e:CT
def D6(tm:Nat->V)(ys:List Nat):Operand->Bool
 | .tmp t=>match gZ ys t with
  |true=>true
  |false=>match tm t with
   | .c (.func (.yield _) _ _)=>true
   |_=>false
 |_=>false
def B4(tm:Nat->V):List Nat->List Oper->Option Nat
  |_,[]=>none
  |ys,o::os=>match o.op with
    | .call c=>match c.callee with
      | .value fo=>match D6 tm ys fo with
        |true=>some 0
        |false=>match B4 tm ys os with
          |some n=>some (n+1)
          |none=>none
      |_=>match B4 tm ys os with
        |some n=>some (n+1)
        |none=>none
    | .move x=>match B4 tm (match D6 tm ys x with
        |true=>o.dst.getD 0::ys
        |false=>ys) os with
      |some n=>some (n+1)
      |none=>none
    |_=>match B4 tm ys os with
      |some n=>some (n+1)
      |none=>none
def Ht(tm:Nat->V)(o:Oper):Option (V×List V):=match o.op with
 | .call c=>match c.callee with
  | .value fo=>match V.aZ (c.args.toList.map (fun x=>ug (ev tm x))) && ((fo::c.args.toList).all fun x=>IM (ev tm x))with
   |true=>some (ug (ev tm fo),c.args.toList.map (fun x=>ug (ev tm x)))
   |false=>none
  |_=>none
 |_=>none
def Je(gOk:Bool)(ol:List Oper)(tm:Nat->V)(o:Oper):Bool:=match o.guard with
 |none=>(opsV tm o).all fun v=>match v with
  | .gd _ _=>false
  |_=>true
 |some _=>match gOk with
  |false=>false
  |true=>match fB (ol.map (·.dst)) tm o with
   |some (some g)=>g
   |_=>false
def E6(gOk:Bool)(call:dO)(T:List TI)(M:List Nat)(l:Nat)(ol:List Oper)(k:List Fr)(s:CS)(n:Nat):Option JX:=
 match ol[n]? with
  |some o=>match o.dst with
   |some d=>match decide (d< 1000)with
    |true=>match pI call T M ol (ol.take n) s []with
     |some (s1,_,e1)=>match Je gOk ol s1.tr.get o with
      |true=>match Ht s1.tr.get o with
       |some (fv,as0)=>match pI call T M ol (ol.drop (n+1)) ⟨TR.put 10 s1.tr d (.b true),s1.sl,s1.nx⟩ []with
        |some (s2,_,e2)=>match pI call T M ol (ol.drop (n+1)) ⟨TR.put 10 s1.tr d (.b false),s1.sl,s1.nx⟩ []with
         |some (s3,_,e3)=>some ⟨.done .normal k ⟨s2.tr,s2.sl,s2.nx+1⟩,some as0,some (.done .normal k ⟨s3.tr,s3.sl,s3.nx+1⟩),.nd (.lf [(.vs [fv],.vs [.c (.func (.yield l) #[] #[])])]) (.nd e1 (.nd e2 e3))⟩
         |none=>none
        |none=>none
       |none=>none
      |false=>none
     |none=>none
    |false=>none
   |none=>none
  |none=>none
def C2(gOk:Bool)(call:dO)(T:List TI)(M mu:List Nat)(N l:Nat):CC->Option JX
 | .done e k s=>match k with
  | []=>none
  | .c y::k=>match e with
   | .normal=>some ⟨.code y k s,none,none,c0⟩
   |e=>some ⟨.done e k s,none,none,c0⟩
  | .b id::k=>match e with
   | .exit id'=>match Nat.beq id' id with
    |true=>some ⟨.done .normal k s,none,none,c0⟩
    |false=>some ⟨.done (.exit id') k s,none,none,c0⟩
   |e=>some ⟨.done e k s,none,none,c0⟩
  | .l y m::k=>match e with
   | .normal=>match m with
    |0=>none
    |m+1=>some ⟨.code y (.l y m::k) s,none,none,c0⟩
   |e=>some ⟨.done e k s,none,none,c0⟩
  | .s::_=>none
 | .code c k s=>match c with
  | .skip=>some ⟨.done .normal k s,none,none,c0⟩
  | .exit id=>some ⟨.done (.exit id) k s,none,none,c0⟩
  | .ret=>some ⟨.done .ret k s,none,none,c0⟩
  | .seq x y=>some ⟨.code x (.c y::k) s,none,none,c0⟩
  | .block id x=>some ⟨.code x (.b id::k) s,none,none,c0⟩
  | .loop x=>some ⟨.code x (.l x 1000000::k) s,none,none,c0⟩
  | .cond c x y=>match ev s.tr.get c with
   | .c (.bool t)=>match t with
    |true=>some ⟨.code x k s,none,none,c0⟩
    |false=>some ⟨.code y k s,none,none,c0⟩
   |_=>none
  | .region _ ops dr=>match fK N ops.toList with
   |true=>match pI call T M ops.toList ops.toList (mY mu s ops.toList) []with
    |some (s',ks,e)=>match dr with
     |false=>some ⟨.done .normal k ⟨s'.tr,s'.sl,s'.nx+1⟩,none,none,e⟩
     |true=>match Dg ops.toList ks with
      |true=>some ⟨.done .normal k ⟨s'.tr,s'.sl,s'.nx+1⟩,none,none,e⟩
      |false=>none
    |none=>match B4 s.tr.get [] ops.toList with
     |some n=>match dr with
      |false=>E6 gOk call T M l ops.toList k s n
      |true=>none
     |none=>none
   |false=>none
  |_=>none
 | .ops _ _ _ _ _ _=>none
section
variable {P:Program}{N:Nat}{es:List (List V)}{Y:HP P es}{Q:Exit->S->Nat->Bool->Prop}{T:List TI}{M mu:List Nat}{call:dO}
theorem qD:∀l:List V,A2 l l
 | []=>trivial
 |_::l=>⟨bL.refl _,qD l⟩
theorem xp{tm:Nat->V}{o:Oper}(h:((opsV tm o).all fun v=>match v with
 | .gd _ _=>false
 |_=>true)=true){x:Operand}(hx:x∈o.op.operands):ug (ev tm x)=ev tm x:=by
 have:=List.all_eq_true.1 h _ (jd (tm:=tm) hx)
 cases hv:ev tm x <;> rw [hv]at this <;> first |rfl |cases this
end
def HB(gOk:Bool)(call:dO)(T:List TI)(M mu:List Nat)(N l:Nat):Nat->CC->Option CT
 |0,_=>none
 |m+1,g=>match C2 gOk call T M mu N l g with
  |some x=>match x.y with
   |none=>match HB gOk call T M mu N l m x.g with
    |some e=>some (.nd x.e e)
    |none=>none
   |some _=>none
  |none=>match g with
   | .done e [] _=>match e with
    | .ret=>some c0
    | .normal=>some c0
    |_=>none
   |_=>none
def vo(gOk:Bool)(call:dO)(T:List TI)(M mu:List Nat)(N l:Nat):Nat->CC->Option (List (List V)×CT)
 |0,_=>none
 |m+1,g=>match C2 gOk call T M mu N l g with
  |some x=>match x.y with
   |none=>match vo gOk call T M mu N l m x.g with
    |some (as0,e)=>some (as0,.nd x.e e)
    |none=>none
   |some a=>match x.side with
    |some sd=>match HB gOk call T M mu N l 5000 sd with
     |some e0=>match vo gOk call T M mu N l m x.g with
      |some (as0,e)=>some (a::as0,.nd x.e (.nd e0 e))
      |none=>none
     |none=>none
    |none=>none
  |none=>match g with
   | .done e [] _=>match e with
    | .ret=>some ([],c0)
    | .normal=>some ([],c0)
    |_=>none
   |_=>none
def CT.Hi:CT->List (CE×CE)
 | .lf l=>l
 | .nd a b=>a.Hi++b.Hi
theorem CT.vT:∀ {t:CT},gP t.Hi->iK t
 | .lf _,h=>h
 | .nd _ _,h=>⟨CT.vT h.l,CT.vT h.r⟩
def E7(r:Option (List (List V)×CT)):Option (List (List V)):=match r with
 |some (as0,_)=>some as0
 |none=>none
def HC(r:Option (List (List V)×CT)):CT:=match r with
 |some (_,e)=>e
 |none=>c0
def TR.keys(f:Nat->Nat):TR->List Nat
 | .e=>[]
 | .n _ l r=>f 0::(TR.keys (fun i=>f (2*i+1)) l++TR.keys (fun i=>f (2*i+2)) r)
def se(tr:TR):List Nat->List (Nat×V)
 | []=>[]
 |t::l=>(t,tr.get t)::se tr l
theorem xo{tr:TR}:∀ {l:List Nat},∀p∈se tr l,tr.get p.1=p.2
 | [],p,h=>by simp [se]at h
 |t::l,p,h=>by
  rcases List.mem_cons.1 h with rfl |h;·rfl
  ·exact xo (l:=l) p h
def Ei:List (Nat×V)->TR
 | []=> .e
 |p::l=>TR.put 10 (Ei l) p.1 p.2
theorem rS:∀ {l:List (Nat×V)},(∀p∈l,p.1< 1000)->(Ei l).get=jz l
 | [],_=>by funext t;exact TR.gE t
 |p::l,h=>by rw [Ei,TR.ir (h p (by simp)),rS fun q hq=>h q (by simp [hq])];rfl
def setTR(tr:TR):List Nat->List V->TR
 |p::ps,v::vs=>setTR (TR.put 10 tr p v) ps vs
 |_,_=>tr
theorem qv:∀(ps:List Nat) (vs:List V) (tr:TR),(∀p∈ps,p< 1000)->(setTR tr ps vs).get=l6 tr.get ps vs
 | [],vs,tr,_=>by cases vs <;> rfl
 |p::ps,[],tr,_=>rfl
 |p::ps,v::vs,tr,h=>by rw [setTR,l6,qv ps vs _ fun q hq=>h q (by simp [hq]),TR.ir (h p (by simp))]
def uq:List Nat->List Ob->List (Nat×Option Ob)
 |n::ns,o::l=>(n,some o)::uq ns l
 |_,_=>[]
theorem oW:∀(ns:List Nat) (l:List Ob),dV (uq ns l)=cE (ns.zip l)
 | [],l=>by cases l <;> (funext i;rfl)
 |n::ns,[]=>by funext i;rfl
 |n::ns,o::l=>by
  funext i;show dV ((n,some o)::uq ns l) i=bU (cE (ns.zip l)) n (some o) i;rw [<-oW ns l];simp only [dV];split;·rename_i h;rw [Nat.eq_of_beq_eq_true h,av]
  ·rename_i h;rw [ak _ _ (Nat.ne_of_beq_eq_false h)]
def kT(pn:List Nat):List Nat->List Nat
 | []=>[]
 |k::l=>match gZ pn k with
  |true=>kT pn l
  |false=>k::kT pn l
def m7(np:Nat):List Nat:=(List.range np).map (500+ ·)
inductive RO where
  |nor (l:List Ob) (e:CT)
  |ext (c:Exit) (l:List Ob) (e:CT)
  |bad
@[irreducible] def Jo:List Nat:=List.range 90
def GJ(l:List Ob)(t:CT):Exit->RO
 | .normal=> .nor l t
 | .ret=> .ext .ret l t
 | .exit id=> .ext (.exit id) l t
 |_=> .bad
def Aq:Exit->Code
 | .exit id=> .exit id
 |_=> .ret
theorem r8{α β:Type}:∀ {l:List α}{m:List β}{p:α×β},p∈l.zip m->∃i:Nat,l[i]?=some p.1/\m[i]?=some p.2
 | [],_,p,h=>by simp at h
 |_::_,[],p,h=>by simp at h
 |a::l,b::m,p,h=>by
  rw [List.zip_cons_cons]at h;rcases List.mem_cons.1 h with rfl |h;·exact⟨0,rfl,rfl⟩
  ·obtain⟨i,h1,h2⟩:=r8 h;exact⟨i+1,by simpa using h1,by simpa using h2⟩
theorem wP:∀ {nl:List Nat}{j m:Nat},m< j->(dW j nl).find? (·.1 == m)=none
 | [],_,_,_=>rfl
 |a::nl,j,m,h=>by
  rw [dW,List.find?_cons];have e:((j,a).1 == m)=false:=by simp only [beq_eq_false_iff_ne];omega
  rw [e];exact wP oM
section
variable {P:Program}{N:Nat}{T:List TI}{M mu:List Nat}{call:dO}{pn:List Nat}{tl:List (Nat×V)}{ps:List Nat}{as0 bd:Code}
end
def DF(rd:List V->List Ob->RO):List (List V)->List Ob->Option (Exit×List Ob×CT)
 | [],l=>some (.normal,l,c0)
 |x::es,l=>match rd x l with
  | .nor l' e=>match DF rd es l' with
   |some (c,lf,e')=>some (c,lf,.nd e e')
   |none=>none
  | .ext c lf e=>match c with
   | .ret=>some (.ret,lf,e)
   | .exit id=>some (.exit id,lf,e)
   |_=>none
  | .bad=>none
def jI(rd:List V->List Ob->RO)(es:List (List V))(l0:List Ob):Nat->Option (List Ob)
 |0=>some l0
 |k+1=>match jI rd es l0 k,es[k]? with
  |some l,some x=>match rd x l with
   | .nor l' _=>some l'
   |_=>none
  |_,_=>none
theorem BZ{rd:List V->List Ob->RO}{es:List (List V)}{l0:List Ob}{c:Exit}{lf:List Ob}{e:CT}(h:DF rd es l0=some (c,lf,e))(he:iK e):∀k l,jI rd es l0 k=some l->k<=es.length/\∃t,DF rd (es.drop k) l=some (c,lf,t)/\iK t
 |0,l,hl=>by simp only [jI,Option.some.injEq]at hl;subst hl;exact⟨Nat.zero_le _,e,h,he⟩
 |k+1,l,hl=>by
  simp only [jI]at hl;split at hl
  ·rename_i l1 x h1 hx;obtain⟨hk,t,h2,ht⟩:=BZ h he k l1 h1;have hlt:=(List.getElem?_eq_some_iff.1 hx).1;have hdr:es.drop k=x::es.drop (k+1):=by
    rw [List.drop_eq_getElem_cons hlt];congr 1
    exact(List.getElem?_eq_some_iff.1 hx).2
   rw [hdr]at h2;unfold DF at h2;split at hl
   ·rename_i l' e' hr;injection hl with hl;subst hl;rw [hr]at h2;simp only at h2;split at h2;·rename_i c1 lf1 e1 hw;simp only [Option.some.injEq,Prod.mk.injEq]at h2;obtain⟨rfl,rfl,rfl⟩:=h2;exact⟨hlt,_,hw,ht.2⟩
    ·cases h2
   ·cases hl
  ·cases hl
def tS(np n:Nat):List Nat:=m7 np++(List.range n).map (500+np+ ·)
def mZ(np:Nat)(nl:List Nat)(i:Nat):Nat:=match gZ nl i with
 |true=>500+np+tu nl i
 |false=>i
theorem tW{g:Nat->Nat}:∀ {l:List (Nat×V)}{p:Nat×V},p∈iu g l->∃q∈l,q.1=p.1
 | [],p,h=>by simp [iu]at h
 |q::l,p,h=>by
  rcases List.mem_cons.1 h with rfl |h;·exact⟨q,by simp,rfl⟩
  ·obtain⟨q',h1,h2⟩:=tW (l:=l) h;exact⟨q',by simp [h1],h2⟩
theorem xm{tr:TR}:∀ {l:List Nat}{p:Nat×V},p∈se tr l->p.1∈l
 | [],p,h=>by simp [se]at h
 |t::l,p,h=>by
  rcases List.mem_cons.1 h with rfl |h;·simp
  ·exact List.mem_cons_of_mem _ (xm h)
theorem tL:∀ {nl:List Nat}{j:Nat}{p:Nat×Nat},p∈dW j nl->j<=p.1/\p.1< j+nl.length
 | [],_,_,h=>by simp [dW]at h
 |a::nl,j,p,h=>by
  rcases List.mem_cons.1 h with rfl |h;·simp
  ·have:=tL h;simp only [List.length_cons];omega
end
end Go.Ab

namespace Go.Ab
open Go.RowKit Go.Dw Go.Shelf
noncomputable section
def si{P:Program}{N:Nat}{es:List (List V)}(C:Cx P N)(Y:YE P es)(c:Code)(Q:Exit->S->Nat->Bool->Prop):Nat->S->Nat->Bool->Prop
 |0,_,_,_=>False
 |m+1,s,k,g=>oY C Y c (nG (si C Y c Q m) Q) s k g
theorem sG{P:Program}{N:Nat}{es:List (List V)}{C:Cx P N}{Y:YE P es}{Q:Exit->S->Nat->Bool->Prop}{c:Code}{s:S}{k:Nat}{g:Bool}(m:Nat)(h:si C Y c Q m s k g):oY C Y (.loop c) Q s k g:=by
 intro a w gm hj hb;refine wpIn_loop_rounds m ?_;have key:∀(m:Nat) (s:S) (k:Nat) (g:Bool) (a:Act) (w:World),si C Y c Q m s k g->Gm C s a w->Y.J k g w->Y.B<=w.heap.size->Code.roundsIn Fence.wide 0 P c (fun e a' w'=>∃s' k' g',Q e s' k' g'/\Gm C s' a' w'/\Y.J k' g' w'/\Y.B<=w'.heap.size) m a w:=by
  intro m;induction m with
  |zero=>intro s k g a w h;exact h.elim
  |succ m ih=>
   intro s k g a w h gm hj hb;refine wpIn_mono (h a w gm hj hb) ?_;rintro e a' w' ⟨s',k',g',q,gm',hj',hb'⟩;cases e with
   |normal=>exact ih s' k' g' a' w' q gm' hj' hb'
   |_=>exact⟨s',k',g',q,gm',hj',hb'⟩
 exact key m s k g a w h gm hj hb
section
variable {P:Program}{N:Nat}{es:List (List V)}(C:Cx P N) (Y:YE P es) (Q:Exit->S->Nat->Bool->Prop)
def oZ:List Fr->Exit->S->Nat->Bool->Prop
 | []=>Q
 | .c y::k=>nG (fun s' n g=>oY C Y y (oZ k) s' n g) (oZ k)
 | .b id::k=>gQ id (oZ k)
 | .l y m::k=>nG (si C Y y (oZ k) m) (oZ k)
 | .s::_=>fun _ _ _ _=>False
def wg:CC->Nat->Bool->Prop
 | .code c k s,n,g=>oY C Y c (oZ C Y Q k) s.den n g
 | .done e k s,n,g=>oZ C Y Q k e s.den n g
 | .ops _ _ _ _ _ _,_,_=>False
end
section
variable {P:Program}{N:Nat}{es:List (List V)}{C:Cx P N}{Y:YE P es}{Q:Exit->S->Nat->Bool->Prop}{T:List TI}{M mu:List Nat}{call:dO}
theorem FI{y:Code}{k:List Fr}{e:Exit}{s:S}{n:Nat}{g:Bool}(hne:e≠ .normal)(h:oZ C Y Q k e s n g):oZ C Y Q (.c y::k) e s n g:=by cases e <;> first |exact absurd rfl hne |exact h
theorem FJ{y:Code}{m:Nat}{k:List Fr}{e:Exit}{s:S}{n:Nat}{g:Bool}(hne:e≠ .normal)(h:oZ C Y Q k e s n g):oZ C Y Q (.l y m::k) e s n g:=by cases e <;> first |exact absurd rfl hne |exact h
theorem FH{id:Nat}{k:List Fr}{e:Exit}{s:S}{n:Nat}{g:Bool}(hne:∀i,e≠ .exit i)(h:oZ C Y Q k e s n g):oZ C Y Q (.b id::k) e s n g:=by cases e <;> first |exact absurd rfl (hne _) |exact h
theorem qO{c:Code}{s:S}{k:Nat}{g:Bool}(u:Nat)(h:oY C Y c (nG (si C Y c Q u) Q) s k g):oY C Y (.loop c) Q s k g:=sG (u+1) h
def uy{P:Program}{es:List (List V)}{N:Nat}(C:Cx P N)(Y:YE P es)(Q:Exit->S->Nat->Bool->Prop)(g:CC)(x:JX):Prop:=
 (x.y=none->∀n b,wg C Y Q x.g n b->wg C Y Q g n b)/\
 ∀as0,x.y=some as0->∃sd,x.side=some sd/\∀n,es[n]?=some as0->wg C Y Q x.g (n+1) true->wg C Y Q sd n false->wg C Y Q g n true
theorem cK{g g':CC}{e:CT}(h:∀n b,wg C Y Q g' n b->wg C Y Q g n b):uy C Y Q g ⟨g',none,none,e⟩:=⟨fun _=>h,fun as0 h=>by cases h⟩
theorem AR(hT:aO T P)(hcl:cw P call)(hC:YC C Y){id n:Nat}{ops:Array Oper}{k:List Fr}{s:CS}{x:JX}(hok:fK N ops.toList=true)(h:E6 true call T M Y.l ops.toList k s n=some x)(he:iK x.e):uy C Y Q (.code (.region id ops false) k s) x:=by
 have eo:ops=ops.toList.toArray:=by simp
 unfold E6 at h;split at h
 ·rename_i o ho;split at h
  ·rename_i d hd;split at h
   ·rename_i hlt;have hlt:=of_decide_eq_true hlt;split at h
    ·rename_i s1 ks1 e1 h1;split at h
     ·rename_i hgd;split at h
      ·rename_i fv as0 hy;split at h
       ·rename_i s2 ks2 e2 h2;split at h
        ·rename_i s3 ks3 e3 h3;injection h with h;subst h;obtain⟨he0,he1,he2,he3⟩:=he;refine⟨fun h=>(by cases h),fun as1 has=> ?_⟩;injection has with has;subst has;refine⟨_,rfl,fun m hm hk1 hk2=> ?_⟩;obtain⟨d',op,ty,pos,af,gd⟩:=o;simp only at hd;subst hd;unfold Ht at hy;simp only at hy;split at hy
         ·rename_i c;obtain⟨callee,args,ats⟩:=c;simp only at hy;split at hy
          ·rename_i fo;split at hy
           ·rename_i hfl0;simp only [Bool.and_eq_true]at hfl0;simp only [Option.some.injEq,Prod.mk.injEq]at hy;obtain⟨rfl,rfl⟩:=hy;have hf:=gP.hd he0;injection hf with hf;simp only [List.cons.injEq,and_true]at hf;have ht:bq C ops.toList.toArray s.nx (ops.toList.drop (n+1)) (bU s1.tr.get d (.b true)) (dV s1.sl) [] (fun tm' σ' _=>oZ C Y Q k .normal ⟨tm',σ',s.nx+1⟩ (m+1) true)/\bq C ops.toList.toArray s.nx (ops.toList.drop (n+1)) (bU s1.tr.get d (.b false)) (dV s1.sl) [] (fun tm' σ' _=>oZ C Y Q k .normal ⟨tm',σ',s.nx+1⟩ m false):=by
             have q1:=(dJ hT hcl (C:=C) (K:=fun _ _ _=>True) h1 he1).1;constructor;·obtain⟨r1,r2⟩:=dJ hT hcl (C:=C) (K:=fun tm' σ' _=>oZ C Y Q k .normal ⟨tm',σ',s.nx+1⟩ (m+1) true) h2 he2;simp only at r1 r2;rw [TR.ir hlt,q1]at r2;exact r2 (by have:=hk1;unfold wg CS.den at this;simp only at this;rw [r1,q1]at this;exact this)
             ·obtain⟨r1,r2⟩:=dJ hT hcl (C:=C) (K:=fun tm' σ' _=>oZ C Y Q k .normal ⟨tm',σ',s.nx+1⟩ m false) h3 he3;simp only at r1 r2;rw [TR.ir hlt,q1]at r2;exact r2 (by have:=hk2;unfold wg CS.den at this;simp only at this;rw [r1,q1]at this;exact this)
            show oY C Y (.region id ops false) (oZ C Y Q k) s.den m true;rw [eo];unfold Je at hgd;simp only at hgd;split at hgd;·have ea:(args.toList.map fun x=>ug (ev s1.tr.get x))=args.toList.map (ev s1.tr.get):=List.map_congr_left fun x hx=>xp hgd (by simp only [Op.operands,Call.operands];simp at hx ⊢;exact .inr hx);have ef:ug (ev s1.tr.get fo)=ev s1.tr.get fo:=xp hgd (by simp [Op.operands,Call.operands]);rw [ef]at hf;rw [ea]at hm;have hfl1:=hfl0.1;rw [ea]at hfl1;refine xX hC n (by simpa using hok) ho ?_;obtain⟨q1,q2⟩:=dJ hT hcl (C:=C) (K:=fun tm1 σ1 _=>YS C Y ops.toList.toArray s.nx (ops.toList.drop (n+1)) fo args d (oZ C Y Q k) m tm1 σ1) h1 he1;exact q2 ⟨hf,⟨_,hm,qD _⟩,hfl1,ht.1,ht.2⟩
            ·rename_i gd';split at hgd;·rename_i g hg;subst hgd;refine uQ hC n (by simpa using hok) ho ?_;obtain⟨q1,q2⟩:=dJ hT hcl (C:=C) (K:=fun tm1 σ1 _=>I0 C Y ops.toList.toArray s.nx (ops.toList.drop (n+1)) fo args d ⟨some d,.call {callee:= .value fo,args:=args,argTypes:=ats},ty,pos,af,some gd'⟩ (oZ C Y Q k) m tm1 σ1) h1 he1;exact q2 ⟨eO (ops:=ops.toList.toArray) (r:=some true) (by simpa using hg),hfl0.2,hf,⟨_,hm,qD _⟩,hfl0.1,ht.1,ht.2⟩
             ·cases hgd
           ·cases hy
          ·cases hy
         ·cases hy
        ·cases h
       ·cases h
      ·cases h
     ·cases h
    ·cases h
   ·cases h
  ·cases h
 ·cases h
theorem od(hT:aO T P)(hcl:cw P call)(hC:YC C Y){g:CC}{x:JX}(h:C2 true call T M mu N Y.l g=some x)(he:iK x.e):uy C Y Q g x:=by
 unfold C2 at h;split at h
 ·rename_i e k s;split at h;·cases h
  ·split at h;·injection h with h;subst h;exact cK fun n b hk=>hk
   ·rename_i hne;injection h with h;subst h;exact cK fun n b hk=>FI hne hk
  ·split at h
   ·split at h;·rename_i hb;injection h with h;subst h;have hb:=Nat.eq_of_beq_eq_true hb;subst hb;exact cK fun n b hk=>B3 hk
    ·rename_i hb;injection h with h;subst h;exact cK fun n b hk=>FN (by simpa using Nat.ne_of_beq_eq_false hb) hk
   ·rename_i hne;injection h with h;subst h;exact cK fun n b hk=>FH hne hk
  ·split at h
   ·split at h;·cases h
    ·injection h with h;subst h;exact cK fun n b hk=>hk
   ·rename_i hne;injection h with h;subst h;exact cK fun n b hk=>FJ hne hk
  ·cases h
 ·rename_i c k s;split at h;·injection h with h;subst h;exact cK fun n b hk=>zW hk
  ·injection h with h;subst h;exact cK fun n b hk=>zV hk
  ·injection h with h;subst h;exact cK fun n b hk=>Cs hk
  ·injection h with h;subst h;exact cK fun n b hk=>Ct hk
  ·injection h with h;subst h;exact cK fun n b hk=>xW hk
  ·injection h with h;subst h;exact cK fun n b hk=>qO 1000000 hk
  ·split at h
   ·rename_i t ht;split at h;·injection h with h;subst h;exact cK fun n b hk=>sH ht (fun _=>hk) fun h=>by cases h
    ·injection h with h;subst h;exact cK fun n b hk=>sH ht (fun h=>by cases h) fun _=>hk
   ·cases h
  ·rename_i id ops dr;split at h
   ·rename_i hok;split at h
    ·rename_i s' ks e hr;have e0:ops=ops.toList.toArray:=by simp
     split at h;·injection h with h;subst h;refine cK fun n b hk=>zU hC ?_;refine nJ (qY mu s ops.toList) ?_;rw [e0];obtain⟨q1,q2⟩:=dJ hT hcl (C:=C) (K:=fun tm' σ' _=>oZ C Y Q k .normal ⟨tm',σ',(mY mu s ops.toList).nx+1⟩ n b) (by simpa using hr) he;refine lD (s:=(mY mu s ops.toList).den) (by simpa using hok) (q2 ?_);have:=hk;unfold wg CS.den at this;simp only at this;rw [q1]at this;exact this
     ·split at h;·rename_i hdr;injection h with h;subst h;refine cK fun n b hk=>zU hC ?_;refine nJ (qY mu s ops.toList) ?_;rw [e0];obtain⟨q1,q2⟩:=dJ hT hcl (C:=C) (K:=fun tm' σ' ks'=>gu ops.toList ks'=true/\oZ C Y Q k .normal ⟨tm',σ',(mY mu s ops.toList).nx+1⟩ n b) (by simpa using hr) he;refine j7 (s:=(mY mu s ops.toList).den) (by simpa using hok) (q2 ⟨wQ hdr,?_⟩);have:=hk;unfold wg CS.den at this;simp only at this;rw [q1]at this;exact this
      ·cases h
    ·split at h
     ·split at h;·exact AR hT hcl hC hok h he
      ·cases h
     ·cases h
   ·cases h
  ·cases h
 ·cases h
end
theorem wI{P:Program}{N:Nat}{es:List (List V)}{C:Cx P N}{Y:YE P es}{T:List TI}{M mu:List Nat}{call:dO}(hT:aO T P)(hcl:cw P call)(hC:YC C Y){n:Nat}(hn:n< es.length):∀ {m:Nat}{g:CC}{e:CT},HB true call T M mu N Y.l m g=some e->iK e->wg C Y (pS es.length) g n false
 |0,_,_,h,_=>by cases h
 |m+1,g,e,h,he=>by
  unfold HB at h;split at h
  ·rename_i x hx;split at h
   ·rename_i hy;split at h;·rename_i e1 h1;injection h with h;subst h;exact(od (Q:=pS es.length) hT hcl hC hx he.1).1 hy n false (wI hT hcl hC hn h1 he.2)
    ·cases h
   ·cases h
  ·split at h
   ·rename_i e0 s;split at h;·exact⟨.inr rfl,(fun h=>nomatch h),fun _=>hn⟩
    ·exact⟨.inl rfl,(fun h=>nomatch h),fun _=>hn⟩
    ·cases h
   ·cases h
theorem oc{P:Program}{N:Nat}{es:List (List V)}{C:Cx P N}{Y:YE P es}{T:List TI}{M mu:List Nat}{call:dO}(hT:aO T P)(hcl:cw P call)(hC:YC C Y):∀ {m:Nat}{g:CC}{as0:List (List V)}{e:CT}{n:Nat},vo true call T M mu N Y.l m g=some (as0,e)->iK e->es.drop n=as0->n<=es.length->wg C Y (pS es.length) g n true
 |0,_,_,_,_,h,_,_,_=>by cases h
 |m+1,g,as0,e,n,h,he,hd,hn=>by
  unfold vo at h;split at h
  ·rename_i x hx;split at h
   ·rename_i hy;split at h;·rename_i as1 e1 h1;simp only [Option.some.injEq,Prod.mk.injEq]at h;obtain⟨rfl,rfl⟩:=h;exact(od (Q:=pS es.length) hT hcl hC hx he.1).1 hy n true (oc hT hcl hC h1 he.2 hd hn)
    ·cases h
   ·rename_i a hy;split at h
    ·rename_i sd hsd;split at h
     ·rename_i e0 h0;split at h
      ·rename_i as1 e1 h1;simp only [Option.some.injEq,Prod.mk.injEq]at h;obtain⟨rfl,rfl⟩:=h;have hlt:n< es.length:=by have:=congrArg List.length hd;simp only [List.length_drop,List.length_cons]at this;omega
       have hget:es[n]?=some a:=by have:=congrArg (·[0]?) hd;simpa using this
       have hdr:es.drop (n+1)=as1:=by have h2:=congrArg List.tail hd;simpa using h2
       obtain⟨sd',hs',hall⟩:=(od (Q:=pS es.length) hT hcl hC hx he.1).2 a hy;rw [hsd]at hs';injection hs' with hs';subst hs';exact hall n hget (oc hT hcl hC h1 he.2.2 hdr oM) (wI hT hcl hC hlt h0 he.2.1)
      ·cases h
     ·cases h
    ·cases h
  ·split at h
   ·rename_i e0 s;have fin:as0=[]->n=es.length:=fun h0=>by rw [h0]at hd;have:=congrArg List.length hd;simp only [List.length_drop,List.length_nil]at this;omega
    split at h;·simp only [Option.some.injEq,Prod.mk.injEq]at h;exact⟨.inr rfl,fun _=>fin h.1.symm,(fun h=>nomatch h)⟩
    ·simp only [Option.some.injEq,Prod.mk.injEq]at h;exact⟨.inl rfl,fun _=>fin h.1.symm,(fun h=>nomatch h)⟩
    ·cases h
   ·cases h
theorem Cd{P:Program}{N:Nat}{T:List TI}{M mu:List Nat}{call:dO}{f:FuncId}{fn:Func}{c:Code}{caps:List V}{ins:List Ob}{es:List (List V)}(hT:aO T P)(hmx:P.follows .mixedOrders=true)(hcl:cw P call)(hk:nC P f fn c N)(hres:fn.results= #[])(hargs:caps.length+1<=N)(hins:ins.length<=400) (s0:Nat->CS) (h0:∀l,(s0 l).den=⟨fun t=>((V.c (.func (.yield l) #[] #[]))::caps).getD t .any,dz ins,1⟩) (hv:∀l,E7 (vo true call T M mu N l 20000 (.code c [] (s0 l)))=some es) (he:∀l,iK (HC (vo true call T M mu N l 20000 (.code c [] (s0 l))))):sg P f caps ins es:=by
 refine uE hT hmx hk hres hargs (fun C Y hC=> ?_) hins;have h1:=hv Y.l;have h2:=he Y.l;unfold E7 at h1;unfold HC at h2;split at h1;·rename_i as0 e hr;rw [hr]at h2;injection h1 with h1;subst h1;have:=oc (C:=C) (Y:=Y) (n:=0) hT hcl hC hr h2 rfl (Nat.zero_le _);unfold wg at this;simp only at this;rw [h0]at this;exact this
 ·cases h1
def Ib(pn:List Nat):Ob->Bool
 | .box _ cs=>V.cA pn cs
 | .row _ _ n f=>((List.range n).map f).all (V.cA pn)
 | .mp _ _=>false
theorem Ar{pn:List Nat}{o:Ob}(h:Ib pn o=true):o.bW pn:=by
 cases o with
 |box t cs=>exact h
 |row e sz n f=>intro i hi;exact List.all_eq_true.1 h _ (List.mem_map.2 ⟨i,List.mem_range.2 hi,rfl⟩)
 |mp _ _=>cases h
def Bq(pn:List Nat)(s:CS):Option (List Ob×CT):=
 match tA (dV s.sl) (fun i=>i) pn with
  |some l=>match decide (((pn.zip (l.map Prod.snd)).map fun p=>aL [] s.nx p.1).Nodup) && (l.map Prod.snd).all (Ib pn)with
   |true=>some (l.map Prod.snd,.lf (de (aL [] s.nx) l))
   |false=>none
  |none=>none
theorem Br{pn:List Nat}{s:CS}{l':List Ob}{e:CT}(hpn:∀p∈pn,500<=p/\p< 1000)(h:Bq pn s=some (l',e))(he:iK e):Le s.den ⟨fun _=> .any,cE (pn.zip l'),1⟩/\l'.length=pn.length/\∀o∈l',o.bW pn:=by
 unfold Bq at h;split at h
 ·rename_i l hl;split at h
  ·rename_i hb;simp only [Option.some.injEq,Prod.mk.injEq]at h;obtain⟨rfl,rfl⟩:=h;simp only [Bool.and_eq_true]at hb;obtain⟨hb1,hb2⟩:=hb;obtain⟨hlen,hget⟩:=i9 hl;have hE:gP _:=he;refine⟨?_,by simp [hlen],fun o ho=>Ar (List.all_eq_true.1 hb2 o ho)⟩;show Le ⟨s.tr.get,dV s.sl,s.nx⟩ ⟨jz [],cE (pn.zip (l.map Prod.snd)),1⟩;refine eV (tm:=s.tr.get) (σ:=dV s.sl) (nx:=s.nx) [] (tl:=[]) .nil (nj fun p hp=> ?_) hb1 rfl;obtain⟨i,h1,h2⟩:=r8 hp;simp only [List.getElem?_map,Option.map_eq_some_iff]at h2;obtain⟨q,hq,hq2⟩:=h2;obtain⟨k,hk,hσ,hno⟩:=hget i q hq;rw [hk]at h1;injection h1 with h1;have hg:aL [] s.nx p.1=k:=by have:=hpn k (List.mem_of_getElem? hk);unfold aL;rw [<-h1];exact if_pos this
   refine⟨q.1,by rw [hg];exact hσ,?_⟩;rw [<-hq2];exact lT hno (dS hE hq)
  ·cases h
 ·cases h
def oA(call:dO)(T:List TI)(M mu:List Nat)(N:Nat)(pn:List Nat)(tl:List (Nat×V))(ps:List Nat)(as0 bd:Code)(x:List V)(l:List Ob):RO:=
 match s4 call Fx T M mu N as0 ⟨setTR (Ei tl) ps x,uq pn l,1⟩with
  |some (.normal,s1,t1)=>match s4 call Fx T M mu N bd s1 with
   |some (e,s2,t2)=>match Bq pn s2 with
    |some (l',t3)=>GJ l' (uU t1 (uU t2 t3)) e
    |none=> .bad
   |none=> .bad
  |_=> .bad
def Er(pn:List Nat)(ok:Nat->Prop)(sl:Nat->List Ob)(X:Nat->Code->List Ob->Prop)(k:Nat):RO->Prop
 | .nor l' e=>iK e/\(l'.length=pn.length->(∀o∈l',o.bW pn)->ok (k+1)/\sl (k+1)=l')
 | .ext c l' e=>iK e/\(l'.length=pn.length->(∀o∈l',o.bW pn)->X k (Aq c) l')
 | .bad=>False
theorem tY{pn:List Nat}{tl:List (Nat×V)}{ps:List Nat}{x:List V}{l:List Ob}(htl:∀p∈tl,p.1< 1000)(hps:∀p∈ps,p< 1000):(CS.mk (setTR (Ei tl) ps x) (uq pn l) 1).den=⟨l6 (jz tl) ps x,cE (pn.zip l),1⟩:=by unfold CS.den;rw [qv _ _ _ hps,rS htl,oW]
section
variable {P:Program}{N:Nat}{T:List TI}{M mu:List Nat}{call:dO}{pn:List Nat}{tl:List (Nat×V)}{ps:List Nat}{as0 bd:Code}
theorem yT(hT:aO T P)(hcl:cw P call)(hpn:∀p∈pn,500<=p/\p< 1000)(htl:∀p∈tl,p.1< 1000)(hps:∀p∈ps,p< 1000){ok:Nat->Prop}{sl:Nat->List Ob}{X:Nat->Code->List Ob->Prop}{k:Nat}{x:List V}{l:List Ob} (h:Er pn ok sl X k (oA call T M mu N pn tl ps as0 bd x l)) (C':Cx P N):AW C' as0 (eH (fun s'=>AW C' bd (mz pn ok sl X k) s') (fun _ _=>False)) ⟨l6 (jz tl) ps x,cE (pn.zip l),1⟩:=by
 rw [<-tY htl hps];unfold oA at h;split at h
 ·rename_i s1 t1 h1;split at h
  ·rename_i e s2 t2 h2;split at h
   ·rename_i l' t3 h3;have key:iK (uU t1 (uU t2 t3))->(Le s2.den ⟨fun _=> .any,cE (pn.zip l'),1⟩->l'.length=pn.length->(∀o∈l',o.bW pn)->mz pn ok sl X k e s2.den)->
     AW C' as0 (eH (fun s'=>AW C' bd (mz pn ok sl X k) s') (fun _ _=>False)) (CS.mk (setTR (Ei tl) ps x) (uq pn l) 1).den:=by
     intro hE hR
     have hE:=j8 hE
     have hE2:=j8 hE.2
     obtain⟨z1,z2,z3⟩:=Br hpn h3 hE2.2
     have a2:=kL (C:=C') (mu:=mu) hT hcl xd bd _ _ _ _ h2 hE2.1 (mz pn ok sl X k) (hR z1 z2 z3)
     exact kL (C:=C') (mu:=mu) hT hcl xd as0 _ _ _ _ h1 hE.1 (eH (fun s'=>AW C' bd (mz pn ok sl X k) s') (fun _ _=>False)) a2
    unfold GJ at h;split at h;·obtain⟨q1,q2⟩:=h;exact key q1 fun hle a b=>⟨(q2 a b).1,by rw [(q2 a b).2];exact hle⟩
    ·obtain⟨q1,q2⟩:=h;exact key q1 fun hle a b=>⟨_,q2 a b,hle⟩
    ·obtain⟨q1,q2⟩:=h;exact key q1 fun hle a b=>⟨_,q2 a b,hle⟩
    ·exact h.elim
   ·exact h.elim
  ·exact h.elim
 ·exact h.elim
end
def CN(pn:List Nat)(l:List Ob):Bool:=Nat.beq l.length pn.length && l.all (Ib pn)
theorem vi{pn:List Nat}{l:List Ob}(h:CN pn l=true):l.length=pn.length/\∀o∈l,o.bW pn:=by simp only [CN,Bool.and_eq_true]at h;exact⟨Nat.eq_of_beq_eq_true h.1,fun o ho=>Ar (List.all_eq_true.1 h.2 o ho)⟩
def Fw(pn:List Nat):RO->RO
 | .nor l e=>match CN pn l with
  |true=> .nor l e
  |false=> .bad
 | .ext c l e=>match CN pn l with
  |true=> .ext c l e
  |false=> .bad
 | .bad=> .bad
theorem w8{pn:List Nat}{r:RO}{l:List Ob}{e:CT}(h:Fw pn r= .nor l e):r= .nor l e/\CN pn l=true:=by
 unfold Fw at h;split at h
 ·split at h;·rename_i hf;injection h with h1 h2;subst h1 h2;exact⟨rfl,hf⟩
  ·cases h
 ·split at h <;> cases h
 ·cases h
theorem w7{pn:List Nat}{r:RO}{c:Exit}{l:List Ob}{e:CT}(h:Fw pn r= .ext c l e):r= .ext c l e/\CN pn l=true:=by
 unfold Fw at h;split at h;·split at h <;> cases h
 ·split at h;·rename_i hf;injection h with h1 h2 h3;subst h1 h2 h3;exact⟨rfl,hf⟩
  ·cases h
 ·cases h
theorem yS{P:Program}{N:Nat}{C:Cx P N}{Q:Exit->S->Prop}{tm:Nat->V}{σ:Nat->Option Ob}{nx:Nat}{g:Operand}{ps:Array Tmp}{as0 bd:Code}{gf:FuncId}{caps:List V}{ins:List Ob}{es:List (List V)}(ns:List Nat)(hF:C.F=Fence.wide)(hd:C.dfs=r9)(pn:List Nat)(gl:List (Nat×Nat)) (it:sg P gf caps ins es) (hg:ev tm g= .fn (.func gf) [] (V.aP (uv ns) caps)) (hidf:V.cB ins.length caps=true) (hns:ns.length=ins.length) (hnd:ns.Nodup) (hins:∀(i k:Nat) (o:Ob),ns[i]?=some k->ins[i]?=some o->σ k=some o/\AH o=true) (hlen:∀x∈es,x.length=ps.size) (hps:ps.toList.all (fun p=>decide (p< N))=true) (tl:List (Nat×V)) (rd:List V->List Ob->RO) (l0:List Ob) (hl0:CN pn l0=true) (hrd:∀ok sl X k x l,Er pn ok sl X k (rd x l)->∀C':Cx P N,AW C' as0 (eH (fun s'=>AW C' bd (mz pn ok sl X k) s') (fun _ _=>False)) ⟨l6 (jz tl) ps.toList x,cE (pn.zip l),1⟩) (hpn:∀p∈pn,500<=p/\p< 1000) (hid:∀p∈gl,p.1< 1000) (htm:lu (fun p=>tm p.1=p.2.bg (aL gl nx)) tl) (hσ:lu (fun p=>∃ob,σ (aL gl nx p.1)=some ob/\dQ ob (p.2.bg (aL gl nx))) (pn.zip l0)) (hinj:decide (((pn.zip l0).map fun p=>aL gl nx p.1).Nodup)=true) (hdis:∀p∈pn.zip l0,aL gl nx p.1∉ns){c:Exit}{lf:List Ob}{e:CT}(hw:DF (fun x l=>Fw pn (rd x l)) es l0=some (c,lf,e)) (he:iK e) (hQ:Q c ⟨jz tl,cE (pn.zip lf),1⟩):AW C (.rangeFunc g ps as0 bd) Q ⟨tm,σ,nx⟩:=by
 have hat:=BZ hw he;generalize hR:(fun x l=>Fw pn (rd x l))=rr at hw hat;have hst0:∀k l,jI rr es l0 k=some l->CN pn l=true:=by
  intro k;cases k with
  |zero=>intro l hl;simp only [jI,Option.some.injEq]at hl;subst hl;exact hl0
  |succ k=>
   intro l hl;simp only [jI]at hl;split at hl
   ·rename_i l1 x h1 hx;split at hl;·rename_i l' e' hr;injection hl with hl;subst hl;rw [<-hR]at hr;exact(w8 hr).2
    ·cases hl
   ·cases hl
 refine BW ns hF hd it hg hidf hns hnd hins hlen hps pn gl tl (fun k=>(jI rr es l0 k).isSome=true) (fun k=>(jI rr es l0 k).getD []) (fun k c sx=>∃l x c' e',jI rr es l0 k=some l/\es[k]?=some x/\rr x l= .ext c' sx e'/\Aq c'=c) (by simp [jI]) (List.all_eq_true.2 fun p hp=>by simpa using hpn p hp) (by simpa [jI]using (vi hl0).1) (List.all_eq_true.2 fun p hp=>decide_eq_true (hid p hp)) htm hσ hinj (by simpa [jI]using hdis) (fun k o ho=> ?_) (fun k c sx hX o ho=> ?_) (fun C' _ k x hx hok=> ?_) (fun hok=> ?_) (fun k c sx hk hX=> ?_)
 ·cases hk:jI rr es l0 k with
  |none=>rw [hk]at ho;simp at ho
  |some l=>rw [hk]at ho;exact(vi (hst0 k l hk)).2 o (by simpa using ho)
 ·obtain⟨l,x,c',e',hl,hx,hr,rfl⟩:=hX;rw [<-hR]at hr;exact(vi (w7 hr).2).2 o ho
 ·obtain⟨l,hl⟩:=Option.isSome_iff_exists.1 hok;rw [hl,Option.getD_some];obtain⟨hk,t,ht,htE⟩:=hat k l hl;have hlt:=(List.getElem?_eq_some_iff.1 hx).1;have hdr:es.drop k=x::es.drop (k+1):=by
   rw [List.drop_eq_getElem_cons hlt];congr 1
   exact(List.getElem?_eq_some_iff.1 hx).2
  rw [hdr]at ht;refine hrd _ _ _ k x l ?_ C';unfold DF at ht;split at ht
  ·rename_i l' e' hr;split at ht
   ·simp only [Option.some.injEq,Prod.mk.injEq]at ht;obtain⟨_,_,rfl⟩:=ht;have hst:jI rr es l0 (k+1)=some l':=by simp only [jI,hl,hx,hr]
    rw [<-hR]at hr;rw [(w8 hr).1];exact⟨htE.1,fun _ _=>⟨by simp only [hst,Option.isSome_some],by simp only [hst,Option.getD_some]⟩⟩
   ·cases ht
  ·rename_i c' l' e' hr;have hr':=hr;rw [<-hR]at hr';rw [(w7 hr').1];split at ht;·simp only [Option.some.injEq,Prod.mk.injEq]at ht;obtain⟨_,_,rfl⟩:=ht;exact⟨htE,fun _ _=>⟨l,x,_,_,hl,hx,hr,rfl⟩⟩
   ·simp only [Option.some.injEq,Prod.mk.injEq]at ht;obtain⟨_,_,rfl⟩:=ht;exact⟨htE,fun _ _=>⟨l,x,_,_,hl,hx,hr,rfl⟩⟩
   ·cases ht
  ·cases ht
 ·obtain⟨l,hl⟩:=Option.isSome_iff_exists.1 hok;rw [hl,Option.getD_some];obtain⟨hk,t,ht,htE⟩:=hat _ l hl;rw [List.drop_length]at ht;simp only [DF,Option.some.injEq,Prod.mk.injEq]at ht;obtain⟨rfl,rfl,_⟩:=ht;exact hQ
 ·obtain⟨l,x,c',e',hl,hx,hr,rfl⟩:=hX;obtain⟨hk',t,ht,htE⟩:=hat k l hl;have hdr:es.drop k=x::es.drop (k+1):=by
   rw [List.drop_eq_getElem_cons hk];congr 1
   exact(List.getElem?_eq_some_iff.1 hx).2
  rw [hdr]at ht;unfold DF at ht;rw [hr]at ht;simp only at ht;split at ht;·simp only [Option.some.injEq,Prod.mk.injEq]at ht;obtain⟨rfl,rfl,_⟩:=ht;exact aG hQ
  ·simp only [Option.some.injEq,Prod.mk.injEq]at ht;obtain⟨rfl,rfl,_⟩:=ht;exact jt hQ
  ·cases ht
abbrev kC:Type:=FuncId->List V->List Ob->Option (List (List V)×CT)
def lB(P:Program)(itr:kC):Prop:=∀f caps ins es e,itr f caps ins=some (es,e)->iK e->sg P f caps ins es
def AN(σ:Nat->Option Ob):List Nat->Option (List Ob)
 | []=>some []
 |k::l=>match σ k with
  |some o=>match AH o with
   |true=>match AN σ l with
    |some r=>some (o::r)
    |none=>none
   |false=>none
  |none=>none
def yc:List Nat->List Nat
 | []=>[]
 |k::l=>match gZ (yc l) k with
  |true=>yc l
  |false=>k::yc l
structure B8 where
  caps:List V
  ns:List Nat
  ins:List Ob
  e:CT
def DV(caps caps':List V)(ns:List Nat)(ins:List Ob):Option B8:=match om ns && (V.cB ins.length caps' && Nat.ble ins.length 400)with
 |true=>some ⟨caps',ns,ins,.lf [(.vs caps,.vs (V.aP (uv ns) caps'))]⟩
 |false=>none
def DU(σ:Nat->Option Ob)(caps:List V)(ns:List Nat):Option B8:=match AN σ ns with
 |some ins=>DV caps (V.aP (fun i=>500+tu ns i) caps) ns ins
 |none=>none
def EH(σ:Nat->Option Ob)(caps:List V):Option B8:=match V.aZ caps with
 |true=>some ⟨caps,[],[],c0⟩
 |false=>DU σ caps (yc (V.lO caps))
theorem tC{σ:Nat->Option Ob}:∀ {ns:List Nat}{ins:List Ob},AN σ ns=some ins->ns.length=ins.length/\∀(i k:Nat) (o:Ob),ns[i]?=some k->ins[i]?=some o->σ k=some o/\AH o=true
 | [],ins,h=>by simp only [AN,Option.some.injEq]at h;subst h;exact⟨rfl,fun i k o h=>by simp at h⟩
 |k::l,ins,h=>by
  simp only [AN]at h;split at h
  ·rename_i o ho;split at h
   ·rename_i hb;split at h
    ·rename_i r hr;injection h with h;subst h;obtain⟨h1,h2⟩:=tC hr;refine⟨by simp [h1],fun i k' o' hk ho'=> ?_⟩;cases i with
     |zero=>simp at hk ho';subst hk ho';exact⟨ho,hb⟩
     |succ i=>exact h2 i k' o' (by simpa using hk) (by simpa using ho')
    ·cases h
   ·cases h
  ·cases h
theorem Cz{σ:Nat->Option Ob}{caps:List V}{u:B8}(h:EH σ caps=some u)(he:iK u.e):caps=V.aP (uv u.ns) u.caps/\V.cB u.ins.length u.caps=true/\u.ns.length=u.ins.length/\u.ns.Nodup/\(∀(i k:Nat) (o:Ob),u.ns[i]?=some k->u.ins[i]?=some o->σ k=some o/\AH o=true)/\u.ins.length<=400:=by
 unfold EH at h;split at h;·rename_i hi;injection h with h;subst h;exact⟨(V.cM _ _ hi).symm,fD 0 caps hi,rfl,.nil,(fun i k o h=>by simp at h),Nat.zero_le _⟩
 ·generalize yc _=ns at h;unfold DU at h;split at h
  ·rename_i ins hins;obtain⟨h1,h2⟩:=tC hins;unfold DV at h;split at h;·rename_i hb;injection h with h;subst h;simp only [Bool.and_eq_true]at hb;have hE:gP _:=he;have e1:=hE.hd;injection e1 with e1;exact⟨e1,hb.2.1,h1,lV hb.1,h2,Nat.le_of_ble_eq_true hb.2.2⟩
   ·cases h
  ·cases h
def yH(σ:Nat->Option Ob):List V->List Nat
 | []=>[]
 |v::l=>match v with
  | .ref i o=>match o with
   |0=>match σ i with
    |some (.box _ cs)=>match cs.all V.vm with
     |true=>i::yH σ l
     |false=>yH σ l
    |_=>yH σ l
   |_+1=>yH σ l
  |_=>yH σ l
def Gq(mu:List Nat)(σ:Nat->Option Ob)(v:V):List Nat:=match v with
 | .fn (.func gf) _ caps=>match gZ mu gf with
  |true=>yH σ caps
  |false=>[]
 |_=>[]
def HE:List (Nat×Option Ob)->List Nat
 | []=>[]
 | (k,o)::l=>match o with
  |some (.box _ cs)=>match V.aZ cs && !V.cA [] cs with
   |true=>k::HE l
   |false=>HE l
  |_=>HE l
def oz(mu:List Nat)(s:CS)(g:Operand):CS:=Av s (kT (Gq mu (dV s.sl) (ev s.tr.get g)) (dZ (dV s.sl) 1000 (ev s.tr.get g).ids [])++HE s.sl)
def F4(l:List Nat):List Nat->Bool
 | []=>true
 |k::ns=>match gZ l k with
  |true=>false
  |false=>F4 l ns
def AZ(tr:TR)(ns:List Nat):List Nat->List Nat
 | []=>[]
 |t::l=>match F4 (tr.get t).ids ns with
  |true=>t::AZ tr ns l
  |false=>AZ tr ns l
def Ai(v:V):List V:=match v with
 | .fn _ _ caps=>caps
 |_=>[]
def Ip(v:V):List Nat:=match V.aZ (Ai v)with
 |true=>[]
 |false=>yc (V.lO (Ai v))
def D7(tr:TR)(ns:List Nat)(ks:List Nat):List Nat:=match ns with
 | []=>ks
 |k::l=>AZ tr (k::l) ks
def Eg(call:dO)(T:List TI)(M mu:List Nat)(N np:Nat)(ps:List Nat)(as0 bd:Code)(s:CS)(nl:List Nat)(ks ns:List Nat)(es:List (List V))(obs:List (Ob×Ob)):Option (Exit×CS×CT):=
 match (es.all fun x=>Nat.beq x.length ps.length) && (ps.all (fun p=>decide (p< N)) && (ps.all (fun p=>decide (p< 1000)) && (ks.all (fun p=>decide (p< 1000)) && (decide (500+np+nl.length<=1000) && (CN (tS np nl.length) (obs.map Prod.snd) && (decide ((((tS np nl.length).zip (obs.map Prod.snd)).map fun p=>aL (dW (500+np) nl) s.nx p.1).Nodup) && (((tS np nl.length).zip (obs.map Prod.snd)).all fun p=> !gZ ns (aL (dW (500+np) nl) s.nx p.1))))))))with
  |true=>match DF (fun x l=>Fw (tS np nl.length) (oA call T M mu N (tS np nl.length) (iu (mZ np nl) (se s.tr ks)) ps as0 bd x l)) es (obs.map Prod.snd)with
   |some (c,lf,e)=>some (c,⟨Ei (iu (mZ np nl) (se s.tr ks)),uq (tS np nl.length) lf,1⟩,.nd (.lf ((.vs (vals (se s.tr ks)),.vs (V.aP (aL (dW (500+np) nl) s.nx) (vals (iu (mZ np nl) (se s.tr ks)))))::de (aL (dW (500+np) nl) s.nx) obs)) e)
   |none=>none
  |false=>none
def Ef(call:dO)(itr:kC)(T:List TI)(M mu:List Nat)(N np:Nat)(g:Operand)(ps:List Nat)(as0 bd:Code)(s:CS)(ks nl:List Nat):Option (Exit×CS×CT):=
 match ev s.tr.get g with
  | .fn (.func gf) [] caps=>match EH (dV s.sl) caps with
   |some u=>match itr gf u.caps u.ins with
    |some (es,e0)=>match tA (dV s.sl) (mZ np nl) (m7 np++nl)with
     |some obs=>match Eg call T M mu N np ps as0 bd s nl ks u.ns es obs with
      |some (c,s',e)=>some (c,s',.nd u.e (.nd e0 e))
      |none=>none
     |none=>none
    |none=>none
   |none=>none
  |_=>none
def Ee(call:dO)(itr:kC)(T:List TI)(M mu:List Nat)(N np:Nat)(g:Operand)(ps:List Nat)(as0 bd:Code)(s:CS)(ks:List Nat):Option (Exit×CS×CT):= Ef call itr T M mu N np g ps as0 bd s ks (kT (m7 np) (dZ (dV s.sl) 1000 (EY (se s.tr ks)++m7 np) []))
def Bw(call:dO)(itr:kC)(T:List TI)(M mu:List Nat)(N np:Nat):FO:=fun g ps as0 bd s=> Ee call itr T M mu N np g ps.toList as0 bd (oz mu s g) (D7 (oz mu s g).tr (Ip (ev (oz mu s g).tr.get g)) (TR.keys id (oz mu s g).tr))
theorem Bx{P:Program}{N:Nat}{C:Cx P N}{T:List TI}{M mu:List Nat}{call:dO}{itr:kC}{np:Nat}(hT:aO T P)(hcl:cw P call)(hit:lB P itr)(hF:C.F=Fence.wide)(hd:C.dfs=r9):wh C (Bw call itr T M mu N np):=by
 intro g ps as0 bd s e s' t h he Q hQ;have hle:∀ {P:Program}{N:Nat}(C:Cx P N) a w,Gm C s.den a w->Gm C (oz mu s g).den a w:=nq s _;refine nJ (s':=(oz mu s g).den) hle ?_;clear hle;unfold Bw at h;generalize oz mu s g=s0 at h ⊢;generalize D7 _ _ _=ks at h;unfold Ee at h;generalize kT _ _=nl at h;unfold Ef at h;split at h
 ·rename_i gf caps hg;split at h
  ·rename_i u hu;split at h
   ·rename_i es e0 hes;split at h
    ·rename_i obs hobs;split at h
     ·rename_i c s1 e1 h2;simp only [Option.some.injEq,Prod.mk.injEq]at h;obtain⟨rfl,rfl,rfl⟩:=h;obtain⟨heu,he0,he⟩:=he;obtain⟨u1,u2,u3,u4,u5,u6⟩:=Cz hu heu;unfold Eg at h2;split at h2
      ·rename_i hb;split at h2
       ·rename_i c1 lf e2 hw;simp only [Option.some.injEq,Prod.mk.injEq]at h2;obtain⟨rfl,rfl,rfl⟩:=h2;simp only [Bool.and_eq_true,decide_eq_true_eq]at hb;obtain⟨hb1,hb2,hb3,hb4,hb5,hb6,hb7,hb8⟩:=hb;obtain⟨hE,hew⟩:=he;have hE':gP _:=hE;have e1:=hE'.hd;injection e1 with e1;have hB:=hE'.tl;obtain⟨hlen,hget⟩:=i9 hobs;have hps:∀p∈ps.toList,p< 1000:=fun p hp=>of_decide_eq_true (List.all_eq_true.1 hb3 p hp);have htl:∀p∈iu (mZ np nl) (se s0.tr ks),p.1< 1000:=fun p hp=>by obtain⟨q,hq,hq2⟩:=tW hp;rw [<-hq2];exact of_decide_eq_true (List.all_eq_true.1 hb4 _ (xm hq))
        have hpn:∀p∈tS np nl.length,500<=p/\p< 1000:=fun p hp=>by unfold tS m7 at hp;simp only [List.mem_append,List.mem_map,List.mem_range]at hp;rcases hp with⟨a,ha,rfl⟩ | ⟨a,ha,rfl⟩ <;> omega
        have hs1:(CS.mk (Ei (iu (mZ np nl) (se s0.tr ks))) (uq (tS np nl.length) lf) 1).den=⟨jz (iu (mZ np nl) (se s0.tr ks)),cE ((tS np nl.length).zip lf),1⟩:=by unfold CS.den;rw [rS htl,oW]
        rw [hs1]at hQ;have H1:∀ok sl X k x l,Er (tS np nl.length) ok sl X k (oA call T M mu N (tS np nl.length) (iu (mZ np nl) (se s0.tr ks)) ps.toList as0 bd x l)->∀C':Cx P N,AW C' as0 (eH (fun s'=>AW C' bd (mz (tS np nl.length) ok sl X k) s') (fun _ _=>False)) ⟨l6 (jz (iu (mZ np nl) (se s0.tr ks))) ps.toList x,cE ((tS np nl.length).zip l),1⟩:=fun ok sl X k x l hr C'=>yT hT hcl hpn htl hps hr C';have H2:∀p∈dW (500+np) nl,p.1< 1000:=fun p hp=>by have:=tL hp;omega
        have H3:=ox (g:=aL (dW (500+np) nl) s0.nx) (gi:=mZ np nl) (tm:=s0.tr.get) (tl:=se s0.tr ks) xo e1;generalize oA call T M mu N (tS np nl.length) (iu (mZ np nl) (se s0.tr ks)) ps.toList as0 bd=rd at hw H1;generalize iu (mZ np nl) (se s0.tr ks)=tl at*;refine yS u.ns hF hd (tS np nl.length) (dW (500+np) nl) (hit _ _ _ _ _ hes he0) (by rw [<-u1];exact hg) u2 u3 u4 u5 (fun x hx=> ?_) hb2 tl rd (obs.map Prod.snd) hb6 H1 hpn H2 H3 (nj fun p hp=> ?_) (decide_eq_true hb7) (fun p hp=>by have:=List.all_eq_true.1 hb8 p hp;simp only [Bool.not_eq_true']at this;exact oa this) hw hew hQ;·have:=List.all_eq_true.1 hb1 x hx;have:=Nat.eq_of_beq_eq_true this;simpa using this
        ·obtain⟨i,h1,h2⟩:=r8 hp;simp only [List.getElem?_map,Option.map_eq_some_iff]at h2;obtain⟨q,hq,hq2⟩:=h2;obtain⟨k,hk,hσ,hno⟩:=hget i q hq;have hil:=(List.getElem?_eq_some_iff.1 hq).1;rw [hlen]at hil;have hpl:(m7 np).length=np:=by simp [m7]
         simp only [List.length_append,hpl]at hil;have hlk:aL (dW (500+np) nl) s0.nx p.1=k:=by
          unfold tS at h1;unfold aL;by_cases hi:i< np
          ·rw [List.getElem?_append_left oM]at h1 hk;rw [hk]at h1;injection h1 with h1;have hkk:k=500+i:=by unfold m7 at hk;rw [List.getElem?_map,List.getElem?_range hi]at hk;simp at hk;omega
           rw [<-h1,wP oM];exact if_pos oM
          ·rw [List.getElem?_append_right oM]at h1 hk;rw [hpl]at h1 hk;rw [List.getElem?_map,List.getElem?_range oM]at h1;simp only [Option.map_some,Option.some.injEq]at h1;rw [<-h1,jB hk]
         refine⟨q.1,by rw [hlk];exact hσ,?_⟩;rw [<-hq2];exact lT hno (dS hB hq)
       ·cases h2
      ·cases h2
     ·cases h
    ·cases h
   ·cases h
  ·cases h
 ·cases h
end
end Go.Ab

namespace Go.Ab
open Go.RowKit Go.Dw Go.Shelf
noncomputable section
def zO:Nat->List V->TR->TR
 |_,[],tr=>tr
 |i,v::l,tr=>zO (i+1) l (TR.put 10 tr i v)
theorem sB:∀(l:List V) (i:Nat) (tr:TR) (t:Nat),i+l.length<=1000->(zO i l tr).get t=if i<=t/\t< i+l.length then l.getD (t- i) .any else tr.get t
 | [],i,tr,t,_=>by simp only [zO,List.length_nil];rw [if_neg oM]
 |v::l,i,tr,t,h=>by
  simp only [List.length_cons]at h;simp only [zO,List.length_cons];rw [sB l (i+1) _ t oM,TR.ir oM];by_cases h1:t=i;·subst h1;rw [if_neg oM,if_pos oM,av,Nat.sub_self];rfl
  ·rw [ak _ _ h1];by_cases h2:i+1<=t/\t< i+1+l.length;·rw [if_pos h2,if_pos oM,show t- i=(t- (i+1))+1 by omega];rfl
   ·rw [if_neg h2,if_neg oM]
def AL:Nat->List Ob->List (Nat×Option Ob)
 |_,[]=>[]
 |k,o::l=>(k,some o)::AL (k+1) l
theorem tB:∀(l:List Ob) (k i:Nat),dV (AL k l) i=if k<=i then l[i- k]? else none
 | [],k,i=>by simp [AL,dV]
 |o::l,k,i=>by
  simp only [AL,dV];split;·rename_i h;have h:=Nat.eq_of_beq_eq_true h;subst h;rw [if_pos (Nat.le_refl _),Nat.sub_self];rfl
  ·rename_i h;have h:=Nat.ne_of_beq_eq_false h;rw [tB l (k+1) i];by_cases h2:k<=i;·rw [if_pos h2,if_pos oM,show i- k=(i- (k+1))+1 by omega];rfl
   ·rw [if_neg h2,if_neg oM]
def l7(args:List V)(ins:List Ob):CS:=⟨zO 0 args .e,AL 500 ins,1⟩
theorem kA{args:List V}{ins:List Ob}(h:args.length<=1000):(l7 args ins).den=⟨fun t=>args.getD t .any,dz ins,1⟩:=by
 unfold CS.den l7;congr 1
 ·funext t;simp only;rw [sB args 0 .e t oM,TR.gE];simp only [Nat.zero_le,true_and,Nat.zero_add,Nat.sub_zero];split;·rfl
  ·rename_i h1;rw [List.getD_eq_getElem?_getD,List.getElem?_eq_none oM];rfl
 ·funext i;exact tB ins 500 i
def vI(s:CS):List ResultVar->List (Nat×V)
 | []=>[]
 | .tmp t::l=>(t,s.tr.get t)::vI s l
 | .cell a _::l=>(a,s.tr.get a)::vI s l
def tQ(σ:Nat->Option Ob)(g:Nat->Nat):Nat->Nat->List (Option (Ob×Ob))
 |_,0=>[]
 |k,n+1=>(match σ k with
  |some o=>match uu g o with
   |some o'=>some (o,o')
   |none=>none
  |none=>none)::tQ σ g (k+1) n
def oL:List (Option (Ob×Ob))->List (Option Ob)
 | []=>[]
 |o::l=>o.map Prod.snd::oL l
def wu(g:Nat->Nat):List (Option (Ob×Ob))->List (CE×CE)
 | []=>[]
 |some p::l=>de g [p]++wu g l
 |none::l=>wu g l
def BI(g:Nat->Nat):List Ob->List (CE×CE)
 | []=>[]
 |o::l=>qw g o++BI g l
def xh(g:Nat->Nat):List (Option Ob)->List (CE×CE)
 | []=>[]
 |some o::l=>qw g o++xh g l
 |none::l=>xh g l
def x9:Nat->List (Ob×Ob)->List (Nat×Ob)
 |_,[]=>[]
 |k,p::l=>(k,p.2)::x9 (k+1) l
theorem sM:∀ {l:List (Ob×Ob)}{k:Nat}{p:Nat×Ob},p∈x9 k l->∃(i:Nat) (q:Ob×Ob),l[i]?=some q/\p.1=k+i/\p.2=q.2
 | [],_,_,h=>by simp [x9]at h
 |q::l,k,p,h=>by
  rcases List.mem_cons.1 h with rfl |h;·exact⟨0,q,rfl,rfl,rfl⟩
  ·obtain⟨i,q',h1,h2,h3⟩:=sM h;exact⟨i+1,q',by simpa using h1,by omega,h3⟩
def DT(T:List TI)(fn:Func)(n:Nat)(s:CS)(nl:List Nat)(tl:List (Nat×V))(m:Nat)(all:List (Ob×Ob))(outs:List (Option (Ob×Ob))):Option CR:=
 match decide (((iG 0 (((all.take m).map Prod.snd).map some)++(iG 500 (oL outs)++x9 m (all.drop m))).map fun p=>aL (dW 0 nl) s.nx p.1).Nodup) && ((dW 0 nl).all (fun p=>decide (p.1< 500)) && (decide (((all.take m).map Prod.snd).length<=90) && Nat.ble nl.length 400))with
  |true=>match nc T ⟨jz (iu (AO nl) tl),cE (iG 0 (((all.take m).map Prod.snd).map some)++(iG 500 (oL outs)++x9 m (all.drop m))),1⟩ fn.results.toList with
   |some v=>some ⟨v,oL outs,(all.take m).map Prod.snd,.lf ((.vs (vals tl),.vs (V.aP (aL (dW 0 nl) s.nx) (vals (iu (AO nl) tl))))::
    (.vs [v],.vs [v.bg (aT ((all.take m).map Prod.snd).length n 1)])::(de (aL (dW 0 nl) s.nx) all++(wu (aL (dW 0 nl) s.nx) outs++(BI (aT ((all.take m).map Prod.snd).length n 1) ((all.take m).map Prod.snd)++xh (aT ((all.take m).map Prod.snd).length n 1) (oL outs)))))⟩
   |none=>none
  |false=>none
def DS(T:List TI)(fn:Func)(n:Nat)(s:CS)(nl:List Nat)(tl:List (Nat×V))(m:Nat):Option CR:=
 match tA (dV s.sl) (AO nl) nl with
  |some all=>DT T fn n s nl tl m all (tQ (dV s.sl) (AO nl) 500 n)
  |none=>none
def DR(T:List TI)(fn:Func)(n:Nat)(s:CS)(nv:List Nat):Option CR:= DS T fn n s (nv++kT (m7 n++nv) (dZ (dV s.sl) 1000 (EY (vI s fn.results.toList)) [])) (vI s fn.results.toList) nv.length
def sN(T:List TI)(fn:Func)(n:Nat)(s:CS):Option CR:=match nc T s.den fn.results.toList with
 |some v0=>DR T fn n s (kT (m7 n) (dZ (dV s.sl) 1000 (v0.ids++m7 n) []))
 |none=>none
theorem oq{σ:Nat->Option Ob}{g:Nat->Nat}:∀ {n k i:Nat}{p:Ob×Ob},(tQ σ g k n)[i]?=some (some p)->i< n/\σ (k+i)=some p.1/\uu g p.1=some p.2
 |0,_,_,_,h=>by simp [tQ]at h
 |n+1,k,0,p,h=>by
  simp only [tQ,List.getElem?_cons_zero,Option.some.injEq]at h;split at h
  ·rename_i o ho;split at h;·rename_i o' ho';simp only [Option.some.injEq]at h;subst h;exact⟨by omega,ho,ho'⟩
   ·cases h
  ·cases h
 |n+1,k,i+1,p,h=>by simp only [tQ,List.getElem?_cons_succ]at h;obtain⟨h1,h2,h3⟩:=oq h;exact⟨by omega,by rw [<-h2];congr 1;omega,h3⟩
theorem tR{σ:Nat->Option Ob}{g:Nat->Nat}:∀ {n k:Nat},(tQ σ g k n).length=n
 |0,_=>rfl
 |n+1,k=>by simp [tQ,tR]
theorem oN:∀ {l:List (Option (Ob×Ob))}{i:Nat}{o:Option Ob},(oL l)[i]?=some o->∃q,l[i]?=some q/\o=q.map Prod.snd
 | [],_,_,h=>by simp [oL]at h
 |q::l,0,o,h=>by simp [oL]at h;exact⟨q,rfl,h.symm⟩
 |q::l,i+1,o,h=>by simpa using oN (l:=l) (by simpa [oL]using h)
theorem t8:∀ {l:List (Option (Ob×Ob))},(oL l).length=l.length
 | []=>rfl
 |_::l=>by simp [oL,t8]
theorem lF{g:Nat->Nat}:∀ {l:List (Option (Ob×Ob))},gP (wu g l)->∀ {i:Nat}{p:Ob×Ob},l[i]?=some (some p)->gP (de g [p])
 |some q::l,h,0,p,hp=>by simp at hp;subst hp;exact h.l
 |none::l,h,0,p,hp=>by simp at hp
 |some q::l,h,i+1,p,hp=>lF h.r (by simpa using hp)
 |none::l,h,i+1,p,hp=>lF (l:=l) h (by simpa using hp)
theorem qx{g:Nat->Nat}:∀ {l:List Ob},gP (BI g l)->∀ {i:Nat}{o:Ob},l[i]?=some o->gP (qw g o)
 |q::l,h,0,p,hp=>by simp at hp;subst hp;exact h.l
 |q::l,h,i+1,p,hp=>qx h.r (by simpa using hp)
theorem l8{g:Nat->Nat}:∀ {l:List (Option Ob)},gP (xh g l)->∀ {i:Nat}{o:Ob},l[i]?=some (some o)->gP (qw g o)
 |some q::l,h,0,p,hp=>by simp at hp;subst hp;exact h.l
 |none::l,h,0,p,hp=>by simp at hp
 |some q::l,h,i+1,p,hp=>l8 h.r (by simpa using hp)
 |none::l,h,i+1,p,hp=>l8 (l:=l) h (by simpa using hp)
theorem oy{s:CS}:∀ {rs:List ResultVar},∀p∈vI s rs,s.tr.get p.1=p.2
 | [],p,h=>by simp [vI]at h
 | .tmp t::l,p,h=>by
  rcases List.mem_cons.1 h with rfl |h;·rfl
  ·exact oy (rs:=l) p h
 | .cell a _::l,p,h=>by
  rcases List.mem_cons.1 h with rfl |h;·rfl
  ·exact oy (rs:=l) p h
theorem Bh{g:Nat->Nat}{l:List (Option Ob)}(h:∀(i:Nat) (o:Ob),l[i]?=some (some o)->o.bg g=o):Ea g l=l:=by
 unfold Ea;refine List.ext_getElem? fun i=> ?_;rw [List.getElem?_map];cases hi:l[i]? with
 |none=>rfl
 |some o=>
  cases o with
  |none=>rfl
  |some o=>simp [h i o hi]
theorem Eh{l:List (Ob×Ob)}{m i:Nat}{q:Ob×Ob}(h:(l.take m)[i]?=some q):l[i]?=some q:=by
 rw [List.getElem?_take]at h;split at h;·exact h
 ·cases h
theorem wz{T:List TI}{fn:Func}{n:Nat}{s:CS}{r:CR}{e:Exit}(hn:n<=400)(he:e= .normal\/e= .ret)(h:sN T fn n s=some r)(hE:iK r.e) :
    c7 T fn n r.v r.outs r.obs e s.den/\r.outs.length=n/\r.obs.length<=90:=by
  unfold sN at h
  split at h
  · unfold DR at h
    generalize kT (m7 n) _=nv at h
    generalize nv++kT _ _=nl at h
    generalize nv.length=m at h
    unfold DS at h
    split at h
    · rename_i obs hobs
      unfold DT at h
      split at h
      · rename_i hb
        split at h
        · rename_i v hv
          injection h with h;subst h
          simp only [Bool.and_eq_true]at hb
          obtain⟨hb1,hb2,hb3,hb4⟩:=hb
          have hob:=of_decide_eq_true hb3
          obtain⟨hlen,hget⟩:=i9 hobs
          have hnl:=Nat.le_of_ble_eq_true hb4
          have hE':gP _:=hE
          have e1:=hE'.hd
          injection e1 with e1
          have e2:=hE'.tl.hd
          injection e2 with e2
          have hB:=hE'.tl.tl.l
          have hO:=hE'.tl.tl.r.l
          have hS:=hE'.tl.tl.r.r.l
          have hSO:=hE'.tl.tl.r.r.r
          simp only [V.aP,List.cons.injEq,and_true]at e2
          refine⟨GK (tm:=s.tr.get) (σ:=dV s.sl) (nx:=s.nx) (dW 0 nl) (iu (AO nl) (vI s fn.results.toList)) (x9 m (obs.drop m)) he (ox oy e1) (nj fun p hp=> ?_) hb1 hb2 hb3 hv rfl e2.symm (Bh fun i o hi=> ?_),by rw [t8,tR],hob⟩
          · rcases List.mem_append.1 hp with hp |hp
            · obtain⟨i,h1,h2⟩:=nu hp
              simp only [List.getElem?_map,Option.map_eq_some_iff]at h2
              obtain⟨o',⟨q,hq,rfl⟩,h4⟩:=h2
              injection h4 with h4
              have hq:=Eh hq
              obtain⟨k,hk,hσ,hno⟩:=hget i q hq
              have hg:aL (dW 0 nl) s.nx p.1=k:=by
                unfold aL
                rw [h1,jB hk]
              refine⟨q.1,by rw [hg];exact hσ,?_⟩
              rw [<-h4]
              exact lT hno (dS hB hq)
            rcases List.mem_append.1 hp with hp |hp
            rotate_left
            · obtain⟨i,q,hq,h1,h2⟩:=sM hp
              rw [List.getElem?_drop]at hq
              obtain⟨k,hk,hσ,hno⟩:=hget (m+i) q hq
              have hg:aL (dW 0 nl) s.nx p.1=k:=by
                unfold aL
                rw [h1,show m+i=0+(m+i) by omega,jB hk]
              refine⟨q.1,by rw [hg];exact hσ,?_⟩
              rw [h2]
              exact lT hno (dS hB hq)
            · obtain⟨i,h1,h2⟩:=nu hp
              obtain⟨q,hq,hq2⟩:=oN h2
              cases q with
              |none=>cases hq2
              |some q=>
                simp only [Option.map_some,Option.some.injEq]at hq2
                obtain⟨hin,hσ,hno⟩:=oq hq
                have hg:aL (dW 0 nl) s.nx p.1=500+i:=by
                  unfold aL
                  rw [h1,qn oM]
                  exact if_pos oM
                refine⟨q.1,by rw [hg];exact hσ,?_⟩
                rw [hq2]
                exact lT hno (lF hO hq)
          · by_cases hlt:i< ((obs.take m).map Prod.snd).length
            · rw [List.getElem?_append_left (by simpa using hlt)]at hi
              simp only [List.getElem?_map,Option.map_eq_some_iff]at hi
              obtain⟨o',⟨q,hq,rfl⟩,h4⟩:=hi
              injection h4 with h4
              have hq0:=hq
              have hq:=Eh hq
              obtain⟨k,hk,hσ,hno⟩:=hget i q hq
              rw [<-h4]
              exact tH hno (qx hS (i:=i) (by rw [List.getElem?_map,hq0];rfl))
            · rw [List.getElem?_append_right (by simpa using Nat.le_of_not_lt hlt)]at hi
              obtain⟨q,hq,hq2⟩:=oN hi
              cases q with
              |none=>cases hq2
              |some q=>
                simp only [Option.map_some,Option.some.injEq]at hq2
                obtain⟨hin,hσ,hno⟩:=oq hq
                rw [hq2]
                rw [hq2]at hi
                exact tH hno (l8 hSO hi)
        · cases h
      · cases h
    · cases h
  · cases h
def Ic:Ob->V
 | .row _ sz n f=> .sl sz n f
 | .box _ cs=> .ptr cs
 | .mp _ _=> .any
def CQ:Nat->List Ob->List V->List V
 |_,[],args=>args
 |k,o::l,args=>CQ (k+1) l (V.lz k (Ic o) args)
def tq:List Ob->Bool
 | []=>true
 | .row _ _ n f::l=>match ((List.range n).map f).all V.aZ with
  |true=>tq l
  |false=>false
 | .box _ cs::l=>match V.aZ cs with
  |true=>tq l
  |false=>false
 | .mp _ _::_=>false
theorem n9:∀ {l:List Ob},tq l=true->∀ {i:Nat}{o:Ob},l[i]?=some o->match o with
    | .row _ _ n f=>∀i,i< n->V.aZ (f i)=true
    | .box _ cs=>V.aZ cs=true
    | .mp _ _=>False
  | [],_,i,o,hi=>by simp at hi
  | .row e sz n f::l,h,i,o,hi=>by
    simp only [tq]at h
    split at h
    · rename_i ha
      cases i with
      |zero=>
        simp at hi;subst hi
        intro j hj
        have:=fm ha j
        rwa [jD hj]at this
      |succ i=>exact n9 h (by simpa using hi)
    · cases h
  | .box t cs::l,h,i,o,hi=>by
    simp only [tq]at h
    split at h
    · rename_i ha
      cases i with
      |zero=>simp at hi;subst hi;exact ha
      |succ i=>exact n9 h (by simpa using hi)
    · cases h
  | .mp _ _::l,h,i,o,hi=>by simp [tq]at h
theorem FX{w:World}{L:Nat->Prop}{ρ:Nat->Option Value}{id:Nat}{v0:V}(h0:∀y,ρ id=some y->R w L ρ v0 y){us:List V}{xs:List Value}(h:RV w L ρ us xs):RV w L ρ (V.lz id v0 us) xs:=by
 refine⟨by rw [V.dH];exact h.1,fun i u x hu hx=> ?_⟩;rw [V.e8]at hu;cases hc:us[i]? with
 |none=>rw [hc]at hu;cases hu
 |some a=>rw [hc]at hu;simp only [Option.map_some,Option.some.injEq]at hu;subst hu;exact mV h0 _ _ (h.2 i a x hc hx)
theorem zo{w:World}{L:Nat->Prop}{ρ:Nat->Option Value}{xs:List Value}:∀(l:List Ob) (k:Nat) (us:List V),(∀i o,l[i]?=some o->∀y,ρ (k+i)=some y->R w L ρ (Ic o) y)->RV w L ρ us xs->RV w L ρ (CQ k l us) xs
 | [],_,_,_,h=>h
 |o::l,k,us,h0,h=>zo l (k+1) _ (fun i o' hi y hy=>h0 (i+1) o' (by simpa using hi) y (by rw [<-hy];congr 1;omega)) (FX (fun y hy=>h0 0 o rfl y hy) h)
theorem AM.keep{P:Program}{f:FuncId}{args:List V}{ins:List Ob}{v:V}(h:AM P f (CQ 500 ins args) [] v [] [])(hi:V.aZ (CQ 500 ins args)=true)(hi2:tq ins=true)(hv:v.nV=true):AM P f args ins v (ins.map some) []:=by
 refine⟨h.1,fun W LB L w ρ vs hwl hWL hG hρ hvs=> ?_⟩;have hins:∀i o,ins[i]?=some o->dz ins (500+i)=some o:=fun i o hi=>by unfold dz;rw [if_pos oM,Nat.add_sub_cancel_left];exact hi
 obtain⟨Lx,hLx⟩:∃Lx:Nat->Prop,∀b,Lx b<->L b\/∃i x,i< ins.length/\ρ (500+i)=some x/\blk x=some b:=⟨_,fun _=>Iff.rfl⟩;have hobj:∀i o,ins[i]?=some o->∃y,ρ (500+i)=some y/\(∀k,blk y=some k->k< w.heap.size/\W k/\¬L k)/\R w Lx ρ (Ic o) y:=by
  intro i o hio;have hlt:=(List.getElem?_eq_some_iff.1 hio).1;have hr:=hG.ob _ _ (hins i o hio);have hc:=n9 hi2 hio;have fin:∀u y,ρ (500+i)=some y->(∀k,blk y=some k->k< w.heap.size/\W k/\¬L k)->R w (fun b=>L b\/blk y=some b) ρ u y->∃y,ρ (500+i)=some y/\(∀k,blk y=some k->k< w.heap.size/\W k/\¬L k)/\R w Lx ρ u y:=fun u y h1 h2 h3=> ⟨y,h1,h2,h3.ext ⟨fun b hb=>⟨(hLx b).2 (hb.imp id fun h=>⟨i,y,hlt,h1,h⟩),rfl⟩,fun _ _ h=>h⟩⟩;cases o with
  |row e sz n row=>obtain⟨y,h1,h2,h3⟩:=hr.slice hc;exact fin _ y h1 h2 h3
  |box t cs=>obtain⟨y,h1,h2,h3⟩:=hr.ptr hc;exact fin _ y h1 h2 h3
  |mp _ _=>exact hc.elim
 have hLb:∀b,Lx b->b< w.heap.size:=fun b hb=>by
  rcases(hLx b).1 hb with hb | ⟨i,x,hil,hx,hbx⟩;·exact(hG.ll b hb).1
  ·obtain⟨y,h1,h2,_⟩:=hobj i _ (List.getElem?_eq_getElem hil);rw [h1]at hx;injection hx with hx;subst hx
   exact(h2 b hbx).1
 have ex:Ext w L ρ w Lx ρ:=⟨fun b hb=>⟨(hLx b).2 (.inl hb),rfl⟩,fun _ _ h=>h⟩;have hrv:RV w Lx ρ0 (CQ 500 ins args) vs.toList:=by refine RV.free (ρ:=ρ) ?_ hi;refine zo ins 500 args (fun i o hio y hy=> ?_) ⟨hvs.1,fun i u x hu hx=>(hvs.2 i u x hu hx).ext ex⟩;obtain⟨y',h1,_,h3⟩:=hobj i o hio;rw [h1]at hy;injection hy with hy;subst hy;exact h3
 refine(h.2 (fun b=>w.heap.size<=b) (fun b=>Lx b\/w.heap.size<=b) Lx w ρ0 vs (fun b hb=> .inr hb) (fun b hb hL=>by have:=hLb b hL;omega) ⟨fun b hb=>⟨hLb b hb,.inl hb⟩,fun b hb=>⟨hb,.inr hb⟩,(fun id o ho=>by unfold dz at ho;split at ho <;> simp at ho),(fun i j x y k _ _ _ hx=>by cases hx),hG.td ex⟩ (fun _ _=>rfl) hrv).mono ?_;rintro e w' ⟨x,rfl,ht,L',ρ',hG',hE',hx,hnn⟩;have hbel:Below w.heap.size w w':=ht.below (Nat.le_refl _) fun j hj hW=>by have hW':w.heap.size<=j:=hW;omega
 obtain⟨hG2,ex2⟩:=hG.quiet hbel (L':=L) (fun _ h=>h) (fun _ h=> .inl h);have eo:eT (ins.map some) []=dz ins:=by
  funext id;unfold eT dz;by_cases h5:500<=id;·rw [if_pos h5,if_pos h5,List.getElem?_map];cases ins[id- 500]? <;> rfl
  ·rw [if_neg h5,if_neg h5];simp
 refine⟨x,rfl,aU.eS hbel fun k _ hk=>(hG.new k hk).1,L,ρ,?_,ex2,hx.nV hv,fun j _ hj=>hρ j hj⟩;rw [eo];exact hG2
theorem xw{T:List TI}{P:Program}(hT:aO T P)(hmx:P.follows .mixedOrders=true){f:FuncId}{fn:Func}{c:Code}{N:Nat}(hk:nC P f fn c N){args:List V}{ins:List Ob}{v:V}{obs:List Ob}(hargs:args.length<=N)(hn4:ins.length<=400)(ho9:obs.length<=90)
    (h:∀C:Cx P N,C.F=Fence.wide->C.dfs=r9->AW C c (c7 T fn 0 v [] obs) ⟨fun t=>args.getD t .any,dz ins,1⟩):AM P f args ins v (ins.map fun _=>none) obs:=by
  refine⟨hk.call,fun W LB L w ρ vs hwl hWL hG hρn hvs=> ?_⟩
  obtain⟨C,hW,hLB,hd,hFw⟩:∃C:Cx P N,C.W=W/\C.LB=LB/\C.dfs=r9/\C.F=Fence.wide:=⟨⟨W,LB,hwl,r9,hmx,Fence.wide,.inl rfl⟩,rfl,rfl,rfl,rfl⟩
  have hvl:vs.size=args.length:=by have:=hvs.1;simpa using this.symm
  refine callsIn_wide.1 (callsIn_of_wp_marks (n:=0) hk.hf hk.hb trivial ?_ rfl)
  have hw:=h C hFw hd
  unfold AW at hw
  rw [hFw]at hw
  refine wpIn_mono (hw _ w ⟨L,ρ,⟨?_,fun id hid=> ?_,fun t=> ?_,?_,?_,fun id x hp=> ?_⟩⟩) ?_
  · rw [hW,hLB];exact hG
  · have hid':1*100000<=id:=hid
    exact hρn id (.inr oM)
  · by_cases ht:t< args.length
    · have h1:args[t]?=some args[t]:=List.getElem?_eq_getElem ht
      obtain⟨x,hx,hr⟩:=hvs.get h1
      have e1:args.getD t .any=args[t]:=by simp [List.getD_eq_getElem?_getD,h1]
      have e2:(vs++Array.replicate (fn.ntmps- vs.size) undef).getD t undef=x:=by
        rw [Array.getD_eq_getD_getElem?,Array.getElem?_append_left oM]
        have:vs[t]?=some x:=by simpa using hx
        rw [this];rfl
      show R w L ρ (args.getD t .any) _
      rw [e1,e2];exact hr
    · have e1:args.getD t .any= .any:=by simp [List.getD_eq_getElem?_getD,List.getElem?_eq_none (Nat.le_of_not_lt ht)]
      show R w L ρ (args.getD t .any) _
      rw [e1];exact .any _ _
  · rw [<-hk.hn]at hargs ⊢
    simp;omega
  · exact⟨[],by rw [hd];rfl,by simp,by simp⟩
  · rw [hd]at hp;cases hp
  · rintro e a' w' ⟨s',⟨he,s'',hle,hres,hob,hout,hcv,hco,hcu⟩,g',t⟩
    obtain⟨L',ρ',g''⟩:=hle C a' w' g'
    rw [hW]at t
    obtain⟨Ds,d1,d2,d3⟩:=g''.defers
    rw [hd,show r9.tl=[]from rfl,List.append_nil]at d1
    refine gV Ds he d1 d2 (fun D hD=>(d3 D hD).1) fun w2 ht2=> ?_
    obtain⟨g2,e2⟩:=g''.g.marks ht2 d3
    obtain⟨x,hx,hr⟩:=kY hT g2 (fun t=>(g''.tm t).ext e2) fn hres
    have hWD:∀D∈Ds,W D:=fun D hD=>by have:=(d3 D hD).2.1;rw [hW]at this;exact this
    have tt:aU W w w2:=t.trans (ht2.mono fun k _ hkD=>hWD k hkD)
    refine⟨x,hx,x,rfl,tt,?_⟩
    have hr2:R w2 L' (fun i=>ρ' (aT obs.length 0 s''.nx i)) v x:=iR _ _ _ (by rw [hcv];exact hr)
    have hlt:∀i,i< obs.length->aT obs.length 0 s''.nx i=i:=fun i hi=>by unfold aT;rw [if_pos (.inl hi)]
    have hoF:∀id o,eT (ins.map fun _=>none) obs id=some o->s''.σ id=some o/\aT obs.length 0 s''.nx id=id/\o.bg (aT obs.length 0 s''.nx)=o:=by
      intro id o ho
      unfold eT at ho
      split at ho
      · rename_i h5
        rw [List.getElem?_map]at ho
        cases hq:ins[id- 500]? with
        |none=>rw [hq]at ho;cases ho
        |some q=>rw [hq]at ho;cases ho
      · exact⟨hob id o ho,hlt id (List.getElem?_eq_some_iff.1 ho).1,hco o (List.mem_of_getElem? ho)⟩
    have hfr:∀i,obs.length<=i->ρ' (aT obs.length 0 s''.nx i)=none:=fun i hi=>by
      have e3:aT obs.length 0 s''.nx i=s''.nx*100000+i:=if_neg oM
      rw [e3]
      exact g''.fr _ (by unfold bN;omega)
    obtain⟨ρ2,hρ2⟩:∃ρ2:Nat->Option Value,∀i,ρ2 i=if 500<=i/\i< 500+ins.length then ρ i else ρ' (aT obs.length 0 s''.nx i):=⟨_,fun _=>rfl⟩
    have hρlt:∀i,i< 500->ρ2 i=ρ' (aT obs.length 0 s''.nx i):=fun i hi=>by rw [hρ2,if_neg oM]
    have hE2:Ext w2 L' (fun i=>ρ' (aT obs.length 0 s''.nx i)) w2 (fun b=>L' b\/L b) ρ2:=⟨fun b hb=>⟨.inl hb,rfl⟩,fun id v hv=>by
      by_cases hi:id< obs.length
      · rw [hρlt id oM];exact hv
      · have hv:ρ' (aT obs.length 0 s''.nx id)=some v:=hv
        rw [hfr id oM]at hv;cases hv⟩
    refine⟨fun b=>L' b\/L b,ρ2,⟨fun b hb=> ?_,fun b hb=> ?_,fun id o ho=> ?_,fun i j x y k hij hi hj=> ?_,g2.FQ hE2.l⟩,⟨fun b hb=>⟨.inr hb,tt.block b (hG.ll b hb).1 fun hc=>hWL b hc hb⟩,fun id x hx=> ?_⟩,hr2.ext hE2,fun j hj hj5=> ?_⟩
    · rcases hb with hb |hb
      · have:=g2.ll b hb
        rw [hLB]at this
        exact⟨this.1,this.2⟩
      · exact⟨Nat.lt_of_lt_of_le (hG.ll b hb).1 tt.size,(hG.ll b hb).2⟩
    · exact hG.new b (Nat.le_trans tt.size hb)
    · obtain⟨q1,q2,q3⟩:=hoF id o ho
      have hr0:=g2.ob id o q1
      rw [hW]at hr0
      have hr:Real W w2 L' (fun i=>ρ' (aT obs.length 0 s''.nx i)) id o:=Real.bg (by rw [q2,q3];exact hr0)
      obtain⟨y,hy,hy2⟩:=hr.lt
      refine hr.keep hE2 fun x k hx hk=> ?_
      rw [hx]at hy;injection hy with hy;subst hy
      refine⟨rfl,?_⟩
      rintro(h1 |h1)
      · exact(hy2 k hk).2.2 h1
      · exact hWL k (hy2 k hk).2.1 h1
    · have key:∀i,eT (ins.map fun _=>none) obs i≠none->s''.σ i≠none/\aT obs.length 0 s''.nx i=i/\i< 500:=fun i hi=>by
        cases ho:eT (ins.map fun _=>none) obs i with
        |none=>exact absurd ho hi
        |some o=>
          obtain⟨q1,q2,_⟩:=hoF i o ho
          refine⟨by rw [q1];simp,q2,?_⟩
          unfold eT at ho
          split at ho
          · rw [List.getElem?_map]at ho
            cases hq:ins[i- 500]? with
            |none=>rw [hq]at ho;cases ho
            |some q=>rw [hq]at ho;cases ho
          · omega
      rw [hρlt i (key i hi).2.2,hρlt j (key j hj).2.2,(key i hi).2.1,(key j hj).2.1]
      exact g2.sep i j x y k hij (key i hi).1 (key j hj).1
    · by_cases h5:500<=id/\id< 500+ins.length
      · rw [hρ2,if_pos h5];exact hx
      · rw [hρn id oM]at hx;cases hx
    · rw [hρ2,if_neg oM]
      exact hfr j hj
abbrev ML:Type:=List (FuncId×List Nat)
def FR:ML->FuncId->List Nat
 | [],_=>[]
 | (k,m)::l,f=>match Nat.beq f k with
  |true=>m
  |false=>FR l f
def CG(mu:List Nat)(f:FuncId)(args:List V)(ins:List Ob):CS:=match gZ mu f with
 |true=>l7 args ins
 |false=>Av (l7 args ins) ((List.range ins.length).map (500+ ·))
theorem wB(mu:List Nat)(f:FuncId)(args:List V)(ins:List Ob):Le (l7 args ins).den (CG mu f args ins).den:=by
 unfold CG;split;·exact Le.refl _
 ·exact nq _ _
def Dq(call:dO)(itrI:kC)(T:List TI)(M mu:List Nat)(N np:Nat):FO:=fun g ps as0 bd s=>match np with
 |0=>Bw call itrI T M mu N 0 g ps as0 bd s
 |_+1=>none
theorem xe{P:Program}{N:Nat}{C:Cx P N}{T:List TI}{M mu:List Nat}{call:dO}{itrI:kC}{np:Nat}(hT:aO T P)(hcl:cw P call)(hitI:lB P itrI)(hF:C.F=Fence.wide)(hpin:∀id x,C.dfs.pin id=some x->500<=id/\id< 500+np)(htl:C.dfs.tl=[]):wh C (Dq call itrI T M mu N np):=by
 intro g ps as0 bd s e s' t h he Q hQ;unfold Dq at h;split at h
 ·have hd:C.dfs=r9:=by
   have hp:C.dfs.pin=fun _=>none:=by
    funext id;cases hx:C.dfs.pin id with
    |none=>rfl
    |some x=>have:=hpin id x hx;omega
   generalize C.dfs=D at hp htl;cases D;simp only at hp htl;subst hp htl;rfl
  exact Bx hT hcl hitI hF hd _ _ _ _ _ _ _ _ h he Q hQ
 ·cases h
def F2(T:List TI)(fn:Func)(n:Nat)(r:Exit×CS×CT):Option CR:=match r.1 with
 | .ret=>oE (sN T fn n r.2.1) none fun q=>some ⟨q.v,q.outs,q.obs,uU r.2.2 q.e⟩
 | .normal=>oE (sN T fn n r.2.1) none fun q=>some ⟨q.v,q.outs,q.obs,uU r.2.2 q.e⟩
 |_=>none
def ya(call:dO)(itrI:kC)(T:List TI)(M mu:List Nat)(f:FuncId)(fn:Func)(c:Code)(args:List V)(ins:List Ob):Option CR:= oE (s4 call (Dq call itrI T M mu fn.ntmps ins.length) T M mu fn.ntmps c (CG mu f args ins)) none (F2 T fn ins.length)
def DQ(o:Option CR)(ins:List Ob)(els:Option CR):Option CR:=match o with
 |some r=>match r.outs with
  | []=>match r.obs with
   | []=>match r.v.nV with
    |true=>some ⟨r.v,ins.map some,[],r.e⟩
    |false=>els
   |_::_=>els
  |_::_=>els
 |none=>none
def DO(T:List TI)(fn:Func)(ins:List Ob)(r:Exit×CS×CT):Option CR:=match r.1 with
 | .ret=>oE (sN T fn 0 r.2.1) none fun q=>some ⟨q.v,ins.map fun _=>none,q.obs,uU r.2.2 q.e⟩
 | .normal=>oE (sN T fn 0 r.2.1) none fun q=>some ⟨q.v,ins.map fun _=>none,q.obs,uU r.2.2 q.e⟩
 |_=>none
def DP(call:dO)(itrI:kC)(T:List TI)(M mu:List Nat)(f:FuncId)(fn:Func)(c:Code)(args:List V)(ins:List Ob):Option CR:= oE (s4 call (Dq call itrI T M mu fn.ntmps 0) T M mu fn.ntmps c (CG mu f args ins)) none (DO T fn ins)
def z6(call:dO)(itrI:kC)(T:List TI)(M mu:List Nat)(f:FuncId)(fn:Func)(c:Code)(args:List V)(ins:List Ob):Option CR:=match ins with
 | []=>ya call itrI T M mu f fn c args []
 |o::l=>match gZ mu f with
  |true=>ya call itrI T M mu f fn c args (o::l)
  |false=>match tq (o::l) && V.aZ (CQ 500 (o::l) args)with
   |true=>DQ (ya call itrI T M mu f fn c (CQ 500 (o::l) args) []) (o::l) (ya call itrI T M mu f fn c args (o::l))
   |false=>match ya call itrI T M mu f fn c args (o::l)with
    |some r=>some r
    |none=>DP call itrI T M mu f fn c args (o::l)
def AQ(caps:List V)(ins:List Ob)(l:Nat):CS:=l7 (V.c (.func (.yield l) #[] #[])::caps) ins
theorem yp{caps:List V}{ins:List Ob}{l:Nat}(h:caps.length+1<=1000):(AQ caps ins l).den=⟨fun t=>((V.c (.func (.yield l) #[] #[]))::caps).getD t .any,dz ins,1⟩:= kA (args:=V.c (.func (.yield l) #[] #[])::caps) (ins:=ins) (by simpa using h)
def wH(call:dO)(T:List TI)(M mu:List Nat)(N:Nat)(c:Code)(caps:List V)(ins:List Ob)(l:Nat):Option (List (List V)×CT):=vo true call T M mu N l 20000 (.code c [] (AQ caps ins l))
def z9(P:Program)(T:List TI)(M:ML)(mu:List Nat)(call:dO):kC:=fun f caps ins=>match P.funcs[f]? with
 |some fn=>match fn.body with
  |some c=>match fn.name == "runtime.NumGoroutine" with
   |false=>match fn.results with
    | ⟨[]⟩=>match Nat.ble (caps.length+1) 1000 && (Nat.ble (caps.length+1) fn.ntmps && Nat.ble ins.length 400)with
     |true=>match wH call T (FR M f) mu fn.ntmps c caps ins 0 with
      |some (es,_)=>some (es,.lf [(.ys fun l=>E7 (wH call T (FR M f) mu fn.ntmps c caps ins l),.ys fun _=>some es),(.n fun l=>(HC (wH call T (FR M f) mu fn.ntmps c caps ins l)).Hi.map Prod.fst,.n fun l=>(HC (wH call T (FR M f) mu fn.ntmps c caps ins l)).Hi.map Prod.snd)])
      |none=>none
     |false=>none
    |_=>none
   |true=>none
  |none=>none
 |none=>none
theorem Aa{P:Program}{T:List TI}(hT:aO T P)(hmx:P.follows .mixedOrders=true){M:ML}{mu:List Nat}{call:dO}(hcl:cw P call):lB P (z9 P T M mu call):=by
 intro f caps ins es e h hE;unfold z9 at h;split at h
 ·rename_i fn hf;split at h
  ·rename_i c hc;split at h
   ·rename_i hname;split at h
    ·rename_i hres;split at h
     ·rename_i hb;simp only [Bool.and_eq_true]at hb;split at h;·rename_i es0 e0 hr;simp only [Option.some.injEq,Prod.mk.injEq]at h;obtain⟨rfl,rfl⟩:=h;have hE':gP _:=hE;have h1:=hE'.hd;have h2:=hE'.tl.hd;injection h1 with h1;injection h2 with h2;exact Cd hT hmx hcl ⟨hf,hc,rfl,hname⟩ hres (Nat.le_of_ble_eq_true hb.2.1) (Nat.le_of_ble_eq_true hb.2.2) (AQ caps ins) (fun l=>yp (Nat.le_of_ble_eq_true hb.1)) (fun l=>congrFun h1 l) fun l=>CT.vT (ve (congrFun h2 l))
      ·cases h
     ·cases h
    ·cases h
   ·cases h
  ·cases h
 ·cases h
def Iu(mu:List Nat)(call:dO):dO:=fun f args ins=>match args with
 | []=>match ins with
  | []=>match gZ mu (1000000+f)with
   |true=>some ⟨.b true,[],[],c0⟩
   |false=>call f [] []
  |o::l=>call f [] (o::l)
 |a::l=>call f (a::l) ins
def zm(P:Program)(mu:List Nat):Prop:=∀f,gZ mu (1000000+f)=true->AM P f [] [] (.b true) [] []
theorem Fm{P:Program}{mu:List Nat}{call:dO}(hK:zm P mu)(hcl:cw P call):cw P (Iu mu call):=by
 refine⟨fun f args ins r hm h hE=> ?_,fun name t r n h hv=>hcl.2 name t r n h hv⟩;unfold Iu at h;split at h
 ·split at h
  ·split at h;·rename_i hk;injection h with h;subst h;exact hK f hk
   ·exact hcl.1 _ _ _ _ hm h hE
  ·exact hcl.1 _ _ _ _ hm h hE
 ·exact hcl.1 _ _ _ _ hm h hE
theorem Bl{P:Program}:∀ {mu:List Nat},(mu.all fun f=>Nat.ble f 999999)=true->zm P mu
 | [],_,f,h=>by cases h
 |k::l,hm,f,h=>by
  simp only [List.all_cons,Bool.and_eq_true]at hm;simp only [gZ]at h;split at h;·rename_i hb;have:=Nat.eq_of_beq_eq_true hb;have:=Nat.le_of_ble_eq_true hm.1;omega
  ·exact Bl hm.2 f h
def HD:List (FuncId×List V×V)->FuncId->Option (List V×V)
 | [],_=>none
 |k::l,f=>match Nat.beq f k.1 with
  |true=>some k.2
  |false=>HD l f
def Bk(K:List (FuncId×List V×V))(call:dO):dO:=fun f args ins=>match Nat.beq f Bf with
 |true=>call Bf args ins
 |false=>match ins with
  | []=>match HD K f with
   |some k=>some ⟨k.2,[],[],.lf [(.vs args,.vs k.1)]⟩
   |none=>call f args []
  |o::l=>call f args (o::l)
def j3(P:Program)(K:List (FuncId×List V×V)):Prop:=∀f k,HD K f=some k->AM P f k.1 [] k.2 [] []
theorem rD{P:Program}{K:List (FuncId×List V×V)}{call:dO}(hK:j3 P K)(hcl:cw P call):cw P (Bk K call):=by
 refine⟨fun f args ins r hm h hE=> ?_,fun name t r n h hv=>hcl.2 name t r n h hv⟩;unfold Bk at h;rw [hm]at h;simp only at h;split at h
 ·split at h;·rename_i k hk;injection h with h;subst h;have hE':gP _:=hE;have e1:=hE'.hd;injection e1 with e1;rw [e1];exact hK f k hk
  ·exact hcl.1 _ _ _ _ hm h hE
 ·exact hcl.1 _ _ _ _ hm h hE
def EG(P:Program)(args:List V):Option CR:=match args with
 | [.fn (.method name) [] [],.c (.int .i64 n)]=>match A9 P name n.toNat with
  |some f=>some ⟨.i (f:Int),[],[],c0⟩
  |none=>none
 |_=>none
def iX(O:dO->dO)(P:Program)(T:List TI)(M:ML)(mu:List Nat):Nat->dO
 |0=>fun _ _ _=>none
 |d+1=>fun f args ins=>match Nat.beq f Bf with
  |true=>EG P args
  |false=>match P.funcs[f]? with
   |some fn=>match fn.body with
    |some c=>match fn.name == "runtime.NumGoroutine" with
     |false=>match Nat.ble args.length 1000 && (Nat.ble args.length fn.ntmps && Nat.ble ins.length 400)with
      |true=>z6 (O (iX O P T M mu d)) (z9 P T M mu (O (iX O P T M mu d))) T (FR M f) mu f fn c args ins
      |false=>none
     |true=>none
    |none=>none
   |none=>none
def qa(P:Program)(T:List TI)(M:ML)(mu:List Nat):Nat->dO:=iX (Iu mu) P T M mu
theorem gS{P:Program}{T:List TI}{call:dO}{itrI:kC}(hT:aO T P)(hmx:P.follows .mixedOrders=true)(hcl:cw P call)(hitI:lB P itrI){M mu:List Nat}{f:FuncId}{fn:Func}{c:Code}{args:List V}{ins:List Ob}{r:CR}(hk:nC P f fn c fn.ntmps)(ha:args.length<=1000)(ha2:args.length<=fn.ntmps)(hi:ins.length<=400) (h:ya call itrI T M mu f fn c args ins=some r) (hE:iK r.e):AM P f args ins r.v r.outs r.obs:=by
 obtain⟨q,hq,h⟩:=cx h;obtain⟨e,s,t⟩:=q;have key:(e= .normal\/e= .ret)->oE (sN T fn ins.length s) none (fun q=>some ⟨q.v,q.outs,q.obs,uU t q.e⟩)=some r->AM P f args ins r.v r.outs r.obs:=by intro he h;obtain⟨r',hr',h⟩:=cx h;injection h with h;subst h;have hE:=j8 hE;obtain⟨q1,q2,q3⟩:=wz hi he hr' hE.2;refine pT hT hmx hk ha2 q2 hi q3 fun C hF hpin htl=> ?_;have:=kL (C:=C) (mu:=mu) hT hcl (xe hT hcl hitI hF hpin htl) c _ _ _ _ hq hE.1 (c7 T fn ins.length r'.v r'.outs r'.obs) q1;rw [<-kA ha];exact nJ (wB mu f args ins) this
 unfold F2 at h;split at h;·rename_i h0;exact key (.inr h0) h
 ·rename_i h0;exact key (.inl h0) h
 ·cases h
theorem z8{P:Program}{T:List TI}{call:dO}{itrI:kC}(hT:aO T P)(hmx:P.follows .mixedOrders=true)(hcl:cw P call)(hitI:lB P itrI){M mu:List Nat}{f:FuncId}{fn:Func}{c:Code}{args:List V}{ins:List Ob}{r:CR}(hk:nC P f fn c fn.ntmps)(ha:args.length<=1000)(ha2:args.length<=fn.ntmps)(hi:ins.length<=400) (h:DP call itrI T M mu f fn c args ins=some r) (hE:iK r.e):AM P f args ins r.v r.outs r.obs:=by
 obtain⟨q,hq,h⟩:=cx h;obtain⟨e,s,t⟩:=q;have key:(e= .normal\/e= .ret)->oE (sN T fn 0 s) none (fun q=>some ⟨q.v,ins.map fun _=>none,q.obs,uU t q.e⟩)=some r->AM P f args ins r.v r.outs r.obs:=by intro he h;obtain⟨r',hr',h⟩:=cx h;injection h with h;subst h;have hE:=j8 hE;obtain⟨q1,q2,q3⟩:=wz (Nat.zero_le _) he hr' hE.2;have e0:r'.outs=[]:=List.eq_nil_of_length_eq_zero q2;rw [e0]at q1;refine xw hT hmx hk ha2 hi q3 fun C hF hd=> ?_;have:=kL (C:=C) (mu:=mu) hT hcl (xe hT hcl hitI hF (fun id x hx=>by rw [hd]at hx;cases hx) (by rw [hd];rfl)) c _ _ _ _ hq hE.1 (c7 T fn 0 r'.v [] r'.obs) q1;rw [<-kA ha];exact nJ (wB mu f args ins) this
 unfold DO at h;split at h;·rename_i h0;exact key (.inr h0) h
 ·rename_i h0;exact key (.inl h0) h
 ·cases h
theorem rf:∀(l:List Ob) (k:Nat) (args:List V),(CQ k l args).length=args.length
 | [],_,_=>rfl
 |o::l,k,args=>by rw [CQ,rf l,V.dH]
theorem z7{P:Program}{T:List TI}{call:dO}{itrI:kC}(hT:aO T P)(hmx:P.follows .mixedOrders=true)(hcl:cw P call)(hitI:lB P itrI){M mu:List Nat}{f:FuncId}{fn:Func}{c:Code}{args:List V}{ins:List Ob}{r:CR}(hk:nC P f fn c fn.ntmps)(ha:args.length<=1000)(ha2:args.length<=fn.ntmps)(hi:ins.length<=400) (h:z6 call itrI T M mu f fn c args ins=some r) (hE:iK r.e):AM P f args ins r.v r.outs r.obs:=by
 unfold z6 at h;split at h;·exact gS hT hmx hcl hitI hk ha ha2 hi h hE
 ·split at h;·exact gS hT hmx hcl hitI hk ha ha2 hi h hE
  ·split at h
   ·rename_i hb;simp only [Bool.and_eq_true]at hb;unfold DQ at h;split at h
    ·rename_i q hq;split at h
     ·rename_i ho;split at h
      ·rename_i hob;split at h;·rename_i hf;injection h with h;subst h;have:=gS hT hmx hcl hitI hk (by rw [rf];exact ha) (by rw [rf];exact ha2) (Nat.zero_le _) hq hE;rw [ho,hob]at this;exact this.keep hb.2 hb.1 hf
       ·exact gS hT hmx hcl hitI hk ha ha2 hi h hE
      ·exact gS hT hmx hcl hitI hk ha ha2 hi h hE
     ·exact gS hT hmx hcl hitI hk ha ha2 hi h hE
    ·cases h
   ·split at h;·rename_i r' hr';injection h with h;subst h;exact gS hT hmx hcl hitI hk ha ha2 hi hr' hE
    ·exact z8 hT hmx hcl hitI hk ha ha2 hi h hE
theorem lG{O:dO->dO}{P:Program}{T:List TI}(hT:aO T P)(hmx:P.follows .mixedOrders=true){M:ML}{mu:List Nat}(hO:∀c,cw P c->cw P (O c)):∀d,cw P (iX O P T M mu d)
  |0=>⟨fun f args ins r _ h _=>by(cases h),fun name t r n h _=>by(cases h)⟩
  |d+1=>by
    refine⟨fun f args ins r hm h hE=> ?_,fun name t r n h hv=> ?_⟩
    · unfold iX at h
      rw [hm]at h
      simp only at h
      split at h
      · rename_i fn hf
        split at h
        · rename_i c hc
          split at h
          · rename_i hname
            split at h
            · rename_i hb
              simp only [Bool.and_eq_true]at hb
              exact z7 hT hmx (hO _ (lG hT hmx hO d)) (Aa hT hmx (hO _ (lG hT hmx hO d))) ⟨hf,hc,rfl,hname⟩ (Nat.le_of_ble_eq_true hb.1) (Nat.le_of_ble_eq_true hb.2.1) (Nat.le_of_ble_eq_true hb.2.2) h hE
            · cases h
          · cases h
        · cases h
      · cases h
    · have h:EG P [.fn (.method name) [] [],.i (t:Int)]=some r:=h
      unfold EG at h
      simp only at h
      split at h
      · rename_i f hf
        injection h with h;subst h
        simp only [V.c.injEq,Value.int.injEq,true_and]at hv
        have:=Ba hf
        simp only [Int.toNat_natCast]at this
        rw [<-hv]
        simpa using this
      · cases h
def cV(o:Option CR):Option (V×List (Option Ob)×List Ob):=match o with
 |some r=>some (r.v,r.outs,r.obs)
 |none=>none
def cT(o:Option CR):CT:=match o with
 |some r=>r.e
 |none=>c0
theorem Cw{O:dO->dO}{P:Program}{T:List TI}(hT:aO T P)(hmx:P.follows .mixedOrders=true)(M:ML)(mu:List Nat)(hO:∀c,cw P c->cw P (O c)){f:FuncId}{args:List V}{ins:List Ob}{v:V}{outs:List (Option Ob)}{obs:List Ob}(h:cV (iX O P T M mu 40 f args ins)=some (v,outs,obs))(hE:(cT (iX O P T M mu 40 f args ins)).l=(cT (iX O P T M mu 40 f args ins)).r)(hf9:Nat.beq f Bf=false:=by rfl):AM P f args ins v outs obs:=by
 unfold cV at h;unfold cT at hE;split at h
 ·rename_i r hr;simp only [hr]at hE;injection h with h;injection h with h1 h2;injection h2 with h2 h3;subst h1 h2 h3;cases hm:Nat.beq f Bf with
  |false=>exact(lG hT hmx hO 40).1 f args ins r hm hr (vg hE)
  |true=>rw [hm]at hf9;cases hf9
 ·cases h
theorem HZ{P:Program}{T:List TI}(hT:aO T P)(hmx:P.follows .mixedOrders=true)(M:ML)(mu:List Nat)(hK:zm P mu){f:FuncId}{args:List V}{ins:List Ob}{v:V}{outs:List (Option Ob)}{obs:List Ob}(h:cV (qa P T M mu 40 f args ins)=some (v,outs,obs))(hE:(cT (qa P T M mu 40 f args ins)).l=(cT (qa P T M mu 40 f args ins)).r)(hf9:Nat.beq f Bf=false:=by rfl):AM P f args ins v outs obs:=
 Cw hT hmx M mu (fun _=>Fm hK) h hE hf9
theorem qS{P:Program}{T:List TI}(hT:aO T P)(hmx:P.follows .mixedOrders=true)(M:ML)(mu:List Nat){f:FuncId}{args:List V}{ins:List Ob}{v:V}{outs:List (Option Ob)}{obs:List Ob}(h:cV (qa P T M mu 40 f args ins)=some (v,outs,obs))(hE:(cT (qa P T M mu 40 f args ins)).l=(cT (qa P T M mu 40 f args ins)).r)(hm:(mu.all fun f=>Nat.ble f 999999)=true:=by decide)(hf9:Nat.beq f Bf=false:=by rfl):AM P f args ins v outs obs:=HZ hT hmx M mu (Bl hm) h hE hf9
theorem AM.ac{P:Program}{f:FuncId}{args:List V}{v:V}{obs:List Ob}(h:AM P f args [] v [] obs)(ho:obs.length<=400):AC P f args v obs:=by
 refine⟨h.1,fun L w vs hL hgl hv=> ?_⟩;refine(h.2 (fun b=>w.heap.size<=b) (fun b=>L b\/w.heap.size<=b) L w ρ0 vs (fun b hb=> .inr hb) (fun b hb hl=>by have:=hL b hl;omega) ⟨fun b hb=>⟨hL b hb,.inl hb⟩,fun b hb=>⟨hb,.inr hb⟩,(fun id o ho=>by unfold dz at ho;split at ho <;> simp at ho),(fun i j x y k _ _ _ hx=>by cases hx),hgl⟩ (fun _ _=>rfl) hv).mono ?_;rintro e w' ⟨x,rfl,ht,L',ρ',hG',hE',hx,hnn⟩;have eo:eT [] obs=kq obs:=by
  funext id;unfold eT kq;by_cases h5:500<=id;·rw [if_pos h5,show obs[id]?=none from List.getElem?_eq_none oM];simp
  ·rw [if_neg h5]
 rw [eo]at hG';exact⟨x,rfl,ht.below (Nat.le_refl _) fun j hj hW=>by have hW':w.heap.size<=j:=hW;omega,L',ρ',hG',fun b hb=>(hE'.l b hb).1,hx,fun j hj=>hnn j hj (by simp only [List.length_nil,Nat.add_zero];omega)⟩
theorem AC.am{P:Program}{f:FuncId}{args:List V}{v:V}(h:AC P f args v [])(ha:V.aZ args=true)(hv:v.bX=true):AM P f args [] v [] []:=by
 refine⟨h.1,fun W LB L w ρ vs hwl hWL hG hρ hvs=> ?_⟩;refine(h.2 L w vs (fun b hb=>(hG.ll b hb).1) hG.gl (hvs.free ha)).mono ?_;rintro e w' ⟨x,rfl,hbel,L',ρ',hG',hL',hx,_⟩;obtain⟨Lx,hLx⟩:∃Lx:Nat->Prop,∀b,Lx b<->L b\/(L' b/\w.heap.size<=b):=⟨_,fun _=>Iff.rfl⟩;obtain⟨hG2,ex2⟩:=hG.quiet hbel (L':=Lx) (fun b hb=>(hLx b).2 (.inl hb)) (fun b hb=>by
  rcases(hLx b).1 hb with hb |hb;·exact .inl hb
  ·exact .inr ⟨hb.2,(hG'.ll b hb.1).1⟩)
 have eo:eT [] []=dz []:=by funext id;unfold eT dz;split <;> simp
 refine⟨x,rfl,aU.eS hbel fun k _ hk=>(hG.new k hk).1,Lx,ρ,?_,ex2,?_,fun j _ hj=>hρ j hj⟩;·rw [eo];exact hG2
 ·have:=hx.free hv ρ;refine this.mono (fun b hb=>⟨(hLx b).2 ?_,rfl⟩) fun _ _ h=>h;rcases(hG'.ll b hb).2 with h |h;·exact .inl h
  ·exact .inr ⟨hb,h⟩
theorem oo{P:Program}:j3 P []:=fun f k h=>by cases h
theorem cR{P:Program}{K:List (FuncId×List V×V)}{f0:FuncId}{a0:List V}{v0:V}(h0:AC P f0 a0 v0 [])(ha:V.aZ a0=true)(hv:v0.bX=true)(h:j3 P K):j3 P ((f0,a0,v0)::K):=by
 intro f k hk;simp only [HD]at hk;split at hk;·rename_i hb;injection hk with hk;subst hk;have:=Nat.eq_of_beq_eq_true hb;rw [this];exact h0.am ha hv
 ·exact h f k hk
end
end Go.Ab

namespace Go.Ab
open Go.RowKit Go.Dw
theorem AC.BE{P:Program}{f:FuncId}{args:List V}{v v':V}{e:TypeId}{sz n n':Nat}{row row':Nat->List V}(h:AC P f args v [.row e sz n row])(hn:n=n')(hr:∀i,i< n->row i=row' i)(hi:∀i,V.aZ (row' i)=true)(hv:V.fz 0 (.sl sz n' row') v=v')(hidf:v'.bX=true):AC P f args v' []:=by
 subst hn;refine⟨h.1,fun L w vs hL hgl hvs=>(h.2 L w vs hL hgl hvs).mono ?_⟩;rintro ee w' ⟨x,rfl,hb,L',ρ',hG,hL',hx,hnn⟩;have hre:Real (fun b=>w.heap.size<=b) w' L' ρ' 0 (.row e sz n row'):=(hG.ob 0 _ rfl).eq ⟨rfl,rfl,rfl,hr⟩;obtain⟨v0,hv0,hlt,hs⟩:=hre.slice fun i _=>hi i;have ex:Ext w' L' ρ' w' (fun b=>L' b\/blk v0=some b) ρ':=⟨fun b hb=>⟨.inl hb,rfl⟩,fun _ _ h=>h⟩;refine⟨x,rfl,hb,fun b=>L' b\/blk v0=some b,ρ0,⟨fun b hbl=> ?_,hG.new,(fun id o ho=>by cases ho),fun i j y z k _ hi=>absurd rfl hi,hG.td ex⟩,fun b hbl=> .inl (hL' b hbl),?_,fun _ _=>rfl⟩
 ·rcases hbl with h1 |h1;·exact hG.ll b h1
  ·exact⟨(hlt b h1).1,.inr (hlt b h1).2.1⟩
 ·subst hv;refine(mV (fun y hy=> ?_) v x (hx.ext ex)).free hidf ρ0;rw [hv0]at hy;injection hy with hy;subst hy;exact hs
end Go.Ab
