/-
  Several texts in one: Plating shops of many plates, beside objects that hold numbers. Conditions: told in each theorem. .. Listening: all causes. Walk of the iterator. Conditions: told in each theorem.
-/
import Derived.Test.YtjmbpjlojjgggaaGreatDoorX09
import Derived.Test.YtjmbpjlojjgggaaGreatDoorAbs42
import Derived.Test.YtjmbpjlojjgggaaGreatDoorX00
import Derived.Test.YtjmbpjlojjgggaaGreatDoorX03
import Derived.Test.YtjmbpjlojjgggaaGreatDoorX02
set_option maxRecDepth 100000
set_option maxHeartbeats 4000000
namespace Go.Proofs.YtjmbpjlojjgggaaGreatDoor
open Go.Ab Go.RowKit Go.Dw Go.Shelf
structure Eb(rest:Nat->Option Ob):Prop where
  lo:∀id o,rest id=some o->id< 500
  nm:∀id o,rest id=some o->∀h:Nat->Nat,ef o (o.bx h)
theorem IA{S:Sh}{rest:Nat->Option Ob}{id:Nat}(h:id< 500):gv S rest id=rest id:=by unfold gv;rw [if_pos h]
theorem F5{tm:Nat->V}{σ rest:Nat->Option Ob}{nx nxc:Nat}{S S':Sh}{δ:List (Nat×Option Ob)}{tl:List (Nat×V)}(hR:Eb rest)(hx:1<=nxc)(hn:S.n<=200)(hn':S'.n<=200)(hD:ju S S' nxc δ)(hσ:σ=bA (gv S rest) δ) (htm:∀h:Nat->Nat,h 500=500->(∀id,id< 500->h id=id)->lQ (fun p=>tm p.1=p.2.bx h) tl):AB ⟨tm,σ,nx⟩ ⟨gy tl,gv S' rest,1⟩:=by
 subst hσ;obtain⟨N,h,h1,h2,h3,h4⟩:=hD _ (iJ hn _);obtain⟨h',hh⟩:∃h':Nat->Nat,∀id,h' id=if id< 500 then id else if id< 1000 then h id else nx*100000+id:=⟨_,fun _=>rfl⟩
 have hl:∀id,id< 500->h' id=id:=fun id a=>by rw [hh,if_pos a]
 have hr:∀id,500<=id->id< 1000->h' id=h id:=fun id a b=>by rw [hh,if_neg oM,if_pos b]
 refine F6 h' hn' h1 ⟨fun i j hi hi2 hj hj2 he=>h2.inj i j hi hi2 hj hj2 (by rwa [hr i hi oM,hr j hj oM]at he),?_,?_,?_,?_,?_,fun i hi=> ?_,fun i hi=> ?_⟩ (fun id o _ ho=> ?_) (fun i j hi0 hi he hj=> ?_) (fun id hid=> ?_) (htm h' (by rw [hr 500 oM oM];exact h2.s) hl);·rw [hr 500 oM oM];exact h2.s
 ·rw [hr 501 oM oM];exact h2.p
 ·rw [hr 502 oM oM];exact h2.t
 ·rw [hr 503 oM oM];exact h2.f
 ·rw [hr 504 oM oM];exact h2.a
 ·rw [hr _ oM oM];exact h2.pl i hi
 ·rw [hr _ oM oM];exact h2.mp i hi
 ·have hid:=hR.lo id o ho;refine⟨o,?_,hR.nm id o ho h'⟩;rw [hl id hid,h4 id (.inl hid) oM,IA hid];exact ho
 ·have hi1:i< 500:=by
   cases ho:rest i with
   |none=>exact absurd ho hi
   |some o=>exact hR.lo i o ho
  rw [hl i hi1]at he;rcases hj with⟨hj,_⟩ |hj
  ·have hj1:j< 500:=by
    cases ho:rest j with
    |none=>exact absurd ho hj
    |some o=>exact hR.lo j o ho
   rw [hl j hj1]at he;exact he
  ·rw [hr j hj.1 oM]at he;have:=h3 j hj.1 oM;omega
 ·rw [hh,if_neg oM,if_neg oM];omega
section
variable {P:Program}{N:Nat}{C:Cx P N}{ops:Array Oper}{nx:Nat}{os:List Oper}{tm:Nat->V}{σ:Nat->Option Ob}{ks:List (List Nat×List Nat)}{K:(Nat->V)->(Nat->Option Ob)->List (List Nat×List Nat)->Prop}{ty:TypeId}{pos:String}{af:Array Edge}
theorem yN{d:Nat}{fo:Operand}{ar:Array Operand}{ats:Array TypeId}{f:FuncId}{first caps args args':List V}{v v':V}{obs:List Ob}{δ:List (Nat×Option Ob)}(pre:List (Nat×Ob))(hc:AC P f args' v obs)(hf:ev tm fo= .fn (.func f) first caps) (hargs:first++ar.toList.map (ev tm)++caps=args) (hfz:iE (oz pre) args args') (hd:decide (d< 1000)=true) (hv:v.oc (List.range obs.length)=true) (hC:∀o∈obs,o.zq) (hob:decide (obs.length<=90)=true) (hvr:v.bx (ax nx (some d))=v') (hδ:b6 (ax nx (some d)) 0 obs=δ) (hp:∀p∈pre,σ p.1=some p.2) (hk:bD C ops nx os (bK tm d v') (bA σ δ) (ks++[(aR δ,dJ pre++aR δ)]) K):bD C ops nx (⟨some d,.call {callee:= .value fo,args:=ar,argTypes:=ats},ty,pos,af,none⟩::os) tm σ ks K:=by obtain⟨hl,hfz⟩:=hfz.get;subst hvr hδ;have hd1:=of_decide_eq_true hd;exact cC rfl (wk (P:=P) (W:=C.W) (LB:=C.LB) (d:=some d) (ty:=ty) (pos:=pos) (af:=af) (gd:=none) (ats:=ats) hc hf hargs pre hl hfz hv hC nx (by simpa using hd) (of_decide_eq_true hob)) hp (dS hd1 (of_decide_eq_true hob)) hk
end
theorem jK{pre:List (Nat×Ob)}{F:Nat->Option Ob}(hF:∀p∈pre,F p.1=some p.2){id:Nat}{o:Ob}(h:(id,o)∈pre):oz pre id=some o:=by
 unfold oz;cases hf:pre.find? (·.1 == id)with
 |none=>rw [List.find?_eq_none]at hf;have:=hf _ h;simp at this
 |some p=>have h1:=List.find?_some hf;have h2:=hF p (List.mem_of_find?_eq_some hf);have h3:=hF _ h;simp only [beq_iff_eq]at h1;rw [h1]at h2;simp only at h3;rw [h3]at h2;injection h2 with h2;rw [h2];rfl
def oa(S:Sh):List (Nat×Ob):=[(500,iA S gG),(501,vq S gG),(502,eW S),(503,dI S),(504,lO S)]++(List.range S.n).flatMap fun i=>[(505+2*i,vO S gG i),(506+2*i,gw S i)]
theorem wW{S:Sh}{σ:Nat->Option Ob}(h:eJ S gG σ):∀p∈oa S,σ p.1=some p.2:=by
 intro p hp;unfold oa at hp;rcases List.mem_append.1 hp with hp |hp
 ·simp at hp;rcases hp with h' |h' |h' |h' |h' <;> subst h'
  ·exact h.s
  ·exact h.p
  ·exact h.t
  ·exact h.f
  ·exact h.a
 ·rw [List.mem_flatMap]at hp;obtain⟨i,hi,hp⟩:=hp;have hi:i< S.n:=by simpa using hi
  simp at hp;rcases hp with h' |h' <;> subst h'
  ·exact h.pl i hi
  ·exact h.mp i hi
theorem IB{S:Sh}(hn:S.n<=200):eJ S gG (oz (oa S)):=by
 have hF:=wW (iJ hn fun _=>none);have hb:∀i,i< S.n->(505+2*i,vO S gG i)∈oa S/\(506+2*i,gw S i)∈oa S:=fun i hi=>by have:∀p,p∈[(505+2*i,vO S gG i),(506+2*i,gw S i)]->p∈oa S:=fun p hp=>List.mem_append_right _ (List.mem_flatMap.2 ⟨i,by simpa using hi,hp⟩);exact⟨this _ (by simp),this _ (by simp)⟩
 exact⟨jK hF (by simp [oa]),jK (id:=501) hF (by simp [oa]),jK (id:=502) hF (by simp [oa]),jK (id:=503) hF (by simp [oa]),jK (id:=504) hF (by simp [oa]),fun i hi=>jK hF (hb i hi).1,fun i hi=>jK hF (hb i hi).2⟩
theorem II{S:Sh}(hn:S.n<=200):Fz (oz (oa S)) (.ref 500 0) (DW S):=Fw (IB hn)
theorem eJ.bK{S:Sh}{σ:Nat->Option Ob}(h:eJ S gG σ)(hn:S.n<=200){k:Nat}(hk:k< 500\/1000<=k)(o:Option Ob):eJ S gG (Ab.bK σ k o):=by
 refine⟨?_,?_,?_,?_,?_,fun i hi=> ?_,fun i hi=> ?_⟩;·rw [ag _ _ oM];exact h.s
 ·rw [ag _ _ (by show(501:Nat)≠k;omega)];exact h.p
 ·rw [ag _ _ (by show(502:Nat)≠k;omega)];exact h.t
 ·rw [ag _ _ (by show(503:Nat)≠k;omega)];exact h.f
 ·rw [ag _ _ (by show(504:Nat)≠k;omega)];exact h.a
 ·rw [ag _ _ (by show 505+2*i≠k;omega)];exact h.pl i hi
 ·rw [ag _ _ (by show 506+2*i≠k;omega)];exact h.mp i hi
theorem eJ.bA{S:Sh}(hn:S.n<=200):∀ {δ:List (Nat×Option Ob)}{σ:Nat->Option Ob},eJ S gG σ->(∀p∈δ,p.1< 500\/1000<=p.1)->eJ S gG (Ab.bA σ δ)
 | [],_,h,_=>h
 | (k,o)::δ,σ,h,hk=>eJ.bA hn (δ:=δ) (h.bK hn (hk (k,o) (by simp)) o) fun p hp=>hk p (by simp [hp])
theorem jj{tm:Nat->V}{σ rest:Nat->Option Ob}{nx:Nat}{S:Sh}{δ:List (Nat×Option Ob)}{tl:List (Nat×V)}(gl:List (Nat×Nat))(hn:S.n<=200)(hσ:σ=Ab.bA (gv S rest) δ)(hδ:δ.all (fun p=>decide (p.1< 500\/1000<=p.1))=true)(sl:List (Nat×Ob)) (hsl:lQ (fun p=>p.1< 500/\(aI gl nx p.1< 500\/1000<=aI gl nx p.1)/\∃ob,σ (aI gl nx p.1)=some ob/\∀h:Nat->Nat,ef ob (p.2.bx h)) sl) (hnd:((sl.map fun p=>aI gl nx p.1).Nodup)) (hgl:gl.all (fun p=>decide (p.1< 500))=true) (htm:∀h:Nat->Nat,h 500=500->(∀id,id< 500->h id=aI gl nx id)->lQ (fun p=>tm p.1=p.2.bx h) tl):AB ⟨tm,σ,nx⟩ ⟨gy tl,gv S (dj sl),1⟩:=by
 have hF:eJ S gG σ:=by rw [hσ];exact eJ.bA hn (iJ hn _) fun p hp=>by have:=List.all_eq_true.1 hδ p hp;simpa using this
 have hmem:∀id o,dj sl id=some o->(id,o)∈sl:=by
  intro id o;clear hsl hnd;induction sl with
  |nil=>intro h;cases h
  |cons p sl ih=>
   intro h;have h:Ab.bK (dj sl) p.1 (some p.2) id=some o:=h;by_cases e:id=p.1;·rw [e,aq]at h;injection h with h;rw [e,<-h];simp
   ·rw [ag _ _ e]at h;exact List.mem_cons_of_mem _ (ih h)
 have hlo:∀id o,dj sl id=some o->id< 500/\(aI gl nx id< 500\/1000<=aI gl nx id)/\∃ob,σ (aI gl nx id)=some ob/\∀h:Nat->Nat,ef ob (o.bx h):=fun id o h=>hsl.mem _ (hmem id o h);obtain⟨h',hh⟩:∃h':Nat->Nat,∀id,h' id=if id< 500 then aI gl nx id else if id< 1000 then id else nx*100000+id:=⟨_,fun _=>rfl⟩
 have hl:∀id,id< 500->h' id=aI gl nx id:=fun id a=>by rw [hh,if_pos a]
 have hr:∀id,500<=id->id< 1000->h' id=id:=fun id a b=>by rw [hh,if_neg oM,if_pos b]
 refine F6 h' hn hF ⟨fun i j hi hi2 hj hj2 he=>by rwa [hr i hi oM,hr j hj oM]at he,hr _ oM oM,hr _ oM oM,hr _ oM oM,hr _ oM oM,hr _ oM oM,fun i hi=>hr _ oM oM,fun i hi=>hr _ oM oM⟩ (fun id o _ ho=> ?_) (fun i j _ hi he hj=> ?_) (fun id hid=> ?_) (htm h' (hr 500 oM oM) hl);·obtain⟨h1,_,ob,h2,h3⟩:=hlo id o ho;exact⟨ob,by rw [hl id h1];exact h2,h3 h'⟩
 ·cases hoi:dj sl i with
  |none=>exact absurd hoi hi
  |some o=>
   obtain⟨i1,i2,_⟩:=hlo i o hoi;rw [hl i i1]at he;rcases hj with⟨hj,_⟩ |hj
   ·cases hoj:dj sl j with
    |none=>exact absurd hoj hj
    |some o'=>obtain⟨j1,_⟩:=hlo j o' hoj;rw [hl j j1]at he;obtain⟨a,ha,hae⟩:=List.getElem_of_mem (hmem i o hoi);obtain⟨b,hb,hbe⟩:=List.getElem_of_mem (hmem j o' hoj);have hab:a=b:=ow hnd (by simpa using ha) (by simp [ha,hb,hae,hbe,he]);subst hab;rw [hae]at hbe;injection hbe
   ·rw [hr j hj.1 oM]at he;omega
 ·rw [hh,if_neg oM,if_neg oM];omega
def iO(x:Sh×(Nat->Int×Int))(a:Act):Sh×(Nat->Int×Int):= ((bz x.1 a).1,if(bz x.1 a).2.2≠0 then x.2 else if a.kind=4 then fT x.2 x.1.q (a.plate,(bz x.1 a).1.n)else if a.kind=5 then fun i=>if i=a.flaw.toNat then(-1,(x.2 i).2)else x.2 i else x.2)
def ki(x:Sh×(Nat->Int×Int))(l:List Act):Sh×(Nat->Int×Int):=l.foldl iO x
theorem DH(x:Sh×(Nat->Int×Int))(l:List Act)(a:Act):ki x (l++[a])=iO (ki x l) a:=by simp [ki]
theorem xU(x:Sh×(Nat->Int×Int))(l:List Act):(ki x l).1=cD x.1 l:=by
 induction l generalizing x with
 |nil=>rfl
 |cons a l ih=>exact ih (iO x a)
theorem rZ(S:Sh)(a:Act):((bz S a).2.2=0->a.kind=4->(bz S a).2.1=S.q/\(bz S a).1.q=S.q+1)/\((bz S a).2.2=0->a.kind=5->(0<=a.flaw/\a.flaw< S.q))/\(((bz S a).2.2≠0\/a.kind≠4)->(bz S a).1.q=S.q):=by
 refine fN (fun x=>(x.2.2=0->a.kind=4->x.2.1=S.q/\x.1.q=S.q+1)/\(x.2.2=0->a.kind=5->(0<=a.flaw/\a.flaw< S.q))/\((x.2.2≠0\/a.kind≠4)->x.1.q=S.q)) ?_ ?_ ?_ ?_ ?_ ?_ ?_;·exact fun e he=>⟨fun h=>absurd h he,fun h=>absurd h he,fun _=>rfl⟩
 ·exact fun _ k=>⟨fun _ h=>by omega,fun _ h=>by omega,fun _=>rfl⟩
 ·exact fun _ k _=>⟨fun _ h=>by omega,fun _ h=>by omega,fun _=>rfl⟩
 ·exact fun _ k _ _ _ _=>⟨fun _ h=>by omega,fun _ h=>by omega,fun _=>rfl⟩
 ·exact fun _ k _ _=>⟨fun _ _=>⟨rfl,rfl⟩,fun _ h=>by omega,fun h=>h.elim (fun h=>absurd rfl h) fun h=>absurd k h⟩
 ·exact fun _ k _ c _ _=>⟨fun _ h=>by omega,fun _ _=>c,fun _=>rfl⟩
 ·exact fun _ k _ _=>⟨fun _ h=>by omega,fun _ h=>by omega,fun _=>rfl⟩
abbrev xW(n:Nat)(g:Nat->Int×Int):Ob:= .row 98 2 n (aP g)
theorem z0{n:Nat}{g:Nat->Int×Int}{h:Nat->Nat}:ef (xW n g) ((xW n g).bx h):=⟨rfl,rfl,rfl,fun _ _=>rfl⟩
theorem NZ{n:Nat}{g:Nat->Int×Int}{h:Nat->Nat}{a b:Int}:ef (.row 98 2 (n+1) (aE n (aP g) fun i=>([V.i a,V.i b].drop (i*2)).take 2)) ((xW (n+1) (fT g n (a,b))).bx h):=by
 refine⟨rfl,rfl,rfl,fun i hi=> ?_⟩;show aE n (aP g) _ i=[V.i (fT g n (a,b) i).1,V.i (fT g n (a,b) i).2];by_cases q:i< n;·simp only [aE,fT,if_pos q]
 ·have:i=n:=by omega
  subst this;simp only [aE,fT,if_neg q,Nat.sub_self];rfl
theorem N0{n f:Nat}{g:Nat->Int×Int}{h:Nat->Nat}:ef (.row 98 2 n fun j=>if j=f then [V.i (-1),V.i (g f).2]else aP g j) ((xW n fun i=>if i=f then(-1,(g i).2)else g i).bx h):=by
 refine⟨rfl,rfl,rfl,fun i hi=> ?_⟩;show(if i=f then [V.i (-1),V.i (g f).2]else aP g i)=[V.i (if i=f then(-1,(g i).2)else g i).1,V.i (if i=f then(-1,(g i).2)else g i).2];by_cases q:i=f;·subst q;simp only [if_pos]
 ·simp only [if_neg q]
theorem DK(n:Nat)(g:Nat->Int×Int):Eb (dj [(5,xW n g)]):=by
 have e:∀id o,dj [(5,xW n g)] id=some o->id=5/\o=xW n g:=fun id o h=>by
  have h:Ab.bK (fun _=>none) 5 (some (xW n g)) id=some o:=h;by_cases q:id=5;·rw [q,aq]at h;injection h with h;exact⟨q,h.symm⟩
  ·rw [ag _ _ q]at h;cases h
 exact⟨fun id o h=>by rw [(e id o h).1];decide,fun id o h k=>by rw [(e id o h).2];exact⟨rfl,rfl,rfl,fun _ _=>rfl⟩⟩
theorem GY(r:Rc)(hr:r.ok)(l:List Act)(hl:l.length<=60):AC Tryz.prog 34 [r.v,qE l] (.tup [DW (cD (bS r) l),.sl 2 (cD (bS r) l).q (aP (ki (bS r,fun _=>(0,0)) l).2),.b true]) []:=by
 refine gU ah cv Tryz.func34 Tryz.ntmps34 fun C hC hF=> ?_;refine sK fun K hK=>wR 2 ?_;refine aY ah 4 [] ?_;refine nK hK ?_;clear hK K;refine sK fun K hK=>wR 3 ?_;refine aY ah 1 [] ?_;refine A7 (first:=[]) (caps:=[]) (k:=200015) (v':=V.tup [V.ref 200015 0,V.i 0]) (ob':=Ob.box 123 [V.b true,V.i (Rc.n0 r),V.i (Rc.n1 r),V.i (Rc.n2 r),V.i (Rc.n3 r),V.i (Rc.k0 r),V.i (Rc.k1 r),V.i (Rc.k2 r),V.i (Rc.k3 r),V.i (Rc.seed r),V.i (Rc.soft r),V.i (Rc.hard r),V.i (Rc.mo r),V.i (Rc.st r),V.nil,V.nil,V.nil,V.nil]) (KJ r hr) kR kR kR kR kR kR kR ?_;refine aY ah 5 [] ?_;refine nK hK ?_;clear hK K;refine sK fun K hK=>sK fun K hK=>wR 4 ?_;refine aY ah 6 [] ?_;refine nK hK ?_;clear hK K;refine aB (t:=false) kR rfl ?_;refine ak ?_;refine ai (hK _ ?_);clear hK K;refine sK fun K hK=>wR 5 ?_;refine aY ah 1 [] ?_;refine nK hK ?_;clear hK K;refine sK fun K hK=>sK fun K hK=>wR 6 ?_;refine aY ah 1 [] ?_;refine nK hK ?_;clear hK K;refine au ?_;refine iC (fG 200015 14 131 1 (fun _=>[]) (t:=123) (cs:=cU r .nil .nil .nil .nil) kR rfl kR kR) ?_;refine iC (fG 200015 15 55 4 (fun _=>[]) (t:=123) (cs:=cU r (.own 600014) .nil .nil .nil) kR rfl kR kR) ?_;refine iC (fG 200015 16 149 2 (fun _=>[]) (t:=123) (cs:=cU r (.own 600014) (.own 700015) .nil .nil) kR rfl kR kR) ?_;refine iC (fG 200015 17 40 13 (fun _=>[]) (t:=123) (cs:=cU r (.own 600014) (.own 700015) (.own 800016) .nil) kR rfl kR kR) ?_;refine EG hC (fun k=>⟨gy [(1,qE l),(7,.ref 500 0),(9,.own 5),(10,.i (k:Nat))],gv (cD (bS r) (l.take k)) (dj [(5,xW (cD (bS r) (l.take k)).q (ki (bS r,fun _=>(0,0)) (l.take k)).2)]),1⟩) (fun k=>k<=l.length) (fun k=>l.length- k) 0 (Nat.zero_le _) ?_ ?_;·rw [show cD (bS r) (l.take 0)=bS r by simp [cD],show ki (bS r,fun _=>(0,0)) (l.take 0)=(bS r,fun _=>(0,0)) by simp [ki]];refine(LN (r:=r) (s:=200015) (p:=600014) (t:=700015) (f:=800016) (a:=900017) (tl:=[(1,qE l),(7,.ref 500 0),(9,.nil),(10,.i 0)]) rfl kR ⟨fun _=>[],kR⟩ ⟨fun _=>[],kR⟩ ⟨fun _=>[],kR⟩ ⟨fun _=>[],kR⟩ fun h hh=>⟨rfl,by show _=V.ref (h 500) 0;rw [hh];rfl,rfl,rfl,trivial⟩).trans ?_;refine AB.trans (Le.d (gP (tm:=gy [(1,qE l),(7,.ref 500 0),(9,.nil),(10,.i 0)]) (σ:=gv (bS r) fun _=>none) (nx:=1) 9 98 2 (aP fun _=>(0,0)) kR rfl)) ?_;exact jj [(5,100009)] (S:=bS r) (rest:=fun _=>none) (δ:=[(100009,some (xW 0 fun _=>(0,0)))]) (Nat.zero_le _) rfl (by decide) _ ⟨⟨show(5:Nat)< 500 by decide,.inr (show 1000<=(100009:Nat) by decide),xW 0 fun _=>(0,0),kR,fun h=>z0⟩,trivial⟩ (by simp) (by decide) fun h h5 hlo=>⟨rfl,by show _=V.ref (h 500) 0;rw [h5];rfl,by show _=V.own (h 5);rw [hlo 5 (by decide)];rfl,rfl,trivial⟩
 intro k hk;obtain⟨hS,hSl,hSr⟩:=BN (qk hr) (l.take k);have hSl2:(cD (bS r) (l.take k)).l<=k:=by refine Nat.le_trans hSl ?_;show 0+_<=_;rw [List.length_take];omega
 have hSn:=hS.n;have hSq:=hS.q;have hfst:=xU (bS r,fun _=>(0,0)) (l.take k);obtain⟨S,hSS⟩:∃S,S=cD (bS r) (l.take k):=⟨_,rfl⟩;obtain⟨g,hgg⟩:∃g,g=(ki (bS r,fun _=>(0,0)) (l.take k)).2:=⟨_,rfl⟩;rw [<-hSS]at hS hSl2 hSn hSq hfst ⊢;rw [<-hgg];refine sK fun K hK=>sK fun K hK=>wR 2 ?_;refine aY ah 4 [] ?_;refine nK hK ?_;clear hK K;refine av (t:=decide ((↑k:Int)< (↑(List.length l):Int))) kR (fun c1=> ?_) (fun c1=> ?_)
 ·have hkl:k< l.length:=by simpa using c1
  refine ak ?_;refine ai (hK _ ?_);clear hK K;refine sK fun K hK=> ?_;refine au ?_;refine sK fun K hK=>wR 3 ?_;refine aY ah 5 [(3,.c ((0:Int)<=(↑k:Int)/\(↑k:Int)< (↑(List.length l):Int)) oM)] ?_;refine Ce (M5 C.wl hS oM (fq l k) rfl kR (by decide) (by decide)) rfl rfl (iJ oM _) fun δ ks hD=> ?_;refine aY ah 5 [] ?_;refine nK hK ?_;clear hK K;refine sK fun K hK=>sK fun K hK=> ?_;have hfa:=rZ S (fq l k);have h1:=qv hS (fq l k);have h2:=G8 S (fq l k);refine K2 hC (F5 (tl:=[(1,qE l),(7,.ref 500 0),(9,.own 5),(10,.i (k:Nat)),(11,.i (bz S (fq l k)).2.1),(12,.i (bz S (fq l k)).2.2)]) (DK S.q g) (by decide) oM (by have:=h1.n;omega) hD rfl fun h h5 hlo=>⟨rfl,by show _=V.ref (h 500) 0;rw [h5];rfl,by show _=V.own (h 5);rw [hlo 5 (by decide)];rfl,rfl,rfl,rfl,trivial⟩) ?_;have hT:cD (bS r) (l.take (k+1))=(bz S (fq l k)).1:=by rw [x6 hkl,DI,<-hSS]
  have hC2:(ki (bS r,fun _=>(0,0)) (l.take (k+1))).2=(iO (S,g) (fq l k)).2:=by
   rw [x6 hkl,DH];have:ki (bS r,fun _=>(0,0)) (l.take k)=(S,g):=by rw [hgg,<-hfst]
   rw [this]
  obtain⟨S',hS'⟩:∃S',S'=(bz S (fq l k)).1:=⟨_,rfl⟩;obtain⟨e,he⟩:∃e,e=(bz S (fq l k)).2.2:=⟨_,rfl⟩;obtain⟨nn,hnn⟩:∃nn,nn=(bz S (fq l k)).2.1:=⟨_,rfl⟩;rw [<-hS']at hfa h1 h2 hT ⊢;rw [<-he,<-hnn]at hfa ⊢;have hn':S'.n<=200:=by have:=h1.n;omega
  refine wR 2 ?_;refine aY ah 2 [] ?_;refine nK hK ?_;clear hK K;refine av (t:= !decide (e=0)) kR (fun c2=> ?_) (fun c2=> ?_)
  ·have c2':e≠0:=by simpa using c2
   refine bg ?_;refine bO ?_;refine bC ?_;refine ai ?_;clear hK K;refine hK _ ?_;clear hK K;refine wR 3 ?_;refine aY ah 3 [(1,.c (iR ((↑k:Int)+1)) oM)] ?_;refine aa (ai ?_);refine⟨k+1,by omega,?_,by omega⟩;rw [hT,hC2,show(iO (S,g) (fq l k)).2=g by show(if(bz S (fq l k)).2.2≠0 then _ else _)=_;rw [if_pos (by rw [<-he];exact c2')],hfa.2.2 (.inl c2')];exact jj [(5,5)] (S:=S') (rest:=dj [(5,xW S.q g)]) (δ:=[]) hn' rfl rfl _ ⟨⟨show(5:Nat)< 500 by decide,.inl (show(5:Nat)< 500 by decide),xW S.q g,kR,fun h=>z0⟩,trivial⟩ (by simp) (by decide) fun h h5 hlo=>⟨rfl,by show _=V.ref (h 500) 0;rw [h5];rfl,by show _=V.own (h 5);rw [hlo 5 (by decide)];rfl,rfl,trivial⟩
  have c2':e=0:=by simpa using c2
  refine ak ?_;refine ai (hK _ ?_);clear hK K;refine sK fun K hK=>wR 3 ?_;refine aY ah 5 [(2,.c ((0:Int)<=(↑k:Int)/\(↑k:Int)< (↑(List.length l):Int)) oM)] ?_;refine nK hK ?_;clear hK K;refine au ?_;refine sX ah 4 2 [] tI ?_;refine av (t:=decide (Act.kind (fq l k)=4)) kR (fun c3=> ?_) (fun c3=> ?_)
  ·have k4:(fq l k).kind=4:=by simpa using c3
   obtain⟨q1,q2⟩:=hfa.1 c2' k4;rw [q1];refine sK fun K hK=>sX ah 5 4 [] tI ?_;refine av (t:= !decide ((↑(Sh.q S):Int)=(↑(Sh.q S):Int))) kR (fun c4=> ?_) (fun c4=> ?_);·simp at c4
   refine ak ?_;refine ai (hK _ ?_);clear hK K;refine wD 6 (aX ah 7 [(3,.c ((0:Int)<=(↑k:Int)/\(↑k:Int)< (↑(List.length l):Int)))] ⟨oM,tI⟩ ?_);refine yN (oa S') (qA S' hn') rfl rfl ⟨II hn',trivial⟩ rfl rfl (fun o ho=> ?_) rfl rfl rfl (wW (iJ hn' _)) ?_;·simp at ho;subst ho;exact fun i _ u hu=>by simp [Pl.c]at hu;rcases hu with h |h |h |h |h |h |h <;> subst h <;> rfl
   refine aX ah 5 [(3,.r (PR.mk (some (63:Nat)) (some (Sh.q S+1<=(1099511627776:Nat))) (V.own 500063) [((5:Nat),none),((500063:Nat),some (Ob.row 98 2 (Sh.q S+1) (aE (Sh.q S) (aP g) fun(i:Nat)=>List.take (2:Nat) (List.drop (i*2) [V.i (Act.plate (fq l k)),V.i (↑(Sh.n S'):Int)]))))] false))] ⟨oM,tI⟩ (aa ⟨zH kR,(bL (bL (ai (hK _ ?_))))⟩);clear hK K;refine wR 7 ?_;refine aY ah 3 [(1,.c (iR ((↑k:Int)+1)) oM)] ?_;refine aa (ai ?_);refine⟨k+1,by omega,?_,by omega⟩;have hse:(iO (S,g) (fq l k)).2=fT g S.q ((fq l k).plate,(S'.n:Int)):=by show(if(bz S (fq l k)).2.2≠0 then _ else _)=_;rw [if_neg (by rw [<-he];exact not_not_intro c2'),if_pos k4,hS']
   rw [hT,hC2,hse,q2];exact jj [(5,500063)] (S:=S') (rest:=dj [(5,xW S.q g)]) (δ:=[(500059,some (.row 51 7 S'.n fun i=>(S'.pl i).c)),(5,none),(500063,some (.row 98 2 (S.q+1) (aE S.q (aP g) fun i=>([V.i (fq l k).plate,V.i (S'.n:Int)].drop (i*2)).take 2)))]) hn' kR rfl _ ⟨⟨show(5:Nat)< 500 by decide,.inr (show 1000<=(500063:Nat) by decide),.row 98 2 (S.q+1) (aE S.q (aP g) fun i=>([V.i (fq l k).plate,V.i (S'.n:Int)].drop (i*2)).take 2),kR,fun h=>NZ⟩,trivial⟩ (by simp) (by decide) fun h h5 hlo=>⟨rfl,by show _=V.ref (h 500) 0;rw [h5];rfl,by show _=V.own (h 5);rw [hlo 5 (by decide)];rfl,rfl,trivial⟩
  have k4:(fq l k).kind≠4:=by simpa using c3
  have hq':S'.q=S.q:=hfa.2.2 (.inr k4);refine sX ah 5 2 [] tI ?_;refine av (t:=decide (Act.kind (fq l k)=5)) kR (fun c5=> ?_) (fun c5=> ?_)
  ·have k5:(fq l k).kind=5:=by simpa using c5
   obtain⟨f1,f2⟩:=hfa.2.1 c2' k5;refine sK fun K hK=> ?_;refine sX ah 6 16 [(2,.c ((0:Int)<=(↑k:Int)/\(↑k:Int)< (↑(List.length l):Int))),(7,.c (gA (decide (Act.flaw (fq l k)< 0) == false) True)),(8,.c (gA (decide (Act.flaw (fq l k)< 0) == false) True)),(9,.c (gC (decide (Act.flaw (fq l k)< 0) == false) ((0:Int)<=(↑k:Int)/\(↑k:Int)< (↑(List.length l):Int)))),(10,.c (gB (decide (Act.flaw (fq l k)< 0) == false) True)),(11,.c (gB (decide (Act.flaw (fq l k)< 0) == false) True)),(12,.c (gA (decide (Act.flaw (fq l k)< 0) == false) True)),(13,.c (gB (decide (Act.flaw (fq l k)< 0) == false) True)),(14,.c (gC (decide (Act.flaw (fq l k)< 0) == false) True)),(15,.c (True/\(decide (Act.flaw (fq l k)< 0)=false->(decide (Act.flaw (fq l k)< 0) == false)=true)))] ⟨oM,⟨⟨tI,tI⟩,(fun _=>tI)⟩,⟨⟨tI,tI⟩,(fun _=>tI)⟩,⟨⟨(by(exact fun h=>h)),⟨(by(exact fun h=>h)),tI⟩⟩,(by(intro hg;simp at hg;omega))⟩,⟨⟨(by(exact fun h=>h)),tI⟩,(fun _=>tI)⟩,⟨⟨(by(exact fun h=>h)),tI⟩,(fun _=>tI)⟩,⟨⟨tI,tI⟩,(fun _=>tI)⟩,⟨⟨(by(exact fun h=>h)),tI⟩,(fun _=>tI)⟩,⟨⟨(by(exact fun h=>h)),⟨(by(exact fun h=>h)),tI⟩⟩,(fun _=>tI)⟩,⟨tI,(by(intro h;rw [h];rfl))⟩,tI⟩ ?_;refine av (t:=decide (Act.flaw (fq l k)< 0) || decide ((↑(Sh.q S):Int)<=Act.flaw (fq l k))) kR (fun c6=> ?_) (fun c6=> ?_);·simp at c6;omega
   refine ak ?_;refine ai (hK _ ?_);clear hK K;refine wR 7 (aX ah 9 [(3,.c ((0:Int)<=(↑k:Int)/\(↑k:Int)< (↑(List.length l):Int))),(6,.c ((0:Int)<=Act.flaw (fq l k)/\Act.flaw (fq l k)< (↑(Sh.q S):Int))),(8,.r (pw (Int.toNat (Act.flaw (fq l k))< Sh.q S/\(0:Nat)+(1:Nat)<=(2:Nat)) (5:Nat) (Ob.row 98 2 (Sh.q S) fun(j:Nat)=>if j=Int.toNat (Act.flaw (fq l k))then [V.i (-1),V.i (Prod.snd (g (Int.toNat (Act.flaw (fq l k)))))]else aP g j)))] ⟨oM,oM,oM,tI⟩ (aa (bL (bL (ai (hK _ ?_))))));clear hK K;refine wR 8 (aX ah 3 [(1,.i ((↑k:Int)+1))] ⟨oM,tI⟩ (aa (ai ?_)));refine⟨k+1,by omega,?_,by omega⟩;have hse:(iO (S,g) (fq l k)).2=fun i=>if i=(fq l k).flaw.toNat then(-1,(g i).2)else g i:=by show(if(bz S (fq l k)).2.2≠0 then _ else _)=_;rw [if_neg (by rw [<-he];exact not_not_intro c2'),if_neg k4,if_pos k5]
   rw [hT,hC2,hse,hq'];exact jj [(5,5)] (S:=S') (rest:=dj [(5,xW S.q g)]) (δ:=[(5,some (.row 98 2 S.q fun j=>if j=(fq l k).flaw.toNat then [V.i (-1),V.i (g (fq l k).flaw.toNat).2]else aP g j))]) hn' kR rfl _ ⟨⟨show(5:Nat)< 500 by decide,.inl (show(5:Nat)< 500 by decide),.row 98 2 S.q fun j=>if j=(fq l k).flaw.toNat then [V.i (-1),V.i (g (fq l k).flaw.toNat).2]else aP g j,kR,fun h=>N0⟩,trivial⟩ (by simp) (by decide) fun h h5 hlo=>⟨rfl,by show _=V.ref (h 500) 0;rw [h5];rfl,by show _=V.own (h 5);rw [hlo 5 (by decide)];rfl,rfl,trivial⟩
  ·have k5:(fq l k).kind≠5:=by simpa using c5
   refine ak ?_;refine bL (bL (ai (hK _ ?_)));clear hK K;refine wR 6 (aX ah 3 [(1,.i ((↑k:Int)+1))] ⟨oM,tI⟩ (aa (ai ?_)));refine⟨k+1,by omega,?_,by omega⟩;have hse:(iO (S,g) (fq l k)).2=g:=by show(if(bz S (fq l k)).2.2≠0 then _ else _)=_;rw [if_neg (by rw [<-he];exact not_not_intro c2'),if_neg k4,if_neg k5]
   rw [hT,hC2,hse,hq'];exact jj [(5,5)] (S:=S') (rest:=dj [(5,xW S.q g)]) (δ:=[]) hn' rfl rfl _ ⟨⟨show(5:Nat)< 500 by decide,.inl (show(5:Nat)< 500 by decide),xW S.q g,kR,fun h=>z0⟩,trivial⟩ (by simp) (by decide) fun h h5 hlo=>⟨rfl,by show _=V.ref (h 500) 0;rw [h5];rfl,by show _=V.own (h 5);rw [hlo 5 (by decide)];rfl,rfl,trivial⟩
 ·have hkl:k=l.length:=by simp at c1;omega
  refine iC (xu (tl:=[(7,DW S),(9,.sl 2 S.q (aP g))]) ?_) ?_;·exact⟨Fw (S:=S) (iJ oM _),Fz.rows (id:=5) (e:=98) (sz:=2) (r:=aP g) rfl fun i _=>iE.b5 rfl,trivial⟩
  refine bg ?_;refine bO ?_;refine bO ?_;refine bC ?_;refine ai ?_;clear hK K;refine hK _ ?_;clear hK K;refine sX ah 3 5 [] tI ?_;refine ay ?_;rw [hgg,hSS,hkl,List.take_length];refine rP (V.tup [V.ptr [V.b true,V.i (Rc.n0 (Sh.r (cD (bS r) l))),V.i (Rc.n1 (Sh.r (cD (bS r) l))),V.i (Rc.n2 (Sh.r (cD (bS r) l))),V.i (Rc.n3 (Sh.r (cD (bS r) l))),V.i (Rc.k0 (Sh.r (cD (bS r) l))),V.i (Rc.k1 (Sh.r (cD (bS r) l))),V.i (Rc.k2 (Sh.r (cD (bS r) l))),V.i (Rc.k3 (Sh.r (cD (bS r) l))),V.i (Rc.seed (Sh.r (cD (bS r) l))),V.i (Rc.soft (Sh.r (cD (bS r) l))),V.i (Rc.hard (Sh.r (cD (bS r) l))),V.i (Rc.mo (Sh.r (cD (bS r) l))),V.i (Rc.st (Sh.r (cD (bS r) l))),V.sl 1 (Sh.n (cD (bS r) l)) fun(i:Nat)=>[V.ptr [V.i (↑(Pl.kind (Sh.pl (cD (bS r) l) i)):Int),V.i (Pl.par (Sh.pl (cD (bS r) l) i)),V.i (Pl.cut (Sh.pl (cD (bS r) l) i)),V.i (Pl.area (Sh.pl (cD (bS r) l) i)),V.i (Pl.aF (Sh.pl (cD (bS r) l) i)),V.i (Pl.grown (Sh.pl (cD (bS r) l) i)),V.b (Pl.ret (Sh.pl (cD (bS r) l) i)),qW (Sh.pl (cD (bS r) l) i)]],V.sl 4 (Sh.m (cD (bS r) l)) fun(i:Nat)=>aO.c (Sh.tk (cD (bS r) l) i),V.sl 2 (Sh.q (cD (bS r) l)) (aP (Sh.g (cD (bS r) l))),V.sl 13 (Sh.l (cD (bS r) l)) bM],V.sl 2 (Sh.q (cD (bS r) l)) (aP (Prod.snd (ki (bS r,fun(x:Nat)=>((0:Int),(0:Int))) l))),V.b true])
structure D3(S:Sh)(X N:Nat)(f:Int):Prop where
  x:X< S.n
  xn:X< N
  n:N<=S.n
  fx:(S.pl X).fl f=true
  st:∀j,j< S.n->j≠X->(S.pl j).fl f=(if(S.pl j).par< 0 then false else if(S.pl j).par=X then decide (N<=j)else(S.pl (S.pl j).par.toNat).fl f)
theorem D3.of{S T:Sh}{X N:Nat}{f:Int}(h:D3 S X N f)(hp:vT S)(hn:T.n=S.n)(hs:∀i,i< S.n->(T.pl i).par=(S.pl i).par/\(T.pl i).fl f=(S.pl i).fl f):D3 T X N f:=by
 refine⟨by rw [hn];exact h.x,h.xn,by rw [hn];exact h.n,by rw [(hs X h.x).2];exact h.fx,fun j hj hjx=> ?_⟩;rw [hn]at hj;have h1:=(hp j hj).1;rw [(hs j hj).1,(hs j hj).2,h.st j hj hjx];by_cases c:(S.pl j).par< 0;·rw [if_pos c,if_pos c]
 ·rw [if_neg c,if_neg c,(hs (S.pl j).par.toNat oM).2]
theorem D3.app{S T:Sh}{X N:Nat}{f:Int}(h:D3 S X N f)(hp:vT S)(hn:T.n=S.n+1)(hs:∀i,i< S.n->(T.pl i).par=(S.pl i).par/\(T.pl i).fl f=(S.pl i).fl f){p:Pl}(hq:T.pl S.n=p)(hpp:p.par< S.n) (c:p.fl f=if p.par< 0 then false else if p.par=X then decide (N<=S.n)else(S.pl p.par.toNat).fl f):D3 T X N f:=by
 refine⟨by rw [hn];have:=h.x;omega,h.xn,by rw [hn];have:=h.n;omega,by rw [(hs X h.x).2];exact h.fx,fun j hj hjx=> ?_⟩;rw [hn]at hj;rcases Nat.lt_or_ge j S.n with hlt |hge
 ·have h1:=(hp j hlt).1;rw [(hs j hlt).1,(hs j hlt).2,h.st j hlt hjx];by_cases c:(S.pl j).par< 0;·rw [if_pos c,if_pos c]
  ·rw [if_neg c,if_neg c,(hs (S.pl j).par.toNat oM).2]
 ·obtain rfl:j=S.n:=by omega
  rw [hq,c];by_cases c1:p.par< 0;·rw [if_pos c1,if_pos c1]
  ·rw [if_neg c1,if_neg c1,(hs p.par.toNat oM).2]
structure HN(x:Sh×(Nat->Int×Int)):Prop where
  new:∀f:Int,(x.1.q:Int)<=f->∀j,j< x.1.n->(x.1.pl j).fl f=false
  old:∀f:Nat,f< x.1.q->(x.2 f).1= -1\/∃X N:Nat,x.2 f=((X:Int),(N:Int))/\D3 x.1 X N f
theorem HN.of{S T:Sh}{g g':Nat->Int×Int}(h:HN (S,g))(hp:vT S)(hn:T.n=S.n)(hq:T.q=S.q)(hs:∀i,i< S.n->(T.pl i).par=(S.pl i).par)(hf:∀i,i< S.n->∀f:Int,((S.q:Int)<=f\/∃k:Nat,f=k/\(g' k).1≠ -1)->(T.pl i).fl f=(S.pl i).fl f) (hg:∀k,k< S.q->(g' k).1= -1\/g' k=g k):HN (T,g'):=by
 refine⟨fun f hf1 j hj=> ?_,fun k hk=> ?_⟩
 ·have hj:j< S.n:=by rw [<-hn];exact hj
  have hf1:(S.q:Int)<=f:=by rw [<-hq];exact hf1
  rw [hf j hj f (.inl hf1)];exact h.new f hf1 j hj
 ·have hk:k< S.q:=by rw [<-hq];exact hk
  by_cases c:(g' k).1= -1;·exact .inl c
  rcases hg k hk with h1 |h1;·exact .inl h1
  rcases h.old k hk with h2 | ⟨X,N,h2,h3⟩;·exact .inl (show(g' k).1= -1 by rw [h1];exact h2)
  ·exact .inr ⟨X,N,h1.trans h2,h3.of hp hn fun i hi=>⟨hs i hi,hf i hi k (.inr ⟨k,rfl,c⟩)⟩⟩
theorem DM(fl:Int->Bool){q f:Int}(h:f≠q):fM fl q f=fl f:=by unfold fM;simp [h]
theorem DL{S:Sh}{g:Nat->Int×Int}(h:S.ok)(hk:eZ S)(i:HN (S,g))(a:Act):HN (iO (S,g) a):=by
 have hp:=hk.par;unfold iO;simp only;refine fN (fun y=>HN (y.1,if y.2.2≠0 then g else if a.kind=4 then fT g S.q (a.plate,y.1.n)else if a.kind=5 then fun i=>if i=a.flaw.toNat then(-1,(g i).2)else g i else g)) ?_ ?_ ?_ ?_ ?_ ?_ ?_;·intro e he;rw [if_pos he];exact i
 ·intro _ k1;rw [if_neg (by simp),if_neg oM,if_neg oM];have hs:∀j,j< S.n->dF S.pl S.n (oh a) j=S.pl j:=fun j hj=>qd hj;refine⟨fun f hf j hj=> ?_,fun k hk=> ?_⟩
  ·show(dF S.pl S.n (oh a) j).fl f=false;have hj:j< S.n+1:=hj;rcases Nat.lt_or_ge j S.n with h1 |h1;·rw [hs j h1];exact i.new f hf j h1
   ·obtain rfl:j=S.n:=by omega
    rw [nT];rfl
  ·rcases i.old k hk with h2 | ⟨X,N,h2,h3⟩;·exact .inl h2
   ·exact .inr ⟨X,N,h2,h3.app hp rfl (fun j hj=>by rw [show(Sh.pl _ j)=dF S.pl S.n (oh a) j from rfl,hs j hj];exact⟨rfl,rfl⟩) nT (show(-1:Int)< _ by omega) rfl⟩
 ·intro _ k1 _;rw [if_neg (by simp),if_neg oM,if_neg oM];exact i.of hp rfl rfl (fun _ _=>rfl) (fun _ _ _ _=>rfl) fun _ _=> .inr rfl
 ·intro _ k1 c1 _ _ _;rw [if_neg (by simp),if_neg oM,if_neg oM];obtain⟨P,hP⟩:∃P:Nat,a.plate=P:=⟨a.plate.toNat,by omega⟩;rw [hP,Int.toNat_natCast];have hPn:P< S.n:=by omega
  have hs:∀j,j< S.n->∀q,(dF (bV S.pl P (S.pl P).under) S.n q j).par=(S.pl j).par/\(dF (bV S.pl P (S.pl P).under) S.n q j).fl=(S.pl j).fl:=fun j hj q=>by
   rw [qd hj];unfold bV;split;·rename_i h;subst h;exact⟨rfl,rfl⟩
   ·exact⟨rfl,rfl⟩
  refine⟨fun f hf j hj=> ?_,fun k hk=> ?_⟩
  ·have hj:j< S.n+1:=hj;rcases Nat.lt_or_ge j S.n with h1 |h1;·show(dF _ S.n _ j).fl f=false;rw [(hs j h1 _).2];exact i.new f hf j h1
   ·obtain rfl:j=S.n:=by omega
    show(dF _ S.n _ S.n).fl f=false;rw [nT];exact i.new f hf P hPn
  ·rcases i.old k hk with h2 | ⟨X,N,h2,h3⟩;·exact .inl h2
   ·refine .inr ⟨X,N,h2,h3.app hp rfl (fun j hj=>⟨(hs j hj _).1,by rw [show(Sh.pl _ j)=dF _ S.n _ j from rfl,(hs j hj _).2]⟩) nT (show(P:Int)< S.n by omega) ?_⟩;show(S.pl P).fl k=if(P:Int)< 0 then false else if(P:Int)=X then decide (N<=S.n)else(S.pl (P:Int).toNat).fl k
    rw [if_neg oM,Int.toNat_natCast];by_cases hx:(P:Int)=X
    ·obtain rfl:P=X:=by omega
     rw [if_pos rfl,h3.fx,decide_eq_true h3.n]
    ·rw [if_neg hx]
 ·intro _ k1 c1 _;rw [if_neg (by simp),if_pos k1];obtain⟨P,hP⟩:∃P:Nat,a.plate=P:=⟨a.plate.toNat,by omega⟩;rw [hP,Int.toNat_natCast];have hPn:P< S.n:=by omega
  have hs:∀j,(bV S.pl P ((S.pl P).j9 S.q) j).par=(S.pl j).par:=fun j=>by
   unfold bV;split;·rename_i h;subst h;rfl
   ·rfl
  have hf:∀j,∀f:Int,f≠S.q->(bV S.pl P ((S.pl P).j9 S.q) j).fl f=(S.pl j).fl f:=fun j f hne=>by
   unfold bV;split;·rename_i h;subst h;show((S.pl j).fl f || decide (f=S.q))=_;rw [decide_eq_false hne,Bool.or_false]
   ·rfl
  have hq:∀j,j< S.n->(bV S.pl P ((S.pl P).j9 S.q) j).fl S.q=decide (j=P):=fun j hj=>by
   unfold bV;split;·rename_i h;subst h;show((S.pl j).fl S.q || decide ((S.q:Int)=S.q))=_;simp
   ·rename_i h;rw [decide_eq_false h];exact i.new _ (Int.le_refl _) j hj
  refine⟨fun f hf1 j hj=> ?_,fun k hk=> ?_⟩
  ·have hf1:((S.q+1:Nat):Int)<=f:=hf1;have hj:j< S.n:=hj;show(bV S.pl P ((S.pl P).j9 S.q) j).fl f=false;have hge:(S.q:Int)+1<=f:=by push_cast at hf1;exact hf1
   have hne:f≠(S.q:Int):=by omega
   rw [hf j f hne];exact i.new f (show(S.q:Int)<=f by omega) j hj
  ·have hk:k< S.q+1:=hk;rcases Nat.lt_or_ge k S.q with h1 |h1
   ·have e:fT S.g S.q (a.plate,a.place) k=S.g k:=by unfold fT;rw [if_pos h1]
    have e2:fT g S.q ((P:Int),(S.n:Int)) k=g k:=by unfold fT;rw [if_pos h1]
    show(fT g S.q ((P:Int),(S.n:Int)) k).1= -1\/∃X N:Nat,fT g S.q ((P:Int),(S.n:Int)) k=_/\_;rw [e2];rcases i.old k h1 with h2 | ⟨X,N,h2,h3⟩;·exact .inl h2
    ·exact .inr ⟨X,N,h2,h3.of hp rfl fun j hj=>⟨hs j,hf j k oM⟩⟩
   ·obtain rfl:k=S.q:=by omega
    have e2:fT g S.q ((P:Int),(S.n:Int)) S.q=((P:Int),(S.n:Int)):=by unfold fT;rw [if_neg (Nat.lt_irrefl _)]
    refine .inr ⟨P,S.n,e2,⟨hPn,hPn,Nat.le_refl _,?_,fun j hj hjx=> ?_⟩⟩;·show(bV S.pl P ((S.pl P).j9 S.q) P).fl S.q=true;rw [hq P hPn,decide_eq_true rfl]
    ·have hj:j< S.n:=hj;show(bV S.pl P ((S.pl P).j9 S.q) j).fl S.q=if(bV S.pl P ((S.pl P).j9 S.q) j).par< 0 then false else if(bV S.pl P ((S.pl P).j9 S.q) j).par=P then decide (S.n<=j)else(bV S.pl P ((S.pl P).j9 S.q) (bV S.pl P ((S.pl P).j9 S.q) j).par.toNat).fl S.q
     rw [hs j,hq j hj,decide_eq_false hjx];have h1:=(hp j hj).1;split;·rfl
     ·rename_i hn0;split;·rw [decide_eq_false oM]
      ·rename_i hnp;rw [hq _ oM,decide_eq_false oM]
 ·intro _ k1 c1 c2 _ _;rw [if_neg (by simp),if_neg oM,if_pos k1];obtain⟨P,hP⟩:∃P:Nat,a.plate=P:=⟨a.plate.toNat,by omega⟩;obtain⟨Q,hQ⟩:∃Q:Nat,a.flaw=Q:=⟨a.flaw.toNat,by omega⟩;rw [hP,hQ,Int.toNat_natCast,Int.toNat_natCast];refine i.of (T:={S with pl:=bV S.pl P ((S.pl P).uT Q),l:=S.l+1}) hp rfl rfl (fun j _=> ?_) (fun j _ f hf=> ?_) fun k _=> ?_
  ·show(bV S.pl P ((S.pl P).uT Q) j).par=_;unfold bV;split;·rename_i h;subst h;rfl
   ·rfl
  ·have hne:f≠Q:=by
    rcases hf with hf | ⟨k,rfl,hk⟩;·omega
    ·intro e;refine hk ?_;have:k=Q:=by omega
     simp only [if_pos this]
   show(bV S.pl P ((S.pl P).uT Q) j).fl f=_;unfold bV;split;·rename_i h;subst h;exact DM _ hne
   ·rfl
  ·by_cases h:k=Q;·exact .inl (by simp only [if_pos h])
   ·exact .inr (by simp only [if_neg h])
 ·intro _ k1 c1 _;rw [if_neg (by simp),if_neg oM,if_neg oM];refine i.of hp rfl rfl (fun j _=> ?_) (fun j _ f _=> ?_) fun _ _=> .inr rfl
  ·show(bV S.pl a.plate.toNat {S.pl a.plate.toNat with ret:=true} j).par=_;unfold bV;split;·rename_i h;subst h;rfl
   ·rfl
  ·show(bV S.pl a.plate.toNat {S.pl a.plate.toNat with ret:=true} j).fl f=_;unfold bV;split;·rename_i h;subst h;rfl
   ·rfl
theorem Ju{x:Sh×(Nat->Int×Int)}(h:x.1.ok)(hk:eZ x.1)(i:HN x):∀l,HN (ki x l):=by
 intro l;induction l generalizing x with
 |nil=>exact i
 |cons a l ih=>exact ih (x:=iO x a) (qv h a) (BW h hk a) (DL h hk i a)
theorem Jh(r:Rc)(g:Nat->Int×Int):HN (bS r,g):=⟨fun _ _ j hj=>absurd hj (Nat.not_lt_zero _),fun f hf=>absurd hf (Nat.not_lt_zero _)⟩
theorem AZ(x lo hi:Int):AC Tryz.prog 135 [.i x,.i lo,.i hi] (.b (bl x lo hi)) []:=by refine gU ah cv Tryz.func135 Tryz.ntmps135 fun C hC hF=> ?_;refine sK fun K hK=>wR 2 ?_;refine aY ah 1 [] ?_;refine nK hK ?_;clear hK K;refine sK fun K hK=>wR 3 ?_;refine aY ah 9 [] ?_;refine nK hK ?_;clear hK K;refine ay ?_;refine rP (V.b (decide (lo<=x) && decide (x<=hi)))
theorem A0(x lo hi:Int):AC Tryz.prog 88 [.i x,.i lo,.i hi] (.b (bl x lo hi)) []:=by refine gU ah cv Tryz.func88 Tryz.ntmps88 fun C hC hF=> ?_;refine sK fun K hK=>wR 2 ?_;refine aY ah 1 [] ?_;refine nK hK ?_;clear hK K;refine sK fun K hK=>wR 3 ?_;refine aY ah 9 [] ?_;refine nK hK ?_;clear hK K;refine ay ?_;refine rP (V.b (decide (lo<=x) && decide (x<=hi)))
theorem qe{x lo hi:Int}(h:lo<=x/\x<=hi):bl x lo hi=true:=by simp [bl,h]
abbrev GJ:Prop:=(0:Nat)<=(7:Nat)
theorem GK:GJ:=oM
theorem E8(S:Sh)(hn:S.n<=200)(hk:eZ S):AC Tryz.prog 87 [iw S] (.i 0) []:=by
 refine gU ah cv Tryz.func87 Tryz.ntmps87 fun C hC hF=> ?_;refine sK fun K hK=>wR 2 ?_;refine aY ah 1 [] ?_;refine nK hK ?_;clear hK K;refine sK fun K hK=>sK fun K hK=>wR 3 ?_;refine aY ah 3 [] ?_;refine nK hK ?_;clear hK K;refine av (t:=decide ((256:Int)< (↑(Sh.n S):Int))) kR (fun c0=> ?_) (fun c0=> ?_);·simp at c0;omega
 refine ak ?_;refine ai (hK _ ?_);clear hK K;refine sK fun K hK=>sK fun K hK=>wR 4 ?_;refine aY ah 3 [] ?_;refine nK hK ?_;clear hK K;refine au ?_;refine cr (ι:=Nat) (fun k=>[(0,iw S),(8,iw S),(9,.i S.n),(10,.i (k:Nat))]) (fun _=>[]) (fun k=>k<=S.n) (fun k=>S.n- k) 0 (Nat.zero_le _) ?_ ?_;·refine aC [] (.cons kR (.cons kR (.cons kR (.cons kR .nil)))) .nil kR kR
 intro k hk1;refine sK fun K hK=>wR 2 ?_;refine aY ah 1 [] ?_;refine nK hK ?_;clear hK K;refine sK fun K hK=> ?_;refine av (t:=decide ((↑k:Int)< (↑(Sh.n S):Int))) kR (fun c1=> ?_) (fun c1=> ?_)
 ·have hkn:k< S.n:=by simpa using c1
  have hkk:=hk k hkn;refine ak ?_;refine ai (hK _ ?_);clear hK K;refine sK fun K hK=> ?_;refine au ?_;refine sX ah 3 6 [(1,.c ((0:Int)<=(↑k:Int)/\(↑k:Int)< (↑(Sh.n S):Int))),(3,.r (pn 4 (V.ref 200004 0) (200004:Nat) (Ob.box 51 [V.i 0,V.i 0,V.i 0,V.i 0,V.i 0,V.i 0,V.b false]))),(5,.r (pw ((0:Nat)+(7:Nat)<=(7:Nat)) (200004:Nat) (Ob.box 51 [V.i (↑(Pl.kind (Sh.pl S k)):Int),V.i (Pl.par (Sh.pl S k)),V.i (Pl.cut (Sh.pl S k)),V.i (Pl.area (Sh.pl S k)),V.i (Pl.aF (Sh.pl S k)),V.i (Pl.grown (Sh.pl S k)),V.b (Pl.ret (Sh.pl S k))])))] ⟨oM,oM,tI⟩ ?_;refine au ?_;refine sX ah 4 9 [(1,.c GJ),(4,.c (gA (decide ((↑(Pl.kind (Sh.pl S k)):Int)=0) == true) True)),(5,.c (gB (decide ((↑(Pl.kind (Sh.pl S k)):Int)=0) == true) ((1:Nat)<=(7:Nat)))),(6,.c (gD (decide ((↑(Pl.kind (Sh.pl S k)):Int)=0) == true) True)),(7,.c ((decide ((↑(Pl.kind (Sh.pl S k)):Int)=0)=true->(decide ((↑(Pl.kind (Sh.pl S k)):Int)=0) == true)=true)/\True))] ⟨GK,⟨⟨tI,tI⟩,(fun _=>tI)⟩,⟨⟨(by(exact fun h=>h)),tI⟩,(by(intro _;simp;done))⟩,⟨⟨(by(exact fun h=>h)),⟨tI,tI⟩⟩,(fun _=>tI)⟩,⟨(by(intro h;rw [h];rfl)),tI⟩,tI⟩ ?_;refine av (t:=decide ((↑(Pl.kind (Sh.pl S k)):Int)=0) && decide (Pl.par (Sh.pl S k)=(-1:Int))) kR (fun c2=> ?_) (fun c2=> ?_);·refine ak ?_;refine bL (bL (ai (hK _ ?_)));clear hK K;refine wR 5 (aX ah 2 [(0,.i ((↑k:Int)+1))] ⟨oM,tI⟩ (aa (ai ?_)));refine⟨k+1,by omega,?_,by omega⟩;refine aC [] (.cons kR (.cons kR (.cons kR (.cons kR .nil)))) .nil kR kR
  ·rcases hkk with⟨q1,q2⟩ | ⟨q1,q2,q3,q4,q5⟩;·rw [q1,q2]at c2;cases c2
   obtain⟨p,hp⟩:∃p:Nat,(S.pl k).par=p:=⟨(S.pl k).par.toNat,by omega⟩;rw [hp]at q4 q5;have q6:(S.pl p).kind+1=(S.pl k).kind:=by simpa using q5
   clear q5;refine sK fun K hK=>wD 5 (aX ah 2 [(1,.c GJ)] ⟨GK,tI⟩ ?_);refine eC (AZ ((S.pl k).kind:Int) 1 3) ?_;rw [qe (show(1:Int)<=((S.pl k).kind:Int)/\((S.pl k).kind:Int)<=3 by omega)];refine aX ah 6 [(2,.c (gA (false == false) True)),(3,.c (gB (false == false) ((1:Nat)<=(7:Nat)))),(4,.c (gA (false == false) True)),(5,.c (gD (false == false) ((-9223372036854775808:Int)<=(↑k:Int)- 1/\(↑k:Int)- 1<=(9223372036854775807:Int))))] ⟨⟨⟨tI,tI⟩,(fun _=>tI)⟩,⟨⟨(by(exact fun h=>h)),tI⟩,(by(intro _;simp;done))⟩,⟨⟨tI,tI⟩,(fun _=>tI)⟩,⟨⟨(by(exact fun h=>h)),⟨tI,tI⟩⟩,(by(intro hg;simp at hg;omega))⟩,tI⟩ ?_;refine eG 2 (g:=false == false) (fun h=>AZ (S.pl k).par 0 ((k:Int)- 1)) ?_;rw [qe (show(0:Int)<=(S.pl k).par/\(S.pl k).par<=(k:Int)- 1 by omega),hp];refine aY ah 15 [(5,.g (false == false) ((1:Nat)<=(7:Nat)) (by(intro _;simp;done))),(0,.g (false == false) ((0:Int)<=(↑p:Int)/\(↑p:Int)< (↑(Sh.n S):Int)) (by(intro hg;simp at hg;omega))),(2,.g (false == false) ((-9223372036854775808:Int)<=(↑(Pl.kind (Sh.pl S p)):Int)+1/\(↑(Pl.kind (Sh.pl S p)):Int)+1<=(9223372036854775807:Int)) (by(intro hg;simp at hg;omega))),(1,.g (false == false) ((0:Nat)<=(7:Nat)) (by(intro _;simp;done)))] ?_;refine aa ⟨kR,(ai (hK _ ?_))⟩;clear hK K;refine av (t:= !decide ((↑(Pl.kind (Sh.pl S p)):Int)+1=(↑(Pl.kind (Sh.pl S k)):Int))) kR (fun c3=> ?_) (fun c3=> ?_);·simp at c3;omega
   refine ak ?_;refine bL (bL (ai (hK _ ?_)));clear hK K;refine wR 6 ?_;refine aY ah 2 [(0,.c (iR ((↑k:Int)+1)) oM)] ?_;refine aa (ai ?_);refine⟨k+1,by omega,?_,by omega⟩;refine aC [] (.cons kR (.cons kR (.cons kR (.cons kR .nil)))) .nil kR kR
 ·refine bg ?_;refine bO ?_;refine bO ?_;refine bC ?_;refine ai ?_;clear hK K;refine hK _ ?_;clear hK K;refine sK fun K hK=>wR 3 ?_;refine aY ah 1 [] ?_;refine nK hK ?_;clear hK K;refine ay ?_;refine rP (V.i 0)
def hH(A B:Nat->Nat)(i:Nat):List V:=[.i ((i:Nat)+1:Int),.i ((A i:Nat)+1:Int),.i ((B i:Nat)+1:Int),.i 0,.i 0,.i 0,.b false]
def ke(A B:Nat->Nat)(m:Nat):V:= .sl 7 m (hH A B)
def tS(k:Nat):Int:=if k=0 then -1 else k
theorem F3(k:Nat):tS k<=k:=by unfold tS;split <;> omega
theorem I4(k:Nat):tS (k+1)=(k:Int)+1:=by unfold tS;rw [if_neg oM];push_cast;rfl
def jw(S:Sh)(m:Nat)(A:Nat->Nat):Prop:=∀i,i< m->A i< S.n/\(S.pl (A i)).kind=3
theorem E7(S:Sh)(hn:S.n<=200)(hk:eZ S)(A B:Nat->Nat)(m:Nat)(hm:m<=16)(hA:jw S m A)(hB:jw S m B):AC Tryz.prog 36 [iw S,ke A B m] (.i 0) []:=by
 refine gU ah cv Tryz.func36 Tryz.ntmps36 fun C hC hF=> ?_;refine sK fun K hK=>wR 2 ?_;refine aY ah 1 [] ?_;refine nK hK ?_;clear hK K;refine sK fun K hK=>sK fun K hK=>wR 3 ?_;refine aY ah 1 [] ?_;refine eC (E8 S hn hk) ?_;refine aY ah 1 [] ?_;refine nK hK ?_;clear hK K;refine sK fun K hK=>wR 4 ?_;refine aY ah 2 [] ?_;refine nK hK ?_;clear hK K;refine aB (t:=false) kR rfl ?_;refine ak ?_;refine ai (hK _ ?_);clear hK K;refine sK fun K hK=>sK fun K hK=>wR 5 ?_;refine aY ah 3 [] ?_;refine nK hK ?_;clear hK K;refine av (t:=decide ((200:Int)< (↑m:Int))) kR (fun c0=> ?_) (fun c0=> ?_);·simp at c0;omega
 refine ak ?_;refine ai (hK _ ?_);clear hK K;refine sK fun K hK=>wR 6 ?_;refine aY ah 1 [] ?_;refine nK hK ?_;clear hK K;refine sK fun K hK=>sK fun K hK=>wR 7 ?_;refine aY ah 3 [] ?_;refine nK hK ?_;clear hK K;refine au ?_;refine cr (ι:=Nat) (fun k=>[(0,iw S),(6,.i (tS k)),(19,ke A B m),(20,.i m),(21,.i (k:Nat))]) (fun _=>[]) (fun k=>k<=m) (fun k=>m- k) 0 (Nat.zero_le _) ?_ ?_;·refine aC [] (.cons kR (.cons kR (.cons kR (.cons kR (.cons kR .nil))))) .nil kR kR
 intro k hk1;refine sK fun K hK=>wR 2 ?_;refine aY ah 1 [] ?_;refine nK hK ?_;clear hK K;refine sK fun K hK=> ?_;refine av (t:=decide ((↑k:Int)< (↑m:Int))) kR (fun c1=> ?_) (fun c1=> ?_)
 ·have hkn:k< m:=by simpa using c1
  obtain⟨a1,a2⟩:=hA k hkn;obtain⟨b1,b2⟩:=hB k hkn;have hld:=F3 k;refine ak ?_;refine ai (hK _ ?_);clear hK K;refine sK fun K hK=> ?_;refine au ?_;refine sK fun K hK=>wR 3 ?_;refine aY ah 4 [(0,.c ((0:Int)<=(↑k:Int)/\(↑k:Int)< (↑m:Int)) oM),(2,.c ((0:Nat)+(7:Nat)<=(7:Nat)) oM)] ?_;refine nK hK ?_;clear hK K;refine sK fun K hK=>sK fun K hK=>wR 4 ?_;refine aY ah 4 [(1,.c ((0:Nat)<=(7:Nat)) oM)] ?_;refine nK hK ?_;clear hK K;refine av (t:=decide ((↑k:Int)+1<=tS k)) kR (fun c2=> ?_) (fun c2=> ?_);·simp at c2;omega
  refine ak ?_;refine ai (hK _ ?_);clear hK K;refine sK fun K hK=>wR 5 ?_;refine aY ah 3 [(1,.c ((0:Nat)<=(7:Nat)) oM)] ?_;refine nK hK ?_;clear hK K;refine sK fun K hK=>wR 6 ?_;refine aY ah 6 [(1,.c ((1:Nat)<=(7:Nat)) oM),(1,.c ((2:Nat)<=(7:Nat)) oM)] ?_;refine nK hK ?_;clear hK K;refine au ?_;refine lz 3 ?_;refine dO (m:=2) fun K hK=> ?_;refine sK fun K hK=>wR 7 ?_;refine aY ah 1 [] ?_;refine nK hK ?_;clear hK K;refine sK fun K hK=>cI (t:=true) kR rfl ?_;refine ak ?_;refine ai (hK _ ?_);clear hK K;refine sK fun K hK=> ?_;refine au ?_;refine sK fun K hK=>wR 8 ?_;refine aY ah 2 [(0,.d)] ?_;refine nK hK ?_;clear hK K;refine sK fun K hK=>wR 9 ?_;refine aY ah 3 [] ?_;refine eC (A0 ((A k:Nat)+1:Int) 1 S.n) ?_;rw [qe (show(1:Int)<=((A k:Nat)+1:Int)/\((A k:Nat)+1:Int)<=S.n by omega)];refine aY ah 10 [(4,.g (false == false) ((-9223372036854775808:Int)<=(↑(A k):Int)+1- (1:Int)/\(↑(A k):Int)+1- (1:Int)<=(9223372036854775807:Int)) (by(intro hg;simp at hg;omega))),(0,.g (false == false) ((0:Int)<=(↑(A k):Int)+1- (1:Int)/\(↑(A k):Int)+1- (1:Int)< (↑(Sh.n S):Int)) (by(intro hg;simp at hg;omega)))] ?_;refine nK hK ?_;clear hK K;refine av (t:= !decide ((↑(Pl.kind (Sh.pl S (Int.toNat ((↑(A k):Int)+1- (1:Int))))):Int)=3)) kR (fun c3=> ?_) (fun c3=> ?_);·rw [show(((A k:Nat):Int)+1- 1).toNat=A k by omega,a2]at c3;simp at c3
  refine ak ?_;refine bL (ai (hK _ ?_));clear hK K;refine wR 10 ?_;refine aY ah 2 [(0,.d)] ?_;refine nK hK ?_;clear hK K;refine dO (m:=1) fun K hK=> ?_;refine sK fun K hK=>wR 11 ?_;refine aY ah 1 [] ?_;refine nK hK ?_;clear hK K;refine sK fun K hK=>cI (t:=true) kR rfl ?_;refine ak ?_;refine ai (hK _ ?_);clear hK K;refine sK fun K hK=> ?_;refine au ?_;refine sK fun K hK=>wR 12 ?_;refine aY ah 2 [(0,.d)] ?_;refine nK hK ?_;clear hK K;refine sK fun K hK=>wR 13 ?_;refine aY ah 3 [] ?_;refine eC (A0 ((B k:Nat)+1:Int) 1 S.n) ?_;rw [qe (show(1:Int)<=((B k:Nat)+1:Int)/\((B k:Nat)+1:Int)<=S.n by omega)];refine aY ah 10 [(4,.g (false == false) ((-9223372036854775808:Int)<=(↑(B k):Int)+1- (1:Int)/\(↑(B k):Int)+1- (1:Int)<=(9223372036854775807:Int)) (by(intro hg;simp at hg;omega))),(0,.g (false == false) ((0:Int)<=(↑(B k):Int)+1- (1:Int)/\(↑(B k):Int)+1- (1:Int)< (↑(Sh.n S):Int)) (by(intro hg;simp at hg;omega)))] ?_;refine nK hK ?_;clear hK K;refine av (t:= !decide ((↑(Pl.kind (Sh.pl S (Int.toNat ((↑(B k):Int)+1- (1:Int))))):Int)=3)) kR (fun c4=> ?_) (fun c4=> ?_);·rw [show(((B k:Nat):Int)+1- 1).toNat=B k by omega,b2]at c4;simp at c4
  refine ak ?_;refine bL (ai (hK _ ?_));clear hK K;refine wR 14 ?_;refine aY ah 2 [(0,.d)] ?_;refine nK hK ?_;clear hK K;refine dO (m:=0) fun K hK=> ?_;refine sK fun K hK=>wR 15 ?_;refine aY ah 1 [] ?_;refine nK hK ?_;clear hK K;refine sK fun K hK=>aB (t:=false) kR rfl ?_;refine bg ?_;refine bO ?_;refine bO ?_;refine bC ?_;refine bL (ai ?_);clear hK K;clear hK K;refine hK _ ?_;clear hK K;refine wR 16 ?_;refine aY ah 2 [(0,.c (iR ((↑k:Int)+1)) oM)] ?_;refine aa (ai ?_);refine⟨k+1,by omega,?_,by omega⟩;rw [I4];refine aC [] (.cons kR (.cons kR (.cons kR (.cons kR (.cons kR .nil))))) .nil kR kR
 ·refine bg ?_;refine bO ?_;refine bO ?_;refine bC ?_;refine ai ?_;clear hK K;refine hK _ ?_;clear hK K;refine sK fun K hK=>wR 3 ?_;refine aY ah 1 [] ?_;refine nK hK ?_;clear hK K;refine ay ?_;refine rP (V.i 0)
def cJ(i:Nat):List V:=[.i ((i:Nat)+1:Int)]
def jN(T:Nat->Nat)(i:Nat):List V:=[.i (T i:Nat)]
def ud(S:Sh)(a b:V):List V:=[iw S,a,b]
def dV(S:Sh)(T:Nat->Nat)(m:Nat):V:= .ptr (ud S (.sl 1 m cJ) (.sl 1 m (jN T)))
def i9(sd:Bool):Int:=if sd then 1 else 0
def gj(sd:Bool)(A B:Nat->Nat)(i:Nat):Nat:=if sd then B i else A i
theorem zC(S:Sh)(hn:S.n<=200)(hk:eZ S)(A B:Nat->Nat)(m:Nat)(hm:m<=16)(hA:jw S m A)(hB:jw S m B)(sd:Bool) : AC Tryz.prog 89 [iw S,ke A B m,.i (i9 sd)] (.tup [.ref 0 0,.i 0]) [.box 189 (ud S (.own 1) (.own 2)),.row 2 1 m cJ,.row 3 1 m (jN (gj sd A B))]:=by
 have hs:i9 sd=0\/i9 sd=1:=by unfold i9;cases sd <;> simp
 refine gU ah cv Tryz.func89 Tryz.ntmps89 fun C hC hF=> ?_;refine sX ah 2 2 [] tI (sK fun K hK=>sK fun K hK=>wR 3 (aX ah 2 [] tI ?_));refine eC (E7 S hn hk A B m hm hA hB) ?_;refine aX ah 1 [] tI (nK hK ?_);clear hK K;refine sX ah 4 2 [] tI (aB (t:=false) kR rfl ?_);refine ak ?_;refine ai (hK _ ?_);clear hK K;refine sK fun K hK=> ?_;refine sX ah 5 6 [(3,.c (gA ((!decide (i9 sd=0)) == true) True)),(4,.c (gD ((!decide (i9 sd=0)) == true) True)),(5,.c (((!decide (i9 sd=0))=true->((!decide (i9 sd=0)) == true)=true)/\True))] ⟨⟨⟨tI,tI⟩,(fun _=>tI)⟩,⟨⟨(by(exact fun h=>h)),⟨tI,tI⟩⟩,(fun _=>tI)⟩,⟨(by(intro h;rw [h];rfl)),tI⟩,tI⟩ ?_;refine av (t:= !decide (i9 sd=0) && !decide (i9 sd=1)) kR (fun c0=> ?_) (fun c0=> ?_);·simp at c0;omega
 refine ak ?_;refine ai (hK _ ?_);clear hK K;refine sK fun K hK=>wR 6 ?_;refine dN (M:=[26]) ah 4 [(2,.r (pn (26:Nat) (V.ref (500026:Nat) (0:Nat)) (500026:Nat) (Ob.box (189:Nat) [V.sl (7:Nat) (Sh.n S) fun(i:Nat)=>Pl.c (Sh.pl S i),V.nil,V.nil])))] tI ?_;refine nK hK ?_;clear hK K;refine sK fun K hK=>sK fun K hK=>wR 7 ?_;refine dN (M:=[26]) ah 3 [] tI ?_;refine nK hK ?_;clear hK K;refine au ?_;refine iC (fG 500026 1 2 1 cJ (t:=189) (cs:=ud S .nil .nil) kR rfl kR kR) ?_;refine iC (fG 500026 2 3 1 (jN (gj sd A B)) (t:=189) (cs:=ud S (.own 700001) .nil) kR rfl kR kR) ?_;refine cr (ι:=Nat) (fun k=>[(2,.i (i9 sd)),(9,.ref 1 0),(27,ke A B m),(28,.i m),(29,.i (k:Nat))]) (fun k=>[(1,.box 189 (ud S (.own 2) (.own 3))),(2,.row 2 1 k cJ),(3,.row 3 1 k (jN (gj sd A B)))]) (fun k=>k<=m) (fun k=>m- k) 0 (Nat.zero_le _) ?_ ?_;·refine aC (sl:=[(1,Ob.box (189:Nat) [V.sl (7:Nat) (Sh.n S) fun(i:Nat)=>Pl.c (Sh.pl S i),V.own (2:Nat),V.own (3:Nat)]),(2,Ob.row (2:Nat) (1:Nat) (0:Nat) cJ),(3,Ob.row (3:Nat) (1:Nat) (0:Nat) (jN (gj sd A B)))]) [(1,500026),(2,700001),(3,800002)] (.cons kR (.cons kR (.cons kR (.cons kR (.cons kR .nil))))) (.cons oS (.cons oS (.cons oS .nil))) kR kR
 intro k hk1;refine sX ah 2 1 [] tI (sK fun K hK=> ?_);refine av (t:=decide ((↑k:Int)< (↑m:Int))) kR (fun c1=> ?_) (fun c1=> ?_)
 ·have hkn:k< m:=by simpa using c1
  refine ak ?_;refine ai (hK _ ?_);clear hK K;refine sK fun K hK=> ?_;refine au ?_;refine sX ah 3 4 [(0,.c ((0:Int)<=(↑k:Int)/\(↑k:Int)< (↑m:Int))),(2,.r (pn (11:Nat) (V.ref (200011:Nat) (0:Nat)) (200011:Nat) (Ob.box (104:Nat) [V.i (0:Int),V.i (0:Int),V.i (0:Int),V.i (0:Int),V.i (0:Int),V.i (0:Int),V.b false]))),(3,.r (pw ((0:Nat)+(7:Nat)<=(7:Nat)) (200011:Nat) (Ob.box (104:Nat) [V.i ((↑k:Int)+1),V.i ((↑(A k):Int)+1),V.i ((↑(B k):Int)+1),V.i (0:Int),V.i (0:Int),V.i (0:Int),V.b false])))] ⟨oM,oM,tI⟩ (sK fun K hK=>wD 4 (aX ah 12 [(4,.c ((1:Nat)<=(3:Nat))),(6,.c ((0:Nat)<=(7:Nat))),(8,.r (PR.mk (some (41:Nat)) (some (k+1<=(1099511627776:Nat))) (V.own (300041:Nat)) [((2:Nat),none),((300041:Nat),some (Ob.row (2:Nat) (1:Nat) (k+1) (aE k cJ fun(i:Nat)=>List.take (1:Nat) (List.drop (i*1) [V.i ((↑k:Int)+1)]))))] false)),(11,.r (pw ((1:Nat)+(1:Nat)<=(3:Nat)) (1:Nat) (Ob.box (189:Nat) [V.sl (7:Nat) (Sh.n S) fun(i:Nat)=>Pl.c (Sh.pl S i),V.own (300041:Nat),V.own (3:Nat)])))] ⟨oM,oM,oM,oM,tI⟩ (aa ⟨kR,(ai (hK _ ?_))⟩)));clear hK K;refine wD 5 (aX ah 11 [(4,.c ((2:Nat)<=(3:Nat))),(6,.c ((1:Nat)<=(7:Nat))),(8,.c ((2:Nat)<=(7:Nat)))] ⟨oM,oM,oM,tI⟩ ?_);have a1:=(hA k hkn).1;have b1:=(hB k hkn).1;cases sd
  ·refine an ah (M:=[]) (n:=7) [pc (55:Nat) ((0:Int)<=i9 false/\i9 false< (↑(2:Nat):Int)) (V.i ((↑(A k):Int)+1)),pc (56:Nat) ((-9223372036854775808:Int)<=(↑(A k):Int)+1- (1:Int)/\(↑(A k):Int)+1- (1:Int)<=(9223372036854775807:Int)) (V.i ((↑(A k):Int)+1- (1:Int))),pv (57:Nat) (V.sl (1:Nat) (1:Nat) fun(i:Nat)=>List.take (1:Nat) (List.drop (i*1) [V.i ((↑(A k):Int)+1- (1:Int))])),PR.mk (some (58:Nat)) (some (k+1<=(1099511627776:Nat))) (V.own (400058:Nat)) [((3:Nat),none),((400058:Nat),some (Ob.row (3:Nat) (1:Nat) (k+1) (aE k (jN (gj false A B)) fun(i:Nat)=>List.take (1:Nat) (List.drop (i*1) [V.i ((↑(A k):Int)+1- (1:Int))]))))] false,pv (59:Nat) (V.ref (1:Nat) (0:Nat)),pv (60:Nat) (V.ref (1:Nat) (2:Nat)),pw ((2:Nat)+(1:Nat)<=(3:Nat)) (1:Nat) (Ob.box (189:Nat) [V.sl (7:Nat) (Sh.n S) fun(i:Nat)=>Pl.c (Sh.pl S i),V.own (300041:Nat),V.own (400058:Nat)])] kR kR ⟨oM,oM,oM,oM,tI⟩ ?_;refine aa ⟨kR,(bL (ai (hK _ ?_)))⟩;clear hK K;refine wR 6 ?_;refine an ah (M:=[]) (n:=2) [pc (61:Nat) ((-9223372036854775808:Int)<=(↑k:Int)+1/\(↑k:Int)+1<=(9223372036854775807:Int)) (V.i ((↑k:Int)+1)),pv (29:Nat) (V.i ((↑k:Int)+1))] kR kR ⟨oM,tI⟩ ?_;refine aa (ai ?_);refine⟨k+1,by omega,?_,by omega⟩;refine aC (tl:=[(2,V.i (i9 false)),(9,V.ref (1:Nat) (0:Nat)),(27,V.sl (7:Nat) m (hH A B)),(28,V.i (↑m:Int)),(29,V.i (↑(k+1):Int))]) (sl:=[(1,Ob.box (189:Nat) [V.sl (7:Nat) (Sh.n S) fun(i:Nat)=>Pl.c (Sh.pl S i),V.own (2:Nat),V.own (3:Nat)]),(2,Ob.row (2:Nat) (1:Nat) (k+1) cJ),(3,Ob.row (3:Nat) (1:Nat) (k+1) (jN (gj false A B)))]) [(1,1),(2,300041),(3,400058)] (.cons kR (.cons kR (.cons kR (.cons kR (.cons kR .nil))))) (.cons oS (.cons ⟨Ob.row (2:Nat) (1:Nat) (k+1) (aE k cJ fun(i:Nat)=>List.take (1:Nat) (List.drop (i*1) [V.i ((↑k:Int)+1)])),kR,.row kR ?_⟩ (.cons ⟨Ob.row (3:Nat) (1:Nat) (k+1) (aE k (jN (gj false A B)) fun(i:Nat)=>List.take (1:Nat) (List.drop (i*1) [V.i ((↑(A k):Int)+1- (1:Int))])),kR,.row kR ?_⟩ .nil))) kR kR;·exact de (fun _ _=>rfl) rfl
   ·exact de (fun _ _=>rfl) (by rw [show((A k:Nat):Int)+1- 1=A k by omega];rfl)
  ·refine an ah (M:=[]) (n:=7) [pc (55:Nat) ((0:Int)<=i9 true/\i9 true< (↑(2:Nat):Int)) (V.i ((↑(B k):Int)+1)),pc (56:Nat) ((-9223372036854775808:Int)<=(↑(B k):Int)+1- (1:Int)/\(↑(B k):Int)+1- (1:Int)<=(9223372036854775807:Int)) (V.i ((↑(B k):Int)+1- (1:Int))),pv (57:Nat) (V.sl (1:Nat) (1:Nat) fun(i:Nat)=>List.take (1:Nat) (List.drop (i*1) [V.i ((↑(B k):Int)+1- (1:Int))])),PR.mk (some (58:Nat)) (some (k+1<=(1099511627776:Nat))) (V.own (400058:Nat)) [((3:Nat),none),((400058:Nat),some (Ob.row (3:Nat) (1:Nat) (k+1) (aE k (jN (gj true A B)) fun(i:Nat)=>List.take (1:Nat) (List.drop (i*1) [V.i ((↑(B k):Int)+1- (1:Int))]))))] false,pv (59:Nat) (V.ref (1:Nat) (0:Nat)),pv (60:Nat) (V.ref (1:Nat) (2:Nat)),pw ((2:Nat)+(1:Nat)<=(3:Nat)) (1:Nat) (Ob.box (189:Nat) [V.sl (7:Nat) (Sh.n S) fun(i:Nat)=>Pl.c (Sh.pl S i),V.own (300041:Nat),V.own (400058:Nat)])] kR kR ⟨oM,oM,oM,oM,tI⟩ ?_;refine aa ⟨kR,(bL (ai (hK _ ?_)))⟩;clear hK K;refine wR 6 ?_;refine an ah (M:=[]) (n:=2) [pc (61:Nat) ((-9223372036854775808:Int)<=(↑k:Int)+1/\(↑k:Int)+1<=(9223372036854775807:Int)) (V.i ((↑k:Int)+1)),pv (29:Nat) (V.i ((↑k:Int)+1))] kR kR ⟨oM,tI⟩ ?_;refine aa (ai ?_);refine⟨k+1,by omega,?_,by omega⟩;refine aC (tl:=[(2,V.i (i9 true)),(9,V.ref (1:Nat) (0:Nat)),(27,V.sl (7:Nat) m (hH A B)),(28,V.i (↑m:Int)),(29,V.i (↑(k+1):Int))]) (sl:=[(1,Ob.box (189:Nat) [V.sl (7:Nat) (Sh.n S) fun(i:Nat)=>Pl.c (Sh.pl S i),V.own (2:Nat),V.own (3:Nat)]),(2,Ob.row (2:Nat) (1:Nat) (k+1) cJ),(3,Ob.row (3:Nat) (1:Nat) (k+1) (jN (gj true A B)))]) [(1,1),(2,300041),(3,400058)] (.cons kR (.cons kR (.cons kR (.cons kR (.cons kR .nil))))) (.cons oS (.cons ⟨Ob.row (2:Nat) (1:Nat) (k+1) (aE k cJ fun(i:Nat)=>List.take (1:Nat) (List.drop (i*1) [V.i ((↑k:Int)+1)])),kR,.row kR ?_⟩ (.cons ⟨Ob.row (3:Nat) (1:Nat) (k+1) (aE k (jN (gj true A B)) fun(i:Nat)=>List.take (1:Nat) (List.drop (i*1) [V.i ((↑(B k):Int)+1- (1:Int))])),kR,.row kR ?_⟩ .nil))) kR kR;·exact de (fun _ _=>rfl) rfl
   ·exact de (fun _ _=>rfl) (by rw [show((B k:Nat):Int)+1- 1=B k by omega];rfl)
 ·obtain rfl:k=m:=by simp at c1;omega
  refine bg ?_;refine bO ?_;refine bO ?_;refine bC ?_;refine ai ?_;clear hK K;refine hK _ ?_;clear hK K;refine sK fun K hK=>wR 3 ?_;refine aY ah 3 [] ?_;refine nK hK ?_;clear hK K;refine ay ?_;refine GQ ?_;refine dh (v':=V.tup [V.ref (0:Nat) (0:Nat),V.i (0:Int)]) [(0,1),(1,2),(2,3)] [(6,V.ref (0:Nat) (0:Nat)),(7,V.i (0:Int))] (.inr rfl) (.cons kR (.cons kR .nil)) (.cons oS (.cons oS (.cons oS .nil))) kR kR kR kR kR kR kR
def HF(S:Sh)(p:Int):Nat->Int->Int->Int×Int
 |0,s,c=>(s,c)
 |k+1,s,c=>if s≠p/\0<=s then HF S p k (S.pl s.toNat).par s else(s,c)
def gT(S:Sh)(p fr:Int)(t:Nat):Bool:=decide ((HF S p 300 t S.n).1=p) && decide (fr<=(HF S p 300 t S.n).2)
def jq(S:Sh)(T:Nat->Nat)(p fr:Int)(i:Nat):List V:=[.b (gT S p fr (T i))]
theorem Io{S:Sh}{p s c:Int}{k:Nat}(h:¬(s≠p/\0<=s)):HF S p k s c=(s,c):=by
 cases k with
 |zero=>rfl
 |succ k=>rw [HF,if_neg h]
theorem DS(S:Sh)(hn:S.n<=200)(hk:eZ S)(T:Nat->Nat)(m:Nat)(hm:m<=16)(hT:∀i,i< m->T i< S.n)(p fr:Int) : AC Tryz.prog 137 [dV S T m,.i p,.i fr] (.own 0) [.row 4 1 m (jq S T p fr)]:=by
 refine gU ah cv Tryz.func137 Tryz.ntmps137 fun C hC hF=> ?_;refine sK fun K hK=>wR 2 ?_;refine dN (M:=[16]) ah 1 [] tI ?_;refine nK hK ?_;clear hK K;refine sK fun K hK=>wR 3 ?_;refine dN (M:=[16]) ah 7 [(5,.r (PR.mk (some (16:Nat)) (some ((0:Int)<=(↑m:Int)/\(↑m:Int)<=(↑m:Int)/\(↑m:Int)<=1099511627776)) (V.own (200016:Nat)) [((200016:Nat),some (Ob.row (4:Nat) (1:Nat) m fun(x:Nat)=>[V.c (Value.bool false)]))] false))] ⟨⟨oM,oM⟩,tI⟩ ?_;refine nK hK ?_;clear hK K;refine sK fun K hK=>sK fun K hK=>wR 4 ?_;refine dN (M:=[16]) ah 6 [] tI ?_;refine nK hK ?_;clear hK K;refine au ?_;refine cr (ι:=Nat) (fun k=>[(0,dV S T m),(1,.i p),(2,.i fr),(7,.own 1),(20,.sl 1 m (jN T)),(21,.i m),(22,.i (k:Nat))]) (fun k=>[(1,.row 4 1 m (fun i=>if i< k then jq S T p fr i else [.b false]))]) (fun k=>k<=m) (fun k=>m- k) 0 (Nat.zero_le _) ?_ ?_;·refine aC (sl:=[(1,Ob.row (4:Nat) (1:Nat) m fun(i:Nat)=>if i< 0 then jq S T p fr i else [V.b false])]) [(1,200016)] (.cons kR (.cons kR (.cons kR (.cons kR (.cons kR (.cons kR (.cons kR .nil))))))) (.cons oS .nil) kR kR
 intro k hk1;refine sX ah 2 1 [] tI (sK fun K hK=> ?_);refine av (t:=decide ((↑k:Int)< (↑m:Int))) kR (fun c1=> ?_) (fun c1=> ?_)
 ·have hkn:k< m:=by simpa using c1
  have hTk:=hT k hkn;refine ak ?_;refine ai (hK _ ?_);clear hK K;refine sK fun K hK=> ?_;refine au ?_;refine sX ah 3 5 [(1,.c ((0:Int)<=(↑k:Int)/\(↑k:Int)< (↑m:Int)))] ⟨oM,tI⟩ (sX ah 4 6 [] tI (sK fun K hK=> ?_));refine au ?_;refine cr (ι:=Int×Int) (fun x=>[(0,dV S T m),(1,.i p),(2,.i fr),(7,.own 1),(8,.i (k:Nat)),(9,.i x.1),(10,.i x.2),(20,.sl 1 m (jN T)),(21,.i m),(22,.i (k:Nat))]) (fun _=>[(1,.row 4 1 m (fun i=>if i< k then jq S T p fr i else [.b false]))]) (fun x=>∃q:Nat,x.1< (q:Int)/\x.1< S.n/\HF S p q x.1 x.2=HF S p 300 (T k) S.n) (fun x=>(x.1+1).toNat) ((T k:Nat),(S.n:Nat)) ⟨300,by show((T k:Nat):Int)< _;omega,by show((T k:Nat):Int)< _;omega,rfl⟩ ?_ ?_;·refine aC (tl:=[(0,V.ptr [V.sl (7:Nat) (Sh.n S) fun(i:Nat)=>Pl.c (Sh.pl S i),V.sl (1:Nat) m cJ,V.sl (1:Nat) m (jN T)]),(1,V.i p),(2,V.i fr),(7,V.own (1:Nat)),(8,V.i (↑k:Int)),(9,V.i (↑(T k):Int)),(10,V.i (↑(Sh.n S):Int)),(20,V.sl (1:Nat) m (jN T)),(21,V.i (↑m:Int)),(22,V.i (↑k:Int))]) (sl:=[(1,Ob.row (4:Nat) (1:Nat) m fun(i:Nat)=>if i< k then jq S T p fr i else [V.b false])]) [(1,1)] (.cons kR (.cons kR (.cons kR (.cons kR (.cons kR (.cons kR (.cons kR (.cons kR (.cons kR (.cons kR .nil)))))))))) (.cons ⟨Ob.row (4:Nat) (1:Nat) m fun(i:Nat)=>if i< k then jq S T p fr i else [V.b false],kR,.row kR ?_⟩ .nil) kR kR;·intro i _;dsimp only;split <;> rfl
  rintro⟨s,c⟩ ⟨q,hq1,hq2,hq3⟩;simp only at hq1 hq2 hq3;refine sK fun K hK=>sK fun K hK=>wR 2 ?_;refine an ah (M:=[]) (n:=7) [pv (32:Nat) (V.i s),pv (33:Nat) (V.i p),pv (34:Nat) (V.b !decide (s=p)),pv (35:Nat) (V.b !decide (s=p)),pc (36:Nat) ((True/\True)/\(((!decide (s=p)) == true)=true->True)) (V.gd ((!decide (s=p)) == true) (V.i s)),pc (37:Nat) (((((!decide (s=p)) == true)=true->((!decide (s=p)) == true)=true)/\True/\True)/\(((!decide (s=p)) == true)=true->True)) (V.gd ((!decide (s=p)) == true) (V.b (decide ((0:Int)<=s)))),pc (38:Nat) (((!decide (s=p))=true->((!decide (s=p)) == true)=true)/\True) (V.b (!decide (s=p) && decide ((0:Int)<=s)))] kR kR ⟨⟨⟨tI,tI⟩,(fun _=>tI)⟩,⟨⟨(by(exact fun h=>h)),⟨tI,tI⟩⟩,(fun _=>tI)⟩,⟨(by(intro h;rw [h];rfl)),tI⟩,tI⟩ ?_;refine nK hK ?_;clear hK K;refine av (t:= !decide (s=p) && decide ((0:Int)<=s)) kR (fun c2=> ?_) (fun c2=> ?_)
  ·have c2':s≠p/\0<=s:=by simpa using c2
   obtain⟨j,rfl⟩:∃j:Nat,s=j:=⟨s.toNat,by omega⟩;have hj:j< S.n:=by omega
   have hkk:=hk j hj;have hpar:(S.pl j).par< (j:Int):=by rcases hkk with⟨_,h⟩ | ⟨_,_,_,h,_⟩ <;> omega
   refine ak ?_;refine ai (hK _ ?_);clear hK K;refine au ?_;refine wR 3 ?_;refine an ah (M:=[]) (n:=11) [pv (39:Nat) (V.ptr [V.sl (7:Nat) (Sh.n S) fun(i:Nat)=>Pl.c (Sh.pl S i),V.sl (1:Nat) m cJ,V.sl (1:Nat) m (jN T)]),pv (40:Nat) (V.ptr [V.sl (7:Nat) (Sh.n S) fun(i:Nat)=>Pl.c (Sh.pl S i),V.sl (1:Nat) m cJ,V.sl (1:Nat) m (jN T)]),pv (41:Nat) (V.ptr [V.sl (7:Nat) (Sh.n S) fun(i:Nat)=>Pl.c (Sh.pl S i),V.sl (1:Nat) m cJ,V.sl (1:Nat) m (jN T)]),pv (42:Nat) (V.sl (7:Nat) (Sh.n S) fun(i:Nat)=>Pl.c (Sh.pl S i)),pv (43:Nat) (V.i (↑j:Int)),pc (44:Nat) ((0:Int)<=(↑j:Int)/\(↑j:Int)< (↑(Sh.n S):Int)) (V.ptr [V.i (↑(Pl.kind (Sh.pl S j)):Int),V.i (Pl.par (Sh.pl S j)),V.i (Pl.cut (Sh.pl S j)),V.i (Pl.area (Sh.pl S j)),V.i (Pl.aF (Sh.pl S j)),V.i (Pl.grown (Sh.pl S j)),V.b (Pl.ret (Sh.pl S j))]),pv (45:Nat) (V.ptr [V.i (Pl.par (Sh.pl S j)),V.i (Pl.cut (Sh.pl S j)),V.i (Pl.area (Sh.pl S j)),V.i (Pl.aF (Sh.pl S j)),V.i (Pl.grown (Sh.pl S j)),V.b (Pl.ret (Sh.pl S j))]),pv (46:Nat) (V.i (Pl.par (Sh.pl S j))),pv (47:Nat) (V.i (↑j:Int)),pv (9:Nat) (V.i (Pl.par (Sh.pl S j))),pv (10:Nat) (V.i (↑j:Int))] kR kR ⟨oM,tI⟩ ?_;refine aa (bL (ai ?_));refine⟨((S.pl j).par,j),⟨q- 1,by show(S.pl j).par< _;omega,by show(S.pl j).par< _;omega,?_⟩,?_,?_⟩;·rw [<-hq3];obtain⟨q',rfl⟩:∃q',q=q'+1:=⟨q- 1,by omega⟩;show HF S p q' (S.pl j).par j=HF S p (q'+1) j c;rw [HF,if_pos c2',Int.toNat_natCast]
   ·refine aC (tl:=[(0,V.ptr [V.sl (7:Nat) (Sh.n S) fun(i:Nat)=>Pl.c (Sh.pl S i),V.sl (1:Nat) m cJ,V.sl (1:Nat) m (jN T)]),(1,V.i p),(2,V.i fr),(7,V.own (1:Nat)),(8,V.i (↑k:Int)),(9,V.i (Pl.par (Sh.pl S j))),(10,V.i (↑j:Int)),(20,V.sl (1:Nat) m (jN T)),(21,V.i (↑m:Int)),(22,V.i (↑k:Int))]) (sl:=[(1,Ob.row (4:Nat) (1:Nat) m fun(i:Nat)=>if i< k then jq S T p fr i else [V.b false])]) [(1,1)] (.cons kR (.cons kR (.cons kR (.cons kR (.cons kR (.cons kR (.cons kR (.cons kR (.cons kR (.cons kR .nil)))))))))) (.cons ⟨Ob.row (4:Nat) (1:Nat) m fun(i:Nat)=>if i< k then jq S T p fr i else [V.b false],kR,.row kR ?_⟩ .nil) kR kR;·intro i _;dsimp only;split <;> rfl
   ·show((S.pl j).par+1).toNat< ((j:Int)+1).toNat;omega
  ·have c2':¬(s≠p/\0<=s):=by simpa using c2
   rw [Io c2']at hq3;have hu:gT S p fr (T k)=(decide (s=p) && decide (fr<=c)):=by rw [gT,<-hq3]
   have hl1:(if k< k then jq S T p fr k else [V.b false]).length=1:=by rw [if_neg (Nat.lt_irrefl k)];rfl
   refine bg ?_;refine bO ?_;refine bO ?_;refine bC ?_;refine ai ?_;clear hK K;refine hK _ ?_;clear hK K;refine wR 3 ?_;refine an ah (M:=[]) (n:=12) [pv (48:Nat) (V.own (1:Nat)),pv (49:Nat) (V.i (↑k:Int)),pv (50:Nat) (V.i s),pv (51:Nat) (V.i p),pv (52:Nat) (V.b (decide (s=p))),pv (53:Nat) (V.b (decide (s=p))),pc (54:Nat) ((True/\True)/\((decide (s=p) == true)=true->True)) (V.gd (decide (s=p) == true) (V.i c)),pc (55:Nat) ((True/\True)/\((decide (s=p) == true)=true->True)) (V.gd (decide (s=p) == true) (V.i fr)),pc (56:Nat) ((((decide (s=p) == true)=true->(decide (s=p) == true)=true)/\((decide (s=p) == true)=true->(decide (s=p) == true)=true)/\True)/\((decide (s=p) == true)=true->True)) (V.gd (decide (s=p) == true) (V.b (decide (fr<=c)))),pc (57:Nat) ((decide (s=p)=true->(decide (s=p) == true)=true)/\True) (V.b (decide (s=p) && decide (fr<=c))),pc (58:Nat) ((0:Int)<=(↑k:Int)/\(↑k:Int)< (↑m:Int)) (V.oel (1:Nat) (1:Nat) k (0:Nat)),pw (k< m/\(0:Nat)+(1:Nat)<=List.length (if k< k then jq S T p fr k else [V.b false])) (1:Nat) (Ob.row (4:Nat) (1:Nat) m fun(j:Nat)=>if j=k then setCells (if k< k then jq S T p fr k else [V.b false]) (0:Nat) [V.c (Value.bool (decide (s=p) && decide (fr<=c)))]else if j< k then jq S T p fr j else [V.b false])] kR kR ⟨⟨⟨tI,tI⟩,(fun _=>tI)⟩,⟨⟨tI,tI⟩,(fun _=>tI)⟩,⟨⟨(by(exact fun h=>h)),⟨(by(exact fun h=>h)),tI⟩⟩,(fun _=>tI)⟩,⟨(by(intro h;rw [h];rfl)),tI⟩,oM,oM,tI⟩ ?_;refine aa (bL (ai (hK _ ?_)));clear hK K;refine wR 4 ?_;refine an ah (M:=[]) (n:=2) [pc (59:Nat) ((-9223372036854775808:Int)<=(↑k:Int)+1/\(↑k:Int)+1<=(9223372036854775807:Int)) (V.i ((↑k:Int)+1)),pv (22:Nat) (V.i ((↑k:Int)+1))] kR kR ⟨oM,tI⟩ ?_;refine aa (ai ?_);refine⟨k+1,by omega,?_,by omega⟩;refine aC (tl:=[(0,V.ptr [V.sl (7:Nat) (Sh.n S) fun(i:Nat)=>Pl.c (Sh.pl S i),V.sl (1:Nat) m cJ,V.sl (1:Nat) m (jN T)]),(1,V.i p),(2,V.i fr),(7,V.own (1:Nat)),(20,V.sl (1:Nat) m (jN T)),(21,V.i (↑m:Int)),(22,V.i (↑(k+1):Int))]) (sl:=[(1,Ob.row (4:Nat) (1:Nat) m fun(i:Nat)=>if i< k+1 then jq S T p fr i else [V.b false])]) [(1,1)] (.cons kR (.cons kR (.cons kR (.cons kR (.cons kR (.cons kR (.cons kR .nil))))))) (.cons ⟨Ob.row (4:Nat) (1:Nat) m fun(j:Nat)=>if j=k then setCells (if k< k then jq S T p fr k else [V.b false]) (0:Nat) [V.c (Value.bool (decide (s=p) && decide (fr<=c)))]else if j< k then jq S T p fr j else [V.b false],kR,.row kR ?_⟩ .nil) kR kR
   ·intro i _;dsimp only;by_cases h1:i=k;·subst h1;rw [if_pos rfl,if_neg (Nat.lt_irrefl i),if_pos oM];show [V.b (decide (s=p) && decide (fr<=c))]=[V.b (gT S p fr (T i))];rw [hu]
    ·rw [if_neg h1];by_cases h2:i< k;·rw [if_pos h2,if_pos oM];rfl
     ·rw [if_neg h2,if_neg oM];rfl
 ·obtain rfl:k=m:=by simp at c1;omega
  refine bg ?_;refine bO ?_;refine bO ?_;refine bC ?_;refine ai ?_;clear hK K;refine hK _ ?_;clear hK K;refine sK fun K hK=>wR 3 ?_;refine aY ah 2 [] ?_;refine nK hK ?_;clear hK K;refine ay ?_;refine fh [(0,1)] [(6,V.own (0:Nat))] (.inr rfl) (.cons kR .nil) (.cons ⟨Ob.row (4:Nat) (1:Nat) k fun(i:Nat)=>if i< k then jq S T p fr i else [V.b false],kR,.row kR ?_⟩ .nil) kR kR kR kR;·intro i hi;rw [if_pos hi];rfl
theorem yb(S:Sh)(hn:S.n<=200)(hk:eZ S)(T:Nat->Nat)(m:Nat)(hm:m<=16)(hT:∀i,i< m->T i< S.n)(p fr:Int) :
 AC Tryz.prog 137 [dV S T m,.i p,.i fr] (.sl 1 m (jq S T p fr)) []:=
 AC.jZ (e:=4) (sz:=1) (n:=m) (row:=jq S T p fr) (v:= .own 0) (DS S hn hk T m hm hT p fr) rfl (fun _ _=>rfl) (fun _=>rfl) rfl rfl
def K8(g:Nat->Bool)(k i:Nat):List V:=[.b (if i< k then false else g i)]
def gh(g:Nat->Bool)(i:Nat):List V:=[.b (g i)]
theorem CP(g:Nat->Bool)(m:Nat)(hm:m<=16)(h0:0< m):AC Tryz.prog 169 [.sl 1 m (gh g)] (.own 0) [.row 4 1 m (gh g)]:=by refine gU ah cv Tryz.func169 Tryz.ntmps169 fun C hC hF=> ?_;refine sK fun K hK=>wR 2 ?_;refine dN (M:=[5]) ah 1 [] tI ?_;refine nK hK ?_;clear hK K;refine sK fun K hK=>sK fun K hK=>wR 3 ?_;refine dN (M:=[5]) ah 2 [(1,.c ((0:Nat)< m))] ⟨oM,tI⟩ ?_;refine nK hK ?_;clear hK K;refine aB (t:=false) kR rfl ?_;refine ak ?_;refine ai (hK _ ?_);clear hK K;refine sK fun K hK=>wR 4 ?_;refine dN (M:=[5]) ah 4 [(0,.r (pn 5 (V.own 300005) (300005:Nat) (Ob.row 4 1 0 fun(i:Nat)=>List.take (1:Nat) (List.drop (i*1) (mI (0:Nat) [V.c (Value.bool false)]))))),(2,.r (PR.mk (some (7:Nat)) (some ((0:Nat)+m<=1099511627776)) (V.own 300007) [((300005:Nat),none),((300007:Nat),some (Ob.row 4 1 ((0:Nat)+m) (aE (0:Nat) (fun(i:Nat)=>List.take (1:Nat) (List.drop (i*1) (mI (0:Nat) [V.c (Value.bool false)]))) (gh g))))] false))] ⟨oM,tI⟩ ?_;refine nK hK ?_;clear hK K;refine ay ?_;refine fh [(0,300007)] [(2,V.own 0)] (.inr rfl) (.cons kR .nil) (.cons ⟨Ob.row 4 1 ((0:Nat)+m) (aE (0:Nat) (fun(i:Nat)=>List.take (1:Nat) (List.drop (i*1) (mI (0:Nat) [V.c (Value.bool false)]))) (gh g)),kR,.row ?_ (fun _ _=>rfl)⟩ .nil) kR kR kR kR;omega
theorem CH:∃i,Tryz.prog.info? 4=some i/\i.zero=some (.bool false):=by
 have h:(Tryz.prog.info? 4).bind (·.zero)=some (.bool false):=by kernel_rfl
 cases hi:Tryz.prog.info? 4 with
 |none=>rw [hi]at h;cases h
 |some i=>rw [hi]at h;exact⟨i,rfl,h⟩
theorem Fq(r:V)(g:Nat->Bool)(m k:Nat)(hm:m<=16)(h0:0< m)(hk:k<=m):AC Tryz.prog 138 [r,.sl 1 m (gh g),.i k] (.own 0) [.row 4 1 m (K8 g k)]:=by
 refine gU ah cv Tryz.func138 Tryz.ntmps138 fun C hC hF=> ?_;refine sK fun K hK=>wR 2 ?_;refine aY ah 1 [] ?_;refine nK hK ?_;clear hK K;refine sK fun K hK=>wR 3 ?_;refine aY ah 1 [] ?_;refine A7 (first:=[]) (caps:=[]) (k:=200009) (v':=V.own 200009) (ob':=Ob.row 4 1 m fun(i:Nat)=>V.aV (ax (2:Nat) (some 9)) (gh g i)) (CP g m hm h0) kR kR kR kR kR kR kR ?_;obtain⟨i,hi,hz⟩:=CH;refine aY ah 1 [] ?_;refine nK hK ?_;clear hK K;refine sK fun K hK=>wR 4 ?_;refine aY ah 3 [(2,.c ((0:Int)<=(0:Int)/\(0:Int)<=(↑k:Int)/\(↑k:Int)<=(↑m:Int)/\(0:Nat)< m) ⟨oM,⟨oM,oM⟩⟩)] ?_;refine cC rfl (EE (P:=Tryz.prog) 185 (.tmp 12) (id:=200009) (e:=4) (n:=m) (k:=k- 0) (row:=gh g) (el:=4) (z:= .bool false) ?he hi hz rfl rfl ?hx oM) ?hp ?hn ?_;case he=>exact ah.elem rfl
 case hx=>kernel_rfl
 case hp=>intro p hp;cases List.mem_singleton.1 hp;kernel_rfl
 case hn=>intro _ h;cases h
 refine nK hK ?_;clear hK K;refine sK fun K hK=>wR 5 ?_;refine aY ah 2 [] ?_;refine nK hK ?_;clear hK K;refine ay ?_;refine fh [(0,200009)] [(6,V.own 0)] (.inr rfl) (.cons kR .nil) (.cons ⟨Ob.row 4 1 m fun(j:Nat)=>if j< k- 0 then [V.c (Value.bool false)]else gh g j,kR,.row kR ?_⟩ .nil) kR kR kR kR;intro i _;show(if i< k- 0 then [V.c (Value.bool false)]else gh g i)=[V.b (if i< k then false else g i)];rw [Nat.sub_zero];by_cases h:i< k;·rw [if_pos h,if_pos h]
 ·rw [if_neg h,if_neg h];rfl
theorem IE(r:V)(g:Nat->Bool)(m k:Nat)(hm:m<=16)(h0:0< m)(hk:k<=m):AC Tryz.prog 138 [r,.sl 1 m (gh g),.i k] (.sl 1 m (K8 g k)) []:= AC.jZ (e:=4) (sz:=1) (n:=m) (row:=K8 g k) (v:= .own 0) (Fq r g m k hm h0 hk) rfl (fun _ _=>rfl) (fun _=>rfl) rfl rfl
def f7(g:Nat->Bool)(k:Nat):List Int:=(List.range k).filterMap fun i=>if g i then some ((i:Int)+1)else none
def vN(g:Nat->Bool)(k j:Nat):List V:=[.i (gi (f7 g k) j)]
theorem lZ{g:Nat->Bool}{k:Nat}(h:g k=true):f7 g (k+1)=f7 g k++[(k:Int)+1]:=by unfold f7;rw [List.range_succ,List.filterMap_append];simp [h]
theorem nu{g:Nat->Bool}{k:Nat}(h:g k=false):f7 g (k+1)=f7 g k:=by unfold f7;rw [List.range_succ,List.filterMap_append];simp [h]
theorem qm(g:Nat->Bool)(k:Nat):(f7 g k).length<=k:=by
 induction k with
 |zero=>exact Nat.le_refl _
 |succ k ih=>
  cases h:g k with
  |true=>rw [lZ h,List.length_append];simp;omega
  |false=>rw [nu h];omega
theorem NI{g:Nat->Bool}{k:Nat}(h:g k=false):vN g (k+1)=vN g k:=by funext j;unfold vN;rw [nu h]
theorem LW{g:Nat->Bool}{k j:Nat}(h:g k=true)(hj:j< (f7 g k).length):vN g (k+1) j=vN g k j:=by unfold vN gi;rw [lZ h,List.getD_eq_getElem?_getD,List.getD_eq_getElem?_getD,List.getElem?_append_left hj]
theorem NJ{g:Nat->Bool}{k:Nat}(h:g k=true):[V.i ((k:Int)+1)]=vN g (k+1) (f7 g k).length:=by unfold vN gi;rw [lZ h,List.getD_eq_getElem?_getD,List.getElem?_append_right (Nat.le_refl _),Nat.sub_self];rfl
theorem LV(g:Nat->Bool)(m:Nat)(hm:m<=16):AC Tryz.prog 91 [.sl 1 m (gh g),.sl 1 m cJ] (.own 0) [.row 2 1 (f7 g m).length (vN g m)]:=by
 refine gU ah cv Tryz.func91 Tryz.ntmps91 fun C hC hF=> ?_;refine sK fun K hK=>wR 2 ?_;refine aY ah 1 [] ?_;refine nK hK ?_;clear hK K;refine sK fun K hK=>sK fun K hK=>wR 3 ?_;refine aY ah 3 [] ?_;refine nK hK ?_;clear hK K;refine au ?_;refine iC (gP 4 2 1 (vN g 0) kR rfl) ?_;refine cr (ι:=Nat) (fun k=>[(1,.sl 1 m cJ),(4,.own 5),(7,.sl 1 m (gh g)),(8,.i m),(9,.i (k:Nat))]) (fun k=>[(5,.row 2 1 (f7 g k).length (vN g k))]) (fun k=>k<=m) (fun k=>m- k) 0 (Nat.zero_le _) ?_ ?_;·refine aC (sl:=[(5,Ob.row 2 1 0 (vN g (0:Nat)))]) [(5,300004)] (.cons kR (.cons kR (.cons kR (.cons kR (.cons kR .nil))))) (.cons oS .nil) kR kR
 intro k hk1;have hl:=qm g k;refine sK fun K hK=>wR 2 ?_;refine aY ah 1 [] ?_;refine nK hK ?_;clear hK K;refine sK fun K hK=> ?_;refine av (t:=decide ((↑k:Int)< (↑m:Int))) kR (fun c1=> ?_) (fun c1=> ?_)
 ·have hkn:k< m:=by simpa using c1
  refine ak ?_;refine ai (hK _ ?_);clear hK K;refine sK fun K hK=> ?_;refine au ?_;refine sK fun K hK=>wR 3 ?_;refine aY ah 5 [(1,.c ((0:Int)<=(↑k:Int)/\(↑k:Int)< (↑m:Int)) oM)] ?_;refine nK hK ?_;clear hK K;refine sK fun K hK=>wR 4 ?_;refine aY ah 1 [] ?_;refine nK hK ?_;clear hK K;refine av (t:=g k) kR (fun c2=> ?_) (fun c2=> ?_);·refine wR 5 ?_;refine aX ah 8 [(3,.c ((0:Int)<=(↑k:Int)/\(↑k:Int)< (↑m:Int))),(6,.r (PR.mk (some (21:Nat)) (some (List.length (f7 g k)+1<=(1099511627776:Nat))) (V.own 400021) [((5:Nat),none),((400021:Nat),some (Ob.row 2 1 (List.length (f7 g k)+1) (aE (List.length (f7 g k)) (vN g k) fun(i:Nat)=>List.take (1:Nat) (List.drop (i*1) [V.i ((↑k:Int)+1)]))))] false))] ⟨oM,oM,tI⟩ (aa (bL (ai (hK _ ?_))));clear hK K;refine wR 6 ?_;refine aY ah 2 [(0,.c (iR ((↑k:Int)+1)) oM)] ?_;refine aa (ai ?_);refine⟨k+1,by omega,?_,by omega⟩;rw [show(f7 g (k+1)).length=(f7 g k).length+1 by rw [lZ c2,List.length_append];rfl];refine aC (tl:=[(1,V.sl 1 m cJ),(4,V.own 5),(7,V.sl 1 m (gh g)),(8,V.i (↑m:Int)),(9,V.i (↑(k+1):Int))]) (sl:=[(5,Ob.row 2 1 (List.length (f7 g k)+1) (vN g (k+1)))]) [(5,400021)] (.cons kR (.cons kR (.cons kR (.cons kR (.cons kR .nil))))) (.cons ⟨Ob.row 2 1 (List.length (f7 g k)+1) (aE (List.length (f7 g k)) (vN g k) fun(i:Nat)=>List.take (1:Nat) (List.drop (i*1) [V.i ((↑k:Int)+1)])),kR,.row kR ?_⟩ .nil) kR kR;·exact de (fun j hj=>(LW c2 hj).symm) (NJ c2)
  ·refine ak ?_;refine bL (ai (hK _ ?_));clear hK K;refine wR 5 ?_;refine aY ah 2 [(0,.c (iR ((↑k:Int)+1)) oM)] ?_;refine aa (ai ?_);refine⟨k+1,by omega,?_,by omega⟩;rw [show(f7 g (k+1)).length=(f7 g k).length by rw [nu c2]];refine aC (tl:=[(1,V.sl 1 m cJ),(4,V.own 5),(7,V.sl 1 m (gh g)),(8,V.i (↑m:Int)),(9,V.i (↑(k+1):Int))]) (sl:=[(5,Ob.row 2 1 (List.length (f7 g k)) (vN g (k+1)))]) [(5,5)] (.cons kR (.cons kR (.cons kR (.cons kR (.cons kR .nil))))) (.cons ⟨Ob.row 2 1 (List.length (f7 g k)) (vN g k),kR,.row kR ?_⟩ .nil) kR kR;·intro i _;rw [NI c2];rfl
 ·obtain rfl:k=m:=by simp at c1;omega
  refine bg ?_;refine bO ?_;refine bO ?_;refine bC ?_;refine ai ?_;clear hK K;refine hK _ ?_;clear hK K;refine sK fun K hK=>wR 3 ?_;refine aY ah 2 [] ?_;refine nK hK ?_;clear hK K;refine ay ?_;refine fh [(0,5)] [(4,V.own 0)] (.inr rfl) (.cons kR .nil) (.cons oS .nil) kR kR kR kR
theorem Ll{α:Type}(f:Nat->List α){n i j:Nat}{x:α}(hi:i< n)(h:(f i)[j]?=some x):((List.range n).flatMap f)[((List.range i).flatMap f).length+j]?=some x:=by
 induction n with
 |zero=>omega
 |succ n ih=>
  rw [List.range_succ,List.flatMap_append];rcases Nat.lt_or_ge i n with hlt |hge;·have:=ih hlt;rw [List.getElem?_append_left (List.getElem?_eq_some_iff.1 this).1];exact this
  ·obtain rfl:i=n:=by omega
   rw [List.getElem?_append_right (Nat.le_add_right _ _),Nat.add_sub_cancel_left];simpa using h
theorem Fk{α:Type}(f:Nat->Option α){n k:Nat}{x:α}(hk:k< n)(h:f k=some x):((List.range n).filterMap f)[((List.range k).filterMap f).length]?=some x:=by
 induction n with
 |zero=>omega
 |succ n ih=>
  rw [List.range_succ,List.filterMap_append];rcases Nat.lt_or_ge k n with hlt |hge;·have:=ih hlt;rw [List.getElem?_append_left (List.getElem?_eq_some_iff.1 this).1];exact this
  ·obtain rfl:k=n:=by omega
   rw [List.getElem?_append_right (Nat.le_refl _),Nat.sub_self];simp [h]
theorem Nn{α:Type}{f:Nat->Option α}{k:Nat}{x:α}(h:f k=some x):((List.range (k+1)).filterMap f).length=((List.range k).filterMap f).length+1:=by rw [List.range_succ,List.filterMap_append];simp [h]
theorem Lj{α:Type}{f:Nat->Option α}{k:Nat}(h:f k=none):((List.range (k+1)).filterMap f).length=((List.range k).filterMap f).length:=by rw [List.range_succ,List.filterMap_append];simp [h]
theorem Ph{α:Type}(f:Nat->List α)(i:Nat):((List.range (i+1)).flatMap f).length=((List.range i).flatMap f).length+(f i).length:=by rw [List.range_succ,List.flatMap_append];simp
def DQ(m:Nat)(p fr:Int)(g:Nat->Bool):List V:=[.agg [.i p,.i fr,.sl 1 m (gh g)]]
def Jm(S:Sh)(T:Nat->Nat)(i k j:Nat):Bool:=if j< k then false else gT S i 0 (T j)
def s7(S:Sh)(T:Nat->Nat)(m i k:Nat):Option (List V):=if gT S i 0 (T k)then some (DQ m i ((k:Int)+1) (Jm S T i k))else none
def CO(S:Sh)(T:Nat->Nat)(m i k:Nat):Option (List V):=if i< k/\(S.pl k).par=i then some (DQ m i k fun j=>gT S i k (T j))else none
def jY(S:Sh)(T:Nat->Nat)(m i:Nat):List (List V):=if(S.pl i).kind=3 then(List.range m).filterMap (s7 S T m i)else(List.range S.n).filterMap (CO S T m i)
def Ek(m k:Nat):List V:=DQ m (-1) ((k:Int)+1) fun j=>decide (j=k)
def qH(S:Sh)(T:Nat->Nat)(m:Nat):List (List V):=(List.range S.n).flatMap (jY S T m)++(List.range m).map (Ek m)
def nE(S:Sh)(T:Nat->Nat)(m i:Nat):Nat:=((List.range i).flatMap (jY S T m)).length
theorem GA{S:Sh}{T:Nat->Nat}{m i:Nat}(h:(S.pl i).kind=3):jY S T m i=(List.range m).filterMap (s7 S T m i):=by unfold jY;rw [if_pos h]
theorem GB{S:Sh}{T:Nat->Nat}{m i:Nat}(h:(S.pl i).kind≠3):jY S T m i=(List.range S.n).filterMap (CO S T m i):=by unfold jY;rw [if_neg h]
theorem vZ{S:Sh}{T:Nat->Nat}{m i j:Nat}{x:List V}(hi:i< S.n)(h:(jY S T m i)[j]?=some x):(qH S T m)[nE S T m i+j]?=some x:=by have:=Ll (jY S T m) hi h;unfold qH nE;rw [List.getElem?_append_left (List.getElem?_eq_some_iff.1 this).1];exact this
theorem HT{S:Sh}{T:Nat->Nat}{m i k:Nat}(hi:i< S.n)(h3:(S.pl i).kind=3)(hk:k< m)(hb:gT S i 0 (T k)=true) :
 (qH S T m)[nE S T m i+((List.range k).filterMap (s7 S T m i)).length]?=some (DQ m i ((k:Int)+1) (Jm S T i k)):=
 vZ hi (by rw [GA h3];exact Fk _ hk (by unfold s7;rw [if_pos hb]))
theorem KU{S:Sh}{T:Nat->Nat}{m i k:Nat}(hi:i< S.n)(h3:(S.pl i).kind≠3)(hk:k< S.n)(hik:i< k)(hb:(S.pl k).par=i) :
 (qH S T m)[nE S T m i+((List.range k).filterMap (CO S T m i)).length]?=some (DQ m i k fun j=>gT S i k (T j)):=
 vZ hi (by rw [GB h3];exact Fk _ hk (by unfold CO;rw [if_pos ⟨hik,hb⟩]))
theorem Cb{S:Sh}{T:Nat->Nat}{m k:Nat}(hk:k< m):(qH S T m)[nE S T m S.n+k]?=some (Ek m k):=by unfold qH nE;rw [List.getElem?_append_right (Nat.le_add_right _ _),Nat.add_sub_cancel_left];simp [hk]
theorem E6(S:Sh)(T:Nat->Nat)(m i:Nat):∀k,k<=i+1->((List.range k).filterMap (CO S T m i)).length=0
 |0,_=>rfl
 |k+1,h=>by rw [Lj (show CO S T m i k=none by unfold CO;rw [if_neg oM])];exact E6 S T m i k oM
theorem HR(S:Sh)(T:Nat->Nat)(m:Nat):(qH S T m).length=nE S T m S.n+m:=by unfold qH;rw [List.length_append];simp [nE]
theorem GG(S:Sh)(T:Nat->Nat)(m i:Nat):nE S T m (i+1)=nE S T m i+(jY S T m i).length:=Ph _ _
theorem Ei(S:Sh)(hn:S.n<=200)(hk:eZ S)(T:Nat->Nat)(m:Nat)(hm:m<=16)(hT:∀i,i< m->T i< S.n):B4 Tryz.prog 136 [.ptr [dV S T m]] [] (qH S T m):=by
 refine qF ah cv (fn:=Tryz.f136) (N:=_) ⟨Tryz.func136,rfl,Tryz.ntmps136,kR⟩ rfl (by simp) (fun Y=> ?_) (by simp);refine cP ?_;refine bu fun C hF hC K hK=> ?_;refine aj (n':=2) kR kR ?_;refine aY ah 6 [] ?_;refine aa ?_;refine ai ?_;refine hK _ ?_;clear hK K;refine cE ?_;refine lA (ι:=Nat) (fun i=>⟨gy [(0,.c (.func (.yield Y.l) #[] #[])),(1,.ptr [dV S T m]),(15,iw S),(16,.i S.n),(17,.i (i:Nat))],dj [],1⟩) (fun i=>nE S T m i) (fun i=>i<=S.n) (fun i=>S.n- i) 0 (Nat.zero_le _) ?_ rfl ?_;·refine aC [] (.cons kR (.cons kR (.cons kR (.cons kR (.cons kR .nil))))) .nil kR kR
 intro i hi;refine bu fun C hF hC K hK=> ?_;refine aj (n':=2) kR kR ?_;refine an ah (M:=[]) (n:=1) [pv (18:Nat) (V.b (decide ((↑i:Int)< (↑(Sh.n S):Int))))] kR kR tI ?_;refine aa ?_;refine ai ?_;refine hK _ ?_;clear hK K;refine bu fun C hF hC K hK=> ?_;refine av (t:=decide ((↑i:Int)< (↑(Sh.n S):Int))) kR (fun c1=> ?_) (fun c1=> ?_)
 ·have hin:i< S.n:=by simpa using c1
  refine ak ?_;refine ai ?_;refine hK _ ?_;clear hK K;refine cP ?_;refine cE ?_;refine bu fun C hF hC K hK=> ?_;refine aj (n':=3) kR kR ?_;refine aY ah 6 [(1,.c ((0:Int)<=(↑i:Int)/\(↑i:Int)< (↑(Sh.n S):Int)) oM),(3,.c ((0:Nat)+(7:Nat)<=(7:Nat)) oM)] ?_;refine aa ?_;refine ai ?_;refine hK _ ?_;clear hK K;refine cP ?_;refine bu fun C hF hC K hK=> ?_;refine aj (n':=4) kR kR ?_;refine an ah (M:=[]) (n:=3) [pv (22:Nat) (V.ref (200004:Nat) (0:Nat)),pc (23:Nat) ((0:Nat)<=(7:Nat)) (V.i (↑(Pl.kind (Sh.pl S i)):Int)),pv (24:Nat) (V.b (decide ((↑(Pl.kind (Sh.pl S i)):Int)=3)))] kR kR ⟨oM,tI⟩ ?_;refine aa ?_;refine ai ?_;refine hK _ ?_;clear hK K;refine dg (t:=decide ((↑(Pl.kind (Sh.pl S i)):Int)=3)) kR (fun c2=> ?_) (fun c2=> ?_)
  ·have k3:(S.pl i).kind=3:=by simp at c2;omega
   refine bu fun C hF hC K hK=> ?_;refine aj (n':=5) kR kR ?_;refine an ah (M:=[]) (n:=2) [pv (25:Nat) (V.ptr [V.sl (7:Nat) (Sh.n S) fun(i:Nat)=>Pl.c (Sh.pl S i),V.sl (1:Nat) m cJ,V.sl (1:Nat) m (jN T)]),pv (26:Nat) (V.i (↑i:Int))] kR kR tI ?_;refine eC (yb S hn hk T m hm hT i 0) ?_;refine an ah (M:=[]) (n:=1) [pv (5:Nat) (V.sl (1:Nat) m (jq S T (↑i:Int) (0:Int)))] kR kR tI ?_;refine aa ?_;refine ai ?_;refine hK _ ?_;clear hK K;refine cP ?_;refine bu fun C hF hC K hK=> ?_;refine aj (n':=6) kR kR ?_;refine an ah (M:=[]) (n:=3) [pv (28:Nat) (V.sl (1:Nat) m (jq S T (↑i:Int) (0:Int))),pv (29:Nat) (V.i (↑m:Int)),pv (30:Nat) (V.i (0:Int))] kR kR tI ?_;refine aa ?_;refine ai ?_;refine hK _ ?_;clear hK K;refine cE ?_;refine lA (ι:=Nat) (fun k=>⟨gy [(0,.c (.func (.yield Y.l) #[] #[])),(1,.ptr [dV S T m]),(3,.i (i:Nat)),(5,.sl 1 m (gh fun j=>gT S i 0 (T j))),(15,iw S),(16,.i S.n),(17,.i (i:Nat)),(28,.sl 1 m (gh fun j=>gT S i 0 (T j))),(29,.i m),(30,.i (k:Nat))],dj [],1⟩) (fun k=>nE S T m i+((List.range k).filterMap (s7 S T m i)).length) (fun k=>k<=m) (fun k=>m- k) 0 (Nat.zero_le _) ?_ rfl ?_;·refine aC [] (.cons kR (.cons kR (.cons kR (.cons kR (.cons kR (.cons kR (.cons kR (.cons kR (.cons kR (.cons kR .nil)))))))))) .nil kR kR
   intro k hkm;refine bu fun C hF hC K hK=> ?_;refine aj (n':=2) kR kR ?_;refine an ah (M:=[]) (n:=1) [pv (31:Nat) (V.b (decide ((↑k:Int)< (↑m:Int))))] kR kR tI ?_;refine aa ?_;refine ai ?_;refine hK _ ?_;clear hK K;refine bu fun C hF hC K hK=> ?_;refine av (t:=decide ((↑k:Int)< (↑m:Int))) kR (fun c3=> ?_) (fun c3=> ?_)
   ·have hk1:k< m:=by simpa using c3
    cases hb:gT S i 0 (T k)with
    |true=>
     refine ak ?_;refine ai ?_;refine hK _ ?_;clear hK K;refine cP ?_;refine cE ?_;refine bu fun C hF hC K hK=> ?_;refine aj (n':=3) kR kR ?_;refine an ah (M:=[]) (n:=5) [pv (32:Nat) (V.i (↑k:Int)),pc (33:Nat) ((0:Int)<=(↑k:Int)/\(↑k:Int)< (↑m:Int)) (V.ptr [V.b (gT S (↑i:Int) (0:Int) (T k))]),pv (34:Nat) (V.b (gT S (↑i:Int) (0:Int) (T k))),pv (6:Nat) (V.i (↑k:Int)),pv (7:Nat) (V.b (gT S (↑i:Int) (0:Int) (T k)))] kR kR ⟨oM,tI⟩ ?_;refine aa ?_;refine ai ?_;refine hK _ ?_;clear hK K;refine cP (wz 17 kR rfl kR fun C hF hC=> ?_);refine aY ah 15 [(9,.g (gT S (↑i:Int) (0:Int) (T k) == true) ((0:Int)<=(↑k:Int)/\(↑k:Int)< (↑m:Int)) (by(intro hg;simp at hg;omega)))] ?_;rw [hb];refine eG 3 (g:=true == true) (fun h=>IE (dV S T m) (fun j=>gT S i 0 (T j)) m k hm oM oM) ?_;refine aY ah 1 [] ?_;refine aa ⟨kR,?_⟩;have hget:=HT hin k3 hk1 hb;refine⟨kR,kR,by kernel_rfl,⟨_,hget,cq.refl _,trivial⟩,rfl,fun C hF hC=> ?_,fun C hF hC=> ?_⟩
     ·refine aY ah 2 [] ?_;refine aa ?_;refine ec ?_;refine dg (t:=false) kR (fun h=>by cases h) (fun _=> ?_);refine fD ?_;refine uu ?_;refine ec ?_;refine fO fun C hF hC=> ?_;refine aj (n':=6) kR kR ?_;refine aY ah 2 [(0,.c (iR ((↑k:Int)+1)) oM)] ?_;refine aa ?_;refine ec ?_;refine⟨rfl,k+1,by omega,?_,?_,by omega⟩;·refine aC [] (.cons kR (.cons kR (.cons kR (.cons kR (.cons kR (.cons kR (.cons kR (.cons kR (.cons kR (.cons kR .nil)))))))))) .nil kR kR
      ·rw [Nn (show s7 S T m i k=some _ by unfold s7;rw [if_pos hb])];rfl
     ·refine aY ah 2 [] ?_;refine aa ?_;refine ec ?_;refine dg (t:=true) kR (fun _=> ?_) (fun h=>by cases h);refine mU ?_;refine mc ?_;refine iQ ?_;refine iQ ?_;refine mc ?_;refine iQ ?_;refine iQ ?_;refine mc ?_;refine iQ ?_;refine iQ ?_;refine mc ?_;refine iQ ?_;exact⟨.inr rfl,fun h=>(by cases h),fun _=>(List.getElem?_eq_some_iff.1 hget).1⟩
    |false=>
     have noY:True:=trivial;refine ak ?_;refine ai ?_;refine hK _ ?_;clear hK K;refine cP ?_;refine cE ?_;refine bu fun C hF hC K hK=> ?_;refine aj (n':=3) kR kR ?_;refine an ah (M:=[]) (n:=5) [pv (32:Nat) (V.i (↑k:Int)),pc (33:Nat) ((0:Int)<=(↑k:Int)/\(↑k:Int)< (↑m:Int)) (V.ptr [V.b (gT S (↑i:Int) (0:Int) (T k))]),pv (34:Nat) (V.b (gT S (↑i:Int) (0:Int) (T k))),pv (6:Nat) (V.i (↑k:Int)),pv (7:Nat) (V.b (gT S (↑i:Int) (0:Int) (T k)))] kR kR ⟨oM,tI⟩ ?_;refine aa ?_;refine ai ?_;refine hK _ ?_;clear hK K;refine bu fun C hF hC K hK=> ?_;rw [hb];refine di (n':=4) kR kR ?_;refine aY ah 15 [(9,.g (false == true) ((0:Int)<=(↑k:Int)/\(↑k:Int)< (↑m:Int)) (by(intro h;simp at h;done)))] ?_;refine je kR rfl ?_;refine aY ah 1 [] ?_;refine je kR rfl ?_;refine aY ah 2 [] ?_;refine aa ⟨kR,?_⟩;refine ai ?_;refine hK _ ?_;clear hK K;refine dg (t:=false) kR (fun h=>by cases h) (fun _=> ?_);refine fD ?_;refine uu ?_;refine ec ?_;refine fO fun C hF hC=> ?_;refine aj (n':=5) kR kR ?_;refine aY ah 2 [(0,.c (iR ((↑k:Int)+1)) oM)] ?_;refine aa ?_;refine ec ?_;refine⟨rfl,k+1,by omega,?_,?_,by omega⟩;·refine aC [] (.cons kR (.cons kR (.cons kR (.cons kR (.cons kR (.cons kR (.cons kR (.cons kR (.cons kR (.cons kR .nil)))))))))) .nil kR kR
     ·rw [Lj (show s7 S T m i k=none by unfold s7;rw [if_neg (by rw [hb];simp)])]
   ·obtain rfl:k=m:=by simp at c3;omega
    refine bg ?_;refine bO ?_;refine yj ?_;refine js ?_;refine ec ?_;refine tG ?_;refine yj ?_;refine js ?_;refine ec ?_;refine fO fun C hF hC=> ?_;refine aj (n':=3) kR kR ?_;refine aY ah 2 [(0,.c (iR ((↑i:Int)+1)) oM)] ?_;refine aa ?_;refine ec ?_;refine⟨rfl,i+1,by omega,?_,?_,by omega⟩;·refine aC [] (.cons kR (.cons kR (.cons kR (.cons kR (.cons kR .nil))))) .nil kR kR
    ·rw [GG,GA k3]
  ·have k3:(S.pl i).kind≠3:=by simp at c2;omega
   refine fD ?_;refine ec ?_;refine bu fun C hF hC K hK=> ?_;refine aj (n':=5) kR kR ?_;refine aY ah 3 [(1,.c (iR ((↑i:Int)+1)) oM)] ?_;refine aa ?_;refine ai ?_;refine hK _ ?_;clear hK K;refine cE ?_;refine lA (ι:=Nat) (fun k=>⟨gy [(0,.c (.func (.yield Y.l) #[] #[])),(1,.ptr [dV S T m]),(3,.i (i:Nat)),(8,.i (k:Nat)),(15,iw S),(16,.i S.n),(17,.i (i:Nat))],dj [],1⟩) (fun k=>nE S T m i+((List.range k).filterMap (CO S T m i)).length) (fun k=>i< k/\k<=S.n) (fun k=>S.n- k) (i+1) ⟨Nat.lt_succ_self _,hin⟩ ?_ (by rw [E6 S T m i (i+1) (Nat.le_refl _)];rfl) ?_;·refine aC [] (.cons kR (.cons kR (.cons kR (.cons kR (.cons kR (.cons kR (.cons kR .nil))))))) .nil kR kR
   rintro k ⟨hik,hkm⟩;refine bu fun C hF hC K hK=> ?_;refine sK fun K hK=> ?_;refine aj (n':=2) kR kR ?_;refine aY ah 7 [] ?_;refine aa ?_;refine ai ?_;refine hK _ ?_;clear hK K;refine av (t:=decide ((↑k:Int)< (↑(Sh.n S):Int))) kR (fun c3=> ?_) (fun c3=> ?_)
   ·have hk1:k< S.n:=by simpa using c3
    by_cases hp:(S.pl k).par=i
    ·refine ak ?_;refine ai ?_;refine hK _ ?_;clear hK K;refine cP ?_;refine cE ?_;refine cP (mq 20 kR rfl fun C hF hC=> ?_);refine an ah (M:=[]) (n:=18) [pv (67:Nat) (V.ptr [V.sl (7:Nat) (Sh.n S) fun(i:Nat)=>Pl.c (Sh.pl S i),V.sl (1:Nat) m cJ,V.sl (1:Nat) m (jN T)]),pv (68:Nat) (V.ptr [V.sl (7:Nat) (Sh.n S) fun(i:Nat)=>Pl.c (Sh.pl S i),V.sl (1:Nat) m cJ,V.sl (1:Nat) m (jN T)]),pv (69:Nat) (V.ptr [V.sl (7:Nat) (Sh.n S) fun(i:Nat)=>Pl.c (Sh.pl S i),V.sl (1:Nat) m cJ,V.sl (1:Nat) m (jN T)]),pv (70:Nat) (V.sl (7:Nat) (Sh.n S) fun(i:Nat)=>Pl.c (Sh.pl S i)),pv (71:Nat) (V.i (↑k:Int)),pc (72:Nat) ((0:Int)<=(↑k:Int)/\(↑k:Int)< (↑(Sh.n S):Int)) (V.ptr [V.i (↑(Pl.kind (Sh.pl S k)):Int),V.i (Pl.par (Sh.pl S k)),V.i (Pl.cut (Sh.pl S k)),V.i (Pl.area (Sh.pl S k)),V.i (Pl.aF (Sh.pl S k)),V.i (Pl.grown (Sh.pl S k)),V.b (Pl.ret (Sh.pl S k))]),pv (73:Nat) (V.ptr [V.i (Pl.par (Sh.pl S k)),V.i (Pl.cut (Sh.pl S k)),V.i (Pl.area (Sh.pl S k)),V.i (Pl.aF (Sh.pl S k)),V.i (Pl.grown (Sh.pl S k)),V.b (Pl.ret (Sh.pl S k))]),pv (74:Nat) (V.i (Pl.par (Sh.pl S k))),pv (75:Nat) (V.i (↑i:Int)),pv (76:Nat) (V.b (decide (Pl.par (Sh.pl S k)=(↑i:Int)))),pv (77:Nat) (V.b (decide (Pl.par (Sh.pl S k)=(↑i:Int)))),pc (78:Nat) ((True/\True)/\((decide (Pl.par (Sh.pl S k)=(↑i:Int)) == true)=true->True)) (V.gd (decide (Pl.par (Sh.pl S k)=(↑i:Int)) == true) (V.c (Value.func (Fn.yield (vL.l Y)) #[] #[]))),pc (79:Nat) ((True/\True)/\((decide (Pl.par (Sh.pl S k)=(↑i:Int)) == true)=true->True)) (V.gd (decide (Pl.par (Sh.pl S k)=(↑i:Int)) == true) (V.i (↑i:Int))),pc (80:Nat) ((True/\True)/\((decide (Pl.par (Sh.pl S k)=(↑i:Int)) == true)=true->True)) (V.gd (decide (Pl.par (Sh.pl S k)=(↑i:Int)) == true) (V.i (↑k:Int))),pc (81:Nat) ((((decide (Pl.par (Sh.pl S k)=(↑i:Int)) == true)=true->(decide (Pl.par (Sh.pl S k)=(↑i:Int)) == true)=true)/\((decide (Pl.par (Sh.pl S k)=(↑i:Int)) == true)=true->(decide (Pl.par (Sh.pl S k)=(↑i:Int)) == true)=true)/\True)/\((decide (Pl.par (Sh.pl S k)=(↑i:Int)) == true)=true->True)) (V.gd (decide (Pl.par (Sh.pl S k)=(↑i:Int)) == true) (V.agg [V.i (↑i:Int),V.i (↑k:Int)])),pc (82:Nat) ((True/\True)/\((decide (Pl.par (Sh.pl S k)=(↑i:Int)) == true)=true->True)) (V.gd (decide (Pl.par (Sh.pl S k)=(↑i:Int)) == true) (V.ptr [V.sl (7:Nat) (Sh.n S) fun(i:Nat)=>Pl.c (Sh.pl S i),V.sl (1:Nat) m cJ,V.sl (1:Nat) m (jN T)])),pc (83:Nat) ((True/\True)/\((decide (Pl.par (Sh.pl S k)=(↑i:Int)) == true)=true->True)) (V.gd (decide (Pl.par (Sh.pl S k)=(↑i:Int)) == true) (V.i (↑i:Int))),pc (84:Nat) ((True/\True)/\((decide (Pl.par (Sh.pl S k)=(↑i:Int)) == true)=true->True)) (V.gd (decide (Pl.par (Sh.pl S k)=(↑i:Int)) == true) (V.i (↑k:Int)))] kR kR ⟨oM,⟨⟨tI,tI⟩,(fun _=>tI)⟩,⟨⟨tI,tI⟩,(fun _=>tI)⟩,⟨⟨tI,tI⟩,(fun _=>tI)⟩,⟨⟨(by(exact fun h=>h)),⟨(by(exact fun h=>h)),tI⟩⟩,(fun _=>tI)⟩,⟨⟨tI,tI⟩,(fun _=>tI)⟩,⟨⟨tI,tI⟩,(fun _=>tI)⟩,⟨⟨tI,tI⟩,(fun _=>tI)⟩,tI⟩ ?_;rw [decide_eq_true hp];refine eG 3 (g:=true == true) (fun h=>yb S hn hk T m hm hT i k) ?_;refine aY ah 1 [] ?_;refine aa ?_;have hget:=KU (T:=T) (m:=m) hin k3 hk1 hik hp;refine⟨kR,kR,by kernel_rfl,⟨_,hget,cq.refl _,trivial⟩,rfl,fun C hF hC=> ?_,fun C hF hC=> ?_⟩
     ·refine aY ah 2 [] ?_;refine aa ?_;refine ec ?_;refine dg (t:=false) kR (fun h=>by cases h) (fun _=> ?_);refine fD ?_;refine uu ?_;refine ec ?_;refine fO fun C hF hC=> ?_;refine aj (n':=4) kR kR ?_;refine aY ah 3 [(1,.c (iR ((↑k:Int)+1)) oM)] ?_;refine aa ?_;refine ec ?_;refine⟨rfl,k+1,⟨by omega,by omega⟩,?_,?_,by omega⟩;·refine aC [] (.cons kR (.cons kR (.cons kR (.cons kR (.cons kR (.cons kR (.cons kR .nil))))))) .nil kR kR
      ·rw [Nn (show CO S T m i k=some _ by unfold CO;rw [if_pos ⟨hik,hp⟩])];rfl
     ·refine aY ah 2 [] ?_;refine aa ?_;refine ec ?_;refine dg (t:=true) kR (fun _=> ?_) (fun h=>by cases h);refine mU ?_;refine mc ?_;refine iQ ?_;refine iQ ?_;refine mc ?_;refine mc ?_;refine iQ ?_;refine iQ ?_;refine mc ?_;refine iQ ?_;exact⟨.inr rfl,fun h=>(by cases h),fun _=>(List.getElem?_eq_some_iff.1 hget).1⟩
    ·have noY:True:=trivial;refine ak ?_;refine ai ?_;refine hK _ ?_;clear hK K;refine cP ?_;refine cE ?_;refine bu fun C hF hC K hK=> ?_;refine aj (n':=3) kR kR ?_;refine an ah (M:=[]) (n:=18) [pv (67:Nat) (V.ptr [V.sl (7:Nat) (Sh.n S) fun(i:Nat)=>Pl.c (Sh.pl S i),V.sl (1:Nat) m cJ,V.sl (1:Nat) m (jN T)]),pv (68:Nat) (V.ptr [V.sl (7:Nat) (Sh.n S) fun(i:Nat)=>Pl.c (Sh.pl S i),V.sl (1:Nat) m cJ,V.sl (1:Nat) m (jN T)]),pv (69:Nat) (V.ptr [V.sl (7:Nat) (Sh.n S) fun(i:Nat)=>Pl.c (Sh.pl S i),V.sl (1:Nat) m cJ,V.sl (1:Nat) m (jN T)]),pv (70:Nat) (V.sl (7:Nat) (Sh.n S) fun(i:Nat)=>Pl.c (Sh.pl S i)),pv (71:Nat) (V.i (↑k:Int)),pc (72:Nat) ((0:Int)<=(↑k:Int)/\(↑k:Int)< (↑(Sh.n S):Int)) (V.ptr [V.i (↑(Pl.kind (Sh.pl S k)):Int),V.i (Pl.par (Sh.pl S k)),V.i (Pl.cut (Sh.pl S k)),V.i (Pl.area (Sh.pl S k)),V.i (Pl.aF (Sh.pl S k)),V.i (Pl.grown (Sh.pl S k)),V.b (Pl.ret (Sh.pl S k))]),pv (73:Nat) (V.ptr [V.i (Pl.par (Sh.pl S k)),V.i (Pl.cut (Sh.pl S k)),V.i (Pl.area (Sh.pl S k)),V.i (Pl.aF (Sh.pl S k)),V.i (Pl.grown (Sh.pl S k)),V.b (Pl.ret (Sh.pl S k))]),pv (74:Nat) (V.i (Pl.par (Sh.pl S k))),pv (75:Nat) (V.i (↑i:Int)),pv (76:Nat) (V.b (decide (Pl.par (Sh.pl S k)=(↑i:Int)))),pv (77:Nat) (V.b (decide (Pl.par (Sh.pl S k)=(↑i:Int)))),pc (78:Nat) ((True/\True)/\((decide (Pl.par (Sh.pl S k)=(↑i:Int)) == true)=true->True)) (V.gd (decide (Pl.par (Sh.pl S k)=(↑i:Int)) == true) (V.c (Value.func (Fn.yield (vL.l Y)) #[] #[]))),pc (79:Nat) ((True/\True)/\((decide (Pl.par (Sh.pl S k)=(↑i:Int)) == true)=true->True)) (V.gd (decide (Pl.par (Sh.pl S k)=(↑i:Int)) == true) (V.i (↑i:Int))),pc (80:Nat) ((True/\True)/\((decide (Pl.par (Sh.pl S k)=(↑i:Int)) == true)=true->True)) (V.gd (decide (Pl.par (Sh.pl S k)=(↑i:Int)) == true) (V.i (↑k:Int))),pc (81:Nat) ((((decide (Pl.par (Sh.pl S k)=(↑i:Int)) == true)=true->(decide (Pl.par (Sh.pl S k)=(↑i:Int)) == true)=true)/\((decide (Pl.par (Sh.pl S k)=(↑i:Int)) == true)=true->(decide (Pl.par (Sh.pl S k)=(↑i:Int)) == true)=true)/\True)/\((decide (Pl.par (Sh.pl S k)=(↑i:Int)) == true)=true->True)) (V.gd (decide (Pl.par (Sh.pl S k)=(↑i:Int)) == true) (V.agg [V.i (↑i:Int),V.i (↑k:Int)])),pc (82:Nat) ((True/\True)/\((decide (Pl.par (Sh.pl S k)=(↑i:Int)) == true)=true->True)) (V.gd (decide (Pl.par (Sh.pl S k)=(↑i:Int)) == true) (V.ptr [V.sl (7:Nat) (Sh.n S) fun(i:Nat)=>Pl.c (Sh.pl S i),V.sl (1:Nat) m cJ,V.sl (1:Nat) m (jN T)])),pc (83:Nat) ((True/\True)/\((decide (Pl.par (Sh.pl S k)=(↑i:Int)) == true)=true->True)) (V.gd (decide (Pl.par (Sh.pl S k)=(↑i:Int)) == true) (V.i (↑i:Int))),pc (84:Nat) ((True/\True)/\((decide (Pl.par (Sh.pl S k)=(↑i:Int)) == true)=true->True)) (V.gd (decide (Pl.par (Sh.pl S k)=(↑i:Int)) == true) (V.i (↑k:Int)))] kR kR ⟨oM,⟨⟨tI,tI⟩,(fun _=>tI)⟩,⟨⟨tI,tI⟩,(fun _=>tI)⟩,⟨⟨tI,tI⟩,(fun _=>tI)⟩,⟨⟨(by(exact fun h=>h)),⟨(by(exact fun h=>h)),tI⟩⟩,(fun _=>tI)⟩,⟨⟨tI,tI⟩,(fun _=>tI)⟩,⟨⟨tI,tI⟩,(fun _=>tI)⟩,⟨⟨tI,tI⟩,(fun _=>tI)⟩,tI⟩ ?_;rw [decide_eq_false hp];refine je kR rfl ?_;refine aY ah 1 [] ?_;refine je kR rfl ?_;refine aY ah 2 [] ?_;refine aa ?_;refine ai ?_;refine hK _ ?_;clear hK K;refine dg (t:=false) kR (fun h=>by cases h) (fun _=> ?_);refine fD ?_;refine uu ?_;refine ec ?_;refine fO fun C hF hC=> ?_;refine aj (n':=4) kR kR ?_;refine aY ah 3 [(1,.c (iR ((↑k:Int)+1)) oM)] ?_;refine aa ?_;refine ec ?_;refine⟨rfl,k+1,⟨by omega,by omega⟩,?_,?_,by omega⟩;·refine aC [] (.cons kR (.cons kR (.cons kR (.cons kR (.cons kR (.cons kR (.cons kR .nil))))))) .nil kR kR
     ·rw [Lj (show CO S T m i k=none by unfold CO;rw [if_neg (fun h=>hp h.2)])]
   ·obtain rfl:k=S.n:=by simp at c3;omega
    refine bg ?_;refine bO ?_;refine yj ?_;refine js ?_;refine uu ?_;refine ec ?_;refine fO fun C hF hC=> ?_;refine aj (n':=3) kR kR ?_;refine aY ah 2 [(0,.c (iR ((↑i:Int)+1)) oM)] ?_;refine aa ?_;refine ec ?_;refine⟨rfl,i+1,by omega,?_,?_,by omega⟩;·refine aC [] (.cons kR (.cons kR (.cons kR (.cons kR (.cons kR .nil))))) .nil kR kR
    ·rw [GG,GB k3]
 ·obtain rfl:i=S.n:=by simp at c1;omega
  refine bg ?_;refine bO ?_;refine yj ?_;refine js ?_;refine ec ?_;refine bu fun C hF hC K hK=> ?_;refine aj (n':=3) kR kR ?_;refine aY ah 6 [] ?_;refine aa ?_;refine ai ?_;refine hK _ ?_;clear hK K;refine cE ?_;refine lA (ι:=Nat) (fun k=>⟨gy [(0,.c (.func (.yield Y.l) #[] #[])),(1,.ptr [dV S T m]),(94,.sl 1 m cJ),(95,.i m),(96,.i (k:Nat))],dj [],1⟩) (fun k=>nE S T m S.n+k) (fun k=>k<=m) (fun k=>m- k) 0 (Nat.zero_le _) ?_ rfl ?_;·refine aC [] (.cons kR (.cons kR (.cons kR (.cons kR (.cons kR .nil))))) .nil kR kR
  intro k hkm;refine bu fun C hF hC K hK=> ?_;refine aj (n':=2) kR kR ?_;refine an ah (M:=[]) (n:=1) [pv (97:Nat) (V.b (decide ((↑k:Int)< (↑m:Int))))] kR kR tI ?_;refine aa ?_;refine ai ?_;refine hK _ ?_;clear hK K;refine bu fun C hF hC K hK=> ?_;refine av (t:=decide ((↑k:Int)< (↑m:Int))) kR (fun c3=> ?_) (fun c3=> ?_)
  ·have hk1:k< m:=by simpa using c3
   have stopY:True:=trivial;refine ak ?_;refine ai ?_;refine hK _ ?_;clear hK K;refine cP ?_;refine cE ?_;refine bu fun C hF hC K hK=> ?_;refine aj (n':=3) kR kR ?_;refine an ah (M:=[]) (n:=5) [pv (98:Nat) (V.i (↑k:Int)),pc (99:Nat) ((0:Int)<=(↑k:Int)/\(↑k:Int)< (↑m:Int)) (V.ptr [V.i ((↑k:Int)+1)]),pv (100:Nat) (V.i ((↑k:Int)+1)),pv (9:Nat) (V.i (↑k:Int)),pv (10:Nat) (V.i ((↑k:Int)+1))] kR kR ⟨oM,tI⟩ ?_;refine aa ?_;refine ai ?_;refine hK _ ?_;clear hK K;refine bu fun C hF hC K hK=> ?_;refine aj (n':=4) kR kR ?_;refine aX ah 7 [(5,.r (PR.mk (some (106:Nat)) (some ((0:Int)<=(↑m:Int)/\(↑m:Int)<=(↑m:Int)/\(↑m:Int)<=1099511627776)) (V.own (300106:Nat)) [((300106:Nat),some (Ob.row (4:Nat) (1:Nat) m fun(x:Nat)=>[V.c (Value.bool false)]))] false))] ⟨⟨oM,oM⟩,tI⟩ ?_;refine aa ?_;refine ai ?_;refine hK _ ?_;clear hK K;refine bu fun C hF hC K hK=> ?_;refine aj (n':=5) kR kR ?_;refine aY ah 4 [(2,.c ((0:Int)<=(↑k:Int)/\(↑k:Int)< (↑m:Int)) oM),(0,.c (k< m/\(0:Nat)+(1:Nat)<=(1:Nat)) oM)] ?_;refine aa ?_;refine ai ?_;refine hK _ ?_;clear hK K;refine Ie (vj 11 300106 (e:=(4:Nat)) (sz:=(1:Nat)) (n:=m) (n':=m) (row:=fun(j:Nat)=>if j=k then [V.b true]else [V.c (Value.bool false)]) (row':=(gh fun j=>decide (j=k))) kR kR (fun _ _=>by repeat' (first |rfl |apply V.idfL_appRow |apply V.idfL_take |apply V.idfL_drop |split)) ?_ ?_) ?_;·rfl
   ·intro j _;show(if j=k then [V.b true]else [V.b false])=[V.b (decide (j=k))];by_cases h:j=k;·rw [if_pos h,decide_eq_true h]
    ·rw [if_neg h,decide_eq_false h]
   clear stopY;refine cP (mq 5 kR rfl fun C hF hC=> ?_);refine aY ah 5 [] ?_;refine aa ?_;have hget:=Cb (S:=S) (T:=T) hk1;refine⟨kR,kR,by kernel_rfl,⟨_,hget,cq.refl _,trivial⟩,rfl,fun C hF hC=> ?_,fun C hF hC=> ?_⟩;·refine an ah (M:=[]) (n:=1) [pv (116:Nat) (V.b false)] kR kR tI ?_;refine aa ?_;refine ec ?_;refine dg (t:=false) kR (fun h=>by cases h) (fun _=> ?_);refine fD ?_;refine uu ?_;refine ec ?_;refine fO fun C hF hC=> ?_;refine aj (n':=7) kR kR ?_;refine aY ah 2 [(0,.c (iR ((↑k:Int)+1)) oM)] ?_;refine aa ?_;refine ec ?_;refine⟨rfl,k+1,by omega,?_,by omega,by omega⟩;refine aC [] (.cons kR (.cons kR (.cons kR (.cons kR (.cons kR .nil))))) .nil kR kR
   ·refine an ah (M:=[]) (n:=1) [pv (116:Nat) (V.b true)] kR kR tI ?_;refine aa ?_;refine ec ?_;refine dg (t:=true) kR (fun _=> ?_) (fun h=>by cases h);refine mU ?_;refine mc ?_;refine iQ ?_;refine iQ ?_;refine mc ?_;exact⟨.inr rfl,fun h=>(by cases h),fun _=>(List.getElem?_eq_some_iff.1 hget).1⟩
  ·obtain rfl:k=m:=by simp at c3;omega
   refine bg ?_;refine bO ?_;refine yj ?_;refine js ?_;exact⟨.inl rfl,fun _=>(HR _ _ _).symm,fun h=>by cases h⟩
end Go.Proofs.YtjmbpjlojjgggaaGreatDoor
