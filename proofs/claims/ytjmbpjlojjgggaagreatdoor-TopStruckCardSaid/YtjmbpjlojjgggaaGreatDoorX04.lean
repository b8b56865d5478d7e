/-
  Several texts in one: Calls whose arguments are numerals, run to their ends: what they call is run, too. No condition. .. Which tips are valid; what a tip reads and sweeps, by the program. No condition but the sizes of slices.
-/
import Derived.Test.YtjmbpjlojjgggaaGreatDoorProg
import Derived.Deep.RegionWith
import Derived.Deep.DeepMust
import Derived.Deep.RegionLaw
import Derived.Test.YtjmbpjlojjgggaaGreatDoorX03
import Derived.Test.YtjmbpjlojjgggaaGreatDoorX01
import Derived.Test.YtjmbpjlojjgggaaGreatDoorMA
namespace Go.Ab
open Go.RowKit Go.Dw Go.Shelf
noncomputable section
def argT:Nat→List V→TR→TR
 |_,[],tr=>tr
 |i,v::l,tr=>argT (i+1) l (TR.put 10 tr i v)
theorem argT_get:∀(l:List V) (i:Nat) (tr:TR) (t:Nat),i+l.length≤1000→(argT i l tr).get t=if i≤t∧t< i+l.length then l.getD (t- i) .any else tr.get t
 | [],i,tr,t,_=>by simp only [argT,List.length_nil];rw [if_neg oM]
 |v::l,i,tr,t,h=>by
  simp only [List.length_cons]at h
  simp only [argT,List.length_cons]
  rw [argT_get l (i+1) _ t oM,TR.put_upd oM]
  by_cases h1:t=i
  ·
   subst h1
   rw [if_neg oM,if_pos oM,upd_same,Nat.sub_self]
   rfl
  ·
   rw [upd_ne _ _ h1]
   by_cases h2:i+1≤t∧t< i+1+l.length
   ·
    rw [if_pos h2,if_pos oM,show t- i=(t- (i+1))+1 by omega]
    rfl
   ·
    rw [if_neg h2,if_neg oM]
def insS:Nat→List Ob→List (Nat×Option Ob)
 |_,[]=>[]
 |k,o::l=>(k,some o)::insS (k+1) l
theorem insS_get:∀(l:List Ob) (k i:Nat),lkS (insS k l) i=if k≤i then l[i- k]? else none
 | [],k,i=>by simp [insS,lkS]
 |o::l,k,i=>by
  simp only [insS,lkS]
  split
  ·
   rename_i h
   have h:=Nat.eq_of_beq_eq_true h
   subst h
   rw [if_pos (Nat.le_refl _),Nat.sub_self];rfl
  ·
   rename_i h
   have h:=Nat.ne_of_beq_eq_false h
   rw [insS_get l (k+1) i]
   by_cases h2:k≤i
   ·
    rw [if_pos h2,if_pos oM,show i- k=(i- (k+1))+1 by omega];rfl
   ·
    rw [if_neg h2,if_neg oM]
def startS(args:List V)(ins:List Ob):CS:=⟨argT 0 args .e,insS 500 ins,1⟩
theorem startS_den{args:List V}{ins:List Ob}(h:args.length≤1000):(startS args ins).den=⟨fun t=>args.getD t .any,insF ins,1⟩:=by
 unfold CS.den startS
 congr 1
 ·
  funext t
  simp only
  rw [argT_get args 0 .e t oM,TR.get_e]
  simp only [Nat.zero_le,true_and,Nat.zero_add,Nat.sub_zero]
  split
  ·
   rfl
  ·
   rename_i h1
   rw [List.getD_eq_getElem?_getD,List.getElem?_eq_none oM];rfl
 ·
  funext i
  exact insS_get ins 500 i
def resT(s:CS):List ResultVar→List (Nat×V)
 | []=>[]
 | .tmp t::l=>(t,s.tr.get t)::resT s l
 | .cell a _::l=>(a,s.tr.get a)::resT s l
def outL(σ:Nat→Option Ob)(g:Nat→Nat):Nat→Nat→List (Option (Ob×Ob))
 |_,0=>[]
 |k,n+1=>(match σ k with
  |some o=>match nOb g o with
   |some o'=>some (o,o')
   |none=>none
  |none=>none)::outL σ g (k+1) n
def snds:List (Option (Ob×Ob))→List (Option Ob)
 | []=>[]
 |o::l=>o.map Prod.snd::snds l
def backO(g:Nat→Nat):List (Option (Ob×Ob))→List (CE×CE)
 | []=>[]
 |some p::l=>cBackE g [p]++backO g l
 |none::l=>backO g l
def stayL(g:Nat→Nat):List Ob→List (CE×CE)
 | []=>[]
 |o::l=>stayE g o++stayL g l
def stayO(g:Nat→Nat):List (Option Ob)→List (CE×CE)
 | []=>[]
 |some o::l=>stayE g o++stayO g l
 |none::l=>stayO g l
def cExL:Nat→List (Ob×Ob)→List (Nat×Ob)
 |_,[]=>[]
 |k,p::l=>(k,p.2)::cExL (k+1) l
theorem cExL_mem:∀ {l:List (Ob×Ob)}{k:Nat}{p:Nat×Ob},p∈cExL k l→∃(i:Nat) (q:Ob×Ob),l[i]?=some q∧p.1=k+i∧p.2=q.2
 | [],_,_,h=>by simp [cExL]at h
 |q::l,k,p,h=>by
  rcases List.mem_cons.1 h with rfl |h
  ·
   exact⟨0,q,rfl,rfl,rfl⟩
  ·
   obtain⟨i,q',h1,h2,h3⟩:=cExL_mem h
   exact⟨i+1,q',by simpa using h1,by omega,h3⟩
def cRet2(T:List TI)(fn:Func)(n:Nat)(s:CS)(nl:List Nat)(tl:List (Nat×V))(m:Nat)(all:List (Ob×Ob))(outs:List (Option (Ob×Ob))):Option CR:=
 match decide (((slO 0 (((all.take m).map Prod.snd).map some)++(slO 500 (snds outs)++cExL m (all.drop m))).map fun p=>lookG (numL 0 nl) s.nx p.1).Nodup) && ((numL 0 nl).all (fun p=>decide (p.1< 500)) && (decide (((all.take m).map Prod.snd).length≤90) && Nat.ble nl.length 400))with
 |true=>match resV T ⟨mkT (renP (invN nl) tl),mkS (slO 0 (((all.take m).map Prod.snd).map some)++(slO 500 (snds outs)++cExL m (all.drop m))),1⟩ fn.results.toList with
  |some v=>some ⟨v,snds outs,(all.take m).map Prod.snd,.lf ((.vs (vals tl),.vs (V.renL (lookG (numL 0 nl) s.nx) (vals (renP (invN nl) tl))))::
    (.vs [v],.vs [v.ren (clampM ((all.take m).map Prod.snd).length n 1)])::(cBackE (lookG (numL 0 nl) s.nx) all++(backO (lookG (numL 0 nl) s.nx) outs++(stayL (clampM ((all.take m).map Prod.snd).length n 1) ((all.take m).map Prod.snd)++stayO (clampM ((all.take m).map Prod.snd).length n 1) (snds outs)))))⟩
  |none=>none
 |false=>none
def cRet1(T:List TI)(fn:Func)(n:Nat)(s:CS)(nl:List Nat)(tl:List (Nat×V))(m:Nat):Option CR:=
 match insL (lkS s.sl) (invN nl) nl with
 |some all=>cRet2 T fn n s nl tl m all (outL (lkS s.sl) (invN nl) 500 n)
 |none=>none
def cRet0(T:List TI)(fn:Func)(n:Nat)(s:CS)(nv:List Nat):Option CR:=
 cRet1 T fn n s (nv++notIn (pinL n++nv) (reachN (lkS s.sl) 1000 (idsP (resT s fn.results.toList)) [])) (resT s fn.results.toList) nv.length
def cRet(T:List TI)(fn:Func)(n:Nat)(s:CS):Option CR:=match resV T s.den fn.results.toList with
 |some v0=>cRet0 T fn n s (notIn (pinL n) (reachN (lkS s.sl) 1000 (v0.ids++pinL n) []))
 |none=>none
theorem outL_get{σ:Nat→Option Ob}{g:Nat→Nat}:∀ {n k i:Nat}{p:Ob×Ob},(outL σ g k n)[i]?=some (some p)→i< n∧σ (k+i)=some p.1∧nOb g p.1=some p.2
 |0,_,_,_,h=>by simp [outL]at h
 |n+1,k,0,p,h=>by
  simp only [outL,List.getElem?_cons_zero,Option.some.injEq]at h
  split at h
  ·
   rename_i o ho
   split at h
   ·
    rename_i o' ho'
    simp only [Option.some.injEq]at h
    subst h
    exact⟨by omega,ho,ho'⟩
   ·
    cases h
  ·
   cases h
 |n+1,k,i+1,p,h=>by
  simp only [outL,List.getElem?_cons_succ]at h
  obtain⟨h1,h2,h3⟩:=outL_get h
  exact⟨by omega,by rw [←h2];congr 1;omega,h3⟩
theorem outL_len{σ:Nat→Option Ob}{g:Nat→Nat}:∀ {n k:Nat},(outL σ g k n).length=n
 |0,_=>rfl
 |n+1,k=>by simp [outL,outL_len]
theorem snds_get:∀ {l:List (Option (Ob×Ob))}{i:Nat}{o:Option Ob},(snds l)[i]?=some o→∃q,l[i]?=some q∧o=q.map Prod.snd
 | [],_,_,h=>by simp [snds]at h
 |q::l,0,o,h=>by simp [snds]at h;exact⟨q,rfl,h.symm⟩
 |q::l,i+1,o,h=>by simpa using snds_get (l:=l) (by simpa [snds]using h)
theorem snds_len:∀ {l:List (Option (Ob×Ob))},(snds l).length=l.length
 | []=>rfl
 |_::l=>by simp [snds,snds_len]
theorem backO_get{g:Nat→Nat}:∀ {l:List (Option (Ob×Ob))},EqE (backO g l)→∀ {i:Nat}{p:Ob×Ob},l[i]?=some (some p)→EqE (cBackE g [p])
 |some q::l,h,0,p,hp=>by simp at hp;subst hp;exact h.l
 |none::l,h,0,p,hp=>by simp at hp
 |some q::l,h,i+1,p,hp=>backO_get h.r (by simpa using hp)
 |none::l,h,i+1,p,hp=>backO_get (l:=l) h (by simpa using hp)
theorem stayL_get{g:Nat→Nat}:∀ {l:List Ob},EqE (stayL g l)→∀ {i:Nat}{o:Ob},l[i]?=some o→EqE (stayE g o)
 |q::l,h,0,p,hp=>by simp at hp;subst hp;exact h.l
 |q::l,h,i+1,p,hp=>stayL_get h.r (by simpa using hp)
theorem stayO_get{g:Nat→Nat}:∀ {l:List (Option Ob)},EqE (stayO g l)→∀ {i:Nat}{o:Ob},l[i]?=some (some o)→EqE (stayE g o)
 |some q::l,h,0,p,hp=>by simp at hp;subst hp;exact h.l
 |none::l,h,0,p,hp=>by simp at hp
 |some q::l,h,i+1,p,hp=>stayO_get h.r (by simpa using hp)
 |none::l,h,i+1,p,hp=>stayO_get (l:=l) h (by simpa using hp)
theorem resT_mem{s:CS}:∀ {rs:List ResultVar},∀p∈resT s rs,s.tr.get p.1=p.2
 | [],p,h=>by simp [resT]at h
 | .tmp t::l,p,h=>by
  rcases List.mem_cons.1 h with rfl |h
  ·
   rfl
  ·
   exact resT_mem (rs:=l) p h
 | .cell a _::l,p,h=>by
  rcases List.mem_cons.1 h with rfl |h
  ·
   rfl
  ·
   exact resT_mem (rs:=l) p h
theorem okR_same{g:Nat→Nat}{l:List (Option Ob)}(h:∀(i:Nat) (o:Ob),l[i]?=some (some o)→o.ren g=o):okR g l=l:=by
 unfold okR
 refine List.ext_getElem? fun i=> ?_
 rw [List.getElem?_map]
 cases hi:l[i]? with
 |none=>rfl
 |some o=>
  cases o with
  |none=>rfl
  |some o=>simp [h i o hi]
theorem takeG{l:List (Ob×Ob)}{m i:Nat}{q:Ob×Ob}(h:(l.take m)[i]?=some q):l[i]?=some q:=by
 rw [List.getElem?_take]at h
 split at h
 ·
  exact h
 ·
  cases h
theorem cRet_ok{T:List TI}{fn:Func}{n:Nat}{s:CS}{r:CR}{e:Exit}(hn:n≤400)(he:e= .normal∨e= .ret)(h:cRet T fn n s=some r)(hE:EqT r.e) :
  RetPostM T fn n r.v r.outs r.obs e s.den∧r.outs.length=n∧r.obs.length≤90:=by
 unfold cRet at h
 split at h
 ·
  unfold cRet0 at h
  generalize notIn (pinL n) _=nv at h
  generalize nv++notIn _ _=nl at h
  generalize nv.length=m at h
  unfold cRet1 at h
  split at h
  ·
   rename_i obs hobs
   unfold cRet2 at h
   split at h
   ·
    rename_i hb
    split at h
    ·
     rename_i v hv
     injection h with h;subst h
     simp only [Bool.and_eq_true]at hb
     obtain⟨hb1,hb2,hb3,hb4⟩:=hb
     have hob:=of_decide_eq_true hb3
     obtain⟨hlen,hget⟩:=insL_get hobs
     have hnl:=Nat.le_of_ble_eq_true hb4
     have hE':EqE _:=hE
     have e1:=hE'.hd
     injection e1 with e1
     have e2:=hE'.tl.hd
     injection e2 with e2
     have hB:=hE'.tl.tl.l
     have hO:=hE'.tl.tl.r.l
     have hS:=hE'.tl.tl.r.r.l
     have hSO:=hE'.tl.tl.r.r.r
     simp only [V.renL,List.cons.injEq,and_true]at e2
     refine⟨retMx (tm:=s.tr.get) (σ:=lkS s.sl) (nx:=s.nx) (numL 0 nl) (renP (invN nl) (resT s fn.results.toList)) (cExL m (obs.drop m)) he (renP_all resT_mem e1) (all_mem fun p hp=> ?_) hb1 hb2 hb3 hv rfl e2.symm (okR_same fun i o hi=> ?_),by rw [snds_len,outL_len],hob⟩
     ·
      rcases List.mem_append.1 hp with hp |hp
      ·
       obtain⟨i,h1,h2⟩:=slO_mem hp
       simp only [List.getElem?_map,Option.map_eq_some_iff]at h2
       obtain⟨o',⟨q,hq,rfl⟩,h4⟩:=h2
       injection h4 with h4
       have hq:=takeG hq
       obtain⟨k,hk,hσ,hno⟩:=hget i q hq
       have hg:lookG (numL 0 nl) s.nx p.1=k:=by
        unfold lookG
        rw [h1,numL_find hk]
       refine⟨q.1,by rw [hg];exact hσ,?_⟩
       rw [←h4]
       exact nOb_eq hno (cBackE_get hB hq)
      rcases List.mem_append.1 hp with hp |hp
      rotate_left
      ·
       obtain⟨i,q,hq,h1,h2⟩:=cExL_mem hp
       rw [List.getElem?_drop]at hq
       obtain⟨k,hk,hσ,hno⟩:=hget (m+i) q hq
       have hg:lookG (numL 0 nl) s.nx p.1=k:=by
        unfold lookG
        rw [h1,show m+i=0+(m+i) by omega,numL_find hk]
       refine⟨q.1,by rw [hg];exact hσ,?_⟩
       rw [h2]
       exact nOb_eq hno (cBackE_get hB hq)
      ·
       obtain⟨i,h1,h2⟩:=slO_mem hp
       obtain⟨q,hq,hq2⟩:=snds_get h2
       cases q with
       |none=>cases hq2
       |some q=>
        simp only [Option.map_some,Option.some.injEq]at hq2
        obtain⟨hin,hσ,hno⟩:=outL_get hq
        have hg:lookG (numL 0 nl) s.nx p.1=500+i:=by
         unfold lookG
         rw [h1,numL_none oM]
         exact if_pos oM
        refine⟨q.1,by rw [hg];exact hσ,?_⟩
        rw [hq2]
        exact nOb_eq hno (backO_get hO hq)
     ·
      by_cases hlt:i< ((obs.take m).map Prod.snd).length
      ·
       rw [List.getElem?_append_left (by simpa using hlt)]at hi
       simp only [List.getElem?_map,Option.map_eq_some_iff]at hi
       obtain⟨o',⟨q,hq,rfl⟩,h4⟩:=hi
       injection h4 with h4
       have hq0:=hq
       have hq:=takeG hq
       obtain⟨k,hk,hσ,hno⟩:=hget i q hq
       rw [←h4]
       exact nOb_stay hno (stayL_get hS (i:=i) (by rw [List.getElem?_map,hq0];rfl))
      ·
       rw [List.getElem?_append_right (by simpa using Nat.le_of_not_lt hlt)]at hi
       obtain⟨q,hq,hq2⟩:=snds_get hi
       cases q with
       |none=>cases hq2
       |some q=>
        simp only [Option.map_some,Option.some.injEq]at hq2
        obtain⟨hin,hσ,hno⟩:=outL_get hq
        rw [hq2]
        rw [hq2]at hi
        exact nOb_stay hno (stayO_get hSO hi)
    ·
     cases h
   ·
    cases h
  ·
   cases h
 ·
  cases h
def fzV:Ob→V
 | .row _ sz n f=> .sl sz n f
 | .box _ cs=> .ptr cs
 | .mp _ _=> .any
def fzA:Nat→List Ob→List V→List V
 |_,[],args=>args
 |k,o::l,args=>fzA (k+1) l (V.fzL k (fzV o) args)
def idfO:List Ob→Bool
 | []=>true
 | .row _ _ n f::l=>match ((List.range n).map f).all V.idfL with
  |true=>idfO l
  |false=>false
 | .box _ cs::l=>match V.idfL cs with
  |true=>idfO l
  |false=>false
 | .mp _ _::_=>false
theorem idfO_get:∀ {l:List Ob},idfO l=true→∀ {i:Nat}{o:Ob},l[i]?=some o→match o with
  | .row _ _ n f=>∀i,i< n→V.idfL (f i)=true
  | .box _ cs=>V.idfL cs=true
  | .mp _ _=>False
 | [],_,i,o,hi=>by simp at hi
 | .row e sz n f::l,h,i,o,hi=>by
  simp only [idfO]at h
  split at h
  ·
   rename_i ha
   cases i with
   |zero=>
    simp at hi;subst hi
    intro j hj
    have:=rowOf_idf ha j
    rwa [rowOf_map hj]at this
   |succ i=>exact idfO_get h (by simpa using hi)
  ·
   cases h
 | .box t cs::l,h,i,o,hi=>by
  simp only [idfO]at h
  split at h
  ·
   rename_i ha
   cases i with
   |zero=>simp at hi;subst hi;exact ha
   |succ i=>exact idfO_get h (by simpa using hi)
  ·
   cases h
 | .mp _ _::l,h,i,o,hi=>by simp [idfO]at h
theorem RV_fz{w:World}{L:Nat→Prop}{ρ:Nat→Option Value}{id:Nat}{v0:V}(h0:∀y,ρ id=some y→R w L ρ v0 y){us:List V}{xs:List Value}(h:RV w L ρ us xs):RV w L ρ (V.fzL id v0 us) xs:=by
 refine⟨by rw [V.fzL_len];exact h.1,fun i u x hu hx=> ?_⟩
 rw [V.fzL_get]at hu
 cases hc:us[i]? with
 |none=>rw [hc]at hu;cases hu
 |some a=>
  rw [hc]at hu
  simp only [Option.map_some,Option.some.injEq]at hu
  subst hu
  exact R_fz h0 _ _ (h.2 i a x hc hx)
theorem RV_fzA{w:World}{L:Nat→Prop}{ρ:Nat→Option Value}{xs:List Value}:∀(l:List Ob) (k:Nat) (us:List V),(∀i o,l[i]?=some o→∀y,ρ (k+i)=some y→R w L ρ (fzV o) y)→RV w L ρ us xs→RV w L ρ (fzA k l us) xs
 | [],_,_,_,h=>h
 |o::l,k,us,h0,h=>RV_fzA l (k+1) _ (fun i o' hi y hy=>h0 (i+1) o' (by simpa using hi) y (by rw [←hy];congr 1;omega)) (RV_fz (fun y hy=>h0 0 o rfl y hy) h)
theorem AM.keep{P:Program}{f:FuncId}{args:List V}{ins:List Ob}{v:V}(h:AM P f (fzA 500 ins args) [] v [] [])(hi:V.idfL (fzA 500 ins args)=true)(hi2:idfO ins=true)(hv:v.flatT=true):AM P f args ins v (ins.map some) []:=by
 refine⟨h.1,fun W LB L w ρ vs hwl hWL hG hρ hvs=> ?_⟩
 have hins:∀i o,ins[i]?=some o→insF ins (500+i)=some o:=fun i o hi=>by
  unfold insF;rw [if_pos oM,Nat.add_sub_cancel_left];exact hi
 obtain⟨Lx,hLx⟩:∃Lx:Nat→Prop,∀b,Lx b↔L b∨∃i x,i< ins.length∧ρ (500+i)=some x∧blk x=some b:=⟨_,fun _=>Iff.rfl⟩
 have hobj:∀i o,ins[i]?=some o→∃y,ρ (500+i)=some y∧(∀k,blk y=some k→k< w.heap.size∧W k∧¬L k)∧R w Lx ρ (fzV o) y:=by
  intro i o hio
  have hlt:=(List.getElem?_eq_some_iff.1 hio).1
  have hr:=hG.ob _ _ (hins i o hio)
  have hc:=idfO_get hi2 hio
  have fin:∀u y,ρ (500+i)=some y→(∀k,blk y=some k→k< w.heap.size∧W k∧¬L k)→R w (fun b=>L b∨blk y=some b) ρ u y→∃y,ρ (500+i)=some y∧(∀k,blk y=some k→k< w.heap.size∧W k∧¬L k)∧R w Lx ρ u y:=fun u y h1 h2 h3=>
   ⟨y,h1,h2,h3.ext ⟨fun b hb=>⟨(hLx b).2 (hb.imp id fun h=>⟨i,y,hlt,h1,h⟩),rfl⟩,fun _ _ h=>h⟩⟩
  cases o with
  |row e sz n row=>
   obtain⟨y,h1,h2,h3⟩:=hr.slice hc
   exact fin _ y h1 h2 h3
  |box t cs=>
   obtain⟨y,h1,h2,h3⟩:=hr.ptr hc
   exact fin _ y h1 h2 h3
  |mp _ _=>exact hc.elim
 have hLb:∀b,Lx b→b< w.heap.size:=fun b hb=>by
  rcases(hLx b).1 hb with hb | ⟨i,x,hil,hx,hbx⟩
  ·
   exact(hG.ll b hb).1
  ·
   obtain⟨y,h1,h2,_⟩:=hobj i _ (List.getElem?_eq_getElem hil)
   rw [h1]at hx;injection hx with hx;subst hx
   exact(h2 b hbx).1
 have ex:Ext w L ρ w Lx ρ:=⟨fun b hb=>⟨(hLx b).2 (.inl hb),rfl⟩,fun _ _ h=>h⟩
 have hrv:RV w Lx ρ0 (fzA 500 ins args) vs.toList:=by
  refine RV.free (ρ:=ρ) ?_ hi
  refine RV_fzA ins 500 args (fun i o hio y hy=> ?_) ⟨hvs.1,fun i u x hu hx=>(hvs.2 i u x hu hx).ext ex⟩
  obtain⟨y',h1,_,h3⟩:=hobj i o hio
  rw [h1]at hy;injection hy with hy;subst hy;exact h3
 refine(h.2 (fun b=>w.heap.size≤b) (fun b=>Lx b∨w.heap.size≤b) Lx w ρ0 vs (fun b hb=> .inr hb) (fun b hb hL=>by have:=hLb b hL;omega) ⟨fun b hb=>⟨hLb b hb,.inl hb⟩,fun b hb=>⟨hb,.inr hb⟩,(fun id o ho=>by unfold insF at ho;split at ho <;> simp at ho),(fun i j x y k _ _ _ hx=>by cases hx),hG.glE ex⟩ (fun _ _=>rfl) hrv).mono ?_
 rintro e w' ⟨x,rfl,ht,L',ρ',hG',hE',hx,hnn⟩
 have hbel:Below w.heap.size w w':=ht.below (Nat.le_refl _) fun j hj hW=>by have hW':w.heap.size≤j:=hW;omega
 obtain⟨hG2,ex2⟩:=hG.quiet hbel (L':=L) (fun _ h=>h) (fun _ h=> .inl h)
 have eo:outF (ins.map some) []=insF ins:=by
  funext id
  unfold outF insF
  by_cases h5:500≤id
  ·
   rw [if_pos h5,if_pos h5,List.getElem?_map]
   cases ins[id- 500]? <;> rfl
  ·
   rw [if_neg h5,if_neg h5];simp
 refine⟨x,rfl,Tch.of_below hbel fun k _ hk=>(hG.new k hk).1,L,ρ,?_,ex2,hx.flatT hv,fun j _ hj=>hρ j hj⟩
 rw [eo];exact hG2
theorem am_introN{T:List TI}{P:Program}(hT:TabOk T P)(hmx:P.follows .mixedOrders=true){f:FuncId}{fn:Func}{c:Code}{N:Nat}(hk:FnOk P f fn c N){args:List V}{ins:List Ob}{v:V}{obs:List Ob}(hargs:args.length≤N)(hn4:ins.length≤400)(ho9:obs.length≤90)
  (h:∀C:Cx P N,C.F=Fence.wide→C.dfs=dp0→AW C c (RetPostM T fn 0 v [] obs) ⟨fun t=>args.getD t .any,insF ins,1⟩):AM P f args ins v (ins.map fun _=>none) obs:=by
 refine⟨hk.call,fun W LB L w ρ vs hwl hWL hG hρn hvs=> ?_⟩
 obtain⟨C,hW,hLB,hd,hFw⟩:∃C:Cx P N,C.W=W∧C.LB=LB∧C.dfs=dp0∧C.F=Fence.wide:=⟨⟨W,LB,hwl,dp0,hmx,Fence.wide,.inl rfl⟩,rfl,rfl,rfl,rfl⟩
 have hvl:vs.size=args.length:=by have:=hvs.1;simpa using this.symm
 refine callsIn_wide.1 (callsIn_of_wp_marks (n:=0) hk.hf hk.hb trivial ?_ rfl)
 have hw:=h C hFw hd
 unfold AW at hw
 rw [hFw]at hw
 refine wpIn_mono (hw _ w ⟨L,ρ,⟨?_,fun id hid=> ?_,fun t=> ?_,?_,?_,fun id x hp=> ?_⟩⟩) ?_
 ·
  rw [hW,hLB];exact hG
 ·
  have hid':1*100000≤id:=hid
  exact hρn id (.inr oM)
 ·
  by_cases ht:t< args.length
  ·
   have h1:args[t]?=some args[t]:=List.getElem?_eq_getElem ht
   obtain⟨x,hx,hr⟩:=hvs.get h1
   have e1:args.getD t .any=args[t]:=by simp [List.getD_eq_getElem?_getD,h1]
   have e2:(vs++Array.replicate (fn.ntmps- vs.size) undef).getD t undef=x:=by
    rw [Array.getD_eq_getD_getElem?,Array.getElem?_append_left oM]
    have:vs[t]?=some x:=by simpa using hx
    rw [this];rfl
   show R w L ρ (args.getD t .any) _
   rw [e1,e2];exact hr
  ·
   have e1:args.getD t .any= .any:=by simp [List.getD_eq_getElem?_getD,List.getElem?_eq_none (Nat.le_of_not_lt ht)]
   show R w L ρ (args.getD t .any) _
   rw [e1];exact .any _ _
 ·
  rw [←hk.hn]at hargs ⊢
  simp;omega
 ·
  exact⟨[],by rw [hd];rfl,by simp,by simp⟩
 ·
  rw [hd]at hp;cases hp
 ·
  rintro e a' w' ⟨s',⟨he,s'',hle,hres,hob,hout,hcv,hco,hcu⟩,g',t⟩
  obtain⟨L',ρ',g''⟩:=hle C a' w' g'
  rw [hW]at t
  obtain⟨Ds,d1,d2,d3⟩:=g''.defers
  rw [hd,show dp0.tl=[]from rfl,List.append_nil]at d1
  refine end_marks' Ds he d1 d2 (fun D hD=>(d3 D hD).1) fun w2 ht2=> ?_
  obtain⟨g2,e2⟩:=g''.g.marks ht2 d3
  obtain⟨x,hx,hr⟩:=resV_run hT g2 (fun t=>(g''.tm t).ext e2) fn hres
  have hWD:∀D∈Ds,W D:=fun D hD=>by have:=(d3 D hD).2.1;rw [hW]at this;exact this
  have tt:Tch W w w2:=t.trans (ht2.mono fun k _ hkD=>hWD k hkD)
  refine⟨x,hx,x,rfl,tt,?_⟩
  have hr2:R w2 L' (fun i=>ρ' (clampM obs.length 0 s''.nx i)) v x:=R_ren _ _ _ (by rw [hcv];exact hr)
  have hlt:∀i,i< obs.length→clampM obs.length 0 s''.nx i=i:=fun i hi=>by unfold clampM;rw [if_pos (.inl hi)]
  have hoF:∀id o,outF (ins.map fun _=>none) obs id=some o→s''.σ id=some o∧clampM obs.length 0 s''.nx id=id∧o.ren (clampM obs.length 0 s''.nx)=o:=by
   intro id o ho
   unfold outF at ho
   split at ho
   ·
    rename_i h5
    rw [List.getElem?_map]at ho
    cases hq:ins[id- 500]? with
    |none=>rw [hq]at ho;cases ho
    |some q=>rw [hq]at ho;cases ho
   ·
    exact⟨hob id o ho,hlt id (List.getElem?_eq_some_iff.1 ho).1,hco o (List.mem_of_getElem? ho)⟩
  have hfr:∀i,obs.length≤i→ρ' (clampM obs.length 0 s''.nx i)=none:=fun i hi=>by
   have e3:clampM obs.length 0 s''.nx i=s''.nx*100000+i:=if_neg oM
   rw [e3]
   exact g''.fr _ (by unfold freshA;omega)
  obtain⟨ρ2,hρ2⟩:∃ρ2:Nat→Option Value,∀i,ρ2 i=if 500≤i∧i< 500+ins.length then ρ i else ρ' (clampM obs.length 0 s''.nx i):=⟨_,fun _=>rfl⟩
  have hρlt:∀i,i< 500→ρ2 i=ρ' (clampM obs.length 0 s''.nx i):=fun i hi=>by rw [hρ2,if_neg oM]
  have hE2:Ext w2 L' (fun i=>ρ' (clampM obs.length 0 s''.nx i)) w2 (fun b=>L' b∨L b) ρ2:=⟨fun b hb=>⟨.inl hb,rfl⟩,fun id v hv=>by
   by_cases hi:id< obs.length
   ·
    rw [hρlt id oM];exact hv
   ·
    have hv:ρ' (clampM obs.length 0 s''.nx id)=some v:=hv
    rw [hfr id oM]at hv;cases hv⟩
  refine⟨fun b=>L' b∨L b,ρ2,⟨fun b hb=> ?_,fun b hb=> ?_,fun id o ho=> ?_,fun i j x y k hij hi hj=> ?_,g2.glL hE2.l⟩,⟨fun b hb=>⟨.inr hb,tt.block b (hG.ll b hb).1 fun hc=>hWL b hc hb⟩,fun id x hx=> ?_⟩,hr2.ext hE2,fun j hj hj5=> ?_⟩
  ·
   rcases hb with hb |hb
   ·
    have:=g2.ll b hb
    rw [hLB]at this
    exact⟨this.1,this.2⟩
   ·
    exact⟨Nat.lt_of_lt_of_le (hG.ll b hb).1 tt.size,(hG.ll b hb).2⟩
  ·
   exact hG.new b (Nat.le_trans tt.size hb)
  ·
   obtain⟨q1,q2,q3⟩:=hoF id o ho
   have hr0:=g2.ob id o q1
   rw [hW]at hr0
   have hr:Real W w2 L' (fun i=>ρ' (clampM obs.length 0 s''.nx i)) id o:=Real.ren (by rw [q2,q3];exact hr0)
   obtain⟨y,hy,hy2⟩:=hr.lt
   refine hr.keep hE2 fun x k hx hk=> ?_
   rw [hx]at hy;injection hy with hy;subst hy
   refine⟨rfl,?_⟩
   rintro(h1 |h1)
   ·
    exact(hy2 k hk).2.2 h1
   ·
    exact hWL k (hy2 k hk).2.1 h1
  ·
   have key:∀i,outF (ins.map fun _=>none) obs i≠none→s''.σ i≠none∧clampM obs.length 0 s''.nx i=i∧i< 500:=fun i hi=>by
    cases ho:outF (ins.map fun _=>none) obs i with
    |none=>exact absurd ho hi
    |some o=>
     obtain⟨q1,q2,_⟩:=hoF i o ho
     refine⟨by rw [q1];simp,q2,?_⟩
     unfold outF at ho
     split at ho
     ·
      rw [List.getElem?_map]at ho
      cases hq:ins[i- 500]? with
      |none=>rw [hq]at ho;cases ho
      |some q=>rw [hq]at ho;cases ho
     ·
      omega
   rw [hρlt i (key i hi).2.2,hρlt j (key j hj).2.2,(key i hi).2.1,(key j hj).2.1]
   exact g2.sep i j x y k hij (key i hi).1 (key j hj).1
  ·
   by_cases h5:500≤id∧id< 500+ins.length
   ·
    rw [hρ2,if_pos h5];exact hx
   ·
    rw [hρn id oM]at hx;cases hx
  ·
   rw [hρ2,if_neg oM]
   exact hfr j hj
abbrev ML:Type:=List (FuncId×List Nat)
def lkM:ML→FuncId→List Nat
 | [],_=>[]
 | (k,m)::l,f=>match Nat.beq f k with
  |true=>m
  |false=>lkM l f
def entS(mu:List Nat)(f:FuncId)(args:List V)(ins:List Ob):CS:=match inNs mu f with
 |true=>startS args ins
 |false=>frzL (startS args ins) ((List.range ins.length).map (500+ ·))
theorem entS_le(mu:List Nat)(f:FuncId)(args:List V)(ins:List Ob):Le (startS args ins).den (entS mu f args ins).den:=by
 unfold entS
 split
 ·
  exact Le.refl _
 ·
  exact frzL_le _ _
def rngB(call:Clr)(itr:Itr)(itrI:ItrU)(T:List TI)(M mu:List Nat)(N np:Nat):Rng:=fun g ps as0 bd s=>match np with
 |0=>match rngIE call itrI T M mu N 0 g ps as0 bd s with
  |some r=>some r
  |none=>rngE call itr T M mu N 0 g ps as0 bd s
 |k+1=>rngE call itr T M mu N (k+1) g ps as0 bd s
theorem rngB_ok{P:Program}{N:Nat}{C:Cx P N}{T:List TI}{M mu:List Nat}{call:Clr}{itr:Itr}{itrI:ItrU}{np:Nat}(hT:TabOk T P)(hcl:ClrOk P call)(hit:ItrOk P itr)(hitI:ItrOkI P itrI)(hF:C.F=Fence.wide)(hpin:∀id x,C.dfs.pin id=some x→500≤id∧id< 500+np)(htl:C.dfs.tl=[]):RngOk C (rngB call itr itrI T M mu N np):=by
 intro g ps as0 bd s e s' t h he Q hQ
 unfold rngB at h
 split at h
 ·
  split at h
  ·
   rename_i r hr
   injection h with h;subst h
   have hd:C.dfs=dp0:=by
    have hp:C.dfs.pin=fun _=>none:=by
     funext id
     cases hx:C.dfs.pin id with
     |none=>rfl
     |some x=>have:=hpin id x hx;omega
    generalize C.dfs=D at hp htl
    cases D
    simp only at hp htl
    subst hp htl
    rfl
   exact rngIE_ok hT hcl hitI hF hd _ _ _ _ _ _ _ _ hr he Q hQ
  ·
   exact rngE_ok hT hcl hit hF hpin _ _ _ _ _ _ _ _ h he Q hQ
 ·
  exact rngE_ok hT hcl hit hF hpin _ _ _ _ _ _ _ _ h he Q hQ
def cEnd(T:List TI)(fn:Func)(n:Nat)(r:Exit×CS×CT):Option CR:=match r.1 with
 | .ret=>oE (cRet T fn n r.2.1) none fun q=>some ⟨q.v,q.outs,q.obs,cNd r.2.2 q.e⟩
 | .normal=>oE (cRet T fn n r.2.1) none fun q=>some ⟨q.v,q.outs,q.obs,cNd r.2.2 q.e⟩
 |_=>none
def cFun(call:Clr)(itr:Itr)(itrI:ItrU)(T:List TI)(M mu:List Nat)(f:FuncId)(fn:Func)(c:Code)(args:List V)(ins:List Ob):Option CR:=
 oE (evalC call (rngB call itr itrI T M mu fn.ntmps ins.length) T M mu fn.ntmps c (entS mu f args ins)) none (cEnd T fn ins.length)
def cKeep(o:Option CR)(ins:List Ob)(els:Option CR):Option CR:=match o with
 |some r=>match r.outs with
  | []=>match r.obs with
   | []=>match r.v.flatT with
    |true=>some ⟨r.v,ins.map some,[],r.e⟩
    |false=>els
   |_::_=>els
  |_::_=>els
 |none=>none
def cEndN(T:List TI)(fn:Func)(ins:List Ob)(r:Exit×CS×CT):Option CR:=match r.1 with
 | .ret=>oE (cRet T fn 0 r.2.1) none fun q=>some ⟨q.v,ins.map fun _=>none,q.obs,cNd r.2.2 q.e⟩
 | .normal=>oE (cRet T fn 0 r.2.1) none fun q=>some ⟨q.v,ins.map fun _=>none,q.obs,cNd r.2.2 q.e⟩
 |_=>none
def cFunN(call:Clr)(itr:Itr)(itrI:ItrU)(T:List TI)(M mu:List Nat)(f:FuncId)(fn:Func)(c:Code)(args:List V)(ins:List Ob):Option CR:=
 oE (evalC call (rngB call itr itrI T M mu fn.ntmps 0) T M mu fn.ntmps c (entS mu f args ins)) none (cEndN T fn ins)
def cFun2(call:Clr)(itr:Itr)(itrI:ItrU)(T:List TI)(M mu:List Nat)(f:FuncId)(fn:Func)(c:Code)(args:List V)(ins:List Ob):Option CR:=match ins with
 | []=>cFun call itr itrI T M mu f fn c args []
 |o::l=>match inNs mu f with
  |true=>cFun call itr itrI T M mu f fn c args (o::l)
  |false=>match idfO (o::l) && V.idfL (fzA 500 (o::l) args)with
   |true=>cKeep (cFun call itr itrI T M mu f fn c (fzA 500 (o::l) args) []) (o::l) (cFun call itr itrI T M mu f fn c args (o::l))
   |false=>match cFun call itr itrI T M mu f fn c args (o::l)with
    |some r=>some r
    |none=>cFunN call itr itrI T M mu f fn c args (o::l)
def itrS(caps:List V)(l:Nat):CS:=startS (V.c (.func (.yield l) #[] #[])::caps) []
theorem itrS_den{caps:List V}{l:Nat}(h:caps.length+1≤1000):(itrS caps l).den=⟨fun t=>((V.c (.func (.yield l) #[] #[]))::caps).getD t .any,fun _=>none,1⟩:=by
 have h1:=startS_den (args:=V.c (.func (.yield l) #[] #[])::caps) (ins:=[]) (by simpa using h)
 have e:insF []=fun _=>none:=by
  funext i
  unfold insF
  split <;> simp
 rw [e]at h1
 exact h1
def itrSU(caps:List V)(ins:List Ob)(l:Nat):CS:=startS (V.c (.func (.yield l) #[] #[])::caps) ins
theorem itrSU_den{caps:List V}{ins:List Ob}{l:Nat}(h:caps.length+1≤1000):(itrSU caps ins l).den=⟨fun t=>((V.c (.func (.yield l) #[] #[]))::caps).getD t .any,insF ins,1⟩:=
 startS_den (args:=V.c (.func (.yield l) #[] #[])::caps) (ins:=ins) (by simpa using h)
def itrRU(call:Clr)(T:List TI)(M mu:List Nat)(N:Nat)(c:Code)(caps:List V)(ins:List Ob)(l:Nat):Option (List (List V)×CT):=jRun true call T M mu N l 20000 (.code c [] (itrSU caps ins l))
def cItrU(P:Program)(T:List TI)(M:ML)(mu:List Nat)(call:Clr):ItrU:=fun f caps ins=>match P.funcs[f]? with
 |some fn=>match fn.body with
  |some c=>match fn.name == "runtime.NumGoroutine" with
   |false=>match fn.results with
    | ⟨[]⟩=>match Nat.ble (caps.length+1) 1000 && (Nat.ble (caps.length+1) fn.ntmps && Nat.ble ins.length 400)with
     |true=>match itrRU call T (lkM M f) mu fn.ntmps c caps ins 0 with
      |some (es,_)=>some (es,.lf [(.ys fun l=>jVal (itrRU call T (lkM M f) mu fn.ntmps c caps ins l),.ys fun _=>some es),(.n fun l=>(jTr (itrRU call T (lkM M f) mu fn.ntmps c caps ins l)).toL.map Prod.fst,.n fun l=>(jTr (itrRU call T (lkM M f) mu fn.ntmps c caps ins l)).toL.map Prod.snd)])
      |none=>none
     |false=>none
    |_=>none
   |true=>none
  |none=>none
 |none=>none
def itrR(gOk:Bool)(call:Clr)(T:List TI)(M mu:List Nat)(N:Nat)(c:Code)(caps:List V)(l:Nat):Option (List (List V)×CT):=jRun gOk call T M mu N l 20000 (.code c [] (itrS caps l))
def cItrF(gOk:Bool)(P:Program)(T:List TI)(M:ML)(mu:List Nat)(call:Clr):Itr:=fun f caps=>match P.funcs[f]? with
 |some fn=>match fn.body with
  |some c=>match fn.name == "runtime.NumGoroutine" with
   |false=>match fn.results with
    | ⟨[]⟩=>match Nat.ble (caps.length+1) 1000 && Nat.ble (caps.length+1) fn.ntmps with
     |true=>match itrR gOk call T (lkM M f) mu fn.ntmps c caps 0 with
      |some (es,_)=>match gOk || es.all V.flatL with
       |true=>some (es,.lf [(.ys fun l=>jVal (itrR gOk call T (lkM M f) mu fn.ntmps c caps l),.ys fun _=>some es),(.n fun l=>(jTr (itrR gOk call T (lkM M f) mu fn.ntmps c caps l)).toL.map Prod.fst,.n fun l=>(jTr (itrR gOk call T (lkM M f) mu fn.ntmps c caps l)).toL.map Prod.snd)])
       |false=>none
      |none=>none
     |false=>none
    |_=>none
   |true=>none
  |none=>none
 |none=>none
theorem cItr_ok{P:Program}{T:List TI}(hT:TabOk T P)(hmx:P.follows .mixedOrders=true){M:ML}{mu:List Nat}{call:Clr}(hcl:ClrOk P call):ItrOk P (cItrF false P T M mu call):=by
 intro f caps es e h hE
 unfold cItrF at h
 split at h
 ·
  rename_i fn hf
  split at h
  ·
   rename_i c hc
   split at h
   ·
    rename_i hname
    split at h
    ·
     rename_i hres
     split at h
     ·
      rename_i hb
      simp only [Bool.and_eq_true]at hb
      split at h
      ·
       rename_i es0 e0 hr
       split at h
       ·
        rename_i hfl
        simp only [Option.some.injEq,Prod.mk.injEq]at h
        obtain⟨rfl,rfl⟩:=h
        have hE':EqE _:=hE
        have h1:=hE'.hd
        have h2:=hE'.tl.hd
        injection h1 with h1
        injection h2 with h2
        exact ait_of hT hmx hcl ⟨hf,hc,rfl,hname⟩ hres (Nat.le_of_ble_eq_true hb.2) (Nat.le_of_ble_eq_true hb.1) (itrS caps) (fun l=>itrS_den (Nat.le_of_ble_eq_true hb.1)) (fun v hv=>List.all_eq_true.1 (by simpa using hfl) v hv) (fun l=>congrFun h1 l) fun l=>CT.toL_eq (eqE_of (congrFun h2 l))
       ·
        cases h
      ·
       cases h
     ·
      cases h
    ·
     cases h
   ·
    cases h
  ·
   cases h
 ·
  cases h
theorem cItr_okI{P:Program}{T:List TI}(hT:TabOk T P)(hmx:P.follows .mixedOrders=true){M:ML}{mu:List Nat}{call:Clr}(hcl:ClrOk P call):ItrOkI P (cItrU P T M mu call):=by
 intro f caps ins es e h hE
 unfold cItrU at h
 split at h
 ·
  rename_i fn hf
  split at h
  ·
   rename_i c hc
   split at h
   ·
    rename_i hname
    split at h
    ·
     rename_i hres
     split at h
     ·
      rename_i hb
      simp only [Bool.and_eq_true]at hb
      split at h
      ·
       rename_i es0 e0 hr
       simp only [Option.some.injEq,Prod.mk.injEq]at h
       obtain⟨rfl,rfl⟩:=h
       have hE':EqE _:=hE
       have h1:=hE'.hd
       have h2:=hE'.tl.hd
       injection h1 with h1
       injection h2 with h2
       exact ait_ofI hT hmx hcl ⟨hf,hc,rfl,hname⟩ hres (Nat.le_of_ble_eq_true hb.2.1) (Nat.le_of_ble_eq_true hb.2.2) (itrSU caps ins) (fun l=>itrSU_den (Nat.le_of_ble_eq_true hb.1)) (fun l=>congrFun h1 l) fun l=>CT.toL_eq (eqE_of (congrFun h2 l))
      ·
       cases h
     ·
      cases h
    ·
     cases h
   ·
    cases h
  ·
   cases h
 ·
  cases h
def orc(mu:List Nat)(call:Clr):Clr:=fun f args ins=>match args with
 | []=>match ins with
  | []=>match inNs mu (1000000+f)with
   |true=>some ⟨.b true,[],[],c0⟩
   |false=>call f [] []
  |o::l=>call f [] (o::l)
 |a::l=>call f (a::l) ins
def OrcOk(P:Program)(mu:List Nat):Prop:=∀f,inNs mu (1000000+f)=true→AM P f [] [] (.b true) [] []
theorem orc_ok{P:Program}{mu:List Nat}{call:Clr}(hK:OrcOk P mu)(hcl:ClrOk P call):ClrOk P (orc mu call):=by
 refine⟨fun f args ins r hm h hE=> ?_,fun name t r n h hv=>hcl.2 name t r n h hv⟩
 unfold orc at h
 split at h
 ·
  split at h
  ·
   split at h
   ·
    rename_i hk
    injection h with h;subst h
    exact hK f hk
   ·
    exact hcl.1 _ _ _ _ hm h hE
  ·
   exact hcl.1 _ _ _ _ hm h hE
 ·
  exact hcl.1 _ _ _ _ hm h hE
theorem orc_no{P:Program}:∀ {mu:List Nat},(mu.all fun f=>Nat.ble f 999999)=true→OrcOk P mu
 | [],_,f,h=>by cases h
 |k::l,hm,f,h=>by
  simp only [List.all_cons,Bool.and_eq_true]at hm
  simp only [inNs]at h
  split at h
  ·
   rename_i hb
   have:=Nat.eq_of_beq_eq_true hb
   have:=Nat.le_of_ble_eq_true hm.1
   omega
  ·
   exact orc_no hm.2 f h
def lkK:List (FuncId×List V×V)→FuncId→Option (List V×V)
 | [],_=>none
 |k::l,f=>match Nat.beq f k.1 with
  |true=>some k.2
  |false=>lkK l f
def orc2(K:List (FuncId×List V×V))(call:Clr):Clr:=fun f args ins=>match Nat.beq f mth with
 |true=>call mth args ins
 |false=>match ins with
  | []=>match lkK K f with
   |some k=>some ⟨k.2,[],[],.lf [(.vs args,.vs k.1)]⟩
   |none=>call f args []
  |o::l=>call f args (o::l)
def OrcOk2(P:Program)(K:List (FuncId×List V×V)):Prop:=∀f k,lkK K f=some k→AM P f k.1 [] k.2 [] []
theorem orc2_ok{P:Program}{K:List (FuncId×List V×V)}{call:Clr}(hK:OrcOk2 P K)(hcl:ClrOk P call):ClrOk P (orc2 K call):=by
 refine⟨fun f args ins r hm h hE=> ?_,fun name t r n h hv=>hcl.2 name t r n h hv⟩
 unfold orc2 at h
 rw [hm]at h
 simp only at h
 split at h
 ·
  split at h
  ·
   rename_i k hk
   injection h with h;subst h
   have hE':EqE _:=hE
   have e1:=hE'.hd
   injection e1 with e1
   rw [e1]
   exact hK f k hk
  ·
   exact hcl.1 _ _ _ _ hm h hE
 ·
  exact hcl.1 _ _ _ _ hm h hE
def cMth(P:Program)(args:List V):Option CR:=match args with
 | [.fn (.method name) [] [],.c (.int .i64 n)]=>match methQ P name n.toNat with
  |some f=>some ⟨.i (f:Int),[],[],c0⟩
  |none=>none
 |_=>none
def cEvalO(O:Clr→Clr)(P:Program)(T:List TI)(M:ML)(mu:List Nat):Nat→Clr
 |0=>fun _ _ _=>none
 |d+1=>fun f args ins=>match Nat.beq f mth with
  |true=>cMth P args
  |false=>match P.funcs[f]? with
   |some fn=>match fn.body with
    |some c=>match fn.name == "runtime.NumGoroutine" with
     |false=>match Nat.ble args.length 1000 && (Nat.ble args.length fn.ntmps && Nat.ble ins.length 400)with
      |true=>cFun2 (O (cEvalO O P T M mu d)) (cItrF false P T M mu (O (cEvalO O P T M mu d))) (cItrU P T M mu (O (cEvalO O P T M mu d))) T (lkM M f) mu f fn c args ins
      |false=>none
     |true=>none
    |none=>none
   |none=>none
def cEval(P:Program)(T:List TI)(M:ML)(mu:List Nat):Nat→Clr:=cEvalO (orc mu) P T M mu
theorem cFun_ok{P:Program}{T:List TI}{call:Clr}{itr:Itr}{itrI:ItrU}(hT:TabOk T P)(hmx:P.follows .mixedOrders=true)(hcl:ClrOk P call)(hit:ItrOk P itr)(hitI:ItrOkI P itrI){M mu:List Nat}{f:FuncId}{fn:Func}{c:Code}{args:List V}{ins:List Ob}{r:CR}(hk:FnOk P f fn c fn.ntmps)(ha:args.length≤1000)(ha2:args.length≤fn.ntmps)(hi:ins.length≤400)
  (h:cFun call itr itrI T M mu f fn c args ins=some r) (hE:EqT r.e):AM P f args ins r.v r.outs r.obs:=by
 obtain⟨q,hq,h⟩:=oE_none h
 obtain⟨e,s,t⟩:=q
 have key:(e= .normal∨e= .ret)→oE (cRet T fn ins.length s) none (fun q=>some ⟨q.v,q.outs,q.obs,cNd t q.e⟩)=some r→AM P f args ins r.v r.outs r.obs:=by
  intro he h
  obtain⟨r',hr',h⟩:=oE_none h
  injection h with h;subst h
  have hE:=cNd_eq hE
  obtain⟨q1,q2,q3⟩:=cRet_ok hi he hr' hE.2
  refine am_introP hT hmx hk ha2 q2 hi q3 fun C hF hpin htl=> ?_
  have:=evalC_ok (C:=C) (mu:=mu) hT hcl (rngB_ok hT hcl hit hitI hF hpin htl) c _ _ _ _ hq hE.1 (RetPostM T fn ins.length r'.v r'.outs r'.obs) q1
  rw [←startS_den ha]
  exact aw_le (entS_le mu f args ins) this
 unfold cEnd at h
 split at h
 ·
  rename_i h0;exact key (.inr h0) h
 ·
  rename_i h0;exact key (.inl h0) h
 ·
  cases h
theorem cFunN_ok{P:Program}{T:List TI}{call:Clr}{itr:Itr}{itrI:ItrU}(hT:TabOk T P)(hmx:P.follows .mixedOrders=true)(hcl:ClrOk P call)(hit:ItrOk P itr)(hitI:ItrOkI P itrI){M mu:List Nat}{f:FuncId}{fn:Func}{c:Code}{args:List V}{ins:List Ob}{r:CR}(hk:FnOk P f fn c fn.ntmps)(ha:args.length≤1000)(ha2:args.length≤fn.ntmps)(hi:ins.length≤400)
  (h:cFunN call itr itrI T M mu f fn c args ins=some r) (hE:EqT r.e):AM P f args ins r.v r.outs r.obs:=by
 obtain⟨q,hq,h⟩:=oE_none h
 obtain⟨e,s,t⟩:=q
 have key:(e= .normal∨e= .ret)→oE (cRet T fn 0 s) none (fun q=>some ⟨q.v,ins.map fun _=>none,q.obs,cNd t q.e⟩)=some r→AM P f args ins r.v r.outs r.obs:=by
  intro he h
  obtain⟨r',hr',h⟩:=oE_none h
  injection h with h;subst h
  have hE:=cNd_eq hE
  obtain⟨q1,q2,q3⟩:=cRet_ok (Nat.zero_le _) he hr' hE.2
  have e0:r'.outs=[]:=List.eq_nil_of_length_eq_zero q2
  rw [e0]at q1
  refine am_introN hT hmx hk ha2 hi q3 fun C hF hd=> ?_
  have:=evalC_ok (C:=C) (mu:=mu) hT hcl (rngB_ok hT hcl hit hitI hF (fun id x hx=>by rw [hd]at hx;cases hx) (by rw [hd];rfl)) c _ _ _ _ hq hE.1 (RetPostM T fn 0 r'.v [] r'.obs) q1
  rw [←startS_den ha]
  exact aw_le (entS_le mu f args ins) this
 unfold cEndN at h
 split at h
 ·
  rename_i h0;exact key (.inr h0) h
 ·
  rename_i h0;exact key (.inl h0) h
 ·
  cases h
theorem fzA_len:∀(l:List Ob) (k:Nat) (args:List V),(fzA k l args).length=args.length
 | [],_,_=>rfl
 |o::l,k,args=>by rw [fzA,fzA_len l,V.fzL_len]
theorem cFun2_ok{P:Program}{T:List TI}{call:Clr}{itr:Itr}{itrI:ItrU}(hT:TabOk T P)(hmx:P.follows .mixedOrders=true)(hcl:ClrOk P call)(hit:ItrOk P itr)(hitI:ItrOkI P itrI){M mu:List Nat}{f:FuncId}{fn:Func}{c:Code}{args:List V}{ins:List Ob}{r:CR}(hk:FnOk P f fn c fn.ntmps)(ha:args.length≤1000)(ha2:args.length≤fn.ntmps)(hi:ins.length≤400)
  (h:cFun2 call itr itrI T M mu f fn c args ins=some r) (hE:EqT r.e):AM P f args ins r.v r.outs r.obs:=by
 unfold cFun2 at h
 split at h
 ·
  exact cFun_ok hT hmx hcl hit hitI hk ha ha2 hi h hE
 ·
  split at h
  ·
   exact cFun_ok hT hmx hcl hit hitI hk ha ha2 hi h hE
  ·
   split at h
   ·
    rename_i hb
    simp only [Bool.and_eq_true]at hb
    unfold cKeep at h
    split at h
    ·
     rename_i q hq
     split at h
     ·
      rename_i ho
      split at h
      ·
       rename_i hob
       split at h
       ·
        rename_i hf
        injection h with h;subst h
        have:=cFun_ok hT hmx hcl hit hitI hk (by rw [fzA_len];exact ha) (by rw [fzA_len];exact ha2) (Nat.zero_le _) hq hE
        rw [ho,hob]at this
        exact this.keep hb.2 hb.1 hf
       ·
        exact cFun_ok hT hmx hcl hit hitI hk ha ha2 hi h hE
      ·
       exact cFun_ok hT hmx hcl hit hitI hk ha ha2 hi h hE
     ·
      exact cFun_ok hT hmx hcl hit hitI hk ha ha2 hi h hE
    ·
     cases h
   ·
    split at h
    ·
     rename_i r' hr'
     injection h with h;subst h
     exact cFun_ok hT hmx hcl hit hitI hk ha ha2 hi hr' hE
    ·
     exact cFunN_ok hT hmx hcl hit hitI hk ha ha2 hi h hE
theorem cEvalO_ok{O:Clr→Clr}{P:Program}{T:List TI}(hT:TabOk T P)(hmx:P.follows .mixedOrders=true){M:ML}{mu:List Nat}(hO:∀c,ClrOk P c→ClrOk P (O c)):∀d,ClrOk P (cEvalO O P T M mu d)
 |0=>⟨fun f args ins r _ h _=>by(cases h),fun name t r n h _=>by(cases h)⟩
 |d+1=>by
  refine⟨fun f args ins r hm h hE=> ?_,fun name t r n h hv=> ?_⟩
  ·
   unfold cEvalO at h
   rw [hm]at h
   simp only at h
   split at h
   ·
    rename_i fn hf
    split at h
    ·
     rename_i c hc
     split at h
     ·
      rename_i hname
      split at h
      ·
       rename_i hb
       simp only [Bool.and_eq_true]at hb
       exact cFun2_ok hT hmx (hO _ (cEvalO_ok hT hmx hO d)) (cItr_ok hT hmx (hO _ (cEvalO_ok hT hmx hO d))) (cItr_okI hT hmx (hO _ (cEvalO_ok hT hmx hO d))) ⟨hf,hc,rfl,hname⟩ (Nat.le_of_ble_eq_true hb.1) (Nat.le_of_ble_eq_true hb.2.1) (Nat.le_of_ble_eq_true hb.2.2) h hE
      ·
       cases h
     ·
      cases h
    ·
     cases h
   ·
    cases h
  ·
   have h:cMth P [.fn (.method name) [] [],.i (t:Int)]=some r:=h
   unfold cMth at h
   simp only at h
   split at h
   ·
    rename_i f hf
    injection h with h;subst h
    simp only [V.c.injEq,Value.int.injEq,true_and]at hv
    have:=methQ_ok hf
    simp only [Int.toNat_natCast]at this
    rw [←hv]
    simpa using this
   ·
    cases h
def cV(o:Option CR):Option (V×List (Option Ob)×List Ob):=match o with
 |some r=>some (r.v,r.outs,r.obs)
 |none=>none
def cT(o:Option CR):CT:=match o with
 |some r=>r.e
 |none=>c0
theorem cAMO{O:Clr→Clr}{P:Program}{T:List TI}(hT:TabOk T P)(hmx:P.follows .mixedOrders=true)(M:ML)(mu:List Nat)(hO:∀c,ClrOk P c→ClrOk P (O c)){f:FuncId}{args:List V}{ins:List Ob}{v:V}{outs:List (Option Ob)}{obs:List Ob}(h:cV (cEvalO O P T M mu 40 f args ins)=some (v,outs,obs))(hE:(cT (cEvalO O P T M mu 40 f args ins)).l=(cT (cEvalO O P T M mu 40 f args ins)).r)(hf9:Nat.beq f mth=false:=by rfl):AM P f args ins v outs obs:=by
 unfold cV at h
 unfold cT at hE
 split at h
 ·
  rename_i r hr
  simp only [hr]at hE
  injection h with h
  injection h with h1 h2
  injection h2 with h2 h3
  subst h1 h2 h3
  cases hm:Nat.beq f mth with
  |false=>exact(cEvalO_ok hT hmx hO 40).1 f args ins r hm hr (eqT_of hE)
  |true=>rw [hm]at hf9;cases hf9
 ·
  cases h
theorem cAMK{P:Program}{T:List TI}(hT:TabOk T P)(hmx:P.follows .mixedOrders=true)(M:ML)(mu:List Nat)(hK:OrcOk P mu){f:FuncId}{args:List V}{ins:List Ob}{v:V}{outs:List (Option Ob)}{obs:List Ob}(h:cV (cEval P T M mu 40 f args ins)=some (v,outs,obs))(hE:(cT (cEval P T M mu 40 f args ins)).l=(cT (cEval P T M mu 40 f args ins)).r)(hf9:Nat.beq f mth=false:=by rfl):AM P f args ins v outs obs:=
 cAMO hT hmx M mu (fun _=>orc_ok hK) h hE hf9
theorem cAM'{P:Program}{T:List TI}(hT:TabOk T P)(hmx:P.follows .mixedOrders=true)(M:ML)(mu:List Nat){f:FuncId}{args:List V}{ins:List Ob}{v:V}{outs:List (Option Ob)}{obs:List Ob}(h:cV (cEval P T M mu 40 f args ins)=some (v,outs,obs))(hE:(cT (cEval P T M mu 40 f args ins)).l=(cT (cEval P T M mu 40 f args ins)).r)(hm:(mu.all fun f=>Nat.ble f 999999)=true:=by decide)(hf9:Nat.beq f mth=false:=by rfl):AM P f args ins v outs obs:=cAMK hT hmx M mu (orc_no hm) h hE hf9
theorem AM.ac{P:Program}{f:FuncId}{args:List V}{v:V}{obs:List Ob}(h:AM P f args [] v [] obs)(ho:obs.length≤400):AC P f args v obs:=by
 refine⟨h.1,fun L w vs hL hgl hv=> ?_⟩
 refine(h.2 (fun b=>w.heap.size≤b) (fun b=>L b∨w.heap.size≤b) L w ρ0 vs (fun b hb=> .inr hb) (fun b hb hl=>by have:=hL b hl;omega) ⟨fun b hb=>⟨hL b hb,.inl hb⟩,fun b hb=>⟨hb,.inr hb⟩,(fun id o ho=>by unfold insF at ho;split at ho <;> simp at ho),(fun i j x y k _ _ _ hx=>by cases hx),hgl⟩ (fun _ _=>rfl) hv).mono ?_
 rintro e w' ⟨x,rfl,ht,L',ρ',hG',hE',hx,hnn⟩
 have eo:outF [] obs=obsF obs:=by
  funext id
  unfold outF obsF
  by_cases h5:500≤id
  ·
   rw [if_pos h5,show obs[id]?=none from List.getElem?_eq_none oM];simp
  ·
   rw [if_neg h5]
 rw [eo]at hG'
 exact⟨x,rfl,ht.below (Nat.le_refl _) fun j hj hW=>by have hW':w.heap.size≤j:=hW;omega,L',ρ',hG',fun b hb=>(hE'.l b hb).1,hx,fun j hj=>hnn j hj (by simp only [List.length_nil,Nat.add_zero];omega)⟩
theorem AC.am{P:Program}{f:FuncId}{args:List V}{v:V}(h:AC P f args v [])(ha:V.idfL args=true)(hv:v.idf=true):AM P f args [] v [] []:=by
 refine⟨h.1,fun W LB L w ρ vs hwl hWL hG hρ hvs=> ?_⟩
 refine(h.2 L w vs (fun b hb=>(hG.ll b hb).1) hG.gl (hvs.free ha)).mono ?_
 rintro e w' ⟨x,rfl,hbel,L',ρ',hG',hL',hx,_⟩
 obtain⟨Lx,hLx⟩:∃Lx:Nat→Prop,∀b,Lx b↔L b∨(L' b∧w.heap.size≤b):=⟨_,fun _=>Iff.rfl⟩
 obtain⟨hG2,ex2⟩:=hG.quiet hbel (L':=Lx) (fun b hb=>(hLx b).2 (.inl hb)) (fun b hb=>by
  rcases(hLx b).1 hb with hb |hb
  ·
   exact .inl hb
  ·
   exact .inr ⟨hb.2,(hG'.ll b hb.1).1⟩)
 have eo:outF [] []=insF []:=by
  funext id
  unfold outF insF
  split <;> simp
 refine⟨x,rfl,Tch.of_below hbel fun k _ hk=>(hG.new k hk).1,Lx,ρ,?_,ex2,?_,fun j _ hj=>hρ j hj⟩
 ·
  rw [eo];exact hG2
 ·
  have:=hx.free hv ρ
  refine this.mono (fun b hb=>⟨(hLx b).2 ?_,rfl⟩) fun _ _ h=>h
  rcases(hG'.ll b hb).2 with h |h
  ·
   exact .inl h
  ·
   exact .inr ⟨hb,h⟩
theorem orc2_nil{P:Program}:OrcOk2 P []:=fun f k h=>by cases h
theorem orc2_cons{P:Program}{K:List (FuncId×List V×V)}{f0:FuncId}{a0:List V}{v0:V}(h0:AC P f0 a0 v0 [])(ha:V.idfL a0=true)(hv:v0.idf=true)(h:OrcOk2 P K):OrcOk2 P ((f0,a0,v0)::K):=by
 intro f k hk
 simp only [lkK]at hk
 split at hk
 ·
  rename_i hb
  injection hk with hk;subst hk
  have:=Nat.eq_of_beq_eq_true hb
  rw [this]
  exact h0.am ha hv
 ·
  exact h f k hk
end
end Go.Ab

namespace Go.Dw
open Go.RowKit Go.Shelf
def wideR(r:Option Nat):Fence:={Fence.wide with round:=r}
section
variable {P:Program}{ops:Array Oper}{md:Region.Mode}{w:World}{r:Option Nat}{m:Nat}
theorem uponIn_of_still{o:Oper}{a:Act}{K:Act→Prop}{K':Act→World→Prop}{Q':Exit→Act→World→Prop}(h:∀a,K a→K' a w)(hh:o.still P a w K):o.wpIn (wideR r) m P a w K' Q':=by
 refine⟨fun _ _=>trivial,?_⟩
 have hs:o.semAt (wideR r).round a.eval=execOp a.eval o∨∃c,o.op= .defer c:=by
  cases r with
  |none=>exact .inl rfl
  |some l=>
   by_cases hd:∃c,o.op= .defer c
   ·
    exact .inr hd
   ·
    exact .inl (Oper.semAt_some l a.eval o (fun c e=>hd ⟨c,e⟩))
 unfold Oper.still at hh
 rcases hs with hs | ⟨c,hc⟩
 ·
  rw [hs]
  generalize (execOp a.eval o).run P w=x at*
  cases x with
  |ok n w'=>
   cases n <;> simp only [Oper.stillUpon]at hh <;> simp only [Oper.uponIn]
   case enter f args=>
    obtain⟨rfl,v,hc,hn⟩:=hh
    refine⟨fun h=>by simp [wideR,Fence.wide]at h,?_⟩
    show CallsIn Fence.wide (m- 1) P f args w' _
    exact callsIn_wide.2 (hc.mono fun e w'' ⟨he,hw⟩=>by subst he;subst hw;exact h _ hn)
   all_goals (obtain⟨rfl,h2⟩:=hh;exact h _ h2)
  |halt x w'=>simp only [Oper.stillUpon]at hh
 ·
  exfalso
  unfold execOp at hh
  rw [hc]at hh
  simp only [Sem.run_bind]at hh
  generalize (resolve a.eval c o.type).run P w=x at hh
  cases x with
  |ok d w'=>simp [Result.andThen,Oper.stillUpon]at hh
  |halt x w'=>simp [Result.andThen,Oper.stillUpon]at hh
theorem wpOpIn_of_stOp{i:Nat}{a:Act}{K:Act→Prop}{K':Act→World→Prop}{Q':Exit→Act→World→Prop}(h:∀a,K a→K' a w)(hh:stOp P ops w i K a):wpOpIn (wideR r) m P ops Q' i K' a w:=by
 unfold stOp at hh
 unfold wpOpIn
 split
 ·
  rename_i ho;simp only [ho]at hh;exact h _ hh
 ·
  rename_i o ho
  simp only [ho]at hh
  split
  ·
   rename_i hw;simp only [hw,if_true]at hh;exact uponIn_of_still h hh
  ·
   rename_i hw;simp only [hw]at hh;exact⟨fun _ _=>trivial,h _ hh⟩
theorem wpAnyIn_of_head{n g:Nat}{L:Array Bool→Act→Prop}{Q':Exit→Act→World→Prop}(hL:∀listed a,L listed a→wpAnyIn (wideR r) m P md ops Q' g listed a w) :
  ∀(f:Nat) (listed:Array Bool) (a:Act),wpAnyL P md ops w n L f listed a→wpAnyIn (wideR r) m P md ops Q' (f+g) listed a w
 |0,listed,a,h=>by rw [Nat.zero_add];exact hL _ _ h
 |f+1,listed,a,h=>by
  rw [show f+1+g=(f+g)+1 by omega]
  exact⟨fun h0=>absurd h0 h.1,fun i hi=>wpOpIn_of_stOp (fun a' h'=>wpAnyIn_of_head hL f _ a' h') (h.2 i hi).2⟩
theorem wpAnyIn_of_seq{Q':Exit→Act→World→Prop}:∀(l:List Oper) (k:Nat) (listed:Array Bool) (a:Act) (w:World),(∀j,l[j]?=ops[k+j]?)→
  Region.seqB md ops l.length k listed=true→wpListIn (wideR r) m P ops Q' l a w→wpAnyIn (wideR r) m P md ops Q' l.length listed a w
 | [],_,_,_,_,_,hB,h=>⟨by simpa [Region.seqB]using hB,h⟩
 |o::l,k,listed,a,w,hl,hB,h=>by
  have h0:ops[k]?=some o:=by simpa using (hl 0).symm
  simp only [List.length_cons,Region.seqB,Bool.and_eq_true,decide_eq_true_eq]at hB
  refine⟨fun h1=>(by rw [hB.1]at h1;cases h1),fun i hi=> ?_⟩
  rw [hB.1]at hi
  have hik:i=k:=by simpa using hi
  subst hik
  have hw:wpOpIn (wideR r) m P ops Q' i (wpListIn (wideR r) m P ops Q' l) a w:=by unfold wpOpIn;simp only [h0];exact h
  exact wpOpIn_mono (fun a' w' h'=>wpAnyIn_of_seq l (i+1) _ a' w' (fun j=>by have:=hl (j+1);simpa [Nat.add_assoc,Nat.add_comm 1 j]using this) hB.2 h') hw
theorem wpIn_region_still_tailR{id:Nat}{Q:Exit→Act→World→Prop}{a:Act}{w:World}{l:List Oper}(n:Nat)(hm:P.follows .mixedOrders=true)(hB:Region.lexTailB .any l.toArray n=true)
  (h:wpStill P l.toArray w.drew (fun a'=>wpListIn (wideR r) m P l.toArray Q (l.drop n) a' w.drew) (l.take n) a):(Code.region id l.toArray true).wpIn (wideR r) m P Q a w:=by
 simp only [Region.lexTailB,Bool.and_eq_true,decide_eq_true_eq]at hB
 obtain⟨⟨⟨⟨hsel,hn⟩,hs⟩,hc⟩,hlex⟩:=hB
 have hn':n< l.length:=by simpa using hn
 have htl:(l.take n).length=n:=by simp;omega
 have hdl:(l.drop n).length=l.toArray.size- n:=by simp
 have inv0:HeadInv .any l.toArray n (Array.replicate l.toArray.size false):=
  ⟨by simp,fun j oj _ hl=>(by rw [getD_replicate_false]at hl;cases hl),fun t _ ht=>getD_in (by simpa using ht) (getD_replicate_false _ _)⟩
 have H:=wpAnyL_lex (md:= .any) (g:=l.toArray.size- n) hsel hs hc hn (l.take n) 0 _ a (fun j hj=>by
  have hj':j< n:=by rw [htl]at hj;exact hj
  simp [hj']) (by simpa using htl) inv0 (by rw [htl];exact hlex) h
 refine wpIn_region_any hm ?_
 have:=wpAnyIn_of_head (r:=r) (m:=m) (Q':=Q) (g:=l.toArray.size- n) (fun listed a' hL=>by
  have:=wpAnyIn_of_seq (r:=r) (m:=m) (md:= .any) (Q':=Q) (l.drop n) n listed a' w.drew (fun j=>by simp [List.getElem?_drop]) (by rw [hdl];exact hL.1) hL.2
  rwa [hdl]at this) _ _ _ H
 rw [htl,show n+(l.toArray.size- n)=l.toArray.size by omega]at this
 exact this
theorem wpIn_round_still_tail{id lp:Nat}{Q:Exit→Act→World→Prop}{a:Act}{w:World}{l:List Oper}(n:Nat)(hm:P.follows .mixedOrders=true)(hB:Region.lexTailB .any l.toArray n=true)
  (h:wpStill P l.toArray w.drew (fun a'=>wpListIn (Fence.wide.inRound lp) m P l.toArray Q (l.drop n) a' w.drew) (l.take n) a):(Code.region id l.toArray true).wpIn (Fence.wide.inRound lp) m P Q a w:=
 wpIn_region_still_tailR (r:=some lp) n hm hB h
end
end Go.Dw

namespace Go.Proofs.YtjmbpjlojjgggaaGreatDoor
open Go.RowKit Go.Dw Go.Shelf
attribute [local go_sem] Oper.semAt_some
def dist(u i:Nat):Nat:=max (u- i) (i- u)
def nearLo(i r:Nat):Nat:=i+1- r
def nearN(i n r:Nat):Nat:=min n (i+r)- nearLo i r
def nearE(i r k:Nat):Array Value:= #[.int .i64 ((nearLo i r:Int)+(k:Int)),.int .i64 (dist (nearLo i r+k) i:Nat)]
def nearEs(i n r:Nat):List (Array Value):=(List.range (nearN i n r)).map (nearE i r)
set_option maxHeartbeats 1000000 in
theorem near_iter(bi br bn i n r:Nat)(hi:i≤65536)(hn:n≤65536)(hr:r≤65536)(w:World)(R:Nat→Prop)
  (h1:Box w bi 3 #[.int .i64 i]) (h2:Box w br 3 #[.int .i64 r]) (h3:Box w bn 3 #[.int .i64 n]) (r1:¬R bi) (r2:¬R br) (r3:¬R bn) :
  Iter Tryz.prog 182 #[.pointer (some ⟨bi,0,none⟩),.pointer (some ⟨br,0,none⟩),.pointer (some ⟨bn,0,none⟩)] (nearEs i n r) R w:=by
 intro l J Jx W hT hl hlW hJ hJx hY h0
 have hb:∀wr,Tch (fun k=>R k∨k=l) W wr→wr.cell? ⟨bi,0,none⟩=some (.int .i64 i)∧wr.cell? ⟨br,0,none⟩=some (.int .i64 r)∧wr.cell? ⟨bn,0,none⟩=some (.int .i64 n):=fun wr ht=>
  ⟨(ht.box (hT.box h1 r1) (by rintro(e |e);exact r1 e;have:=h1.lt;omega)).cell 0,(ht.box (hT.box h2 r2) (by rintro(e |e);exact r2 e;have:=h2.lt;omega)).cell 0,
   (ht.box (hT.box h3 r3) (by rintro(e |e);exact r3 e;have:=h3.lt;omega)).cell 0⟩
 obtain⟨c1,c2,c3⟩:=hb W (Tch.refl _ _)
 have e1:max (0:Int) ((i:Int)- (r:Int)+1)=((nearLo i r:Nat):Int):=by unfold nearLo;omega
 refine callsIn_of_wp Tryz.func182 rfl trivial ?_ rfl
 simp only [Tryz.ntmps182,List.size_toArray,List.length_cons,List.length_nil,Nat.reduceAdd,Nat.reduceSub,Array.replicate_succ,Array.replicate_zero,List.push_toArray,List.append_toArray,List.nil_append,List.cons_append]
 gi_wp2
 gi_loopw [5] (fun u wr=>∃k:Nat,k≤nearN i n r∧u= .int .i64 ((nearLo i r:Int)+(k:Int))∧J k wr∧Tch (fun k=>R k∨k=l) W wr) (fun u wr=>n- (intOf u).toNat)
 case atStart=>exact⟨0,Nat.zero_le _,rfl,h0,Tch.refl _ _⟩
 case round=>
  obtain⟨k,hk,rfl,hJk,hTk⟩:=hrel
  obtain⟨d1,d2,d3⟩:=hb wr hTk
  have e2:min (n:Int) ((i:Int)+(r:Int))=((min n (i+r):Nat):Int):=by omega
  by_cases hlt:k< nearN i n r
  ·
   obtain⟨fn,tmps,assign,body,hy,hR⟩:=hY k (nearE i r k) wr (by simp [nearEs,hlt]) hTk.size hJk
   have e3:max ((nearLo i r:Int)+(k:Int)- (i:Int)) ((i:Int)- ((nearLo i r:Int)+(k:Int)))=((dist (nearLo i r+k) i:Nat):Int):=by unfold dist;omega
   have hlt':nearLo i r+k< min n (i+r):=by unfold nearN at hlt;omega
   unfold nearE at hy
   gi_wp2
   refine hR.mono ?_
   rintro e W2 ⟨bb,rfl,hT2,hJ2,hJ3⟩
   cases bb
   rotate_left
   ·
    gi_wp2
    go_roundw
    case rel=>exact⟨k+1,by omega,by go_num,hJ2 (by simp),hTk.trans hT2⟩
    case measure=>simp [intOf];omega
   ·
    gi_wp2
    refine bodyPost_ret (results_none rfl _ _ _) rfl ?_
    exact⟨⟨_,rfl⟩,.inr ⟨k,by simpa [nearEs]using hlt,hJ3 (by simp)⟩⟩
  ·
   have hge:min n (i+r)≤nearLo i r+k:=by unfold nearN at hlt;omega
   have hk2:k=nearN i n r:=by omega
   subst hk2
   gi_wp2
   go_end0
   exact⟨⟨_,rfl⟩,.inl (by simpa [nearEs]using hJk)⟩
theorem near_calls(i n r:Int)(w:World):Calls Tryz.prog 159 #[.int .i64 i,.int .i64 n,.int .i64 r] w fun e w'=>
  e= .returned (.func (.func 182) #[] #[.pointer (some ⟨w.heap.size,0,none⟩),.pointer (some ⟨w.heap.size+2,0,none⟩),.pointer (some ⟨w.heap.size+1,0,none⟩)])∧
  Box w' w.heap.size 3 #[.int .i64 i]∧Box w' (w.heap.size+2) 3 #[.int .i64 r]∧Box w' (w.heap.size+1) 3 #[.int .i64 n]∧Below w.heap.size w w'∧w'.heap.size=w.heap.size+3:=by
 go_enter Tryz.func159,Tryz.ntmps159
 go_wp2
 go_ret
 have b1:=Box.new w 3 #[.int .i64 i]
 have b2:=Box.new (w.alloc (.cells #[.int .i64 i] 3)) 3 #[.int .i64 n]
 have b3:=Box.new ((w.alloc (.cells #[.int .i64 i] 3)).alloc (.cells #[.int .i64 n] 3)) 3 #[.int .i64 r]
 simp only [World.size_alloc]at b2 b3
 exact⟨rfl,(b1.alloc _).alloc _,b3,b2.alloc _,(((Below.refl _ _).alloc (Nat.le_refl _) _).alloc (by simp) _).alloc (by simp;omega) _,by simp⟩
def numE(h t:List Int)(down:Bool)(i k:Nat):Array Value:=
 #[.int .i64 (gi h (nearLo i t.length+k)+(if down then- gi t (dist (nearLo i t.length+k) i)else gi t (dist (nearLo i t.length+k) i)))]
def numEs(h t:List Int)(down:Bool)(i:Nat):List (Array Value):=(List.range (nearN i h.length t.length)).map (numE h t down i)
set_option maxRecDepth 100000 in
set_option maxHeartbeats 1000000 in
theorem numbers_iter(bi bh bt bd i:Nat)(Ah At:Option Addr)(n ch r ct:Nat)(h t:List Int)(down:Bool)(w:World)(R:Nat→Prop)
  (hi:i< n) (hn:n≤65536) (hr:r≤65536)
  (h1:Box w bi 3 #[.int .i64 i]) (h2:Box w bh 41 #[.slice Ah n ch]) (h3:Box w bt 59 #[.slice At r ct]) (h4:Box w bd 4 #[.bool down])
  (hh:IntsAt w Ah n h) (ht:IntsAt w At r t) (hhb:∀x∈h, -16777216≤x∧x≤16777216) (htb:∀x∈t,0≤x∧x≤16777216)
  (r1:¬R bi) (r2:¬R bh) (r3:¬R bt) (r4:¬R bd) (r5:∀b,Ah.map (·.block)=some b→¬R b) (r6:0< r→∀b,At.map (·.block)=some b→¬R b) (hR:∀k,R k→k< w.heap.size) :
  Iter Tryz.prog 158 #[.pointer (some ⟨bi,0,none⟩),.pointer (some ⟨bh,0,none⟩),.pointer (some ⟨bt,0,none⟩),.pointer (some ⟨bd,0,none⟩)] (numEs h t down i) R w:=by
 intro l J Jx W hT hl hlW hJ hJx hY h0
 have nl:∀b,b< w.heap.size→b≠l:=fun b hb=>by omega
 have tb:∀ {wr:World}{b ty}{cs},Tch (fun k=>R k∨k=l) W wr→Box w b ty cs→¬R b→Box wr b ty cs:=fun ht hb hr=>ht.box (hT.box hb hr) (by rintro(e |e);exact hr e;exact nl _ hb.lt e)
 have c1:W.cell? ⟨bi,0,none⟩=some (.int .i64 i):=(hT.box h1 r1).cell 0
 have c2:W.cell? ⟨bh,0,none⟩=some (.slice Ah n ch):=(hT.box h2 r2).cell 0
 have c3:W.cell? ⟨bt,0,none⟩=some (.slice At r ct):=(hT.box h3 r3).cell 0
 have hbW:=Box.new W 161 #[.func (.yield l) #[] #[]]
 have hb0:=below_new W (.cells #[.func (.yield l) #[] #[]] 161)
 have d1:=(World.cell?_alloc_lt W (.cells #[.func (.yield l) #[] #[]] 161) ⟨bi,0,none⟩ (by have:=(hT.box h1 r1).lt;exact this)).trans c1
 have d2:=(World.cell?_alloc_lt W (.cells #[.func (.yield l) #[] #[]] 161) ⟨bh,0,none⟩ (by have:=(hT.box h2 r2).lt;exact this)).trans c2
 have d3:=(World.cell?_alloc_lt W (.cells #[.func (.yield l) #[] #[]] 161) ⟨bt,0,none⟩ (by have:=(hT.box h3 r3).lt;exact this)).trans c3
 refine callsIn_of_wp_marks Tryz.func158 rfl trivial ?_ rfl
 simp only [Tryz.ntmps158,List.size_toArray,List.length_cons,List.length_nil,Nat.reduceAdd,Nat.reduceSub,Array.replicate_succ,Array.replicate_zero,List.push_toArray,List.append_toArray,List.nil_append,List.cons_append]
 gi_wp2_with (gi_at_call 159;refine(callsIn_wide.2 (near_calls _ _ _ _)).mono ?_;rintro e w' ⟨rfl,e1,e2,e3,e4,e5⟩)
 have hT':Tch (fun k=>R k∨k=l) W w':=Tch.of_new (below_then hb0 e4 (by simp))
 have hBW:Box w' W.heap.size 161 #[.func (.yield l) #[] #[]]:=hbW.below' e4
 rw [World.size_alloc]at*
 refine wp_range (gf:=182) rfl (enters_of Tryz.func182 kR rfl)
  (near_iter _ _ _ i n r oM oM oM w' (fun k=>R k∨k=l) e1 e2 e3
   (by rintro(e |e);have:=hR _ e;have:=hT.size;omega;omega) (by rintro(e |e);have:=hR _ e;have:=hT.size;omega;omega) (by rintro(e |e);have:=hR _ e;have:=hT.size;omega;omega))
  (by rintro k (e |e);have:=hR _ e;have:=hT.size;omega;omega) (by intro x hx;simp [nearEs]at hx;obtain⟨k,_,rfl⟩:=hx;rfl)
  (fun k W'=>J k W'∧Tch (fun k=>R k∨k=l) W W'∧Box W' W.heap.size 161 #[.func (.yield l) #[] #[]]) (fun k c W'=>c= .ret∧Jx k W')
  (fun k W1 W2 h hb=>⟨hJ k W1 W2 h.1 (hb.mono oM),h.2.1.later hb oM,h.2.2.below hb oM⟩)
  (fun k c W1 W2 h hb=>⟨h.1,hJx k W1 W2 h.2 (hb.mono oM)⟩) ⟨hJ 0 W w' h0 (below_then hb0 (by rw [World.size_alloc];exact e4) (by simp)),hT',hBW⟩ ?hround ?hdone ?hstop
 case hround=>
  rintro l2 k x W2 hl2 hl2' hx ⟨hJ2,hT2,hB2⟩
  obtain⟨hk,rfl⟩:k< nearN i n r∧nearE i r k=x:=by
   unfold nearEs at hx
   rw [List.getElem?_map]at hx
   by_cases hk:k< nearN i n r
   ·
    rw [List.getElem?_range hk]at hx;exact⟨hk,by simpa using hx⟩
   ·
    rw [List.getElem?_eq_none (by simpa using hk)]at hx;cases hx
  unfold nearE
  gi_wp2
  refine⟨Tch.refl _ _,fun W3 hT3=> ?_⟩
  have hb3:Below w'.heap.size W2 W3:=hT3.below (by have:=hT2.size;omega) (fun q hq=>by omega)
  have hT3':Tch (fun q=>R q∨q=l) W W3:=hT2.later hb3 oM
  have hB3:=hB2.below hb3 oM
  have hJ3:=hJ k W2 W3.drew hJ2 (hb3.mono oM).drew
  have nl':∀ {A:Option Addr}{b},A.map (·.block)=some b→(∃b o,A=some (⟨b,o,none⟩:Addr)∧b< w.heap.size)→b≠l:=by
   rintro A b hA ⟨b',o,rfl,hb⟩;simp at hA;omega
  have hdk:dist (nearLo i r+k) i< r:=by unfold dist nearLo nearN nearLo at *;omega
  have hlk:nearLo i r+k< n:=by unfold nearN nearLo at *;omega
  obtain⟨bH,oH,rfl,hbH,hcH⟩:=ints_at hh hlk
  obtain⟨bT,oT,rfl,hbT,hcT⟩:=ints_at ht hdk
  have f1:W3.cell? ⟨bh,0,none⟩=some (.slice (some ⟨bH,oH,none⟩) n ch):=(tb hT3' h2 r2).cell 0
  have f2:W3.cell? ⟨bt,0,none⟩=some (.slice (some ⟨bT,oT,none⟩) r ct):=(tb hT3' h3 r3).cell 0
  have f3:W3.cell? ⟨bd,0,none⟩=some (.bool down):=(tb hT3' h4 r4).cell 0
  have f4:W3.cell? ⟨W.heap.size,0,none⟩=some (.func (.yield l) #[] #[]):=hB3.cell 0
  have f5:W3.cell? ⟨bH,oH+(nearLo i r+k),none⟩=some (.int .i64 (gi h (nearLo i r+k))):=
   ((hT3'.cell (p:=⟨bH,oH+(nearLo i r+k),none⟩) (by have:=hT.size;exact Nat.lt_of_lt_of_le hbH this) (by rintro(e |e);exact r5 _ rfl e;exact nl _ hbH e)).trans (hT.cell (p:=⟨bH,oH+(nearLo i r+k),none⟩) hbH (r5 _ rfl))).trans hcH
  have f6:W3.cell? ⟨bT,oT+dist (nearLo i r+k) i,none⟩=some (.int .i64 (gi t (dist (nearLo i r+k) i))):=
   ((hT3'.cell (p:=⟨bT,oT+dist (nearLo i r+k) i,none⟩) (by have:=hT.size;exact Nat.lt_of_lt_of_le hbT this) (by rintro(e |e);exact r6 oM _ rfl e;exact nl _ hbT e)).trans (hT.cell (p:=⟨bT,oT+dist (nearLo i r+k) i,none⟩) hbT (r6 oM _ rfl))).trans hcT
  have hl1:=hh.1
  have hl2:=ht.1
  have g1:=(forall_gi.1 hhb) (nearLo i r+k) oM
  have g2:=(forall_gi.1 htb) (dist (nearLo i r+k) i) oM
  obtain⟨fn,tmps,assign,body,hy,hRd⟩:=hY k (numE h t down i k) W3.drew (by subst hl2;subst hl1;simp [numEs,hk]) hT3'.size hJ3
  unfold numE at hy
  rw [hl2]at hy
  have hw1:IntKind.i64.wrap (gi h (nearLo i r+k)+gi t (dist (nearLo i r+k) i))=gi h (nearLo i r+k)+gi t (dist (nearLo i r+k) i):=IntWalk.i64_in _ oM
  have hw2:IntKind.i64.wrap (gi h (nearLo i r+k)+ -gi t (dist (nearLo i r+k) i))=gi h (nearLo i r+k)+ -gi t (dist (nearLo i r+k) i):=IntWalk.i64_in _ oM
  have x1:(0:Int)≤(nearLo i r:Int)+(k:Int):=by omega
  have x2:(nearLo i r:Int)+(k:Int)< (n:Int):=by omega
  have x3:((nearLo i r:Int)+(k:Int)).toNat=nearLo i r+k:=by omega
  have HL1:=Lib.hid hl1
  have HL2:=Lib.hid hl2
  clear hl1 hl2 hcH hcT c1 c2 c3 d1 d2 d3
  cases down
  all_goals
   simp only [Bool.false_eq_true,if_false,if_true]at hy
   gi_wp2
   refine wpIn_round_still_tail 7 kR kR ?_
   simp only [List.take_succ_cons,List.take_zero,List.drop_succ_cons,List.drop_zero]
   repeat still_step
   refine wpStill_nil ?_
   gi_wp2
   refine(round_inRound l2 hRd).mono ?_
   rintro e W4 ⟨bb,rfl,hT4,hJ4,hJ5⟩
   have hT4':Tch (fun k=>R k∨k=l) W3 W4:=⟨hT4.os,hT4.tape,hT4.output,hT4.size,hT4.block⟩
   cases bb
   ·
    gi_wp2
    exact⟨hT4',rfl,hJ5 (by simp)⟩
   ·
    gi_wp2
    exact⟨hT4',hJ4 (by simp),hT3'.trans hT4',hT4'.box hB3 (by rintro(e |e);have:=hR _ e;have:=hT.size;omega;omega)⟩
 case hdone=>
  rintro D W2 ⟨hJ2,hT2,hB2⟩ hD hDd
  gi_wp2
  refine end_marks [D] (.inl rfl) rfl (by simp) (by simpa using hDd) (fun w=>results_none rfl _ _ _) (fun w4 ht4=>⟨⟨_,rfl⟩,.inl ?_⟩)
  have e:(numEs h t down i).length=(nearEs i n r).length:=by simp [numEs,nearEs,hh.1,ht.1]
  rw [e]
  exact hJ _ _ _ hJ2 (ht4.below (by have:=hT2.size;omega) (fun q hq=>by simp;omega))
 case hstop=>
  rintro D k c W2 hk ⟨rfl,hJ2⟩ hD hDd
  gi_wp2
  have hDl:D< W2.heap.size:=(Array.getElem?_eq_some_iff.1 hDd).1
  refine end_marks [D] (.inr rfl) rfl (by simp) (by simpa using hDd) (fun w=>results_none rfl _ _ _) (fun w4 ht4=>⟨⟨_,rfl⟩,.inr ⟨k,?_,?_⟩⟩)
  ·
   have e:(numEs h t down i).length=(nearEs i n r).length:=by simp [numEs,nearEs,hh.1,ht.1]
   rw [e];exact hk
  ·
   exact hJx _ _ _ hJ2 (ht4.below oM (fun q hq=>by simp;omega))
theorem less_calls(a b:Int)(w:World):Calls Tryz.prog 162 #[.int .i64 a,.int .i64 b] w fun e w'=>e= .returned (.bool (decide (a< b)))∧w=w':=by
 go_enter Tryz.func162,Tryz.ntmps162
 go_wp2
 go_ret
 exact⟨rfl,rfl⟩
theorem more_calls(a b:Int)(w:World):Calls Tryz.prog 161 #[.int .i64 a,.int .i64 b] w fun e w'=>e= .returned (.bool (decide (b< a)))∧w=w':=by
 go_enter Tryz.func161,Tryz.ntmps161
 go_wp2
 go_ret
 exact⟨rfl,rfl⟩
def pickB(down:Bool)(x acc:Int):Int:=if down then max acc x else min acc x
def foldB(down:Bool)(f:Int)(l:List Int):Int:=l.foldl (fun acc x=>pickB down x acc) f
set_option maxRecDepth 100000 in
set_option maxHeartbeats 1000000 in
theorem fold_calls(down:Bool)(bf:Nat)(hbf:bf=161∧down=true∨bf=162∧down=false)(f:Int)(vs:List Int)(gf:Nat)(lb:Array Value)(w:World)(eg:∀args w,(callFunc gf args).run Tryz.prog w= .ok (.enter gf args) w)
  (hit:∀R w',Below w.heap.size w w'→(∀k,R k→w.heap.size≤k∧k< w'.heap.size)→Iter Tryz.prog gf lb (vs.map fun v=> #[.int .i64 v]) R w') :
  Calls Tryz.prog 160 #[.int .i64 f,.func (.func gf) #[] lb,.func (.func bf) #[] #[]] w fun e w'=>e= .returned (.int .i64 (foldB down f vs))∧Below w.heap.size w w':=by
 refine(callsIn_wide (n:=0)).1 ?_
 refine callsIn_of_wp_marks Tryz.func160 rfl trivial ?_ rfl
 simp only [Tryz.ntmps160,List.size_toArray,List.length_cons,List.length_nil,Nat.reduceAdd,Nat.reduceSub,Array.replicate_succ,Array.replicate_zero,List.push_toArray,List.append_toArray,List.nil_append,List.cons_append]
 gi_wp2
 have hb1:=Box.new w 2 #[.int .i64 f]
 have hb2:=Box.new (w.alloc (.cells #[.int .i64 f] 2)) 296 #[.func (.func bf) #[] #[]]
 have hb1':=hb1.alloc (.cells #[.func (.func bf) #[] #[]] 296)
 have hbl:=(below_new w (.cells #[.int .i64 f] 2)).alloc (by simp) (.cells #[.func (.func bf) #[] #[]] 296)
 have hsz:((w.alloc (.cells #[.int .i64 f] 2)).alloc (.cells #[.func (.func bf) #[] #[]] 296)).heap.size=w.heap.size+2:=by simp
 rw [World.size_alloc]at hb2
 generalize (w.alloc (.cells #[.int .i64 f] 2)).alloc (.cells #[.func (.func bf) #[] #[]] 296)=w0 at*
 refine wp_range (gf:=gf) rfl eg (hit (· =w.heap.size) w0 hbl (by intro k e;omega)) (by intro k e;omega) (by intro x hx;simp at hx;obtain⟨v,_,rfl⟩:=hx;rfl)
  (fun k W=>Box W w.heap.size 2 #[.int .i64 (foldB down f (vs.take k))]∧Box W (w.heap.size+1) 296 #[.func (.func bf) #[] #[]]∧Below w.heap.size w W) (fun _ _ _=>False)
  (fun k W1 W2 h hb=>⟨h.1.below hb oM,h.2.1.below hb oM,h.2.2.trans (hb.mono oM)⟩) (fun _ _ _ _ h _=>h) ⟨by simpa [foldB]using hb1',hb2,hbl⟩ ?hround ?hdone (fun _ _ _ _ _ h=>h.elim)
 case hround=>
  rintro l k x W hl hl' hx ⟨h1,h2,h3⟩
  obtain⟨hk,rfl⟩:∃hk:k< vs.length,#[.int .i64 vs[k]]=x:=by
   rw [List.getElem?_map]at hx
   by_cases hk:k< vs.length
   ·
    rw [List.getElem?_eq_getElem hk]at hx;exact⟨hk,by simpa using hx⟩
   ·
    rw [List.getElem?_eq_none oM]at hx;cases hx
  gi_wp2
  refine⟨Tch.refl _ _,fun W3 hT3=> ?_⟩
  have h1':=hT3.box h1 oM
  have h2':=hT3.box h2 oM
  have h3':Below w.heap.size w W3:=h3.trans (hT3.below (by have:=h3.size;omega) (fun q hq=>by omega))
  have c1:=h1'.cell 0
  have c2:=h2'.cell 0
  have c3:=h1'.frozen 0
  have hs:foldB down f (vs.take (k+1))=pickB down vs[k] (foldB down f (vs.take k)):=by
   rw [List.take_succ_eq_append_getElem hk,foldB,List.foldl_append];rfl
  have HS:=Lib.hid hs
  clear hs hx
  simp only [List.getElem?_toArray,List.getElem?_cons_zero]at c1 c2
  generalize hacc:foldB down f (vs.take k)=acc at*
  generalize vs[k]=x at*
  have Hacc:=Lib.hid hacc
  clear hacc
  rcases hbf with⟨rfl,rfl⟩ | ⟨rfl,rfl⟩
  ·
   by_cases hlt:acc< x
   ·
    have hd:decide (acc< x)=true:=by simpa using hlt
    gi_wp2_with (gi_at_call 161;refine(callsIn_wide.2 (more_calls _ _ _)).mono ?_;rintro e w' ⟨rfl,rfl⟩)
    refine⟨Tch.setCell (R:=(· =w.heap.size)) (p:=⟨w.heap.size,0,none⟩) (Tch.refl _ _) (fun _=>rfl) _,?_,h2'.far (by simp) _,h3'.setCell (Nat.le_refl _) _⟩
    have hb:=h1'.set 0 (.int .i64 x)
    simp only [List.setIfInBounds_toArray,List.set_cons_zero]at hb
    rw [HS.out,show pickB true x acc=x by simp [pickB];omega]
    exact hb
   ·
    have hd:decide (acc< x)=false:=by simpa using hlt
    gi_wp2_with (gi_at_call 161;refine(callsIn_wide.2 (more_calls _ _ _)).mono ?_;rintro e w' ⟨rfl,rfl⟩)
    refine⟨Tch.refl _ _,?_,h2',h3'⟩
    rw [HS.out,show pickB true x acc=acc by simp [pickB];omega]
    exact h1'
  ·
   by_cases hlt:x< acc
   ·
    have hd:decide (x< acc)=true:=by simpa using hlt
    gi_wp2_with (gi_at_call 162;refine(callsIn_wide.2 (less_calls _ _ _)).mono ?_;rintro e w' ⟨rfl,rfl⟩)
    refine⟨Tch.setCell (R:=(· =w.heap.size)) (p:=⟨w.heap.size,0,none⟩) (Tch.refl _ _) (fun _=>rfl) _,?_,h2'.far (by simp) _,h3'.setCell (Nat.le_refl _) _⟩
    have hb:=h1'.set 0 (.int .i64 x)
    simp only [List.setIfInBounds_toArray,List.set_cons_zero]at hb
    rw [HS.out,show pickB false x acc=x by simp [pickB];omega]
    exact hb
   ·
    have hd:decide (x< acc)=false:=by simpa using hlt
    gi_wp2_with (gi_at_call 162;refine(callsIn_wide.2 (less_calls _ _ _)).mono ?_;rintro e w' ⟨rfl,rfl⟩)
    refine⟨Tch.refl _ _,?_,h2',h3'⟩
    rw [HS.out,show pickB false x acc=acc by simp [pickB];omega]
    exact h1'
 case hdone=>
  rintro D W ⟨h1,h2,h3⟩ hD hDd
  have c1:=h1.cell 0
  simp only [List.getElem?_toArray,List.getElem?_cons_zero,List.length_map,List.take_length]at c1
  gi_wp2
  refine end_marks [D] (.inr rfl) rfl (by simp) (by simpa using hDd) (fun w=>results_tmp rfl _ _ _) (fun w4 ht4=>⟨rfl,?_⟩)
  exact h3.trans (ht4.below (by have:=h3.size;omega) (fun q hq=>by simp;omega))
end Go.Proofs.YtjmbpjlojjgggaaGreatDoor

namespace Go.Proofs.YtjmbpjlojjgggaaGreatDoor
open Go.RowKit Go.Dw Go.Shelf
theorem el_i64:∃i,ElemT Tryz.prog 41 2 i (.int .i64 0) 1 8:=elemT Tryz.underlying41 kR rfl (by decide)
def walkAt(t h:List Int)(down:Bool)(i:Nat):Int:=
 foldB down (gi h i) ((List.range (nearN i h.length t.length)).map fun k=>gi h (nearLo i t.length+k)+(if down then- gi t (dist (nearLo i t.length+k) i)else gi t (dist (nearLo i t.length+k) i)))
def walkL(t h:List Int)(down:Bool):List Int:=(List.range h.length).map (walkAt t h down)
def walkTo(t h:List Int)(down:Bool)(k:Nat):List Int:=(List.range h.length).map fun i=>if i< k then walkAt t h down i else 0
theorem walkTo_zero(t h:List Int)(down:Bool):walkTo t h down 0=List.replicate h.length 0:=by
 apply List.ext_getElem <;> simp [walkTo]
theorem walkTo_all(t h:List Int)(down:Bool):walkTo t h down h.length=walkL t h down:=by
 apply List.ext_getElem
 ·
  simp [walkTo,walkL]
 ·
  intro i h1 h2
  simp [walkTo,walkL]at h1 ⊢
  omega
theorem walkTo_set(t h:List Int)(down:Bool)(k:Nat):(walkTo t h down k).set k (walkAt t h down k)=walkTo t h down (k+1):=by
 apply List.ext_getElem
 ·
  simp [walkTo]
 ·
  intro i h1 h2
  simp [walkTo]at h1 h2 ⊢
  rw [List.getElem_set]
  by_cases e:k=i
  ·
   subst e;simp
  ·
   simp [e]
   by_cases h3:i< k
   ·
    simp [h3];intro h4;omega
   ·
    simp [h3];intro h4;omega
theorem walkTo_length(t h:List Int)(down:Bool)(k:Nat):(walkTo t h down k).length=h.length:=by simp [walkTo]
theorem numEs_eq(h t:List Int)(down:Bool)(i:Nat) :
  numEs h t down i=((List.range (nearN i h.length t.length)).map fun k=>gi h (nearLo i t.length+k)+(if down then- gi t (dist (nearLo i t.length+k) i)else gi t (dist (nearLo i t.length+k) i))).map fun v=> #[.int .i64 v]:=by
 simp [numEs,numE]
set_option maxRecDepth 100000 in
set_option maxHeartbeats 2000000 in
theorem walk_calls(At Ah:Option Addr)(r ct n ch:Nat)(t h:List Int)(down:Bool)(w:World)(hn:n≤65536)(hr:r≤65536)(ht:IntsAt w At r t)(hh:IntsAt w Ah n h)
  (hhb:∀x∈h, -16777216≤x∧x≤16777216) (htb:∀x∈t,0≤x∧x≤16777216) :
  Calls Tryz.prog 118 #[.agg #[.slice At r ct],.slice Ah n ch,.bool down] w fun e w'=>∃g,w.heap.size≤g∧e= .returned (.slice (some ⟨g,0,none⟩) n n)∧
   Box w' g 2 (intCells (walkL t h down))∧Below w.heap.size w w':=by
 obtain⟨i0,hel⟩:=el_i64
 have hmk:=fun W=>make_ints hel n oM oM W
 go_enter Tryz.func118,Tryz.ntmps118
 go_wp2
 have b1:=((Box.new w 59 #[.slice At r ct]).alloc (.cells #[.slice Ah n ch] 41)).alloc (.cells #[.bool down] 4) |>.alloc (.cells (intCells (List.replicate n 0)) 2)
 have b2:=((Box.new (w.alloc (.cells #[.slice At r ct] 59)) 41 #[.slice Ah n ch]).alloc (.cells #[.bool down] 4)).alloc (.cells (intCells (List.replicate n 0)) 2)
 have b3:=(Box.new ((w.alloc (.cells #[.slice At r ct] 59)).alloc (.cells #[.slice Ah n ch] 41)) 4 #[.bool down]).alloc (.cells (intCells (List.replicate n 0)) 2)
 have b4:=Box.new (((w.alloc (.cells #[.slice At r ct] 59)).alloc (.cells #[.slice Ah n ch] 41)).alloc (.cells #[.bool down] 4)) 2 (intCells (List.replicate n 0))
 have hb0:=(((below_new w (.cells #[.slice At r ct] 59)).alloc (by simp) (.cells #[.slice Ah n ch] 41)).alloc (by simp;omega) (.cells #[.bool down] 4)).alloc (by simp;omega) (.cells (intCells (List.replicate n 0)) 2)
 have hs0:((((w.alloc (.cells #[.slice At r ct] 59)).alloc (.cells #[.slice Ah n ch] 41)).alloc (.cells #[.bool down] 4)).alloc (.cells (intCells (List.replicate n 0)) 2)).heap.size=w.heap.size+1+1+1+1:=by simp
 simp only [World.size_alloc]at b1 b2 b3 b4
 generalize (((w.alloc (.cells #[.slice At r ct] 59)).alloc (.cells #[.slice Ah n ch] 41)).alloc (.cells #[.bool down] 4)).alloc (.cells (intCells (List.replicate n 0)) 2)=w0 at*
 have hl1:h.length=n:=hh.1
 rw [←hl1,←walkTo_zero t h down]at b4
 have Hl1:=Lib.hid hl1
 clear hl1 hmk
 have hh0:=hh.below' hb0
 have ht0:=ht.below' hb0
 have nA:∀b,Ah.map (·.block)=some b→0< n→b< w.heap.size:=fun b hb hn0=>by
  obtain⟨b',o,rfl,hb',_⟩:=hh.2.2 hn0;simp at hb;omega
 go_loopw [16] (fun kv wr=>∃k:Nat,k≤n∧kv= .int .i64 k∧Box wr (w.heap.size+1+1+1) 2 (intCells (walkTo t h down k))∧Tch (· =w.heap.size+1+1+1) w0 wr) (fun kv wr=>n- (intOf kv).toNat)
 case atStart=>exact⟨0,Nat.zero_le _,rfl,b4,Tch.refl _ _⟩
 case round=>
  obtain⟨k,hk,rfl,hbo,hT⟩:=hrel
  have c1:=hT.box b1 oM
  have c2:=hT.box b2 oM
  have c3:=hT.box b3 oM
  have hbw:Below w.heap.size w wr:=hb0.trans (hT.below oM (fun q hq=>by omega))
  by_cases hlt:k< n
  ·
   have hhw:=hh.below' hbw
   have htw:=ht.below' hbw
   obtain⟨bH,oH,rfl,hbH,hcH⟩:=ints_at hhw hlt
   have d3:wr.cell? ⟨w.heap.size+1+1,0,none⟩=some (.bool down):=c3.cell 0
   have d2:wr.cell? ⟨w.heap.size+1,0,none⟩=some (.slice (some ⟨bH,oH,none⟩) n ch):=c2.cell 0
   have l1:=c1.lt
   have l2:=c2.lt
   have l3:=c3.lt
   have l4:=hbo.lt
   have hx1:Box (wr.alloc (.cells #[.int .i64 k] 3)) wr.heap.size 3 #[.int .i64 k]:=Box.new _ _ _
   have hx2:=below_new wr (.cells #[.int .i64 k] 3)
   have hx3:=size_new wr (.cells #[.int .i64 k] 3)
   cases down
   ·
    go_wp2
    generalize wr.alloc (.cells #[.int .i64 k] 3)=wx at*
    have e1:=c1.below hx2 l1
    have e2:=c2.below hx2 l2
    have e3:=c3.below hx2 l3
    have e4:=hbo.below hx2 l4
    have hi:wx.cell? ⟨wr.heap.size,0,none⟩=some (.int .i64 k):=hx1.cell 0
    have hbx:Below w.heap.size w wx:=hbw.trans (hx2.mono oM)
    have hit:∀(R:Nat→Prop) (w':World),Below wx.drew.heap.size wx.drew w'→(∀k,R k→wx.drew.heap.size≤k∧k< w'.heap.size)→
      Iter Tryz.prog 158 #[.pointer (some ⟨wr.heap.size,0,none⟩),.pointer (some ⟨w.heap.size+1,0,none⟩),.pointer (some ⟨w.heap.size,0,none⟩),.pointer (some ⟨w.heap.size+1+1,0,none⟩)]
       (((List.range (nearN k h.length t.length)).map fun q=>gi h (nearLo k t.length+q)+(if false then- gi t (dist (nearLo k t.length+q) k)else gi t (dist (nearLo k t.length+q) k))).map fun v=> #[.int .i64 v]) R w':=fun R w' hb hR=>by
     have hb':Below wx.heap.size wx w':=below_undrew hb
     have hsx:∀q,q< wx.heap.size→¬R q:=fun q hq e=>by have:=(hR q e).1;have:wx.heap.size≤q:=this;omega
     have:=hx1.lt
     rw [←numEs_eq]
     refine numbers_iter _ _ _ _ k (some ⟨bH,oH,none⟩) At n ch r ct h t false w' R hlt hn hr (hx1.below hb' oM) (e2.below hb' oM) (e1.below hb' oM) (e3.below hb' oM)
      ((hh.below' hbx).below hb' (Nat.le_refl _)) ((ht.below' hbx).below hb' (Nat.le_refl _)) hhb htb (hsx _ oM) (hsx _ oM) (hsx _ oM) (hsx _ oM) ?_ ?_ (fun q e=>(hR q e).2)
     ·
      intro b hb2;simp at hb2;exact hsx _ oM
     ·
      intro hr0 b hb2
      obtain⟨b',o,rfl,hb3,_⟩:=ht.2.2 hr0
      simp at hb2;exact hsx _ (by have:=hbx.size;omega)
    have Hit:=Lib.hid hit
    clear hit
    go_region_with (go_at_call 160;refine(fold_calls false 162 (.inr ⟨rfl,rfl⟩) _ _ 158 _ wx.drew (enters_of Tryz.func158 kR rfl) Hit.out).mono ?_;rintro e w' ⟨rfl,hbw'⟩;have q1:w'.cell? ⟨wr.heap.size,0,none⟩=some (.int .i64 k):=(hx1.below (w:=wx.drew) hbw' hx1.lt).cell 0;have q2:w'.cell? ⟨w.heap.size+1+1+1,k,none⟩=some (.int .i64 (gi (walkTo t h false k) k)):=((e4.below (w:=wx.drew) hbw' e4.lt).cell k).trans (intCells_get _ _ (by rw [walkTo_length,Hl1.out];exact hlt));have q3:w'.frozen? ⟨w.heap.size+1+1+1,k,none⟩=false:=(e4.below (w:=wx.drew) hbw' e4.lt).frozen k)
    all_goals
     have hbw2:Below wx.heap.size wx w':=below_undrew hbw'
     go_wp2
     go_roundw
     case rel=>
      refine⟨k+1,by omega,by go_num,?_,?_⟩
      ·
       have hs:=(e4.below hbw2 e4.lt).set k (.int .i64 (walkAt t h false k))
       rw [intCells_set,walkTo_set]at hs
       simpa [walkAt]using hs
      ·
       exact((hT.trans (Tch.of_new hx2)).trans (Tch.of_new hbw2)).setCell (fun _=>rfl) _
     case measure=>simp [intOf];omega
   ·
    go_wp2
    generalize wr.alloc (.cells #[.int .i64 k] 3)=wx at*
    have e1:=c1.below hx2 l1
    have e2:=c2.below hx2 l2
    have e3:=c3.below hx2 l3
    have e4:=hbo.below hx2 l4
    have hi:wx.cell? ⟨wr.heap.size,0,none⟩=some (.int .i64 k):=hx1.cell 0
    have hbx:Below w.heap.size w wx:=hbw.trans (hx2.mono oM)
    have hit:∀(R:Nat→Prop) (w':World),Below wx.drew.heap.size wx.drew w'→(∀k,R k→wx.drew.heap.size≤k∧k< w'.heap.size)→
      Iter Tryz.prog 158 #[.pointer (some ⟨wr.heap.size,0,none⟩),.pointer (some ⟨w.heap.size+1,0,none⟩),.pointer (some ⟨w.heap.size,0,none⟩),.pointer (some ⟨w.heap.size+1+1,0,none⟩)]
       (((List.range (nearN k h.length t.length)).map fun q=>gi h (nearLo k t.length+q)+(if true then- gi t (dist (nearLo k t.length+q) k)else gi t (dist (nearLo k t.length+q) k))).map fun v=> #[.int .i64 v]) R w':=fun R w' hb hR=>by
     have hb':Below wx.heap.size wx w':=below_undrew hb
     have hsx:∀q,q< wx.heap.size→¬R q:=fun q hq e=>by have:=(hR q e).1;have:wx.heap.size≤q:=this;omega
     have:=hx1.lt
     rw [←numEs_eq]
     refine numbers_iter _ _ _ _ k (some ⟨bH,oH,none⟩) At n ch r ct h t true w' R hlt hn hr (hx1.below hb' oM) (e2.below hb' oM) (e1.below hb' oM) (e3.below hb' oM)
      ((hh.below' hbx).below hb' (Nat.le_refl _)) ((ht.below' hbx).below hb' (Nat.le_refl _)) hhb htb (hsx _ oM) (hsx _ oM) (hsx _ oM) (hsx _ oM) ?_ ?_ (fun q e=>(hR q e).2)
     ·
      intro b hb2;simp at hb2;exact hsx _ oM
     ·
      intro hr0 b hb2
      obtain⟨b',o,rfl,hb3,_⟩:=ht.2.2 hr0
      simp at hb2;exact hsx _ (by have:=hbx.size;omega)
    have Hit:=Lib.hid hit
    clear hit
    go_region_with (go_at_call 160;refine(fold_calls true 161 (.inl ⟨rfl,rfl⟩) _ _ 158 _ wx.drew (enters_of Tryz.func158 kR rfl) Hit.out).mono ?_;rintro e w' ⟨rfl,hbw'⟩;have q1:w'.cell? ⟨wr.heap.size,0,none⟩=some (.int .i64 k):=(hx1.below (w:=wx.drew) hbw' hx1.lt).cell 0;have q2:w'.cell? ⟨w.heap.size+1+1+1,k,none⟩=some (.int .i64 (gi (walkTo t h true k) k)):=((e4.below (w:=wx.drew) hbw' e4.lt).cell k).trans (intCells_get _ _ (by rw [walkTo_length,Hl1.out];exact hlt));have q3:w'.frozen? ⟨w.heap.size+1+1+1,k,none⟩=false:=(e4.below (w:=wx.drew) hbw' e4.lt).frozen k)
    all_goals
     have hbw2:Below wx.heap.size wx w':=below_undrew hbw'
     go_wp2
     go_roundw
     case rel=>
      refine⟨k+1,by omega,by go_num,?_,?_⟩
      ·
       have hs:=(e4.below hbw2 e4.lt).set k (.int .i64 (walkAt t h true k))
       rw [intCells_set,walkTo_set]at hs
       simpa [walkAt]using hs
      ·
       exact((hT.trans (Tch.of_new hx2)).trans (Tch.of_new hbw2)).setCell (fun _=>rfl) _
     case measure=>simp [intOf];omega
  ·
   obtain rfl:k=n:=by omega
   go_wp2
   go_ret
   refine⟨_,?_,rfl,?_,hbw⟩
   ·
    omega
   ·
    rw [←Hl1.out,walkTo_all]at hbo;exact hbo
end Go.Proofs.YtjmbpjlojjgggaaGreatDoor

namespace Go.Proofs.YtjmbpjlojjgggaaGreatDoor
open Go.RowKit Go.Dw Go.Shelf
def ofE(inn:Bool)(p:Pt):Int:=if inn then- p.1 else p.2
def backE(inn:Bool)(n:Int):Int:=if inn then- n else n
theorem outer_of(a b:Int)(w:World):Calls Tryz.prog 248 #[.agg #[],.agg #[.int .i64 a,.int .i64 b]] w fun e w'=>e= .returned (.int .i64 (ofE false (a,b)))∧Below w.heap.size w w':=by
 go_enter Tryz.func248,Tryz.ntmps248
 go_wp2
 go_ret
 exact⟨rfl,(below_new _ _).alloc (by simp) _⟩
theorem outer_back(n:Int)(w:World):Calls Tryz.prog 247 #[.agg #[],.int .i64 n] w fun e w'=>e= .returned (.int .i64 (backE false n))∧Below w.heap.size w w':=by
 go_enter Tryz.func247,Tryz.ntmps247
 go_wp2
 go_ret
 exact⟨rfl,below_new _ _⟩
theorem inner_of(a b:Int)(w:World)(h: -1099511627776≤a∧a≤1099511627776):Calls Tryz.prog 250 #[.agg #[],.agg #[.int .i64 a,.int .i64 b]] w fun e w'=>e= .returned (.int .i64 (ofE true (a,b)))∧Below w.heap.size w w':=by
 go_enter Tryz.func250,Tryz.ntmps250
 go_wp2
 go_ret
 exact⟨rfl,(below_new _ _).alloc (by simp) _⟩
theorem inner_back(n:Int)(w:World)(h: -1099511627776≤n∧n≤1099511627776):Calls Tryz.prog 249 #[.agg #[],.int .i64 n] w fun e w'=>e= .returned (.int .i64 (backE true n))∧Below w.heap.size w w':=by
 go_enter Tryz.func249,Tryz.ntmps249
 go_wp2
 go_ret
 exact⟨rfl,below_new _ _⟩
theorem meth_of_outer(w:World):(method 494 289 (.agg #[]) "deadwax/play.of").run Tryz.prog w= .ok (248,.agg #[]) w:=by kernel_rfl
theorem meth_back_outer(w:World):(method 494 289 (.agg #[]) "deadwax/play.back").run Tryz.prog w= .ok (247,.agg #[]) w:=by kernel_rfl
theorem meth_of_inner(w:World):(method 494 290 (.agg #[]) "deadwax/play.of").run Tryz.prog w= .ok (250,.agg #[]) w:=by kernel_rfl
theorem meth_back_inner(w:World):(method 494 290 (.agg #[]) "deadwax/play.back").run Tryz.prog w= .ok (249,.agg #[]) w:=by kernel_rfl
def Thr(tf:Nat)(lb:Array Value)(thr:List Int→List Int)(n:Nat)(h:List Int)(w:World):Prop:=
 ∀(A:Option Addr) (c:Nat) (W:World),Below w.heap.size w W→IntsAt W A n h→
  Calls Tryz.prog tf (#[.slice A n c]++lb) W fun e W'=>∃g,W.heap.size≤g∧e= .returned (.slice (some ⟨g,0,none⟩) n n)∧Box W' g 2 (intCells (thr h))∧Below W.heap.size W W'
def backTo(inn:Bool)(l:List Int)(k:Nat):List Int:=(List.range l.length).map fun i=>if i< k then backE inn (gi l i)else gi l i
theorem backTo_zero(inn:Bool)(l:List Int):backTo inn l 0=l:=by
 apply List.ext_getElem
 ·
  simp [backTo]
 ·
  intro i h1 h2;simp [backTo,gi_eq h2]
theorem backTo_all(inn:Bool)(l:List Int):backTo inn l l.length=l.map (backE inn):=by
 apply List.ext_getElem
 ·
  simp [backTo]
 ·
  intro i h1 h2
  simp at h2
  simp [backTo,gi_eq h2,h2]
theorem backTo_length(inn:Bool)(l:List Int)(k:Nat):(backTo inn l k).length=l.length:=by simp [backTo]
theorem backTo_at(inn:Bool)(l:List Int)(k:Nat)(h:k< l.length):gi (backTo inn l k) k=gi l k:=by
 rw [gi_eq (by rw [backTo_length];exact h)];simp [backTo]
theorem backTo_set(inn:Bool)(l:List Int)(k:Nat):(backTo inn l k).set k (backE inn (gi l k))=backTo inn l (k+1):=by
 apply List.ext_getElem
 ·
  simp [backTo]
 ·
  intro i h1 h2
  simp [backTo]at h1 h2 ⊢
  rw [List.getElem_set]
  by_cases e:k=i
  ·
   subst e;simp
  ·
   simp [e]
   by_cases h3:i< k
   ·
    simp [h3];intro h4;omega
   ·
    simp [h3];intro h4;omega
set_option maxRecDepth 100000 in
set_option maxHeartbeats 2000000 in
theorem both_calls(inn:Bool)(it:Nat)(hit:it=290∧inn=true∨it=289∧inn=false)(a b:Nat)(A:Option Addr)(n c:Nat)(l:List Pt)(tf:Nat)(lb:Array Value)(thr:List Int→List Int)(w:World)
  (hl:PtsAt w A n l) (hn:n≤4096) (hlb:∀p∈l, -4194304≤p.1∧p.1≤4194304∧ -4194304≤p.2∧p.2≤4194304) (ba:Box w a 42 #[.slice A n c]) (bb:Box w b 164 #[.func (.func tf) #[] lb])
  (eg:∀args w,(callFunc tf args).run Tryz.prog w= .ok (.enter tf args) w) (ht:Thr tf lb thr n (l.map (ofE inn)) w)
  (hth:(thr (l.map (ofE inn))).length=n) (htb:∀x∈thr (l.map (ofE inn)), -1099511627776≤x∧x≤1099511627776) :
  Calls Tryz.prog 157 #[.iface it (.agg #[]),.pointer (some ⟨a,0,none⟩),.pointer (some ⟨b,0,none⟩)] w fun e w'=>∃g,w.heap.size≤g∧e= .returned (.slice (some ⟨g,0,none⟩) n n)∧
   Box w' g 2 (intCells ((thr (l.map (ofE inn))).map (backE inn)))∧Below w.heap.size w w':=by
 obtain⟨i0,hel⟩:=el_i64
 have la:=ba.lt
 have lb':=bb.lt
 have c1:w.cell? ⟨a,0,none⟩=some (.slice A n c):=ba.cell 0
 have hl1:=hl.1
 have Hl1:=Lib.hid hl1
 clear hl1
 go_enter Tryz.func157,Tryz.ntmps157
 go_wp2
 have Hit:=Lib.hid hit
 clear hit
 rcases Hit.out with⟨rfl,rfl⟩ | ⟨rfl,rfl⟩
 ·
  go_region
  go_wp2
  have hd0:Below w.heap.size w w.drew:=(Below.refl _ _).drew
  generalize w.drew=w0 at*
  go_loopw [7,19] (fun v kv wr=>∃k:Nat,k≤n∧kv= .int .i64 k∧wr.ownsRow w.heap.size 2 1 v k (((l.map (ofE true)).take k).flatMap encI)∧Below w.heap.size w wr) (fun v kv wr=>n- (intOf kv).toNat)
  case atStart=>exact⟨0,Nat.zero_le _,rfl,World.ownsRow_nil _ _ _ _,hd0⟩
  case round=>
   obtain⟨k,hk,rfl,hown,hbl⟩:=hrel
   by_cases hlt:k< n
   ·
    obtain⟨bP,oP,rfl,hbP,hc1,hc2⟩:=pts_at (hl.below' hbl) hlt
    have hpb:=(forall_gp.1 hlb) k (by rw [Hl1.out];exact hlt)
    have hx1:Box (wr.alloc (.cells #[.int .i64 (gp l k).1,.int .i64 (gp l k).2] 47)) wr.heap.size 47 #[.int .i64 (gp l k).1,.int .i64 (gp l k).2]:=Box.new _ _ _
    have hx2:=below_new wr (.cells #[.int .i64 (gp l k).1,.int .i64 (gp l k).2] 47)
    have m1:=fun w=>meth_of_inner w
    go_wp2_with (first
     | (go_at_call 250;refine(inner_of _ _ _ oM).mono ?_;rintro e w1 ⟨rfl,hw1⟩;have hown1:=own_below' (own_below' hown hx2) hw1;have hbl1:=(hbl.trans (hx2.mono hbl.size)).trans (hw1.mono (by have:=hbl.size;simp;omega)))
     | (at_builtin;go_loud (refine wpList_push hel rfl _ _ rfl rfl (hown1.alloc _) rfl (Box.new w1 2 _) rfl (by intro u hu;simp at hu;subst hu;rfl) oM (by decide) (by have:=hbl1.size;simp;omega) ?_);intro v' w2 hown2 hg2))
    go_roundw
    case rel=>
     refine⟨k+1,by omega,by go_num,?_,?_⟩
     ·
      have e:(l.map (ofE true)).take (k+1)=(l.map (ofE true)).take k++[ofE true (gp l k)]:=by
       rw [List.take_succ_eq_append_getElem (by simp [Hl1.out,hlt])];simp [gp_eq (l:=l) (k:=k) (by rw [Hl1.out];exact hlt)]
      rw [e,List.flatMap_append]
      simpa [encI]using hown2
     ·
      exact(hbl1.alloc hbl1.size _).grown hg2 (by have:=hbl1.size;simp;omega) (fun g e=>by have:=hown1.lt g e;omega)
    case measure=>simp [intOf];omega
   ·
    obtain rfl:k=n:=by omega
    obtain⟨A',c',rfl⟩:=own_form hown
    rw [List.take_of_length_le (by simp [Hl1.out])]at hown
    have hin:IntsAt wr A' k (l.map (ofE true)):=SlAt.of_own encI_len Nat.one_pos hown
    have d2:wr.cell? ⟨b,0,none⟩=some (.func (.func tf) #[] lb):=(bb.below' hbl).cell 0
    go_wp2_with fail
    refine(ht A' c' wr hbl hin).mono ?_
    rintro e w1 ⟨g,hg,rfl,hbg,hb1⟩
    have hb2:Below w.heap.size w w1:=hbl.trans (hb1.mono hbl.size)
    generalize hL:thr (l.map (ofE true))=L at*
    have HL:=Lib.hid hL
    have Hth:=Lib.hid hth
    clear hL hth ht
    go_wp2
    go_loopw [35] (fun kv wr2=>∃q:Nat,q≤k∧kv= .int .i64 q∧Box wr2 g 2 (intCells (backTo true L q))∧Below w.heap.size w wr2) (fun kv wr2=>k- (intOf kv).toNat)
    case atStart=>exact⟨0,Nat.zero_le _,rfl,by rw [backTo_zero];exact hbg,hb2⟩
    case round=>
     obtain⟨q,hq,rfl,hbq,hbw⟩:=hrel
     by_cases hqk:q< k
     ·
      have f1:wr.cell? ⟨g,q,none⟩=some (.int .i64 (gi L q)):=by
       rw [hbq.cell,intCells_get _ _ (by rw [backTo_length,Hth.out];exact hqk),backTo_at _ _ _ (by rw [Hth.out];exact hqk)]
      have hqb:=(forall_gi.1 htb) q (by rw [Hth.out];exact hqk)
      have m2:=fun w=>meth_back_inner w
      have hbq2:∀w',Below wr.heap.size wr w'→w'.cell? ⟨g,q,none⟩=some (.int .i64 (gi L q))∧w'.frozen? ⟨g,q,none⟩=false:=fun w' hb=>⟨(hb.cell (p:=⟨g,q,none⟩) hbq.lt).trans f1,(hbq.below' hb).frozen q⟩
      go_wp2_with (go_at_call 249;refine(inner_back _ _ oM).mono ?_;rintro e w2 ⟨rfl,hw2⟩;obtain⟨f2,f3⟩:=hbq2 w2 hw2)
      go_roundw
      case rel=>
       refine⟨q+1,by omega,by go_num,?_,?_⟩
       ·
        have hs:=(hbq.below' hw2).set q (.int .i64 (backE true (gi L q)))
        rw [intCells_set,backTo_set]at hs
        exact hs
       ·
        exact(hbw.trans (hw2.mono hbw.size)).setCell (p:=⟨g,q,none⟩) (by have:=hbl.size;simp;omega) _
      case measure=>simp [intOf];omega
     ·
      obtain rfl:q=k:=by omega
      go_wp2
      go_ret
      refine⟨g,by have:=hbl.size;omega,rfl,?_,hbw⟩
      have:=Hth.out
      rw [←this,backTo_all]at hbq
      rw [HL.out]
      exact hbq
 ·
  go_region
  go_wp2
  have hd0:Below w.heap.size w w.drew:=(Below.refl _ _).drew
  generalize w.drew=w0 at*
  go_loopw [7,19] (fun v kv wr=>∃k:Nat,k≤n∧kv= .int .i64 k∧wr.ownsRow w.heap.size 2 1 v k (((l.map (ofE false)).take k).flatMap encI)∧Below w.heap.size w wr) (fun v kv wr=>n- (intOf kv).toNat)
  case atStart=>exact⟨0,Nat.zero_le _,rfl,World.ownsRow_nil _ _ _ _,hd0⟩
  case round=>
   obtain⟨k,hk,rfl,hown,hbl⟩:=hrel
   by_cases hlt:k< n
   ·
    obtain⟨bP,oP,rfl,hbP,hc1,hc2⟩:=pts_at (hl.below' hbl) hlt
    have hpb:=(forall_gp.1 hlb) k (by rw [Hl1.out];exact hlt)
    have hx1:Box (wr.alloc (.cells #[.int .i64 (gp l k).1,.int .i64 (gp l k).2] 47)) wr.heap.size 47 #[.int .i64 (gp l k).1,.int .i64 (gp l k).2]:=Box.new _ _ _
    have hx2:=below_new wr (.cells #[.int .i64 (gp l k).1,.int .i64 (gp l k).2] 47)
    have m1:=fun w=>meth_of_outer w
    go_wp2_with (first
     | (go_at_call 248;refine(outer_of _ _ _).mono ?_;rintro e w1 ⟨rfl,hw1⟩;have hown1:=own_below' (own_below' hown hx2) hw1;have hbl1:=(hbl.trans (hx2.mono hbl.size)).trans (hw1.mono (by have:=hbl.size;simp;omega)))
     | (at_builtin;go_loud (refine wpList_push hel rfl _ _ rfl rfl (hown1.alloc _) rfl (Box.new w1 2 _) rfl (by intro u hu;simp at hu;subst hu;rfl) oM (by decide) (by have:=hbl1.size;simp;omega) ?_);intro v' w2 hown2 hg2))
    go_roundw
    case rel=>
     refine⟨k+1,by omega,by go_num,?_,?_⟩
     ·
      have e:(l.map (ofE false)).take (k+1)=(l.map (ofE false)).take k++[ofE false (gp l k)]:=by
       rw [List.take_succ_eq_append_getElem (by simp [Hl1.out,hlt])];simp [gp_eq (l:=l) (k:=k) (by rw [Hl1.out];exact hlt)]
      rw [e,List.flatMap_append]
      simpa [encI]using hown2
     ·
      exact(hbl1.alloc hbl1.size _).grown hg2 (by have:=hbl1.size;simp;omega) (fun g e=>by have:=hown1.lt g e;omega)
    case measure=>simp [intOf];omega
   ·
    obtain rfl:k=n:=by omega
    obtain⟨A',c',rfl⟩:=own_form hown
    rw [List.take_of_length_le (by simp [Hl1.out])]at hown
    have hin:IntsAt wr A' k (l.map (ofE false)):=SlAt.of_own encI_len Nat.one_pos hown
    have d2:wr.cell? ⟨b,0,none⟩=some (.func (.func tf) #[] lb):=(bb.below' hbl).cell 0
    go_wp2_with fail
    refine(ht A' c' wr hbl hin).mono ?_
    rintro e w1 ⟨g,hg,rfl,hbg,hb1⟩
    have hb2:Below w.heap.size w w1:=hbl.trans (hb1.mono hbl.size)
    generalize hL:thr (l.map (ofE false))=L at*
    have HL:=Lib.hid hL
    have Hth:=Lib.hid hth
    clear hL hth ht
    go_wp2
    go_loopw [35] (fun kv wr2=>∃q:Nat,q≤k∧kv= .int .i64 q∧Box wr2 g 2 (intCells (backTo false L q))∧Below w.heap.size w wr2) (fun kv wr2=>k- (intOf kv).toNat)
    case atStart=>exact⟨0,Nat.zero_le _,rfl,by rw [backTo_zero];exact hbg,hb2⟩
    case round=>
     obtain⟨q,hq,rfl,hbq,hbw⟩:=hrel
     by_cases hqk:q< k
     ·
      have f1:wr.cell? ⟨g,q,none⟩=some (.int .i64 (gi L q)):=by
       rw [hbq.cell,intCells_get _ _ (by rw [backTo_length,Hth.out];exact hqk),backTo_at _ _ _ (by rw [Hth.out];exact hqk)]
      have hqb:=(forall_gi.1 htb) q (by rw [Hth.out];exact hqk)
      have m2:=fun w=>meth_back_outer w
      have hbq2:∀w',Below wr.heap.size wr w'→w'.cell? ⟨g,q,none⟩=some (.int .i64 (gi L q))∧w'.frozen? ⟨g,q,none⟩=false:=fun w' hb=>⟨(hb.cell (p:=⟨g,q,none⟩) hbq.lt).trans f1,(hbq.below' hb).frozen q⟩
      go_wp2_with (go_at_call 247;refine(outer_back _ _).mono ?_;rintro e w2 ⟨rfl,hw2⟩;obtain⟨f2,f3⟩:=hbq2 w2 hw2)
      go_roundw
      case rel=>
       refine⟨q+1,by omega,by go_num,?_,?_⟩
       ·
        have hs:=(hbq.below' hw2).set q (.int .i64 (backE false (gi L q)))
        rw [intCells_set,backTo_set]at hs
        exact hs
       ·
        exact(hbw.trans (hw2.mono hbw.size)).setCell (p:=⟨g,q,none⟩) (by have:=hbl.size;simp;omega) _
      case measure=>simp [intOf];omega
     ·
      obtain rfl:q=k:=by omega
      go_wp2
      go_ret
      refine⟨g,by have:=hbl.size;omega,rfl,?_,hbw⟩
      have:=Hth.out
      rw [←this,backTo_all]at hbq
      rw [HL.out]
      exact hbq
end Go.Proofs.YtjmbpjlojjgggaaGreatDoor

namespace Go.Proofs.YtjmbpjlojjgggaaGreatDoor
open Go.RowKit Go.Dw Go.Shelf
theorem el_pt:∃i,ElemT Tryz.prog 42 47 i (.agg #[.int .i64 0,.int .i64 0]) 2 16:=elemT Tryz.underlying42 kR rfl (by decide)
theorem Thr.later{tf:Nat}{lb:Array Value}{thr:List Int→List Int}{n:Nat}{h:List Int}{w w':World}(ht:Thr tf lb thr n h w)(hb:Below w.heap.size w w'):Thr tf lb thr n h w':=
  fun A c W hW hi=>ht A c W (hb.trans (hW.mono hb.size)) hi
def wallsP(n:Nat)(li lo:List Int):List Pt:=(List.range n).map fun i=>(gi li i,gi lo i)
theorem wallsP_succ(n:Nat)(li lo:List Int):wallsP (n+1) li lo=wallsP n li lo++[(gi li n,gi lo n)]:=by simp [wallsP,List.range_succ]
def wallsT(thr:List Int→List Int)(l:List Pt):List Pt:=
  wallsP l.length ((thr (l.map (ofE true))).map (backE true)) ((thr (l.map (ofE false))).map (backE false))
set_option maxRecDepth 100000 in
set_option maxHeartbeats 2000000 in
theorem walls_calls(A:Option Addr)(n c:Nat)(l:List Pt)(tf:Nat)(lb:Array Value)(thr:List Int→List Int)(w:World)
    (hl:PtsAt w A n l) (hn:n≤4096) (hlb:∀p∈l, -4194304≤p.1∧p.1≤4194304∧ -4194304≤p.2∧p.2≤4194304)
    (eg:∀args w,(callFunc tf args).run Tryz.prog w= .ok (.enter tf args) w) (ht:∀inn,Thr tf lb thr n (l.map (ofE inn)) w)
    (hth:∀inn,(thr (l.map (ofE inn))).length=n) (htb:∀inn,∀x∈thr (l.map (ofE inn)), -1099511627776≤x∧x≤1099511627776) :
    Calls Tryz.prog 116 #[.slice A n c,.func (.func tf) #[] lb] w fun e w'=>∃v,e= .returned v∧w'.ownsRow w.heap.size 47 2 v n ((wallsT thr l).flatMap encP)∧Below w.heap.size w w':=by
  obtain⟨i0,hel⟩:=el_pt
  have b1:=(Box.new w 42 #[.slice A n c]).alloc (.cells #[.func (.func tf) #[] lb] 164)
  have b2:=Box.new (w.alloc (.cells #[.slice A n c] 42)) 164 #[.func (.func tf) #[] lb]
  have hb:=(below_new w (.cells #[.slice A n c] 42)).alloc (by simp) (.cells #[.func (.func tf) #[] lb] 164)
  have hs:((w.alloc (.cells #[.slice A n c] 42)).alloc (.cells #[.func (.func tf) #[] lb] 164)).heap.size=w.heap.size+1+1:=by simp
  simp only [World.size_alloc]at b2
  have Heg:=Lib.hid eg
  clear eg
  go_enter Tryz.func116,Tryz.ntmps116
  go_wp2_with fail
  generalize (w.alloc (.cells #[.slice A n c] 42)).alloc (.cells #[.func (.func tf) #[] lb] 164)=w0 at*
  refine(both_calls false _ (.inr ⟨rfl,rfl⟩) _ _ A n c l tf lb thr w0 (hl.below' hb) hn hlb b1 b2 Heg.out ((ht false).later hb) (hth false) (htb false)).mono ?_
  rintro e w1 ⟨go,hgo,rfl,hbo,hb1⟩
  have b1':=b1.below' hb1
  have b2':=b2.below' hb1
  have hb':Below w.heap.size w w1:=hb.trans (hb1.mono oM)
  go_wp2_with fail
  refine(both_calls true _ (.inl ⟨rfl,rfl⟩) _ _ A n c l tf lb thr w1 (hl.below' hb') hn hlb b1' b2' Heg.out ((ht true).later hb') (hth true) (htb true)).mono ?_
  rintro e w2 ⟨gn,hgn,rfl,hbn,hb2⟩
  have hbo2:=hbo.below' hb2
  have hb'':Below w.heap.size w w2:=hb'.trans (hb2.mono hb'.size)
  generalize hLo:(thr (l.map (ofE false))).map (backE false)=Lo at*
  generalize hLi:(thr (l.map (ofE true))).map (backE true)=Li at*
  have HLo:=Lib.hid hLo
  have HLi:=Lib.hid hLi
  have hlo:Lo.length=n:=by rw [←hLo];simp [hth]
  have hli:Li.length=n:=by rw [←hLi];simp [hth]
  have Hlo:=Lib.hid hlo
  have Hli:=Lib.hid hli
  have Hht:=Lib.hid ht
  have Hhth:=Lib.hid hth
  have b1'':w2.cell? ⟨w.heap.size,0,none⟩=some (.slice A n c):=(b1'.below' hb2).cell 0
  clear hLo hLi hlo hli ht hth
  go_wp2
  have hg1:w.heap.size≤go:=by omega
  have hg2:w.heap.size≤gn:=by have:=hb1.size;omega
  go_loopw [8,21] (fun v kv wr=>∃k:Nat,k≤n∧kv= .int .i64 k∧wr.ownsRow w.heap.size 47 2 v k ((wallsP k Li Lo).flatMap encP)∧Box wr go 2 (intCells Lo)∧Box wr gn 2 (intCells Li)∧Below w.heap.size w wr) (fun v kv wr=>n- (intOf kv).toNat)
  case atStart=>exact⟨0,Nat.zero_le _,rfl,World.ownsRow_nil _ _ _ _,hbo2,hbn,hb''⟩
  case round=>
    obtain⟨k,hk,rfl,hown,hbo,hbn,hbl⟩:=hrel
    by_cases hlt:k< n
    · have f1:wr.cell? ⟨go,k,none⟩=some (.int .i64 (gi Lo k)):=(hbo.cell k).trans (intCells_get _ _ (by rw [Hlo.out];exact hlt))
      have f2:wr.cell? ⟨gn,k,none⟩=some (.int .i64 (gi Li k)):=(hbn.cell k).trans (intCells_get _ _ (by rw [Hli.out];exact hlt))
      go_wp2
      have hown1:wr.drew.ownsRow w.heap.size 47 2 u8 k ((wallsP k Li Lo).flatMap encP):=hown
      have hbo1:Box wr.drew go 2 (intCells Lo):=hbo
      have hbn1:Box wr.drew gn 2 (intCells Li):=hbn
      have hbl1:Below w.heap.size w wr.drew:=hbl.drew
      go_region_law (refine step_push hel rfl _ _ rfl rfl (hown1.alloc _) rfl (Box.new wr.drew 47 _) rfl (by intro u hu;simp at hu;rcases hu with rfl |rfl <;> rfl) oM (by decide) (Nat.le_trans hbl1.size (by simp)) ?_;intro v' w2 hown2 hg2)
      all_goals
       go_wp2
       go_roundw
       case rel=>
         refine⟨k+1,by omega,by go_num,?_,?_,?_,?_⟩
         · rw [wallsP_succ,List.flatMap_append];exact hown2
         · exact(hbo1.alloc _).grown hg2 (fun e=>own_ne hown1 hbo1 (by decide) _ e.symm rfl)
         · exact(hbn1.alloc _).grown hg2 (fun e=>own_ne hown1 hbn1 (by decide) _ e.symm rfl)
         · exact(hbl1.alloc hbl1.size _).grown hg2 (Nat.le_trans hbl1.size (by simp)) (fun g e=>by have:=hown1.lt g e;omega)
       case measure=>simp [intOf];omega
    · obtain rfl:k=n:=by omega
      go_wp2
      go_ret
      refine⟨_,rfl,?_,hbl⟩
      have e:wallsT thr l=wallsP k Li Lo:=by rw [wallsT,HLo.out,HLi.out,hl.1]
      rw [e];exact hown
end Go.Proofs.YtjmbpjlojjgggaaGreatDoor

namespace Go.Proofs.YtjmbpjlojjgggaaGreatDoor
open Go.RowKit Go.Dw Go.Shelf
def withinB(x lo hi:Int):Bool:=decide (lo≤x) && decide (x≤hi)
def edgeB(p:Pt):Bool:=withinB p.1 (-4194304) 4194304 && withinB p.2 (-4194304) 4194304
theorem edgeB_iff(p:Pt):edgeB p=true↔ -4194304≤p.1∧p.1≤4194304∧ -4194304≤p.2∧p.2≤4194304:=by
 simp [edgeB,withinB];omega
def checkPts(l:List Pt):Int:=if 4096< l.length then 6 else if l.all edgeB then 0 else 2
theorem checkPts_ok{l:List Pt}(h:checkPts l=0):l.length≤4096∧∀p∈l, -4194304≤p.1∧p.1≤4194304∧ -4194304≤p.2∧p.2≤4194304:=by
 unfold checkPts at h
 split at h
 ·
  omega
 ·
  split at h
  ·
   rename_i h2
   exact⟨by omega,fun p hp=>(edgeB_iff p).1 (List.all_eq_true.1 h2 p hp)⟩
  ·
   omega
theorem between_calls(x lo hi:Int)(w:World):Calls Tryz.prog 108 #[.int .i64 x,.int .i64 lo,.int .i64 hi] w fun e w'=>e= .returned (.bool (withinB x lo hi))∧w=w':=by
 go_enter Tryz.func108,Tryz.ntmps108
 go_wp2
 all_goals
  go_ret
  refine⟨?_,rfl⟩
  simp [withinB, *]
 omega
theorem edged_calls(a b:Int)(w:World):Calls Tryz.prog 127 #[.agg #[.int .i64 a,.int .i64 b]] w fun e w'=>e= .returned (.bool (edgeB (a,b)))∧Below w.heap.size w w':=by
 have hb:=below_new w (.cells #[.int .i64 a,.int .i64 b] 47)
 cases h:withinB a (-4194304) 4194304
 all_goals
  go_enter Tryz.func127,Tryz.ntmps127
  go_wp2_with ((with_reducible refine(between_calls _ _ _ _).mono ?_);rintro e w' ⟨rfl,rfl⟩)
  go_ret
  exact⟨by simp [edgeB,h],hb⟩
theorem all_take_succ{l:List Pt}{k:Nat}(h:k< l.length):(l.take (k+1)).all edgeB=((l.take k).all edgeB && edgeB (gp l k)):=by
 rw [take_succ_gp h,List.all_append];simp
theorem checkPts_bad{l:List Pt}{k:Nat}(h4:¬4096< l.length)(hk:k< l.length)(h:edgeB (gp l k)=false):checkPts l=2:=by
 unfold checkPts
 rw [if_neg h4,if_neg]
 intro ha
 have:=List.all_eq_true.1 ha (gp l k) (gp_mem hk)
 rw [h]at this;cases this
theorem checkPts_good{l:List Pt}(h4:¬4096< l.length)(h:l.all edgeB=true):checkPts l=0:=by
 unfold checkPts;rw [if_neg h4,if_pos h]
set_option maxHeartbeats 400000 in
theorem checkPts_calls(A:Option Addr)(n c:Nat)(l:List Pt)(w:World)(hl:PtsAt w A n l)(hn:n≤4611686018427387904) :
  Calls Tryz.prog 76 #[.slice A n c] w fun e w'=>e= .returned (.int .i64 (checkPts l))∧Below w.heap.size w w':=by
 have hl1:=hl.1
 by_cases h4:4096< n
 ·
  go_enter Tryz.func76,Tryz.ntmps76
  go_wp2
  go_ret
  exact⟨ret_int (by rw [checkPts,if_pos oM]),Below.refl _ _⟩
 ·
  have Hl:=Lib.hid hl1
  clear hl1
  go_enter Tryz.func76,Tryz.ntmps76
  go_wp2
  go_loopw [10] (fun i wr=>∃k:Nat,k≤n∧i= .int .i64 k∧(l.take k).all edgeB=true∧Below w.heap.size w wr) (fun i _=>n- (intOf i).toNat)
  case atStart=>exact⟨0,Nat.zero_le _,rfl,rfl,Below.refl _ _⟩
  case round=>
   obtain⟨k,hk,rfl,hall,hbl⟩:=hrel
   have Hall:=Lib.hid hall
   clear hall
   by_cases hlt:k< n
   ·
    obtain⟨b,o,rfl,hb,hc1,hc2⟩:=pts_at (hl.below' hbl) hlt
    have hx:=hbl.trans ((below_new wr (.cells #[.int .i64 (gp l k).1,.int .i64 (gp l k).2] 47)).mono hbl.size)
    cases he:edgeB ((gp l k).1,(gp l k).2)
    all_goals
     have He:=Lib.hid he
     clear he
     go_wp2_with ((with_reducible refine(edged_calls _ _ _).mono ?_);rintro e w' ⟨rfl,hw'⟩;rw [He.out])
    ·
     go_ret
     exact⟨ret_int (by rw [checkPts_bad (by rw [Hl.out];exact h4) (by rw [Hl.out];exact hlt) He.out]),hx.trans (hw'.mono hx.size)⟩
    ·
     go_roundw
     case rel=>exact⟨k+1,by omega,by go_num,by rw [all_take_succ (by rw [Hl.out];exact hlt),Hall.out];exact He.out,hx.trans (hw'.mono hx.size)⟩
     case measure=>simp [intOf];omega
   ·
    obtain rfl:k=n:=by omega
    go_wp2
    go_ret
    have h:=Hall.out
    rw [List.take_of_length_le (by rw [Hl.out];exact Nat.le_refl _)]at h
    exact⟨ret_int (by rw [checkPts_good (by rw [Hl.out];exact h4) h]),hbl⟩
end Go.Proofs.YtjmbpjlojjgggaaGreatDoor

namespace Go.Proofs.YtjmbpjlojjgggaaGreatDoor
open Go.RowKit Go.Dw Go.Shelf
def tipBad(t:List Int)(k:Nat):Bool:=if k=0 then gi t 0 !=0 else decide (gi t k< gi t (k- 1)) || decide (4194304< gi t k)
def checkTip(t:List Int):Int:=if t.length=0∨64< t.length then 6 else if(List.range t.length).any (tipBad t)then 2 else 0
theorem checkTip_many{t:List Int}(h:t.length=0∨64< t.length):checkTip t=6:=by rw [checkTip,if_pos h]
theorem checkTip_bad{t:List Int}{k:Nat}(h:¬(t.length=0∨64< t.length))(hk:k< t.length)(hb:tipBad t k=true):checkTip t=2:=by
  rw [checkTip,if_neg h,if_pos]
  rw [List.any_eq_true];exact⟨k,List.mem_range.2 hk,hb⟩
theorem checkTip_good{t:List Int}(h:¬(t.length=0∨64< t.length))(hb:∀k,k< t.length→tipBad t k=false):checkTip t=0:=by
  rw [checkTip,if_neg h,if_neg]
  rw [List.any_eq_true];rintro⟨k,hk,e⟩
  rw [hb k (List.mem_range.1 hk)]at e;cases e
theorem checkTip_ok{t:List Int}(h:checkTip t=0):0< t.length∧t.length≤64∧gi t 0=0∧(∀k,k+1< t.length→gi t k≤gi t (k+1))∧∀x∈t,0≤x∧x≤4194304:=by
  unfold checkTip at h
  split at h
  · omega
  · split at h
    · omega
    · rename_i h1 h2
      have hb:∀k,k< t.length→tipBad t k=false:=fun k hk=>by
        cases e:tipBad t k with
        |false=>rfl
        |true=>exact absurd (List.any_eq_true.2 ⟨k,List.mem_range.2 hk,e⟩) h2
      have h0:gi t 0=0:=by have:=hb 0 oM;simpa [tipBad]using this
      have hs:∀k,k+1< t.length→gi t k≤gi t (k+1)∧gi t (k+1)≤4194304:=fun k hk=>by
        have:=hb (k+1) hk
        simp [tipBad]at this
        omega
      refine⟨by omega,by omega,h0,fun k hk=>(hs k hk).1,?_⟩
      rw [forall_gi (p:=fun x=>0≤x∧x≤4194304)]
      intro k
      induction k with
      |zero=>intro _;rw [h0];omega
      |succ k ih=>intro hk;have:=ih oM;have:=hs k hk;omega
set_option maxRecDepth 100000 in
set_option maxHeartbeats 1000000 in
theorem checkTip_calls(A:Option Addr)(n c:Nat)(t:List Int)(w:World)(hl:IntsAt w A n t)(hn:n≤4611686018427387904) :
    Calls Tryz.prog 115 #[.agg #[.slice A n c]] w fun e w'=>e= .returned (.int .i64 (checkTip t))∧Below w.heap.size w w':=by
  have hb0:=below_new w (.cells #[.slice A n c] 59)
  have hbx:=Box.new w 59 #[.slice A n c]
  have Hl:=Lib.hid hl.1
  by_cases h0:n=0
  · subst h0
    have d0:((0:Int) == 0)=true:=rfl
    go_enter Tryz.func115,Tryz.ntmps115
    go_wp2
    all_goals go_ret
    all_goals exact⟨ret_int (by rw [checkTip_many (by rw [Hl.out];omega)]),hb0⟩
  · have d0:((n:Int) == 0)=false:=beq_eq_false_iff_ne.2 oM
    by_cases h64:64< n
    · have d1:decide ((64:Int)< (n:Int))=true:=by simp;omega
      go_enter Tryz.func115,Tryz.ntmps115
      go_wp2
      all_goals go_ret
      all_goals exact⟨ret_int (by rw [checkTip_many (by rw [Hl.out];omega)]),hb0⟩
    · have d1:decide ((64:Int)< (n:Int))=false:=by simp;omega
      go_enter Tryz.func115,Tryz.ntmps115
      go_wp2
      generalize w.alloc (.cells #[.slice A n c] 59)=w0 at*
      have hl0:=hl.below' hb0
      go_loop [3,19] (fun last i=>∃k:Nat,k≤n∧i= .int .i64 k∧last= .int .i64 (if k=0 then 0 else gi t (k- 1))∧∀j,j< k→tipBad t j=false) (fun _ i=>n- (intOf i).toNat)
      case atStart=>exact⟨0,Nat.zero_le _,rfl,rfl,fun j hj=>absurd hj oM⟩
      case round=>
        obtain⟨k,hk,rfl,rfl,hall⟩:=hrel
        have Hall:=Lib.hid hall
        clear hall
        by_cases hlt:k< n
        · obtain⟨b,o,rfl,hb,hc1⟩:=ints_at hl0 hlt
          have key:(tipBad t k=true→checkTip t=2):=fun h=>checkTip_bad (by rw [Hl.out];omega) (by rw [Hl.out];exact hlt) h
          have Key:=Lib.hid key
          clear key
          have next:tipBad t k=false→∀j,j< k+1→tipBad t j=false:=fun h j hj=>by
            by_cases e:j=k
            · subst e;exact h
            · exact Hall.out j oM
          have Next:=Lib.hid next
          clear next
          by_cases hk0:k=0
          · subst hk0
            rw [Nat.add_zero]at hc1
            simp only [if_true]
            go_wp2
            all_goals first
              | (go_ret;exact⟨ret_int (by rw [Key.out (by simp [tipBad];simp at *;omega)]),hb0⟩)
              | (go_round
                 case rel=>exact⟨1,by omega,by go_num,by simp,Next.out (by simp [tipBad];simp at *;omega)⟩
                 case measure=>simp [intOf];omega)
          · have dk:((k:Int) == 0)=false:=beq_eq_false_iff_ne.2 oM
            simp only [hk0,if_false]
            go_wp2
            all_goals first
              | (go_ret;exact⟨ret_int (by rw [Key.out (by simp [tipBad,hk0];simp at *;omega)]),hb0⟩)
              | (go_round
                 case rel=>exact⟨k+1,by omega,by go_num,by simp,Next.out (by simp [tipBad,hk0];simp at *;omega)⟩
                 case measure=>simp [intOf];omega)
        · obtain rfl:k=n:=by omega
          go_wp2
          go_ret
          exact⟨ret_int (by rw [checkTip_good (by rw [Hl.out];omega) (by rw [Hl.out];exact Hall.out)]),hb0⟩
end Go.Proofs.YtjmbpjlojjgggaaGreatDoor
