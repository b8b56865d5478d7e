/-
  Several texts in one: TopFewHearings in plain Lean: the next disc splits the causes left, so that it was not heard before; the cause of the flaw is always left. Conditions: told in each theorem. .. The samples that are near, for values without addresses. No condition.
-/
import Derived.Test.YtjmbpjlojjgggaaGreatDoorX11
import Derived.Test.YtjmbpjlojjgggaaGreatDoorAbs42
import Derived.Test.YtjmbpjlojjgggaaGreatDoorX00
import Derived.Test.YtjmbpjlojjgggaaGreatDoorX03
import Derived.Test.YtjmbpjlojjgggaaGreatDoorX01
import Derived.Test.YtjmbpjlojjgggaaGreatDoorMC
import Derived.Test.YtjmbpjlojjgggaaGreatDoorX04
import Derived.Test.YtjmbpjlojjgggaaGreatDoorX02
import Derived.Test.YtjmbpjlojjgggaaGreatDoorMD
import Derived.Test.YtjmbpjlojjgggaaGreatDoorX05
set_option maxRecDepth 100000
set_option maxHeartbeats 4000000
namespace Go.Proofs.YtjmbpjlojjgggaaGreatDoor
open Go.Ab Go.RowKit Go.Dw Go.Shelf
def gY(l:List dK)(i:Nat):Nat:=(l.filter fun c=>c.2.2 i).length
theorem ri(l:List dK)(i:Nat):gY l i<=l.length:=List.length_filter_le _ _
theorem BG{l:List dK}{i:Nat}{b:Bool}(h:∀c∈l,c.2.2 i=b):gY l i=if b=true then l.length else 0:=by
 unfold gY;cases b with
 |true=>rw [if_pos rfl,List.filter_eq_self.2 h]
 |false=>rw [if_neg (by decide),List.length_eq_zero_iff,List.filter_eq_nil_iff];intro c hc;rw [h c hc];decide
def EA(l:List dK)(i:Nat):Prop:=0< gY l i/\gY l i< l.length
theorem Kw{l:List dK}{c c':dK}(h:c∈l)(h':c'∈l){i:Nat}(e:c.2.2 i≠c'.2.2 i):EA l i:=by
 have key:∀ {c c':dK},c∈l->c'∈l->c.2.2 i=true->c'.2.2 i=false->EA l i:=fun {c c'} h h' e1 e2=>by refine⟨List.length_pos_of_mem (List.mem_filter.2 ⟨h,e1⟩),?_⟩;refine Nat.lt_of_le_of_ne (ri l i) fun he=> ?_;have h1:l.filter (fun c:dK=>c.2.2 i)=l:=List.Sublist.eq_of_length (List.filter_sublist ..) he;have h2:=List.filter_eq_self.1 h1 c' h';rw [e2]at h2;cases h2
 cases h1:c.2.2 i with
 |true=>exact key h h' h1 (by cases h2:c'.2.2 i with |true=>rw [h1,h2]at e;exact absurd rfl e |false=>rfl)
 |false=>exact key h' h (by cases h2:c'.2.2 i with |true=>rfl |false=>rw [h1,h2]at e;exact absurd rfl e) h1
theorem Kv{l:List dK}{i:Nat}{b:Bool}(h:∀c∈l,c.2.2 i=b):¬EA l i:=fun⟨h1,h2⟩=>by
 rw [BG h]at h1 h2;split at h1;·rename_i e;rw [if_pos e]at h2;omega
 ·omega
def ku(l:List dK):Nat->Nat×Nat
 |0=>(0,l.length)
 |k+1=>if max (gY l k) (l.length- gY l k)< (ku l k).2 then(k,max (gY l k) (l.length- gY l k))else ku l k
theorem Hr(l:List dK):∀k,((ku l k).2=l.length/\∀i,i< k->¬EA l i)\/((ku l k).2< l.length/\(ku l k).1< k/\EA l (ku l k).1)
  |0=> .inl ⟨rfl,fun _ h=>absurd h (Nat.not_lt_zero _)⟩
  |k+1=>by
    have hc:=ri l k
    have ih:=Hr l k
    rw [ku]
    by_cases h:max (gY l k) (l.length- gY l k)< (ku l k).2
    · rw [if_pos h]
      have hr:(ku l k).2<=l.length:=by rcases ih with h |h <;> omega
      refine .inr ⟨?_,?_,?_,?_⟩
      · show max _ _< _;omega
      · exact Nat.lt_succ_self k
      · show 0< gY l k;omega
      · show gY l k< _;omega
    · rw [if_neg h]
      rcases ih with⟨h1,h2⟩ | ⟨h1,h2,h3⟩
      · refine .inl ⟨h1,fun i hi=> ?_⟩
        by_cases c:i< k
        · exact h2 i c
        · obtain rfl:i=k:=by omega
          rintro⟨a,b⟩
          omega
      · exact .inr ⟨h1,by omega,h3⟩
def Jl(m:Nat)(c0 c:dK):Bool:=(List.range m).any fun i=>c0.2.2 i !=c.2.2 i
theorem FV{m:Nat}{c0 c:dK}:Jl m c0 c=true<->∃i,i< m/\c0.2.2 i≠c.2.2 i:=by
 unfold Jl;rw [List.any_eq_true];constructor;·rintro⟨i,hi,h⟩;exact⟨i,List.mem_range.1 hi,by simpa using h⟩
 ·rintro⟨i,hi,h⟩;exact⟨i,List.mem_range.2 hi,by simpa using h⟩
def ke(m:Nat)(l:List dK):Bool:=l.any fun c=>Jl m (l.getD 0 (0,0,fun _=>false)) c
theorem vE{m:Nat}{l:List dK}(h:ke m l=true):(ku l m).2< l.length/\(ku l m).1< m/\EA l (ku l m).1:=by
 unfold ke at h;obtain⟨c,hc,h⟩:=List.any_eq_true.1 h;obtain⟨i,hi,h⟩:=FV.1 h;have h0:l.getD 0 (0,0,fun _=>false)∈l:=by
  cases l with
  |nil=>cases hc
  |cons a l=>exact List.mem_cons_self ..
 rcases Hr l m with⟨_,h2⟩ |h2;·exact absurd (Kw h0 hc h) (h2 i hi)
 ·exact h2
theorem Mr{m:Nat}{l:List dK}(h:ke m l=false){c c':dK}(hc:c∈l)(hc':c'∈l):∀i,i< m->c.2.2 i=c'.2.2 i:=fun i hi=>by
 have key:∀c∈l,(l.getD 0 (0,0,fun _=>false)).2.2 i=c.2.2 i:=fun c hc=>by
  cases e:Jl m (l.getD 0 (0,0,fun _=>false)) c with
  |true=>unfold ke at h;rw [List.any_eq_false]at h;exact absurd e (h c hc)
  |false=>refine Classical.byContradiction fun hn=> ?_;rw [FV.2 ⟨i,hi,hn⟩]at e;cases e
 rw [<-key c hc,<-key c' hc']
theorem Kg{hs:kq}{c:dK}(h:Ec hs c=true){x:Nat×Bool}(hx:x∈hs):c.2.2 x.1=x.2:=by unfold Ec at h;simpa using List.all_eq_true.1 h x hx
theorem rY:∀(m:Nat) (l:List Nat),l.Nodup->(∀x∈l,x< m)->l.length<=m
 |0,[],_,_=>Nat.le_refl _
 |0,x::_,_,h=>absurd (h x (List.mem_cons_self ..)) (Nat.not_lt_zero _)
 |m+1,l,hd,h=>by
  by_cases hm:m∈l
  ·have h1:=rY m (l.erase m) (hd.erase m) fun x hx=>by have h2:=(List.Nodup.mem_erase_iff hd).1 hx;have:=h x h2.2;have:=h2.1;omega
   rw [List.length_erase_of_mem hm]at h1;omega
  ·refine Nat.le_succ_of_le (rY m l hd fun x hx=> ?_);have:=h x hx;have:x≠m:=fun e=>hm (e ▸ hx);omega
structure mT(g:Nat->Bool)(m:Nat)(hs:kq):Prop where
  lt:∀x∈hs,x.1< m
  eq:∀x∈hs,x.2=g x.1
  nd:(hs.map (·.1)).Nodup
theorem mT.nil(g:Nat->Bool)(m:Nat):mT g m []:=⟨fun _ h=>(by cases h),fun _ h=>(by cases h),List.nodup_nil⟩
theorem mT.len{g:Nat->Bool}{m:Nat}{hs:kq}(h:mT g m hs):hs.length<=m:=by
 have:=rY m (hs.map (·.1)) h.nd fun x hx=>by obtain⟨y,hy,rfl⟩:=List.mem_map.1 hx;exact h.lt y hy
 rwa [List.length_map]at this
theorem mT.get{g:Nat->Bool}{m:Nat}{hs:kq}(h:mT g m hs):∀i,i< hs.length->(hs.getD i (0,false)).1< m:=fun i hi=>by rw [List.getD_eq_getElem?_getD,List.getElem?_eq_getElem hi];exact h.lt _ (List.getElem_mem hi)
theorem mT.app{g:Nat->Bool}{m:Nat}{hs:kq}(h:mT g m hs){d:Nat}(hd:d< m)(hn:∀x∈hs,x.1≠d):mT g m (hs++[(d,g d)]):=by
 refine⟨fun x hx=> ?_,fun x hx=> ?_,?_⟩
 ·rcases List.mem_append.1 hx with hx |hx;·exact h.lt x hx
  ·obtain rfl:=List.mem_singleton.1 hx;exact hd
 ·rcases List.mem_append.1 hx with hx |hx;·exact h.eq x hx
  ·obtain rfl:=List.mem_singleton.1 hx;rfl
 ·rw [List.map_append,List.nodup_append];refine⟨h.nd,by simp,fun a ha b hb=> ?_⟩;obtain⟨y,hy,rfl⟩:=List.mem_map.1 ha;have:b=d:=by simpa using hb
  rw [this];exact hn y hy
theorem xW{S:Sh}{T:Nat->Nat}{m:Nat}{g:Nat->Bool}{hs:kq}(hd:ke m (cr S T m hs)=true):∀x∈hs,x.1≠(ku (cr S T m hs) m).1:=fun x hx e=>by have h1:=(vE hd).2.2;refine Kv (l:=cr S T m hs) (i:=(ku (cr S T m hs) m).1) (b:=x.2) (fun c hc=> ?_) h1;rw [<-e];exact Kg (List.mem_filter.1 hc).2 hx
theorem Ka{S:Sh}{T:Nat->Nat}{m:Nat}{g:Nat->Bool}{hs:kq}(h:mT g m hs)(hd:ke m (cr S T m hs)=true):hs.length< m:=by have:=(h.app (vE hd).2.1 (xW (g:=g) hd)).len;rw [List.length_append]at this;exact this
theorem zB{S:Sh}{T:Nat->Nat}{m:Nat}{g:Nat->Bool}{hs:kq}(h:mT g m hs){c:dK}(hc:c∈gk S T m)(he:∀i,i< m->c.2.2 i=g i):c∈cr S T m hs:=by refine List.mem_filter.2 ⟨hc,?_⟩;unfold Ec;refine List.all_eq_true.2 fun x hx=> ?_;rw [he x.1 (h.lt x hx),h.eq x hx];exact beq_self_eq_true _
theorem Kf{g g':Nat->Bool}{m:Nat}(h:cY g m=cY g' m):∀i,i< m->g i=g' i:=fun i hi=>by
 have h1:=qx (g:=g) hi;have h2:=qx (g:=g') hi;rw [h]at h1;cases e:g i with
 |true=>exact(h2.1 (h1.2 e)).symm
 |false=>
  cases e':g' i with
  |false=>rfl
  |true=>rw [h1.1 (h2.2 e')]at e;cases e
theorem w6{S:Sh}{T:Nat->Nat}{m:Nat}{g:Nat->Bool}{X F:Int}(h:(F< 0/\cY g m=[])\/(0<=F/\p0 (gk S T m) m X F=(cY g m,0)))(hne:cY g m≠[]):∃c∈gk S T m,∀i,i< m->c.2.2 i=g i:=by
 rcases h with⟨_,h⟩ | ⟨_,h⟩;·exact absurd h hne
 unfold p0 at h;split at h;·rename_i c hc;injection h with h _;exact⟨c,List.mem_of_find?_eq_some hc,Kf h⟩
 ·injection h with _ h;cases h
theorem FP{S:Sh}(hn:S.n<=200)(hk:dh S){X N:Nat}{f:Int}(h:CL S X N f){T:Nat->Nat}{m:Nat}(hT:∀i,i< m->T i< S.n/\(S.pl (T i)).kind=3)(hne:cY (v8 (bQ S f S.n) T) m≠[]):∃c∈gk S T m,∀i,i< m->c.2.2 i=v8 (bQ S f S.n) T i:=by
 by_cases h3:(S.pl X).kind=3;·exact w6 (DA hn hk h h3 (fun i hi=>(hT i hi).1) rfl) hne
 ·exact w6 (Dz hn hk h h3 hT rfl) hne
def Mo(l:List dK)(i:Nat):Bool:=decide (0< gY l i) && decide (gY l i=l.length)
def Nb(l:List dK)(i:Nat):Bool:=decide (0< gY l i)
theorem Gf{S:Sh}{T:Nat->Nat}{m:Nat}{g:Nat->Bool}{hs:kq}(h:mT g m hs){c:dK}(hc:c∈gk S T m)(he:∀i,i< m->c.2.2 i=g i)(hd:ke m (cr S T m hs)=false) : cY (Mo (cr S T m hs)) m=cY g m/\cY (Nb (cr S T m hs)) m=cY g m:=by
 have hl:=zB h hc he;have hp:0< (cr S T m hs).length:=List.length_pos_of_mem hl;have hcn:∀i,i< m->gY (cr S T m hs) i=if g i=true then(cr S T m hs).length else 0:=fun i hi=>BG fun c' hc'=>by rw [Mr hd hc' hl i hi,he i hi]
 refine⟨oG fun i hi=> ?_,oG fun i hi=> ?_⟩
 ·unfold Mo;rw [hcn i hi];cases g i with
  |true=>simp [hp]
  |false=>simp
 ·unfold Nb;rw [hcn i hi];cases g i with
  |true=>simp [hp]
  |false=>simp
def pg(l:List dK)(k i j:Nat):Nat:=if j< i then gY (l.take (k+1)) j else gY (l.take k) j
def oe(l:List dK)(k i j:Nat):List V:=[.i (pg l k i j:Nat)]
def Ld(l:List dK)(j:Nat):List V:=[.i (gY l j:Nat)]
theorem xg{l:List dK}{k:Nat}(hk:k< l.length)(j:Nat):gY (l.take (k+1)) j=gY (l.take k) j+if(l.getD k (0,0,fun _=>false)).2.2 j=true then 1 else 0:=by
 unfold gY;rw [List.take_add_one,List.getElem?_eq_getElem hk,List.filter_append,List.length_append,List.getD_eq_getElem?_getD,List.getElem?_eq_getElem hk];congr 1
 show([l[k]].filter _).length=_;cases h:(l[k]).2.2 j with
 |true=>simp [h]
 |false=>simp [h]
theorem Mp(l:List dK)(k i j:Nat):pg l k i j<=l.length:=by have h1:=ri (l.take (k+1)) j;have h2:=ri (l.take k) j;rw [List.length_take]at h1 h2;unfold pg;split <;> omega
theorem Oo{l:List dK}{k i:Nat}(hk:k< l.length)(h:(l.getD k (0,0,fun _=>false)).2.2 i=true)(j:Nat):pg l k (i+1) j=if j=i then pg l k i i+1 else pg l k i j:=by
 unfold pg;by_cases c:j=i;·subst c;rw [if_pos rfl,if_pos (Nat.lt_succ_self _),if_neg (Nat.lt_irrefl _),xg hk,if_pos h]
 ·rw [if_neg c];by_cases c2:j< i;·rw [if_pos c2,if_pos oM]
  ·rw [if_neg c2,if_neg oM]
theorem Om{l:List dK}{k i:Nat}(hk:k< l.length)(h:(l.getD k (0,0,fun _=>false)).2.2 i=false)(j:Nat):pg l k (i+1) j=pg l k i j:=by
 unfold pg;by_cases c:j=i;·subst c;rw [if_pos (Nat.lt_succ_self _),if_neg (Nat.lt_irrefl _),xg hk,if_neg (by rw [h];decide)];rfl
 ·by_cases c2:j< i;·rw [if_pos c2,if_pos oM]
  ·rw [if_neg c2,if_neg oM]
theorem On{l:List dK}{k m j:Nat}(hj:j< m):pg l k m j=pg l (k+1) 0 j:=by unfold pg;rw [if_pos hj,if_neg (Nat.not_lt_zero _)]
theorem Rm(l:List dK)(j:Nat):pg l 0 0 j=0:=by unfold pg;rw [if_neg (Nat.not_lt_zero _)];rfl
theorem Ol(l:List dK)(j:Nat):pg l l.length 0 j=gY l j:=by unfold pg;rw [if_neg (Nat.not_lt_zero _),List.take_length]
abbrev nT:=((0:Int),(0:Int),fun(x:Nat)=>false)
theorem GZ(S:Sh)(T:Nat->Nat)(m:Nat)(hm:m<=16)(l:List dK)(hl:l.length<=40016) : AC Tryz.prog 96 [dm S T m,sB m l] (.own 0) [.row 3 1 m (oe l l.length 0)]:=by
 refine ff ah b9 Tryz.func96 Tryz.ntmps96 fun C hC hF=> ?_;refine yS ah 2 1 [] ?_;refine sX ah 3 7 [(5,.r (PR.mk (some (15:Nat)) (some ((0:Int)<=(↑m:Int)/\(↑m:Int)<=(↑m:Int)/\(↑m:Int)<=1099511627776)) (V.own 200015) [((200015:Nat),some (Ob.row 3 1 m fun(x:Nat)=>[V.c (Value.int IntKind.i64 0)]))] false))] ⟨⟨oM,oM⟩,tI⟩ (sK fun K hK=>sK fun K hK=>wR 4 ?_);refine yN ah 3 [] hK ?_;clear hK K;refine aq ?_;refine b8 (ι:=Nat) (fun k=>[(5,.own 5),(16,sB m l),(17,.i (l.length:Nat)),(18,.i (k:Nat))]) (fun k=>[(5,.row 3 1 m (oe l k 0))]) (fun k=>k<=l.length) (fun k=>l.length- k) 0 (Nat.zero_le _) ?_ ?_;·refine aA (sl:=[(5,Ob.row 3 1 m (oe l (0:Nat) (0:Nat)))]) [(5,200015)] (.cons kR (.cons kR (.cons kR (.cons kR .nil)))) (.cons oS .nil) kR kR
 intro k hk1;refine yS ah 2 1 [] ?_;refine sK fun K hK=> ?_;refine av (t:=decide ((↑k:Int)< (↑(List.length l):Int))) kR (fun c1=> ?_) (fun c1=> ?_)
 ·have hkl:k< l.length:=by have h:=of_decide_eq_true c1;omega
  refine ak ?_;refine aj (hK _ ?_);clear hK K;refine sK fun K hK=> ?_;refine aq ?_;refine yS ah 3 4 [(0,.c ((0:Int)<=(↑k:Int)/\(↑k:Int)< (↑(List.length l):Int)) oM),(2,.c ((0:Nat)+(3:Nat)<=(3:Nat)) oM)] ?_;refine yS ah 4 4 [(1,.c ((2:Nat)<=(3:Nat)) oM)] ?_;refine aq ?_;refine gF (cz (t:=(187:Nat)) (cs:=[V.i (Prod.fst (List.getD l k nT)),V.i (Prod.fst (Prod.snd (List.getD l k nT))),V.sl 1 m (dn (Prod.snd (Prod.snd (List.getD l k nT))))]) 200007 kR kR) ?_;refine b8 (ι:=Nat) (fun i=>[(5,.own 5),(16,sB m l),(17,.i (l.length:Nat)),(18,.i (k:Nat)),(23,.sl 1 m (dn (l.getD k (0,0,fun _=>false)).2.2)),(24,.i (m:Nat)),(25,.i (i:Nat))]) (fun i=>[(5,.row 3 1 m (oe l k i))]) (fun i=>i<=m) (fun i=>m- i) 0 (Nat.zero_le _) ?_ ?_;·refine aA (sl:=[(5,Ob.row 3 1 m (oe l k (0:Nat)))]) [(5,5)] (.cons kR (.cons kR (.cons kR (.cons kR (.cons kR (.cons kR (.cons kR .nil))))))) (.cons oS .nil) kR kR
  intro i hi1;refine yS ah 2 1 [] ?_;refine sK fun K hK=> ?_;refine av (t:=decide ((↑i:Int)< (↑m:Int))) kR (fun c2=> ?_) (fun c2=> ?_)
  ·have him:i< m:=by have h:=of_decide_eq_true c2;omega
   have hle:=Mp l k i i;refine ak ?_;refine aj (hK _ ?_);clear hK K;refine sK fun K hK=> ?_;refine aq ?_;refine yS ah 3 5 [(1,.c ((0:Int)<=(↑i:Int)/\(↑i:Int)< (↑m:Int)) oM)] ?_;refine yS ah 4 1 [] ?_;refine av (t:=Prod.snd (Prod.snd (List.getD l k ((0:Int),(0:Int),fun(x:Nat)=>false))) i) kR (fun c3=> ?_) (fun c3=> ?_)
   ·have hin:(l.getD k (0,0,fun _=>false)).2.2 i=true:=c3;refine wR 5 ?_;refine aY ah 7 [(2,.c ((0:Int)<=(↑i:Int)/\(↑i:Int)< (↑m:Int)) oM),(0,.c (i< m/\(0:Nat)<=(1:Nat)) oM),(0,.c (iR ((↑(pg l k i i):Int)+1)) oM),(0,.c ((0:Int)<=(↑i:Int)/\(↑i:Int)< (↑m:Int)) oM),(0,.c (i< m/\(0:Nat)+(1:Nat)<=(1:Nat)) oM)] ?_;refine aa (bG (aj (hK _ ?_)));clear hK K;refine wR 6 ?_;refine aY ah 2 [(0,.c (iR ((↑i:Int)+1)) oM)] ?_;refine aa (aj ?_);refine⟨i+1,by omega,?_,by omega⟩;refine aA (tl:=[(5,V.own 5),(16,V.sl 3 (List.length l) (fW m l)),(17,V.i (↑(List.length l):Int)),(18,V.i (↑k:Int)),(23,V.sl 1 m (dn (Prod.snd (Prod.snd (List.getD l k nT))))),(24,V.i (↑m:Int)),(25,V.i (↑(i+1):Int))]) (sl:=[(5,Ob.row 3 1 m (oe l k (i+1)))]) [(5,5)] (.cons kR (.cons kR (.cons kR (.cons kR (.cons kR (.cons kR (.cons kR .nil))))))) (.cons ⟨Ob.row 3 1 m fun(j:Nat)=>if j=i then [V.i ((↑(pg l k i i):Int)+1)]else oe l k i j,kR,.row kR ?_⟩ .nil) kR kR
    ·intro j _;show(if j=i then [V.i ((pg l k i i:Int)+1)]else [V.i (pg l k i j:Nat)])=[V.i (pg l k (i+1) j:Nat)];rw [Oo hkl hin];by_cases h:j=i;·rw [if_pos h,if_pos h];rfl
     ·rw [if_neg h,if_neg h]
   ·have hin:(l.getD k (0,0,fun _=>false)).2.2 i=false:=by simpa using c3
    refine ak ?_;refine bG (aj (hK _ ?_));clear hK K;refine wR 5 ?_;refine aY ah 2 [(0,.c (iR ((↑i:Int)+1)) oM)] ?_;refine aa (aj ?_);refine⟨i+1,by omega,?_,by omega⟩;refine aA (tl:=[(5,V.own 5),(16,V.sl 3 (List.length l) (fW m l)),(17,V.i (↑(List.length l):Int)),(18,V.i (↑k:Int)),(23,V.sl 1 m (dn (Prod.snd (Prod.snd (List.getD l k nT))))),(24,V.i (↑m:Int)),(25,V.i (↑(i+1):Int))]) (sl:=[(5,Ob.row 3 1 m (oe l k (i+1)))]) [(5,5)] (.cons kR (.cons kR (.cons kR (.cons kR (.cons kR (.cons kR (.cons kR .nil))))))) (.cons ⟨Ob.row 3 1 m (oe l k i),kR,.row kR ?_⟩ .nil) kR kR;·intro j _;show [V.i (pg l k i j:Nat)]=[V.i (pg l k (i+1) j:Nat)];rw [Om hkl hin]
  ·obtain rfl:i=m:=by have h:=of_decide_eq_false c2;omega
   refine aP ?_;refine bK ?_;refine bK ?_;refine bu ?_;refine bG (aj ?_);clear hK K;refine hK _ ?_;clear hK K;refine wR 3 ?_;refine aY ah 2 [(0,.c (iR ((↑k:Int)+1)) oM)] ?_;refine aa (aj ?_);refine⟨k+1,by omega,?_,by omega⟩;refine aA (tl:=[(5,V.own 5),(16,V.sl 3 (List.length l) (fW i l)),(17,V.i (↑(List.length l):Int)),(18,V.i (↑(k+1):Int))]) (sl:=[(5,Ob.row 3 1 i (oe l (k+1) (0:Nat)))]) [(5,5)] (.cons kR (.cons kR (.cons kR (.cons kR .nil)))) (.cons ⟨Ob.row 3 1 i (oe l k i),kR,.row kR ?_⟩ .nil) kR kR;·intro j hj;show [V.i (pg l k i j:Nat)]=[V.i (pg l (k+1) 0 j:Nat)];rw [On hj]
 ·obtain rfl:k=l.length:=by have h:=of_decide_eq_false c1;omega
  refine aP ?_;refine bK ?_;refine bK ?_;refine bu ?_;refine aj ?_;clear hK K;refine hK _ ?_;clear hK K;refine yS ah 3 2 [] ?_;refine ax ?_;refine eJ [(0,5)] [(4,V.own 0)] (.inr rfl) (.cons kR .nil) (.cons oS .nil) kR kR kR kR
theorem B6(S:Sh)(T:Nat->Nat)(m:Nat)(hm:m<=16)(l:List dK)(hl:l.length<=40016) : AC Tryz.prog 96 [dm S T m,sB m l] (.sl 1 m (Ld l)) []:= AC.iQ (e:=3) (sz:=1) (n:=m) (row:=Ld l) (v:= .own 0) (by have h:=GZ S T m hm l hl;rw [show oe l l.length 0=Ld l by funext j;unfold oe Ld;rw [Ol]]at h;exact h) rfl (fun _ _=>rfl) (fun _=>rfl) rfl rfl
theorem w7(n a:Int):AC Tryz.prog 98 [.i n,.i a] (.b (decide (0< n) && decide (n=a))) []:=by refine ff ah b9 Tryz.func98 Tryz.ntmps98 fun C hC hF=> ?_;refine yS ah 2 1 [] ?_;refine yS ah 3 8 [] ?_;refine ax ?_;refine rP (V.b (decide ((0:Int)< n) && decide (n=a)))
theorem vF(n a:Int):AC Tryz.prog 99 [.i n,.i a] (.b (decide (0< n))) []:=by refine ff ah b9 Tryz.func99 Tryz.ntmps99 fun C hC hF=> ?_;refine yS ah 2 1 [] ?_;refine yS ah 3 3 [] ?_;refine ax ?_;refine rP (V.b (decide ((0:Int)< n)))
def lW(Kp:Nat->Nat->Bool)(l:List dK)(i:Nat):Bool:=Kp (gY l i) l.length
theorem zV(S:Sh)(hn:S.n<=200)(hk:dh S)(A B:Nat->Nat)(m:Nat)(hm:m<=16)(hA:eU S m A)(hB:eU S m B)(sd:Bool)(hs:kq)(hhl:hs.length<=200)(hhs:∀i,i< hs.length->(hs.getD i (0,false)).1< m)(f:FuncId)(Kp:Nat->Nat->Bool)(hKp:∀n a:Nat,AC Tryz.prog f [.i (n:Nat),.i (a:Nat)] (.b (Kp n a)) []) : AC Tryz.prog 97 [fD S,gS A B m,.i (iH sd),yX hs,.fn (.func f) [] []] (.tup [.own 0,.i 0]) [.row 2 1 (cY (lW Kp (cr S (dJ sd A B) m hs)) m).length (nW (lW Kp (cr S (dJ sd A B) m hs)) m)]:=by
 have AL:=vB S hn hk A B m hm hA hB sd hs hhl hhs;have hll:=nr hn (dJ sd A B) hm hs;obtain⟨T,hTe⟩:∃T,T=dJ sd A B:=⟨_,rfl⟩;rw [<-hTe]at AL hll ⊢;obtain⟨l,hl⟩:∃l,l=cr S T m hs:=⟨_,rfl⟩;rw [<-hl]at AL hll ⊢;have AM:=B6 S T m hm l hll;refine ff ah b9 Tryz.func97 Tryz.ntmps97 fun C hC hF=> ?_;refine sX ah 2 2 [] tI (sK fun K hK=>wR 3 (aX ah 4 [] tI ?_));refine eC (AL) ?_;refine aX ah 7 [] tI (nK hK ?_);clear hK K;refine sK fun K hK=>sX ah 4 2 [] tI (aB (t:=false) kR rfl ?_);refine ak ?_;refine aj (hK _ ?_);clear hK K;refine sX ah 5 1 [] tI (sK fun K hK=>sK fun K hK=>wR 6 (aX ah 2 [] tI ?_));refine eC (AM) ?_;refine aX ah 2 [] tI (nK hK ?_);clear hK K;refine aq ?_;refine gF (fZ 15 2 1 (nW (lW Kp l) 0) kR rfl) ?_;refine b8 (ι:=Nat) (fun k=>[(4,.fn (.func f) [] []),(12,dm S T m),(13,sB m l),(15,.own 5),(32,.sl 1 m (Ld l)),(33,.i (m:Nat)),(34,.i (k:Nat))]) (fun k=>[(5,.row 2 1 (cY (lW Kp l) k).length (nW (lW Kp l) k))]) (fun k=>k<=m) (fun k=>m- k) 0 (Nat.zero_le _) ?_ ?_;·refine aA (sl:=[(5,Ob.row (2:Nat) (1:Nat) (0:Nat) (nW (lW Kp l) (0:Nat)))]) [(5,600015)] (.cons kR (.cons kR (.cons kR (.cons kR (.cons kR (.cons kR (.cons kR .nil))))))) (.cons oS .nil) kR kR
 intro k hk1;have hol:=qw (lW Kp l) k;refine sX ah 2 1 [] tI (sK fun K hK=> ?_);refine av (t:=decide ((↑k:Int)< (↑m:Int))) kR (fun c1=> ?_) (fun c1=> ?_)
 ·have hkm:k< m:=by have h:=of_decide_eq_true c1;omega
  refine ak ?_;refine aj (hK _ ?_);clear hK K;refine sK fun K hK=> ?_;refine aq ?_;refine sX ah 3 5 [(1,.c ((0:Int)<=(↑k:Int)/\(↑k:Int)< (↑m:Int)))] ⟨oM,tI⟩ (sK fun K hK=>wR 4 ?_);refine aY ah 4 [] ?_;refine eC (hKp (gY l k) l.length) ?_;refine nK hK ?_;clear hK K;refine av (t:=Kp (gY l k) (List.length l)) kR (fun c2=> ?_) (fun c2=> ?_);·have c2:lW Kp l k=true:=c2;refine wR 5 ?_;refine aX ah 11 [(6,.c ((0:Int)<=(↑k:Int)/\(↑k:Int)< (↑m:Int))),(9,.r (PR.mk (some (53:Nat)) (some (List.length (cY (lW Kp l) k)+1<=(1099511627776:Nat))) (V.own (400053:Nat)) [((5:Nat),none),((400053:Nat),some (Ob.row (2:Nat) (1:Nat) (List.length (cY (lW Kp l) k)+1) (aC (List.length (cY (lW Kp l) k)) (nW (lW Kp l) k) fun(i:Nat)=>List.take (1:Nat) (List.drop (i*1) [V.i ((↑k:Int)+1)]))))] false))] ⟨oM,oM,tI⟩ ?_;refine aa (bG (aj (hK _ ?_)));clear hK K;refine wR 6 ?_;refine aY ah 2 [(0,.c (iR ((↑k:Int)+1)) oM)] ?_;refine aa (aj ?_);refine⟨k+1,by omega,?_,by omega⟩;rw [show(cY (lW Kp l) (k+1)).length=(cY (lW Kp l) k).length+1 by rw [kX c2,List.length_append];rfl];refine aA (tl:=[(4,V.fn (Fn.func f) [] []),(12,V.ptr [V.sl (7:Nat) (Sh.n S) fun(i:Nat)=>Pl.c (Sh.pl S i),V.sl (1:Nat) m cK,V.sl (1:Nat) m (jr T)]),(13,V.sl (3:Nat) (List.length l) (fW m l)),(15,V.own (5:Nat)),(32,V.sl (1:Nat) m (Ld l)),(33,V.i (↑m:Int)),(34,V.i (↑(k+1):Int))]) (sl:=[(5,Ob.row (2:Nat) (1:Nat) (List.length (cY (lW Kp l) k)+1) (nW (lW Kp l) (k+1)))]) [(5,400053)] (.cons kR (.cons kR (.cons kR (.cons kR (.cons kR (.cons kR (.cons kR .nil))))))) (.cons ⟨Ob.row (2:Nat) (1:Nat) (List.length (cY (lW Kp l) k)+1) (aC (List.length (cY (lW Kp l) k)) (nW (lW Kp l) k) fun(i:Nat)=>List.take (1:Nat) (List.drop (i*1) [V.i ((↑k:Int)+1)])),kR,.row kR ?_⟩ .nil) kR kR;·exact cN (fun j hj=>(Hs c2 hj).symm) (Ly c2)
  ·have c2:lW Kp l k=false:=c2;refine ak ?_;refine bG (aj (hK _ ?_));clear hK K;refine wR 5 ?_;refine aY ah 2 [(0,.c (iR ((↑k:Int)+1)) oM)] ?_;refine aa (aj ?_);refine⟨k+1,by omega,?_,by omega⟩;rw [show(cY (lW Kp l) (k+1)).length=(cY (lW Kp l) k).length by rw [kW c2]];refine aA (tl:=[(4,V.fn (Fn.func f) [] []),(12,V.ptr [V.sl (7:Nat) (Sh.n S) fun(i:Nat)=>Pl.c (Sh.pl S i),V.sl (1:Nat) m cK,V.sl (1:Nat) m (jr T)]),(13,V.sl (3:Nat) (List.length l) (fW m l)),(15,V.own (5:Nat)),(32,V.sl (1:Nat) m (Ld l)),(33,V.i (↑m:Int)),(34,V.i (↑(k+1):Int))]) (sl:=[(5,Ob.row (2:Nat) (1:Nat) (List.length (cY (lW Kp l) k)) (nW (lW Kp l) (k+1)))]) [(5,5)] (.cons kR (.cons kR (.cons kR (.cons kR (.cons kR (.cons kR (.cons kR .nil))))))) (.cons ⟨Ob.row (2:Nat) (1:Nat) (List.length (cY (lW Kp l) k)) (nW (lW Kp l) k),kR,.row kR ?_⟩ .nil) kR kR;·intro i _;rw [Lw c2];rfl
 ·obtain rfl:k=m:=by have h:=of_decide_eq_false c1;omega
  refine aP ?_;refine bK ?_;refine bK ?_;refine bu ?_;refine aj ?_;clear hK K;refine hK _ ?_;clear hK K;refine yS ah 3 3 [] ?_;refine ax ?_;refine eJ [(0,5)] [(10,V.own (0:Nat)),(11,V.i (0:Int))] (.inr rfl) (.cons kR (.cons kR .nil)) (.cons oS .nil) kR kR kR kR
theorem tY(S:Sh)(hn:S.n<=200)(hk:dh S)(A B:Nat->Nat)(m:Nat)(hm:m<=16)(hA:eU S m A)(hB:eU S m B)(sd:Bool)(hs:kq)(hhl:hs.length<=200)(hhs:∀i,i< hs.length->(hs.getD i (0,false)).1< m)(f:FuncId)(Kp:Nat->Nat->Bool)(hKp:∀n a:Nat,AC Tryz.prog f [.i (n:Nat),.i (a:Nat)] (.b (Kp n a)) []) :
 AC Tryz.prog 97 [fD S,gS A B m,.i (iH sd),yX hs,.fn (.func f) [] []] (.tup [V.ints (cY (lW Kp (cr S (dJ sd A B) m hs)) m),.i 0]) []:=
 AC.iQ (e:=2) (sz:=1) (n:=(cY (lW Kp (cr S (dJ sd A B) m hs)) m).length) (row:=nW (lW Kp (cr S (dJ sd A B) m hs)) m) (v:= .tup [.own 0,.i 0]) (zV S hn hk A B m hm hA hB sd hs hhl hhs f Kp hKp) rfl (fun _ _=>rfl) (fun _=>rfl) rfl rfl
theorem zD(S:Sh)(hn:S.n<=200)(hk:dh S)(A B:Nat->Nat)(m:Nat)(hm:m<=16)(hA:eU S m A)(hB:eU S m B)(sd:Bool)(hs:kq)(hhl:hs.length<=200)(hhs:∀i,i< hs.length->(hs.getD i (0,false)).1< m) : AC Tryz.prog 44 [fD S,gS A B m,.i (iH sd),yX hs] (.tup [V.ints (cY (Mo (cr S (dJ sd A B) m hs)) m),.i 0]) []:=by
 have AF:=tY S hn hk A B m hm hA hB sd hs hhl hhs 98 (fun n a=>decide (0< n) && decide (n=a)) fun n a=>by have h:=w7 n a;rw [show(decide ((0:Int)< (n:Int)) && decide ((n:Int)=(a:Int)))=(decide (0< n) && decide (n=a)) by congr 1 <;> exact decide_eq_decide.2 oM]at h;exact h
 refine ff ah b9 Tryz.func44 Tryz.ntmps44 fun C hC hF=> ?_;refine yS ah 2 2 [] ?_;refine sK fun K hK=>wR 3 ?_;refine aY ah 4 [] ?_;refine eC (AF) ?_;refine yN ah 4 [] hK ?_;clear hK K;refine ax ?_;refine rP (V.tup [V.sl 1 (List.length (cY (lW (fun(n a:Nat)=>decide ((0:Nat)< n) && decide (n=a)) (cr S (dJ sd A B) m hs)) m)) fun(k:Nat)=>[V.i (gi (cY (lW (fun(n a:Nat)=>decide ((0:Nat)< n) && decide (n=a)) (cr S (dJ sd A B) m hs)) m) k)],V.i 0])
theorem ye(S:Sh)(hn:S.n<=200)(hk:dh S)(A B:Nat->Nat)(m:Nat)(hm:m<=16)(hA:eU S m A)(hB:eU S m B)(sd:Bool)(hs:kq)(hhl:hs.length<=200)(hhs:∀i,i< hs.length->(hs.getD i (0,false)).1< m) : AC Tryz.prog 45 [fD S,gS A B m,.i (iH sd),yX hs] (.tup [V.ints (cY (Nb (cr S (dJ sd A B) m hs)) m),.i 0]) []:=by
 have AF:=tY S hn hk A B m hm hA hB sd hs hhl hhs 99 (fun n _=>decide (0< n)) fun n a=>by have h:=vF n a;rw [show decide ((0:Int)< (n:Int))=decide (0< n)from decide_eq_decide.2 oM]at h;exact h
 refine ff ah b9 Tryz.func45 Tryz.ntmps45 fun C hC hF=> ?_;refine yS ah 2 2 [] ?_;refine sK fun K hK=>wR 3 ?_;refine aY ah 4 [] ?_;refine eC (AF) ?_;refine yN ah 4 [] hK ?_;clear hK K;refine ax ?_;refine rP (V.tup [V.sl 1 (List.length (cY (lW (fun(n x:Nat)=>decide ((0:Nat)< n)) (cr S (dJ sd A B) m hs)) m)) fun(k:Nat)=>[V.i (gi (cY (lW (fun(n x:Nat)=>decide ((0:Nat)< n)) (cr S (dJ sd A B) m hs)) m) k)],V.i 0])
def EJ(m:Nat)(g0 g:Nat->Bool):Bool:=(List.range m).any fun i=>g0 i !=g i
theorem Ot{m:Nat}{g0 g:Nat->Bool}{i:Nat}(hi:i< m)(h:g0 i≠g i):EJ m g0 g=true:=List.any_eq_true.2 ⟨i,List.mem_range.2 hi,by simpa using h⟩
theorem Oq{m:Nat}{g0 g:Nat->Bool}(h:∀i,i< m->g0 i=g i):EJ m g0 g=false:=List.any_eq_false.2 fun i hi=>by rw [h i (List.mem_range.1 hi)];simp
theorem DN(m:Nat)(hm:m<=16)(g0 g:Nat->Bool):AC Tryz.prog 140 [.sl 1 m (dn g0),.sl 1 m (dn g)] (.b (!EJ m g0 g)) []:=by
 refine ff ah b9 Tryz.func140 Tryz.ntmps140 fun C hC hF=> ?_;refine yS ah 2 1 [] ?_;refine sK fun K hK=>yS ah 3 5 [] ?_;refine av (t:= !decide ((↑m:Int)=(↑m:Int))) kR (fun c0=> ?_) (fun c0=> ?_);·exfalso;simp at c0
 refine ak ?_;refine aj (hK _ ?_);clear hK K;refine sK fun K hK=>yS ah 4 3 [] ?_;refine aq ?_;refine b8 (ι:=Nat) (fun k=>[(0,.sl 1 m (dn g0)),(1,.sl 1 m (dn g)),(12,.i (m:Nat)),(13,.i (k:Nat))]) (fun _=>[]) (fun k=>k<=m/\∀i,i< k->g0 i=g i) (fun k=>m- k) 0 ⟨Nat.zero_le _,fun i hi=>absurd hi (Nat.not_lt_zero _)⟩ ?_ ?_;·refine aA [] (.cons kR (.cons kR (.cons kR (.cons kR .nil)))) .nil kR kR
 rintro k ⟨hk1,hk2⟩;refine yS ah 2 1 [] ?_;refine sK fun K hK=> ?_;refine av (t:=decide ((↑k:Int)< (↑m:Int))) kR (fun c1=> ?_) (fun c1=> ?_)
 ·have hkm:k< m:=by have h:=of_decide_eq_true c1;omega
  refine ak ?_;refine aj (hK _ ?_);clear hK K;refine sK fun K hK=> ?_;refine aq ?_;refine yS ah 3 2 [] ?_;refine sK fun K hK=>wD 4 ?_;refine aY ah 9 [(2,.c ((0:Int)<=(↑k:Int)/\(↑k:Int)< (↑m:Int)) oM),(3,.c ((0:Int)<=(↑k:Int)/\(↑k:Int)< (↑m:Int)) oM)] ?_;refine aa ⟨kR,(aj (hK _ ?_))⟩;clear hK K;refine av (t:= !g0 k == g k) kR (fun c2=> ?_) (fun c2=> ?_)
  ·have hne:g0 k≠g k:=by simpa using c2
   refine yS ah 5 1 [] ?_;refine ax ?_;refine eK ?_;refine bM (bM ?_);refine eK ?_;refine bM ?_;rw [Ot hkm hne];refine rP (V.b false)
  ·have he:g0 k=g k:=by simpa using c2
   refine ak ?_;refine bG (aj (hK _ ?_));clear hK K;refine wR 5 ?_;refine aY ah 2 [(0,.c (iR ((↑k:Int)+1)) oM)] ?_;refine aa (aj ?_);refine⟨k+1,⟨by omega,fun i hi=> ?_⟩,?_,by omega⟩
   ·rcases Nat.lt_or_ge i k with h |h;·exact hk2 i h
    ·obtain rfl:i=k:=by omega
     exact he
   ·refine aA [] (.cons kR (.cons kR (.cons kR (.cons kR .nil)))) .nil kR kR
 ·obtain rfl:k=m:=by have h:=of_decide_eq_false c1;omega
  refine aP ?_;refine bK ?_;refine bK ?_;refine bu ?_;refine aj ?_;clear hK K;refine hK _ ?_;clear hK K;refine yS ah 3 1 [] ?_;refine ax ?_;rw [Oq hk2];refine rP (V.b true)
theorem F5(m:Nat)(hm:m<=16)(g0 g:Nat->Bool):AC Tryz.prog 93 [.sl 1 m (dn g0),.sl 1 m (dn g)] (.b (!EJ m g0 g)) []:=by refine ff ah b9 Tryz.func93 Tryz.ntmps93 fun C hC hF=> ?_;refine yS ah 2 1 [] ?_;refine sK fun K hK=>wR 3 ?_;refine aY ah 2 [] ?_;refine eC (DN m hm g0 g) ?_;refine yN ah 1 [] hK ?_;clear hK K;refine ax ?_;refine rP (V.b !EJ m g0 g)
def Ku(m:Nat)(g0:Nat->Bool):V:= .fn (.func 93) [.sl 1 m (dn g0)] []
theorem Hq(m:Nat)(hm:m<=16)(g0:Nat->Bool)(c:dK):AC Tryz.prog 95 [.agg [.i c.1,.i c.2.1,.sl 1 m (dn c.2.2)],.ptr [Ku m g0]] (.b (EJ m g0 c.2.2)) []:=by refine ff ah b9 Tryz.func95 Tryz.ntmps95 fun C hC hF=> ?_;refine yS ah 2 2 [] ?_;refine sK fun K hK=>wR 3 ?_;refine aY ah 3 [] ?_;refine rz (first:=[V.sl 1 m (dn g0)]) (caps:=[]) (F5 m hm g0 c.2.2) kR kR kR kR kR ?_;refine yN ah 2 [] hK ?_;clear hK K;refine ax ?_;rw [show V.b (EJ m g0 c.2.2)=V.b (!!EJ m g0 c.2.2) by rw [Bool.not_not]];refine rP (V.b !!EJ m g0 (Prod.snd (Prod.snd c)))
def Kc(m:Nat)(l:List dK)(g0:Nat->Bool)(k:Nat):Bool:=EJ m g0 (l.getD k (0,0,fun _=>false)).2.2
theorem DW(m:Nat)(hm:m<=16)(g0:Nat->Bool)(l:List dK)(hl:l.length<=40016):AC Tryz.prog 141 [sB m l,.fn (.func 95) [] [.ptr [Ku m g0]]] (.i (rK (Kc m l g0) l.length)) []:=by
 refine ff ah b9 Tryz.func141 Tryz.ntmps141 fun C hC hF=> ?_;refine yS ah 2 1 [] ?_;refine sK fun K hK=>yS ah 3 3 [] ?_;refine aq ?_;refine b8 (ι:=Nat) (fun k=>[(0,sB m l),(1,.fn (.func 95) [] [.ptr [Ku m g0]]),(7,.i (l.length:Nat)),(8,.i (k:Nat))]) (fun _=>[]) (fun k=>k<=l.length/\∀i,i< k->Kc m l g0 i=false) (fun k=>l.length- k) 0 ⟨Nat.zero_le _,fun i hi=>absurd hi (Nat.not_lt_zero _)⟩ ?_ ?_;·refine aA [] (.cons kR (.cons kR (.cons kR (.cons kR .nil)))) .nil kR kR
 rintro k ⟨hk1,hk2⟩;refine yS ah 2 1 [] ?_;refine sK fun K hK=> ?_;refine av (t:=decide ((↑k:Int)< (↑(List.length l):Int))) kR (fun c1=> ?_) (fun c1=> ?_)
 ·have hkl:k< l.length:=by have h:=of_decide_eq_true c1;omega
  refine ak ?_;refine aj (hK _ ?_);clear hK K;refine sK fun K hK=> ?_;refine aq ?_;refine yS ah 3 2 [] ?_;refine sK fun K hK=>wR 4 ?_;refine aY ah 5 [(3,.c ((0:Int)<=(↑k:Int)/\(↑k:Int)< (↑(List.length l):Int)) oM)] ?_;refine rz (first:=[]) (caps:=[V.ptr [V.fn (Fn.func (93:Nat)) [V.sl 1 m (dn g0)] []]]) (Hq m hm g0 (l.getD k (0,0,fun _=>false))) kR kR kR kR kR ?_;refine nK hK ?_;clear hK K;refine av (t:=EJ m g0 (Prod.snd (Prod.snd (List.getD l k ((0:Int),(0:Int),fun(x:Nat)=>false))))) kR (fun c2=> ?_) (fun c2=> ?_);·have hne:Kc m l g0 k=true:=c2;refine yS ah 5 2 [] ?_;refine ax ?_;refine eK ?_;refine bM (bM ?_);refine eK ?_;refine bM ?_;rw [DV hkl hne hk2];refine rP (V.i (↑k:Int))
  ·have he:Kc m l g0 k=false:=c2;refine ak ?_;refine bG (aj (hK _ ?_));clear hK K;refine wR 5 ?_;refine aY ah 2 [(0,.c (iR ((↑k:Int)+1)) oM)] ?_;refine aa (aj ?_);refine⟨k+1,⟨by omega,fun i hi=> ?_⟩,?_,by omega⟩
   ·rcases Nat.lt_or_ge i k with h |h;·exact hk2 i h
    ·obtain rfl:i=k:=by omega
     exact he
   ·refine aA [] (.cons kR (.cons kR (.cons kR (.cons kR .nil)))) .nil kR kR
 ·obtain rfl:k=l.length:=by have h:=of_decide_eq_false c1;omega
  refine aP ?_;refine bK ?_;refine bK ?_;refine bu ?_;refine aj ?_;clear hK K;refine hK _ ?_;clear hK K;refine yS ah 3 1 [] ?_;refine ax ?_;rw [DU hk2];refine rP (V.i (-1))
theorem BP{l:List dK}{k:Nat}(h:k< l.length):l.getD k (0,0,fun _=>false)=l[k]:=by rw [List.getD_eq_getElem?_getD,List.getElem?_eq_getElem h];rfl
theorem FX(m:Nat)(l:List dK):decide ((0:Int)<=rK (Kc m l (l.getD 0 (0,0,fun _=>false)).2.2) l.length)=ke m l:=by
 rcases GA (p:=Kc m l (l.getD 0 (0,0,fun _=>false)).2.2) (n:=l.length)with⟨h1,h2⟩ | ⟨i,hi,h1,h2,_⟩;·rw [h1];refine Eq.symm (List.any_eq_false.2 fun c hc=> ?_);obtain⟨j,hj,rfl⟩:=List.getElem_of_mem hc;have:=h2 j hj;unfold Kc at this;rw [BP hj]at this;show ¬EJ m _ _=true;rw [this];decide
 ·rw [h1];have:ke m l=true:=List.any_eq_true.2 ⟨l[i],List.getElem_mem hi,by unfold Kc at h2;rw [BP hi]at h2;exact h2⟩;rw [this];exact decide_eq_true oM
theorem ve(m:Nat)(hm:m<=16)(l:List dK)(hl:l.length<=40016):AC Tryz.prog 94 [sB m l,.fn (.func 95) [] [.ptr [Ku m (l.getD 0 (0,0,fun _=>false)).2.2]]] (.b (ke m l)) []:=by refine ff ah b9 Tryz.func94 Tryz.ntmps94 fun C hC hF=> ?_;refine yS ah 2 1 [] ?_;refine sK fun K hK=>wR 3 ?_;refine aY ah 2 [] ?_;refine eC (DW m hm (l.getD 0 (0,0,fun _=>false)).2.2 l hl) ?_;refine yN ah 2 [] hK ?_;clear hK K;refine ax ?_;rw [<-FX];refine rP (V.b (decide ((0:Int)<=rK (Kc m l (Prod.snd (Prod.snd (List.getD l (0:Nat) ((0:Int),(0:Int),fun(x:Nat)=>false))))) (List.length l))))
theorem Bq(S:Sh)(hn:S.n<=200)(hk:dh S)(A B:Nat->Nat)(m:Nat)(hm:m<=16)(hm0:0< m)(hA:eU S m A)(hB:eU S m B)(sd:Bool)(hs:kq)(hhl:hs.length<=200)(hhs:∀i,i< hs.length->(hs.getD i (0,false)).1< m)(x y z:Int) (v0:ke m (cr S (dJ sd A B) m hs)=false->x=0/\y=0/\z=15) (v1:ke m (cr S (dJ sd A B) m hs)=true->x=((ku (cr S (dJ sd A B) m hs) m).1:Nat)+1/\y=((ku (cr S (dJ sd A B) m hs) m).2:Nat)/\z=0) : AC Tryz.prog 43 [fD S,gS A B m,.i (iH sd),yX hs] (.tup [.i x,.i y,.i z]) []:=by
 have AL:=vB S hn hk A B m hm hA hB sd hs hhl hhs;have hll:=nr hn (dJ sd A B) hm hs;obtain⟨T,hTe⟩:∃T,T=dJ sd A B:=⟨_,rfl⟩;rw [<-hTe]at AL hll v0 v1;obtain⟨l,hl⟩:∃l,l=cr S T m hs:=⟨_,rfl⟩;rw [<-hl]at AL hll v0 v1;have AM:=B6 S T m hm l hll;have AK:=ve m hm l hll;refine ff ah b9 Tryz.func43 Tryz.ntmps43 fun C hC hF=> ?_;refine sK fun K hK=> ?_;refine ai (n':=2) kR kR ?_;refine au ah (M:=[]) (n:=3) [pv (8:Nat) (V.i (0:Int)),pv (9:Nat) (V.i (0:Int)),pv (10:Nat) (V.i (0:Int))] kR kR tI ?_;refine aa ?_;refine aj ?_;refine hK _ ?_;clear hK K;refine sK fun K hK=> ?_;refine ai (n':=3) kR kR ?_;refine aY ah 4 [] ?_;refine eC (AL) ?_;refine aY ah 7 [] ?_;refine aa ?_;refine aj ?_;refine hK _ ?_;clear hK K;refine sK fun K hK=> ?_;refine sK fun K hK=> ?_;refine ai (n':=4) kR kR ?_;refine au ah (M:=[]) (n:=2) [pv (28:Nat) (V.i (0:Int)),pv (29:Nat) (V.b false)] kR kR tI ?_;refine aa ?_;refine aj ?_;refine hK _ ?_;clear hK K;refine aB (t:=false) kR rfl ?_;refine ak ?_;refine aj ?_;refine hK _ ?_;clear hK K;refine sK fun K hK=> ?_;refine sK fun K hK=> ?_;refine ai (n':=5) kR kR ?_;refine aY ah 3 [] ?_;refine aa ?_;refine aj ?_;refine hK _ ?_;clear hK K;refine av (t:=decide ((↑(List.length l):Int)=0)) kR (fun c0=> ?_) (fun c0=> ?_)
 ·obtain rfl:l=[]:=by have h:=of_decide_eq_true c0;exact List.length_eq_zero_iff.1 oM
  obtain⟨rfl,rfl,rfl⟩:=v0 rfl;refine sK fun K hK=> ?_;refine ai (n':=6) kR kR ?_;refine au ah (M:=[]) (n:=3) [pv (8:Nat) (V.i (0:Int)),pv (9:Nat) (V.i (0:Int)),pv (10:Nat) (V.i (15:Int))] kR kR tI ?_;refine aa ?_;refine aj ?_;refine hK _ ?_;clear hK K;refine ax ?_;refine bM ?_;refine rP (V.tup [V.i (0:Int),V.i (0:Int),V.i (15:Int)])
 have hl0:0< l.length:=by have h:=of_decide_eq_false c0;omega
 refine ak ?_;refine aj ?_;refine hK _ ?_;clear hK K;refine sK fun K hK=> ?_;refine ai (n':=6) kR kR ?_;refine aY ah 7 [(1,.c ((0:Int)<=(0:Int)/\(0:Int)< (↑(List.length l):Int)) oM),(4,.c ((0:Nat)+(1:Nat)<=(1:Nat)) oM)] ?_;refine aa ?_;refine aj ?_;refine hK _ ?_;clear hK K;refine sK fun K hK=> ?_;refine sK fun K hK=> ?_;refine gF (cz (t:=(193:Nat)) (cs:=[V.fn (Fn.func (93:Nat)) [V.sl (1:Nat) m (dn (Prod.snd (Prod.snd (List.getD l (0:Nat) ((0:Int),(0:Int),fun(x:Nat)=>false)))))] []]) 500014 kR kR) ?_;refine ai (n':=7) kR kR ?_;refine aY ah 2 [] ?_;refine eC (AK) ?_;refine au ah (M:=[]) (n:=1) [pv (42:Nat) (V.b !ke m l)] kR kR tI ?_;refine aa ?_;refine aj ?_;refine hK _ ?_;clear hK K;refine av (t:= !ke m l) kR (fun c1=> ?_) (fun c1=> ?_);·obtain⟨rfl,rfl,rfl⟩:=v0 (by simpa using c1);refine sK fun K hK=> ?_;refine ai (n':=8) kR kR ?_;refine au ah (M:=[]) (n:=3) [pv (8:Nat) (V.i (0:Int)),pv (9:Nat) (V.i (0:Int)),pv (10:Nat) (V.i (15:Int))] kR kR tI ?_;refine aa ?_;refine aj ?_;refine hK _ ?_;clear hK K;refine ax ?_;refine bM ?_;refine rP (V.tup [V.i (0:Int),V.i (0:Int),V.i (15:Int)])
 have c1:ke m l=true:=by simpa using c1
 obtain⟨rfl,rfl,rfl⟩:=v1 c1;obtain⟨_,hb,_⟩:=vE c1;refine ak ?_;refine aj ?_;refine hK _ ?_;clear hK K;refine sK fun K hK=> ?_;refine ai (n':=8) kR kR ?_;refine aY ah 4 [] ?_;refine aa ?_;refine aj ?_;refine hK _ ?_;clear hK K;refine sK fun K hK=> ?_;refine sK fun K hK=> ?_;refine ai (n':=9) kR kR ?_;refine aY ah 2 [] ?_;refine eC (AM) ?_;refine au ah (M:=[]) (n:=2) [pv (48:Nat) (V.i (↑m:Int)),pv (49:Nat) (V.i (0:Int))] kR kR tI ?_;refine aa ?_;refine aj ?_;refine hK _ ?_;clear hK K;refine aq ?_;refine b8 (ι:=Nat) (fun k=>[(11,dm S T m),(12,sB m l),(15,.i ((ku l k).1:Nat)),(16,.i ((ku l k).2:Nat)),(47,.sl 1 m (Ld l)),(48,.i (m:Nat)),(49,.i (k:Nat))]) (fun _=>[]) (fun k=>k<=m) (fun k=>m- k) 0 (Nat.zero_le _) ?_ ?_;·refine aA [] (.cons kR (.cons kR (.cons kR (.cons kR (.cons kR (.cons kR (.cons kR .nil))))))) .nil kR kR
 intro k hk1;have hcn:=ri l k;refine sK fun K hK=> ?_;refine ai (n':=2) kR kR ?_;refine au ah (M:=[]) (n:=1) [pv (50:Nat) (V.b (decide ((↑k:Int)< (↑m:Int))))] kR kR tI ?_;refine aa ?_;refine aj ?_;refine hK _ ?_;clear hK K;refine sK fun K hK=> ?_;refine av (t:=decide ((↑k:Int)< (↑m:Int))) kR (fun c2=> ?_) (fun c2=> ?_)
 ·have hkm:k< m:=by have h:=of_decide_eq_true c2;omega
  have e:max ((gY l k:Nat):Int) ((l.length:Nat)- (gY l k:Nat):Int)=((max (gY l k) (l.length- gY l k):Nat):Int):=by omega
  refine ak ?_;refine aj ?_;refine hK _ ?_;clear hK K;refine sK fun K hK=> ?_;refine aq ?_;refine sK fun K hK=> ?_;refine ai (n':=3) kR kR ?_;refine aY ah 5 [(1,.c ((0:Int)<=(↑k:Int)/\(↑k:Int)< (↑m:Int)) oM)] ?_;refine aa ?_;refine aj ?_;refine hK _ ?_;clear hK K;refine sK fun K hK=> ?_;refine ai (n':=4) kR kR ?_;refine au ah (M:=[]) (n:=7) [pv (54:Nat) (V.i (↑(gY l k):Int)),pv (55:Nat) (V.sl (3:Nat) (List.length l) (fW m l)),pv (56:Nat) (V.i (↑(List.length l):Int)),pv (57:Nat) (V.i (↑(gY l k):Int)),pc (58:Nat) ((-9223372036854775808:Int)<=(↑(List.length l):Int)- (↑(gY l k):Int)/\(↑(List.length l):Int)- (↑(gY l k):Int)<=9223372036854775807) (V.i ((↑(List.length l):Int)- (↑(gY l k):Int))),pv (59:Nat) (V.i (max (↑(gY l k):Int) ((↑(List.length l):Int)- (↑(gY l k):Int)))),pv (18:Nat) (V.i (max (↑(gY l k):Int) ((↑(List.length l):Int)- (↑(gY l k):Int))))] kR kR ⟨oM,tI⟩ ?_;refine aa ?_;refine aj ?_;refine hK _ ?_;clear hK K;refine sK fun K hK=> ?_;refine ai (n':=5) kR kR ?_;refine aY ah 3 [] ?_;refine aa ?_;refine aj ?_;refine hK _ ?_;clear hK K;show AW _ _ _ _;rw [e];refine av (t:=decide ((↑(max (gY l k) (List.length l- gY l k)):Int)< (↑(Prod.snd (ku l k)):Int))) kR (fun c3=> ?_) (fun c3=> ?_)
  ·have h:max (gY l k) (l.length- gY l k)< (ku l k).2:=by have h:=of_decide_eq_true c3;omega
   refine ai (n':=6) kR kR ?_;refine aY ah 4 [] ?_;refine aa ?_;refine bG ?_;refine aj ?_;refine hK _ ?_;clear hK K;refine ai (n':=7) kR kR ?_;refine aY ah 2 [(0,.c (iR ((↑k:Int)+1)) oM)] ?_;refine aa ?_;refine aj ?_;refine⟨k+1,by omega,?_,by omega⟩;show Le _ _;rw [show ku l (k+1)=(k,max (gY l k) (l.length- gY l k)) by rw [ku,if_pos h]];refine aA [] (.cons kR (.cons kR (.cons kR (.cons kR (.cons kR (.cons kR (.cons kR .nil))))))) .nil kR kR
  ·have h:¬max (gY l k) (l.length- gY l k)< (ku l k).2:=by have h:=of_decide_eq_false c3;omega
   refine ak ?_;refine bG ?_;refine aj ?_;refine hK _ ?_;clear hK K;refine ai (n':=6) kR kR ?_;refine aY ah 2 [(0,.c (iR ((↑k:Int)+1)) oM)] ?_;refine aa ?_;refine aj ?_;refine⟨k+1,by omega,?_,by omega⟩;show Le _ _;rw [show ku l (k+1)=ku l k by rw [ku,if_neg h]];refine aA [] (.cons kR (.cons kR (.cons kR (.cons kR (.cons kR (.cons kR (.cons kR .nil))))))) .nil kR kR
 ·obtain rfl:k=m:=by have h:=of_decide_eq_false c2;omega
  refine aP ?_;refine bK ?_;refine bK ?_;refine bu ?_;refine aj ?_;clear hK K;refine hK _ ?_;clear hK K;refine sK fun K hK=> ?_;refine ai (n':=3) kR kR ?_;refine aY ah 11 [(5,.c ((0:Int)<=(↑(Prod.fst (ku l k)):Int)/\(↑(Prod.fst (ku l k)):Int)< (↑k:Int)) oM)] ?_;refine aa ?_;refine aj ?_;refine hK _ ?_;clear hK K;refine ax ?_;refine rP (V.tup [V.i ((↑(Prod.fst (ku l k)):Int)+1),V.i (↑(Prod.snd (ku l k)):Int),V.i (0:Int)])
theorem EP(S:Sh)(hn:S.n<=200)(hk:dh S)(A B:Nat->Nat)(m:Nat)(hm:m<=16)(hm0:0< m)(hA:eU S m A)(hB:eU S m B)(sd:Bool)(hs:kq)(hhl:hs.length<=200)(hhs:∀i,i< hs.length->(hs.getD i (0,false)).1< m)(x y z:Int)
 (v0:ke m (cr S (dJ sd A B) m hs)=false->x=0/\y=0/\z=15) (v1:ke m (cr S (dJ sd A B) m hs)=true->x=((ku (cr S (dJ sd A B) m hs) m).1:Nat)+1/\y=((ku (cr S (dJ sd A B) m hs) m).2:Nat)/\z=0) :
 AM Tryz.prog 43 [fD S,gS A B m,.i (iH sd),.own 500] [.row 111 2 hs.length (t7 hs)] (.tup [.i x,.i y,.i z]) [some (.row 111 2 hs.length (t7 hs))] []:=
 (Bq S hn hk A B m hm hm0 hA hB sd hs hhl hhs x y z v0 v1).Q6 111 (sz:=2) (n:=hs.length) (row:=t7 hs) rfl rfl (by simp) (fun _=>rfl) rfl (by simp)
theorem Eg:AC Tryz.prog 133 [] KH []:=by
 refine ff ah b9 Tryz.func133 Tryz.ntmps133 fun C hC hF=> ?_;refine yS ah 2 1 [] ?_;refine yS ah 3 2 [] ?_;refine sK fun K hK=>yS ah 4 1 [] ?_;refine aq ?_;obtain⟨c0,hc0⟩:∃c0,c0=tE (nP 0 0):=⟨_,rfl⟩;refine b8 (ι:=Nat×List V) (fun x=>[(1,.ref 1 0),(5,.i x.1)]) (fun x=>[(1,.box 303 x.2)]) (fun x=>x.1<=51/\x.2=tE (nP x.1 0)) (fun x=>51- x.1) (0,c0) ⟨Nat.zero_le _,hc0⟩ ?_ ?_;·show Le _ ⟨gJ [(1,.ref 1 0),(5,.i 0)],dw [(1,.box 303 c0)],1⟩;refine aA (tl:=[(1,V.ref 1 0),(5,V.i 0)]) (sl:=[(1,Ob.box 303 c0)]) [(1,200004)] (.cons kR (.cons kR .nil)) (.cons ⟨Ob.box 303 (List.replicate 2601 (V.i 0)),kR,.box ?_⟩ .nil) kR kR;rw [hc0];kernel_rfl
 rintro⟨n,cs⟩ ⟨hn,hcs⟩;simp only at hn hcs ⊢;have hlen:cs.length=2601:=by rw [hcs,vN]
 refine yS ah 2 1 [] ?_;refine sK fun K hK=> ?_;refine av (t:=decide ((↑n:Int)< 51)) kR (fun c1=> ?_) (fun c1=> ?_)
 ·have c2:n< 51:=by simp at c1;omega
  refine ak ?_;refine aj (hK _ ?_);clear hK K;refine sK fun K hK=> ?_;refine aq ?_;refine yS ah 3 2 [] ?_;refine yS ah 4 6 [(3,.c ((0:Int)<=(↑n:Int)/\(↑n:Int)< (↑(51:Nat):Int)) oM),(0,.d),(0,.c ((0:Nat)+n*51+(0:Nat)*(1:Nat)+(1:Nat)<=List.length cs) oM)] ?_;refine yS ah 5 1 [] ?_;refine aq ?_;obtain⟨c1,hc1⟩:∃c1,c1=cs.set (0+n*51+0*1) (V.i 1):=⟨_,rfl⟩;have he1:c1=tE (nP n 1):=by
   rw [hc1,hcs,show 0+n*51+0*1=n*51+0 by omega];refine CA c2 (by decide) ?_ fun a b hb h=> ?_;·simp [nP,w8]
   ·unfold nP;by_cases h1:a< n <;> by_cases h2:a=n <;> simp [h1,h2] <;> omega
  refine b8 (ι:=Nat×List V) (fun x=>[(1,.ref 1 0),(2,.i n),(3,.i x.1),(5,.i n)]) (fun x=>[(1,.box 303 x.2)]) (fun x=>1<=x.1/\x.1<=n+1/\x.2=tE (nP n x.1)) (fun x=>n+1- x.1) (1,c1) ⟨Nat.le_refl _,Nat.le_add_left _ _,he1⟩ ?_ ?_;·show Le _ ⟨gJ [(1,.ref 1 0),(2,.i n),(3,.i 1),(5,.i n)],dw [(1,.box 303 c1)],1⟩;refine aA (tl:=[(1,V.ref 1 0),(2,V.i (↑n:Int)),(3,V.i 1),(5,V.i (↑n:Int))]) (sl:=[(1,Ob.box 303 c1)]) [(1,1)] (.cons kR (.cons kR (.cons kR (.cons kR .nil)))) (.cons ⟨Ob.box 303 (setCells cs ((0:Nat)+n*51+(0:Nat)*(1:Nat)) [V.c (Value.int IntKind.i64 1)]),kR,.box ?_⟩ .nil) kR kR;rw [he1,vO,<-he1,hc1];rfl
  rintro⟨k,cs2⟩ ⟨hk1,hk,hcs2⟩;simp only at hk1 hk hcs2 ⊢;have hlen2:cs2.length=2601:=by rw [hcs2,vN]
  refine sK fun K hK=>yS ah 2 3 [] ?_;refine av (t:=decide ((↑k:Int)<=(↑n:Int))) kR (fun c3=> ?_) (fun c3=> ?_)
  ·have c4:k<=n:=by simp at c3;omega
   obtain⟨m,rfl⟩:∃m,n=m+1:=⟨n- 1,by omega⟩;obtain⟨j,rfl⟩:∃j,k=j+1:=⟨k- 1,by omega⟩;refine ak ?_;refine aj (hK _ ?_);clear hK K;refine sK fun K hK=> ?_;refine aq ?_;refine wD 3 ?_;refine aY ah 11 [(5,.c (iR ((↑(m+1):Int)- 1)) oM),(1,.c (iR ((↑(j+1):Int)- 1)) oM),(1,.c ((0:Int)<=(↑(m+1):Int)- 1/\(↑(m+1):Int)- 1< (↑(51:Nat):Int)) oM),(0,.c ((0:Int)<=(↑(j+1):Int)- 1/\(↑(j+1):Int)- 1< (↑(51:Nat):Int)) oM)] ?_;refine cC rfl (n8 2 (.tmp 28) (t':=303) (cs:=cs2) (v:= .i (s4 m j)) (ah.agg rfl) rfl ?hv) ?hp ?hn ?_;case hv=>rw [hcs2];exact Cz (n:=m) (k:=j) oM oM oM (by simp [nP])
   case hp=>intro p hp;rw [List.mem_singleton]at hp;subst hp;rfl
   case hn=>simp [kg]
   refine aY ah 7 [(2,.c (iR ((↑(m+1):Int)- 1)) oM),(2,.c ((0:Int)<=(↑(m+1):Int)- 1/\(↑(m+1):Int)- 1< (↑(51:Nat):Int)) oM),(0,.c ((0:Int)<=(↑(j+1):Int)/\(↑(j+1):Int)< (↑(51:Nat):Int)) oM)] ?_;refine cC rfl (n8 2 (.tmp 36) (t':=303) (cs:=cs2) (v:= .i (s4 m (j+1))) (ah.agg rfl) rfl ?hv) ?hp ?hn ?_;case hv=>rw [hcs2];exact Cz (n:=m) (k:=j+1) oM oM oM (by simp [nP])
   case hp=>intro p hp;rw [List.mem_singleton]at hp;subst hp;rfl
   case hn=>simp [kg]
   have b1:=FQ (n:=m) oM j;have b2:=FQ (n:=m) oM (j+1);refine aY ah 5 [(0,.c (iR ((↑(s4 m j):Int)+(↑(s4 m (j+1)):Int))) oM),(1,.c ((0:Int)<=(↑(m+1):Int)/\(↑(m+1):Int)< (↑(51:Nat):Int)) oM),(0,.c ((0:Int)<=(↑(j+1):Int)/\(↑(j+1):Int)< (↑(51:Nat):Int)) oM),(0,.c ((0:Nat)+(m+1)*51+(j+1)*1+(1:Nat)<=List.length cs2) oM)] ?_;refine aa ⟨kR,(bG (aj (hK _ ?_)))⟩;clear hK K;refine wR 4 ?_;refine aY ah 3 [(1,.c (iR ((↑(j+1):Int)+1)) oM)] ?_;refine aa (aj ?_);obtain⟨c3,hc3⟩:∃c3,c3=cs2.set (0+(m+1)*51+(j+1)*1) (V.i ((s4 m j:Int)+s4 m (j+1))):=⟨_,rfl⟩;have he3:c3=tE (nP (m+1) (j+2)):=by
    rw [hc3,hcs2,show 0+(m+1)*51+(j+1)*1=(m+1)*51+(j+1) by omega];refine CA oM oM ?_ fun a b hb h=> ?_;·simp [nP,qW]
    ·unfold nP;by_cases h1:a< m+1 <;> by_cases h2:a=m+1 <;> simp [h1,h2] <;> (have:(b< j+2)=(b< j+1):=by simp;omega) <;> simp [this]
   refine⟨(j+2,c3),⟨by simp,by simp;omega,he3⟩,?_,by simp;omega⟩;show Le _ ⟨gJ [(1,.ref 1 0),(2,.i ((m+1:Nat):Int)),(3,.i ((j+2:Nat):Int)),(5,.i ((m+1:Nat):Int))],dw [(1,.box 303 c3)],1⟩;refine aA (tl:=[(1,V.ref 1 0),(2,V.i (↑(m+1):Int)),(3,V.i (↑(j+2):Int)),(5,V.i (↑(m+1):Int))]) (sl:=[(1,Ob.box 303 c3)]) [(1,1)] (.cons kR (.cons kR (.cons kR (.cons kR .nil)))) (.cons ⟨Ob.box 303 (setCells cs2 ((0:Nat)+(m+1)*51+(j+1)*1) [V.c (Value.int IntKind.i64 ((↑(s4 m j):Int)+(↑(s4 m (j+1)):Int)))]),kR,.box ?_⟩ .nil) kR kR;rw [he3,vO,<-he3,hc3];rfl
  ·have c4:k=n+1:=by simp at c3;omega
   have he4:cs2=tE (nP (n+1) 0):=by
    rw [hcs2,c4];congr 1
    funext a b;unfold nP;by_cases h1:a< n;·simp [h1,show a< n+1 by omega]
    ·by_cases h2:a=n
     ·subst h2;by_cases h3:b< a+1;·simp [h3]
      ·simp [h3,zE a b oM]
     ·simp [h1,h2,show ¬a< n+1 by omega]
   refine aP ?_;refine bK ?_;refine bK ?_;refine bu ?_;refine bG (aj ?_);clear hK K;refine hK _ ?_;clear hK K;refine wR 3 ?_;refine aY ah 2 [(0,.c (iR ((↑n:Int)+1)) oM)] ?_;refine aa (aj ?_);refine⟨(n+1,cs2),⟨by simp;omega,he4⟩,?_,by simp;omega⟩;refine aA (tl:=[(1,V.ref 1 0),(5,V.i (↑(n+1):Int))]) (sl:=[(1,Ob.box 303 cs2)]) [(1,1)] (.cons kR (.cons kR .nil)) (.cons ⟨Ob.box 303 cs2,kR,.box ?_⟩ .nil) kR kR;rw [he4,vO]
 ·have c2:n=51:=by simp at c1;omega
  have he5:cs=tE s4:=by rw [hcs,c2];unfold tE;refine List.map_congr_left fun x hx=> ?_;rw [List.mem_range]at hx;rw [nP,if_pos (.inl oM)]
  refine gF (cz (t:=303) (cs:=cs) 1 kR (by rw [he5];exact Kx s4)) ?_;refine aP ?_;refine bK ?_;refine bK ?_;refine bu ?_;refine aj ?_;clear hK K;refine hK _ ?_;clear hK K;refine yS ah 3 2 [] ?_;refine ax ?_;rw [show KH=V.ptr cs by rw [KH,he5]];refine rP (V.ptr (List.drop (0:Nat) cs))
def F7:List Nat:=[148,111,66,149,112,67,192,188,199,201,999999,999999,999999,999999,999999,999999,999999,999999,999999,999999,999999,999999,999999,999999]
def OE:ML:=[(64,[21]),(189,[8]),(175,[24])]
def BM(sz n:Nat)(cs:List V):V:= .sl sz n fun i=>(cs.drop (i*sz)).take sz
def s9(l:List Int):V:=BM 1 l.length (l.map V.i)
def OD:List (Int×Int)->List V
 | []=>[]
 |x::l=> .i x.1:: .i x.2::OD l
def DP(l:List (Int×Int)):V:=BM 2 l.length (OD l)
def Jt(l:List Int):V:= .sl 1 l.length (rowOf (l.map fun x=>[.i x]))
def DO(l:List (Int×Int)):V:= .sl 2 l.length (rowOf (l.map fun x=>[.i x.1,.i x.2]))
theorem F6(l:List (List V))(h:l.all V.bq=true)(i:Nat):V.bq (rowOf l i)=true:=ic h i
def xu:V:= .agg [.i 400,.i 2000,.i 200,.i 2000,.i 1000,.i 1000,.i 100]
def Js:List (Int×Int):=[(-400,400),(-200,600),(-400,400)]
theorem Ju:AM Tryz.prog 14 [xu,DP [(0,0),(100,100),(0,0)]] [] (.tup [.own 0,.i 0]) [] [.row 47 2 3 (rowOf [[.i (-400),.i 400],[.i (-200),.i 600],[.i (-400),.i 400]])]:=Dt ah b9 OE F7 kR kR
theorem Mx:AC Tryz.prog 14 [xu,DP [(0,0),(100,100),(0,0)]] (.tup [DO Js,.i 0]) []:=AC.iQ (Ju.ac (by decide)) rfl (fun _ _=>rfl) (F6 _ rfl) rfl rfl
theorem Qz:AC Tryz.prog 21 [xu,DO Js,.i 1000] (.tup [.i 31831,.i 0]) []:=AM.ac (Dt ah b9 OE F7 kR kR) (by decide)
theorem Mw:AM Tryz.prog 144 [.agg [s9 [64],s9 [128],.i 256],s9 [100,0,0, -3]] [] (.tup [.own 0,.i 0]) [] [.row 2 1 4 (rowOf [[.i 100],[.i 75],[.i 37],[.i 15]])]:=Dt ah b9 OE F7 kR kR
theorem OG:AC Tryz.prog 144 [.agg [s9 [64],s9 [128],.i 256],s9 [100,0,0, -3]] (.tup [Jt [100,75,37,15],.i 0]) []:=AC.iQ (Mw.ac (by decide)) rfl (fun _ _=>rfl) (F6 _ rfl) rfl rfl
def Qx:ByteArray:=⟨#[97]⟩
def Lm:V:=BM 2 1 [.c (.string Qx),DP [(10, -10),(5,0)]]
def Ll:V:=BM 7 1 [.i 0,.i 0,.i 2,.i 0,.i 0,.i 0,.i 500]
theorem My:AC Tryz.prog 145 [Lm,Ll] (.tup [DO [(5, -5),(2,0)],.i 0]) []:=AM.ac (Dt ah b9 OE F7 kR kR) (by decide)
def Qy:ByteArray:=⟨#[102]⟩
def Lj(l:List Int):V:= .agg (.c (.string Qy)::l.map V.i)
theorem Jv:AC Tryz.prog 100 [Lj [1000,400,10,0,0,0,0],.agg [.i 95,.i 20,.i 0]] (.tup [.i 200,.i 0]) []:=AM.ac (Dt ah b9 OE F7 kR kR) (by decide)
def Ru:List (FuncId×List V×V):=[(14,[xu,DP [(0,0),(100,100),(0,0)]],.tup [DO Js,.i 0]),(21,[xu,DO Js,.i 1000],.tup [.i 31831,.i 0]),(144,[.agg [s9 [64],s9 [128],.i 256],s9 [100,0,0, -3]],.tup [Jt [100,75,37,15],.i 0]),(145,[Lm,Ll],.tup [DO [(5, -5),(2,0)],.i 0])]
theorem PT:jy Tryz.prog Ru:=cO Mx rfl rfl (cO Qz rfl rfl (cO OG rfl rfl (cO My rfl rfl kZ)))
theorem A7:AC Tryz.prog 101 [] (.b true) []:=AM.ac (Du (O:=Am Ru) ah b9 [] [] (fun _=>nJ PT) kR kR) (by decide)
end Go.Proofs.YtjmbpjlojjgggaaGreatDoor
