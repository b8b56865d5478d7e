/-
  Several texts in one: Listening: the discs that have a cause. Walk. Conditions: told in each theorem. .. TopLater in plain Lean: the later of two flaws of a plate is on no plate that does not have the earlier one. Conditions: told in each theorem.
-/
import Derived.Test.YtjmbpjlojjgggaaGreatDoorAbs42
import Derived.Test.YtjmbpjlojjgggaaGreatDoorX00
import Derived.Test.YtjmbpjlojjgggaaGreatDoorX10
import Derived.Test.YtjmbpjlojjgggaaGreatDoorX09
set_option maxRecDepth 100000
namespace Go.Proofs.YtjmbpjlojjgggaaGreatDoor
open Go.Ab Go.RowKit Go.Dw Go.Shelf
theorem AC.fz{P:Program}{f:FuncId}{args:List V}{v v':V}{obs:List Ob}(h:AC P f args v obs)(k:Fz (jH obs) v v'):AC P f args v' []:=by
 refine⟨h.1,fun L w vs hL hgl hvs=>(h.2 L w vs hL hgl hvs).mono ?_⟩;rintro ee w' ⟨x,rfl,hb,L',ρ',hG,hL',hx,hnn⟩;have ex:Ext w' L' ρ' w' (fun b=>L' b\/qx (jH obs) ρ' b) ρ':=⟨fun b hb=>⟨.inl hb,rfl⟩,fun _ _ h=>h⟩;refine⟨x,rfl,hb,fun b=>L' b\/qx (jH obs) ρ' b,ρ0,⟨fun b hbl=> ?_,hG.new,(fun id o ho=>by cases ho),fun i j y z k _ hi=>absurd rfl hi,hG.sH ex⟩,fun b hbl=> .inl (hL' b hbl),R.Pk hG k x hx,fun _ _=>rfl⟩;rcases hbl with h1 | ⟨id,y,hs,hy,hyb⟩;·exact hG.ll b h1
 ·cases ho:jH obs id with
  |none=>exact absurd ho hs
  |some o=>
   obtain⟨z,hz,hl⟩:=(hG.ob id o ho).lt;rw [hy]at hz;injection hz with hz;subst hz
   exact⟨(hl b hyb).1,.inr (hl b hyb).2.1⟩
theorem Fz.Mo{σ:Nat->Option Ob}{cs cs':List V}(h:iE σ cs cs'):Fz σ (.tup cs) (.tup cs'):= .tup _ _ h.get.1 h.get.2
theorem pF(S:Sh)(hn:S.n<=200)(hk:eZ S)(A B:Nat->Nat)(m:Nat)(hm:m<=16)(hA:jw S m A)(hB:jw S m B)(sd:Bool) :
 AC Tryz.prog 89 [iw S,ke A B m,.i (i9 sd)] (.tup [dV S (gj sd A B) m,.i 0]) []:=
 AC.fz (zC S hn hk A B m hm hA hB sd) (Fz.Mo ⟨Fz.refs (t:=189) (cs:=ud S (.own 1) (.own 2)) rfl ⟨Fz.b5 _ rfl,Fz.rows (e:=2) (sz:=1) (r:=cJ) rfl fun _ _=>iE.b5 rfl,Fz.rows (e:=3) (sz:=1) (r:=jN (gj sd A B)) rfl fun _ _=>iE.b5 rfl,trivial⟩,Fz.b5 _ rfl,trivial⟩)
theorem AF(S:Sh)(T:Nat->Nat)(m:Nat):AC Tryz.prog 90 [dV S T m] (.fn (.func 136) [] [.ptr [dV S T m]]) []:=by refine gU ah cv Tryz.func90 Tryz.ntmps90 fun C hC hF=> ?_;refine sK fun K hK=>wR 2 ?_;refine aY ah 2 [] ?_;refine nK hK ?_;clear hK K;refine sK fun K hK=>wR 3 ?_;refine aY ah 2 [] ?_;refine nK hK ?_;clear hK K;refine ay ?_;refine rP (V.fn (Fn.func (136:Nat)) [] [V.ptr [V.ptr [V.sl (7:Nat) (Sh.n S) fun(i:Nat)=>Pl.c (Sh.pl S i),V.sl (1:Nat) m cJ,V.sl (1:Nat) m (jN T)]]])
theorem NK(g:Nat->Bool)(m:Nat)(hm:m<=16):AC Tryz.prog 91 [.sl 1 m (gh g),.sl 1 m cJ] (V.ints (f7 g m)) []:= AC.jZ (e:=2) (sz:=1) (n:=(f7 g m).length) (row:=vN g m) (v:= .own 0) (LV g m hm) rfl (fun _ _=>rfl) (fun _=>rfl) rfl rfl
abbrev j7:=Int×Int×(Nat->Bool)
def OP(m:Nat)(c:j7):List V:=DQ m c.1 c.2.1 c.2.2
def LY(S:Sh)(T:Nat->Nat)(i k:Nat):Option j7:=if gT S i 0 (T k)then some (i,(k:Int)+1,Jm S T i k)else none
def Pc(S:Sh)(T:Nat->Nat)(i k:Nat):Option j7:=if i< k/\(S.pl k).par=i then some (i,k,fun j=>gT S i k (T j))else none
def nD(S:Sh)(T:Nat->Nat)(m i:Nat):List j7:=if(S.pl i).kind=3 then(List.range m).filterMap (LY S T i)else(List.range S.n).filterMap (Pc S T i)
def Ej(k:Nat):j7:=(-1,(k:Int)+1,fun j=>decide (j=k))
def gk(S:Sh)(T:Nat->Nat)(m:Nat):List j7:=(List.range S.n).flatMap (nD S T m)++(List.range m).map Ej
theorem AG(S:Sh)(T:Nat->Nat)(m:Nat):qH S T m=(gk S T m).map (OP m):=by
 unfold qH gk;rw [List.map_append,List.map_map,List.map_flatMap];have h1:∀i,jY S T m i=(nD S T m i).map (OP m):=fun i=>by
  unfold jY nD;split;·rw [List.map_filterMap];congr 1;funext k;unfold s7 LY;split <;> rfl
  ·rw [List.map_filterMap];congr 1;funext k;unfold CO Pc;split <;> rfl
 rw [show jY S T m=fun i=>(nD S T m i).map (OP m)from funext h1];rfl
def ry(cs:List j7)(m:Nat)(p fr:Int):List Int×Int:=match cs.find? fun c=>decide (c.1=p) && decide (c.2.1=fr)with
 |some c=>(f7 c.2.2 m,0)
 |none=>([],2)
theorem A6{m:Nat}{l:List j7}:∀x∈l.map (OP m),x.length=1:=fun x hx=>by obtain⟨c,_,rfl⟩:=List.mem_map.1 hx;rfl
def sR(p fr:Int)(c:j7):Bool:=decide (c.1=p) && decide (c.2.1=fr)
theorem C8{cs:List j7}{m:Nat}{p fr:Int}(h:∀j c,j< cs.length->cs[j]?=some c->sR p fr c=false):ry cs m p fr=([],2):=by
 have:cs.find? (fun c=>decide (c.1=p) && decide (c.2.1=fr))=none:=List.find?_eq_none.2 fun c hc=>by obtain⟨j,hj,rfl⟩:=List.getElem_of_mem hc;have:=h j _ hj (List.getElem?_eq_getElem hj);unfold sR at this;rw [this];simp
 unfold ry;rw [this]
theorem Ba{α:Type}{q:α->Bool}:∀ {l:List α}{k:Nat}{c:α},l[k]?=some c->q c=true->(∀j c',j< k->l[j]?=some c'->q c'=false)->l.find? q=some c
 | [],k,c,h,_,_=>by simp at h
 |x::l,0,c,h,h1,_=>by simp at h;subst h;simp [h1]
 |x::l,k+1,c,h,h1,h2=>by have hx:=h2 0 x (Nat.zero_lt_succ _) rfl;rw [List.find?_cons,hx];exact Ba (k:=k) (by simpa using h) h1 fun j c' hj hc=>h2 (j+1) c' oM (by simpa using hc)
theorem C9{cs:List j7}{m k:Nat}{p fr:Int}{c:j7}(hc:cs[k]?=some c)(h1:sR p fr c=true)(h2:∀j c,j< k->cs[j]?=some c->sR p fr c=false):ry cs m p fr=(f7 c.2.2 m,0):=by have:cs.find? (fun c=>decide (c.1=p) && decide (c.2.1=fr))=some c:=Ba hc h1 h2;unfold ry;rw [this]
theorem Bf(S:Sh)(hn:S.n<=200)(hk:eZ S)(A B:Nat->Nat)(m:Nat)(hm:m<=16)(hA:jw S m A)(hB:jw S m B)(sd:Bool)(p fr:Int)(v:V) (v0:(∀(j:Nat) c,j< (gk S (gj sd A B) m).length->(gk S (gj sd A B) m)[j]?=some c->sR p fr c=false)->v= .tup [.nil,.i 2]) (v1:∀(k:Nat) c,(gk S (gj sd A B) m)[k]?=some c->sR p fr c=true->(∀(j:Nat) c,j< k->(gk S (gj sd A B) m)[j]?=some c->sR p fr c=false)->v= .tup [V.ints (f7 c.2.2 m),.i 0]) : AC Tryz.prog 39 [iw S,ke A B m,.i (i9 sd),.agg [.i p,.i fr]] v []:=by
 have hT:∀i,i< m->gj sd A B i< S.n:=fun i hi=>by unfold gj;split;exact(hB i hi).1;exact(hA i hi).1
 refine gU ah cv Tryz.func39 Tryz.ntmps39 fun C hC hF=> ?_;refine sK fun K hK=>wR 2 ?_;refine aY ah 3 [] ?_;refine nK hK ?_;clear hK K;refine sK fun K hK=>wR 3 ?_;refine aY ah 3 [] ?_;refine eC (pF S hn hk A B m hm hA hB sd) ?_;refine aY ah 6 [(4,.c ((0:Nat)+(1:Nat)<=(1:Nat)) oM)] ?_;refine nK hK ?_;clear hK K;refine sK fun K hK=>sK fun K hK=> ?_;refine iC (dz (t:=(178:Nat)) (cs:=[V.ptr [V.sl (7:Nat) (Sh.n S) fun(i:Nat)=>Pl.c (Sh.pl S i),V.sl (1:Nat) m cJ,V.sl (1:Nat) m (jN (gj sd A B))]]) 200010 kR kR) ?_;refine wR 4 ?_;refine aY ah 2 [] ?_;refine nK hK ?_;clear hK K;refine aB (t:=false) kR rfl ?_;refine ak ?_;refine ai (hK _ ?_);clear hK K;refine sK fun K hK=>sK fun K hK=>wR 5 ?_;refine aY ah 1 [] ?_;refine eC (AF S (gj sd A B) m) ?_;refine nK hK ?_;clear hK K;refine au ?_;obtain⟨T,hTe⟩:∃T,T=gj sd A B:=⟨_,rfl⟩;rw [<-hTe]at hT v0 v1 ⊢;have it:=Ei S hn hk T m hm hT;rw [AG]at it;obtain⟨cs,hcs⟩:∃cs,cs=gk S T m:=⟨_,rfl⟩;rw [<-hcs]at it v0 v1;refine sq (caps:=[.ptr [dV S T m]]) [] hF [501,502] [] [(501,100008),(502,100009)] (fun _ _ h=>by rw [hC]at h;cases h) it kR kR rfl (by simp) (fun i k o h=>by simp at h) A6 kR
  [(7,.ptr [.i p,.i fr]),(8,.ref 501 0),(9,.ref 502 0),(10,.ptr [dV S T m])] (fun k=>∀j c,j< k->cs[j]?=some c->sR p fr c=false) (fun _=>[.box 41 [.nil],.box 27 [.i 0]])
  (fun k e sx=>e= .ret/\∃c,cs[k]?=some c/\sR p fr c=true/\(∀j c,j< k->cs[j]?=some c->sR p fr c=false)/\sx=[.box 41 [V.ints (f7 c.2.2 m)],.box 27 [.i 0]]) (fun j c hj=>absurd hj (Nat.not_lt_zero _)) kR kR kR kR ⟨by show _=_;kernel_rfl,by show _=_;kernel_rfl,by show _=_;kernel_rfl,by show _=_;kernel_rfl,trivial⟩
  ⟨⟨.box 41 [.nil],kR,rfl,rfl⟩,⟨.box 27 [.i 0],kR,rfl,rfl⟩,trivial⟩ kR (fun _ _ h=>by cases h) ?round ?done ?stop
 case round=>
  rintro C' ⟨lx,hF'⟩ k x hx hk0
  rw [List.getElem?_map,Option.map_eq_some_iff]at hx
  obtain⟨c,hc,rfl⟩:=hx
  refine wR 2 ?_;refine aY ah 2 [(1,.c ((0:Nat)+(3:Nat)<=(3:Nat)) oM)] ?_;refine aa (ai ?_)
  refine au ?_
  refine sK fun K hK=>wR 3 ?_;refine aY ah 4 [(1,.c ((0:Nat)<=(3:Nat)) oM)] ?_;refine nK hK ?_;clear hK K
  refine av (t:=decide (Prod.fst c=p) && (decide (Prod.fst (Prod.snd c)=fr) && true)) kR (fun c1=> ?_) (fun c1=> ?_)
  ·have hmc:sR p fr c=true:=by simpa [sR]using c1
   refine sK fun K hK=>wD 4 ?_;refine an ah (M:=[]) (n:=6) [pv (30:Nat) (V.ref (100012:Nat) (2:Nat)),pc (31:Nat) ((2:Nat)<=(3:Nat)) (V.sl (1:Nat) m (gh (Prod.snd (Prod.snd c)))),pv (32:Nat) (V.ptr [V.sl (7:Nat) (Sh.n S) fun(i:Nat)=>Pl.c (Sh.pl S i),V.sl (1:Nat) m cJ,V.sl (1:Nat) m (jN T)]),pv (33:Nat) (V.ptr [V.sl (7:Nat) (Sh.n S) fun(i:Nat)=>Pl.c (Sh.pl S i),V.sl (1:Nat) m cJ,V.sl (1:Nat) m (jN T)]),pv (34:Nat) (V.ptr [V.sl (1:Nat) m cJ,V.sl (1:Nat) m (jN T)]),pv (35:Nat) (V.sl (1:Nat) m cJ)] kR kR ⟨oM,tI⟩ ?_;refine eC (NK c.2.2 m hm) ?_;refine an ah (M:=[]) (n:=2) [pw ((0:Nat)+(1:Nat)<=(1:Nat)) (501:Nat) (Ob.box (41:Nat) [V.sl (1:Nat) (List.length (f7 (Prod.snd (Prod.snd c)) m)) fun(k:Nat)=>[V.i (gi (f7 (Prod.snd (Prod.snd c)) m) k)]]),pw ((0:Nat)+(1:Nat)<=(1:Nat)) (502:Nat) (Ob.box (27:Nat) [V.i (0:Int)])] kR kR ⟨oM,oM,tI⟩ ?_;refine aa ⟨kR,(ai (hK _ ?_))⟩;clear hK K;refine ay ?_;refine fA ?_;refine⟨_,⟨rfl,c,hc,hmc,hk0,rfl⟩,?_⟩;refine aC (sl:=[(501,Ob.box (41:Nat) [V.sl (1:Nat) (List.length (f7 (Prod.snd (Prod.snd c)) m)) fun(k:Nat)=>[V.i (gi (f7 (Prod.snd (Prod.snd c)) m) k)]]),(502,Ob.box (27:Nat) [V.i (0:Int)])]) [] .nil (.cons oS (.cons oS .nil)) kR kR
  ·have hmc:sR p fr c=false:=by
    cases h:sR p fr c with
    |false=>rfl
    |true=>rw [show(decide (c.1=p) && (decide (c.2.1=fr) && true))=sR p fr c by simp [sR],h]at c1;cases c1
   refine ak ?_;refine bL ?_;refine⟨fun j c' hj hc'=> ?_,?_⟩
   ·rcases Nat.lt_or_ge j k with h |h;·exact hk0 j c' h hc'
    ·obtain rfl:j=k:=by omega
     rw [hc]at hc';injection hc' with hc';subst hc';exact hmc
   ·refine aC (sl:=[(501,Ob.box (41:Nat) [V.nil]),(502,Ob.box (27:Nat) [V.i (0:Int)])]) [] .nil (.cons oS (.cons oS .nil)) kR kR
 case done=>
  intro hk0
  rw [List.length_map]at hk0
  have hv:=v0 hk0
  refine bL (ai (hK _ ?_));clear hK K;refine sK fun K hK=>wR 2 ?_;refine aY ah 2 [(0,.c ((0:Nat)+(1:Nat)<=(1:Nat)) oM),(0,.c ((0:Nat)+(1:Nat)<=(1:Nat)) oM)] ?_;refine nK hK ?_;clear hK K
  refine ay ?_
  refine lI (dz (t:=(41:Nat)) (cs:=[V.nil]) 501 kR kR) ?_
  refine lI (dz (t:=(27:Nat)) (cs:=[V.i (2:Int)]) 502 kR kR) ?_
  rw [hv]
  refine rP (V.tup [V.nil,V.i (2:Int)])
 case stop=>
  rintro k e sx hk0 ⟨rfl,c,hc,h1,h2,rfl⟩
  rw [v1 k c hc h1 h2]
  refine ay ?_
  refine fA ?_
  refine bZ ?_
  refine lI (dz (t:=(41:Nat)) (cs:=[V.sl (1:Nat) (List.length (f7 (Prod.snd (Prod.snd c)) m)) fun(k:Nat)=>[V.i (gi (f7 (Prod.snd (Prod.snd c)) m) k)]]) 501 kR kR) ?_
  refine lI (dz (t:=(27:Nat)) (cs:=[V.i (0:Int)]) 502 kR kR) ?_
  refine rP (V.tup [V.sl (1:Nat) (List.length (f7 (Prod.snd (Prod.snd c)) m)) fun(k:Nat)=>[V.i (gi (f7 (Prod.snd (Prod.snd c)) m) k)],V.i (0:Int)])
theorem Lu(S:Sh)(hn:S.n<=200)(hk:eZ S)(A B:Nat->Nat)(m:Nat)(hm:m<=16)(hA:jw S m A)(hB:jw S m B)(sd:Bool)(p fr:Int) : AC Tryz.prog 39 [iw S,ke A B m,.i (i9 sd),.agg [.i p,.i fr]] (.tup [V.ints (ry (gk S (gj sd A B) m) m p fr).1,.i (ry (gk S (gj sd A B) m) m p fr).2]) []:=by
 by_cases h:∀(j:Nat) c,j< (gk S (gj sd A B) m).length->(gk S (gj sd A B) m)[j]?=some c->sR p fr c=false;·rw [C8 h];refine AC.res (Bf S hn hk A B m hm hA hB sd p fr (.tup [.nil,.i 2]) (fun _=>rfl) fun k c hc h1 _=> ?_) rfl (cq.Mo ⟨cq.Px _ _,cq.refl _,trivial⟩);rw [h k c (List.getElem?_eq_some_iff.1 hc).1 hc]at h1;cases h1
 ·exact Bf S hn hk A B m hm hA hB sd p fr _ (fun h'=>absurd h' h) fun k c hc h1 h2=>by rw [C9 hc h1 h2]
def b9(S:Sh)(f:Int)(k:Nat):List Nat:=(List.range k).filter fun i=>(S.pl i).fl f
def fB(S:Sh)(f:Int)(k j:Nat):List V:=[.i (((b9 S f k).getD j 0:Nat):Int)]
theorem AX{S:Sh}{f:Int}{k:Nat}(h:(S.pl k).fl f=true):b9 S f (k+1)=b9 S f k++[k]:=by unfold b9;rw [List.range_succ,List.filter_append];simp [h]
theorem AV{S:Sh}{f:Int}{k:Nat}(h:(S.pl k).fl f=false):b9 S f (k+1)=b9 S f k:=by unfold b9;rw [List.range_succ,List.filter_append];simp [h]
theorem CF(S:Sh)(f:Int)(k:Nat):(b9 S f k).length<=k:=Nat.le_trans (List.length_filter_le _ _) (by rw [List.length_range];exact Nat.le_refl _)
theorem lB{S:Sh}{f:Int}{k i:Nat}:i∈b9 S f k<->i< k/\(S.pl i).fl f=true:=by unfold b9;rw [List.mem_filter,List.mem_range]
theorem Ij{S:Sh}{f:Int}{k:Nat}(c2:(S.pl k).fl f=true){i:Nat}(hi:i< (b9 S f k).length+1):aE (b9 S f k).length (fB S f k) (fun i=>List.take 1 (List.drop (i*1) [V.i (k:Int)])) i=fB S f (k+1) i:=by
 simp only [fB,aE];rw [AX c2];by_cases h:i< (b9 S f k).length;·rw [if_pos h,List.getD_eq_getElem?_getD,List.getD_eq_getElem?_getD,List.getElem?_append_left h]
 ·have:i=(b9 S f k).length:=by omega
  subst this;rw [if_neg h,Nat.sub_self,List.getD_eq_getElem?_getD,List.getElem?_append_right (Nat.le_refl _),Nat.sub_self];rfl
theorem Ii{S:Sh}{f:Int}{k:Nat}(c2:(S.pl k).fl f=false):fB S f (k+1)=fB S f k:=by funext i;unfold fB;rw [AV c2]
theorem yy(S:Sh)(hn:S.n<=200)(f:Int)(hf:0<=f/\f< S.q)(hq:S.q<=1000):AC Tryz.prog 29 [DW S,.i f] (.tup [.own 0,.i 0]) [.row 3 1 (b9 S f S.n).length (fB S f S.n)]:=by
 refine qD ah cv (fn:=Tryz.f29) (N:=_) ⟨Tryz.func29,rfl,Tryz.ntmps29,kR⟩ (by simp) fun C hC hF=> ?_;refine sK fun K hK=> ?_;refine aj (n':=2) kR kR ?_;refine an ah (M:=[]) (n:=2) [pv (4:Nat) V.nil,pv (5:Nat) (V.i (0:Int))] kR kR tI ?_;refine aa ?_;refine ai ?_;refine hK _ ?_;clear hK K;refine sK fun K hK=> ?_;refine sK fun K hK=> ?_;refine aj (n':=3) kR kR ?_;refine an ah (M:=[]) (n:=2) [pv (15:Nat) (V.ptr [V.b true,V.i (Rc.n0 (Sh.r S)),V.i (Rc.n1 (Sh.r S)),V.i (Rc.n2 (Sh.r S)),V.i (Rc.n3 (Sh.r S)),V.i (Rc.k0 (Sh.r S)),V.i (Rc.k1 (Sh.r S)),V.i (Rc.k2 (Sh.r S)),V.i (Rc.k3 (Sh.r S)),V.i (Rc.seed (Sh.r S)),V.i (Rc.soft (Sh.r S)),V.i (Rc.hard (Sh.r S)),V.i (Rc.mo (Sh.r S)),V.i (Rc.st (Sh.r S)),V.sl (1:Nat) (Sh.n S) fun(i:Nat)=>[V.ptr [V.i (↑(Pl.kind (Sh.pl S i)):Int),V.i (Pl.par (Sh.pl S i)),V.i (Pl.cut (Sh.pl S i)),V.i (Pl.area (Sh.pl S i)),V.i (Pl.aF (Sh.pl S i)),V.i (Pl.grown (Sh.pl S i)),V.b (Pl.ret (Sh.pl S i)),qW (Sh.pl S i)]],V.sl (4:Nat) (Sh.m S) fun(i:Nat)=>aO.c (Sh.tk S i),V.sl (2:Nat) (Sh.q S) (aP (Sh.g S)),V.sl (13:Nat) (Sh.l S) bM]),pv (16:Nat) (V.i f)] kR kR tI ?_;refine dH (first:=[]) (caps:=[]) (B6 S f hf hq) kR kR kR kR kR ?_;refine an ah (M:=[]) (n:=7) [pv (14:Nat) (V.tup [V.i (Prod.fst (Sh.g S (Int.toNat f))),V.i (Prod.snd (Sh.g S (Int.toNat f))),V.i (0:Int)]),pv (18:Nat) (V.i (Prod.fst (Sh.g S (Int.toNat f)))),pv (19:Nat) (V.i (Prod.snd (Sh.g S (Int.toNat f)))),pv (20:Nat) (V.i (0:Int)),pv (6:Nat) (V.i (Prod.fst (Sh.g S (Int.toNat f)))),pv (7:Nat) (V.i (Prod.snd (Sh.g S (Int.toNat f)))),pv (8:Nat) (V.i (0:Int))] kR kR tI ?_;refine aa ?_;refine ai ?_;refine hK _ ?_;clear hK K;refine sK fun K hK=> ?_;refine aj (n':=4) kR kR ?_;refine an ah (M:=[]) (n:=2) [pv (21:Nat) (V.i (0:Int)),pv (22:Nat) (V.b false)] kR kR tI ?_;refine aa ?_;refine ai ?_;refine hK _ ?_;clear hK K;refine aB (t:=false) kR rfl ?_;refine ak ?_;refine ai ?_;refine hK _ ?_;clear hK K;refine sK fun K hK=> ?_;refine aj (n':=5) kR kR ?_;refine an ah (M:=[]) (n:=1) [pv (9:Nat) V.nil] kR kR tI ?_;refine aa ?_;refine ai ?_;refine hK _ ?_;clear hK K;refine sK fun K hK=> ?_;refine sK fun K hK=> ?_;refine aj (n':=6) kR kR ?_;refine an ah (M:=[]) (n:=6) [pv (24:Nat) (V.ptr [V.b true,V.i (Rc.n0 (Sh.r S)),V.i (Rc.n1 (Sh.r S)),V.i (Rc.n2 (Sh.r S)),V.i (Rc.n3 (Sh.r S)),V.i (Rc.k0 (Sh.r S)),V.i (Rc.k1 (Sh.r S)),V.i (Rc.k2 (Sh.r S)),V.i (Rc.k3 (Sh.r S)),V.i (Rc.seed (Sh.r S)),V.i (Rc.soft (Sh.r S)),V.i (Rc.hard (Sh.r S)),V.i (Rc.mo (Sh.r S)),V.i (Rc.st (Sh.r S)),V.sl (1:Nat) (Sh.n S) fun(i:Nat)=>[V.ptr [V.i (↑(Pl.kind (Sh.pl S i)):Int),V.i (Pl.par (Sh.pl S i)),V.i (Pl.cut (Sh.pl S i)),V.i (Pl.area (Sh.pl S i)),V.i (Pl.aF (Sh.pl S i)),V.i (Pl.grown (Sh.pl S i)),V.b (Pl.ret (Sh.pl S i)),qW (Sh.pl S i)]],V.sl (4:Nat) (Sh.m S) fun(i:Nat)=>aO.c (Sh.tk S i),V.sl (2:Nat) (Sh.q S) (aP (Sh.g S)),V.sl (13:Nat) (Sh.l S) bM]),pv (25:Nat) (V.ptr [V.b true,V.i (Rc.n0 (Sh.r S)),V.i (Rc.n1 (Sh.r S)),V.i (Rc.n2 (Sh.r S)),V.i (Rc.n3 (Sh.r S)),V.i (Rc.k0 (Sh.r S)),V.i (Rc.k1 (Sh.r S)),V.i (Rc.k2 (Sh.r S)),V.i (Rc.k3 (Sh.r S)),V.i (Rc.seed (Sh.r S)),V.i (Rc.soft (Sh.r S)),V.i (Rc.hard (Sh.r S)),V.i (Rc.mo (Sh.r S)),V.i (Rc.st (Sh.r S)),V.sl (1:Nat) (Sh.n S) fun(i:Nat)=>[V.ptr [V.i (↑(Pl.kind (Sh.pl S i)):Int),V.i (Pl.par (Sh.pl S i)),V.i (Pl.cut (Sh.pl S i)),V.i (Pl.area (Sh.pl S i)),V.i (Pl.aF (Sh.pl S i)),V.i (Pl.grown (Sh.pl S i)),V.b (Pl.ret (Sh.pl S i)),qW (Sh.pl S i)]],V.sl (4:Nat) (Sh.m S) fun(i:Nat)=>aO.c (Sh.tk S i),V.sl (2:Nat) (Sh.q S) (aP (Sh.g S)),V.sl (13:Nat) (Sh.l S) bM]),pv (26:Nat) (V.ptr [V.sl (1:Nat) (Sh.n S) fun(i:Nat)=>[V.ptr [V.i (↑(Pl.kind (Sh.pl S i)):Int),V.i (Pl.par (Sh.pl S i)),V.i (Pl.cut (Sh.pl S i)),V.i (Pl.area (Sh.pl S i)),V.i (Pl.aF (Sh.pl S i)),V.i (Pl.grown (Sh.pl S i)),V.b (Pl.ret (Sh.pl S i)),qW (Sh.pl S i)]],V.sl (4:Nat) (Sh.m S) fun(i:Nat)=>aO.c (Sh.tk S i),V.sl (2:Nat) (Sh.q S) (aP (Sh.g S)),V.sl (13:Nat) (Sh.l S) bM]),pv (27:Nat) (V.sl (1:Nat) (Sh.n S) fun(i:Nat)=>[V.ptr [V.i (↑(Pl.kind (Sh.pl S i)):Int),V.i (Pl.par (Sh.pl S i)),V.i (Pl.cut (Sh.pl S i)),V.i (Pl.area (Sh.pl S i)),V.i (Pl.aF (Sh.pl S i)),V.i (Pl.grown (Sh.pl S i)),V.b (Pl.ret (Sh.pl S i)),qW (Sh.pl S i)]]),pv (28:Nat) (V.i (↑(Sh.n S):Int)),pv (29:Nat) (V.i (0:Int))] kR kR tI ?_;refine aa ?_;refine ai ?_;refine hK _ ?_;clear hK K;refine au ?_;refine iC (gP 9 3 1 (fB S f 0) kR rfl) ?_;refine cr (ι:=Nat) (fun k=>[(1,.i f),(9,.own 5),(27,.sl 1 S.n fun i=>[.ptr (Np S i)]),(28,.i S.n),(29,.i (k:Nat))]) (fun k=>[(5,.row 3 1 (b9 S f k).length (fB S f k))]) (fun k=>k<=S.n) (fun k=>S.n- k) 0 (Nat.zero_le _) ?_ ?_;·refine aC (sl:=[(5,Ob.row (3:Nat) (1:Nat) (0:Nat) (fB S f (0:Nat)))]) [(5,600009)] (.cons kR (.cons kR (.cons kR (.cons kR (.cons kR .nil))))) (.cons ⟨Ob.row (3:Nat) (1:Nat) (0:Nat) (fB S f (0:Nat)),kR,.row kR (fun _ _=>rfl)⟩ .nil) kR kR
 intro k hk;have hbl:=CF S f k;refine sK fun K hK=> ?_;refine aj (n':=2) kR kR ?_;refine an ah (M:=[]) (n:=1) [pv (30:Nat) (V.b (decide ((↑k:Int)< (↑(Sh.n S):Int))))] kR kR tI ?_;refine aa ?_;refine ai ?_;refine hK _ ?_;clear hK K;refine sK fun K hK=> ?_;refine av (t:=decide ((↑k:Int)< (↑(Sh.n S):Int))) kR (fun c1=> ?_) (fun c1=> ?_)
 ·have hk1:k< S.n:=by simpa using c1
  refine ak ?_;refine ai ?_;refine hK _ ?_;clear hK K;refine sK fun K hK=> ?_;refine au ?_;refine sK fun K hK=> ?_;refine aj (n':=3) kR kR ?_;refine an ah (M:=[]) (n:=5) [pv (31:Nat) (V.i (↑k:Int)),pc (32:Nat) ((0:Int)<=(↑k:Int)/\(↑k:Int)< (↑(Sh.n S):Int)) (V.ptr [V.ptr [V.i (↑(Pl.kind (Sh.pl S k)):Int),V.i (Pl.par (Sh.pl S k)),V.i (Pl.cut (Sh.pl S k)),V.i (Pl.area (Sh.pl S k)),V.i (Pl.aF (Sh.pl S k)),V.i (Pl.grown (Sh.pl S k)),V.b (Pl.ret (Sh.pl S k)),qW (Sh.pl S k)]]),pv (33:Nat) (V.ptr [V.i (↑(Pl.kind (Sh.pl S k)):Int),V.i (Pl.par (Sh.pl S k)),V.i (Pl.cut (Sh.pl S k)),V.i (Pl.area (Sh.pl S k)),V.i (Pl.aF (Sh.pl S k)),V.i (Pl.grown (Sh.pl S k)),V.b (Pl.ret (Sh.pl S k)),qW (Sh.pl S k)]),pv (10:Nat) (V.i (↑k:Int)),pv (11:Nat) (V.ptr [V.i (↑(Pl.kind (Sh.pl S k)):Int),V.i (Pl.par (Sh.pl S k)),V.i (Pl.cut (Sh.pl S k)),V.i (Pl.area (Sh.pl S k)),V.i (Pl.aF (Sh.pl S k)),V.i (Pl.grown (Sh.pl S k)),V.b (Pl.ret (Sh.pl S k)),qW (Sh.pl S k)])] kR kR ⟨oM,tI⟩ ?_;refine aa ?_;refine ai ?_;refine hK _ ?_;clear hK K;refine sK fun K hK=> ?_;refine aj (n':=4) kR kR ?_;refine an ah (M:=[]) (n:=12) [pv (35:Nat) (V.ptr [V.i (↑(Pl.kind (Sh.pl S k)):Int),V.i (Pl.par (Sh.pl S k)),V.i (Pl.cut (Sh.pl S k)),V.i (Pl.area (Sh.pl S k)),V.i (Pl.aF (Sh.pl S k)),V.i (Pl.grown (Sh.pl S k)),V.b (Pl.ret (Sh.pl S k)),qW (Sh.pl S k)]),pv (36:Nat) (V.ptr [V.i (↑(Pl.kind (Sh.pl S k)):Int),V.i (Pl.par (Sh.pl S k)),V.i (Pl.cut (Sh.pl S k)),V.i (Pl.area (Sh.pl S k)),V.i (Pl.aF (Sh.pl S k)),V.i (Pl.grown (Sh.pl S k)),V.b (Pl.ret (Sh.pl S k)),qW (Sh.pl S k)]),pv (37:Nat) (V.ptr [qW (Sh.pl S k)]),pv (38:Nat) (qW (Sh.pl S k)),pv (39:Nat) (V.i f),pv (40:Nat) (V.tup [V.agg [],V.b (Pl.fl (Sh.pl S k) f)]),pv (34:Nat) (V.tup [V.agg [],V.b (Pl.fl (Sh.pl S k) f)]),pv (41:Nat) (V.agg []),pv (42:Nat) (V.b (Pl.fl (Sh.pl S k) f)),pn (12:Nat) (V.ref (300012:Nat) (0:Nat)) (300012:Nat) (Ob.box (157:Nat) []),pw ((0:Nat)+(0:Nat)<=(0:Nat)) (300012:Nat) (Ob.box (157:Nat) []),pv (13:Nat) (V.b (Pl.fl (Sh.pl S k) f))] kR kR ⟨oM,tI⟩ ?_;refine aa ?_;refine ai ?_;refine hK _ ?_;clear hK K;refine sK fun K hK=> ?_;refine aj (n':=5) kR kR ?_;refine an ah (M:=[]) (n:=1) [pv (43:Nat) (V.b (Pl.fl (Sh.pl S k) f))] kR kR tI ?_;refine aa ?_;refine ai ?_;refine hK _ ?_;clear hK K;refine av (t:=Pl.fl (Sh.pl S k) f) kR (fun c2=> ?_) (fun c2=> ?_);·refine aj (n':=6) kR kR ?_;refine an ah (M:=[]) (n:=5) [pv (44:Nat) (V.own (5:Nat)),pv (45:Nat) (V.i (↑k:Int)),pv (46:Nat) (V.sl (1:Nat) (1:Nat) fun(i:Nat)=>List.take (1:Nat) (List.drop (i*1) [V.i (↑k:Int)])),PR.mk (some (47:Nat)) (some (List.length (b9 S f k)+1<=(1099511627776:Nat))) (V.own (500047:Nat)) [((5:Nat),none),((500047:Nat),some (Ob.row (3:Nat) (1:Nat) (List.length (b9 S f k)+1) (aE (List.length (b9 S f k)) (fB S f k) fun(i:Nat)=>List.take (1:Nat) (List.drop (i*1) [V.i (↑k:Int)]))))] false,pv (9:Nat) (V.own (500047:Nat))] kR kR ⟨oM,tI⟩ ?_;refine aa ?_;refine bL ?_;refine ai ?_;refine hK _ ?_;clear hK K;refine aj (n':=7) kR kR ?_;refine an ah (M:=[]) (n:=2) [pc (48:Nat) ((-9223372036854775808:Int)<=(↑k:Int)+1/\(↑k:Int)+1<=(9223372036854775807:Int)) (V.i ((↑k:Int)+1)),pv (29:Nat) (V.i ((↑k:Int)+1))] kR kR ⟨oM,tI⟩ ?_;refine aa ?_;refine ai ?_;refine⟨k+1,by omega,?_,by omega⟩;rw [show(b9 S f (k+1)).length=(b9 S f k).length+1 by rw [AX c2,List.length_append];rfl];refine aC (tl:=[(1,V.i f),(9,V.own (5:Nat)),(27,V.sl (1:Nat) (Sh.n S) fun(i:Nat)=>[V.ptr (Np S i)]),(28,V.i (↑(Sh.n S):Int)),(29,V.i (↑(k+1):Int))]) (sl:=[(5,Ob.row (3:Nat) (1:Nat) (List.length (b9 S f k)+1) (fB S f (k+1)))]) [(5,500047)] (.cons kR (.cons kR (.cons kR (.cons kR (.cons kR .nil))))) (.cons ⟨Ob.row (3:Nat) (1:Nat) (List.length (b9 S f k)+1) (aE (List.length (b9 S f k)) (fB S f k) fun(i:Nat)=>List.take (1:Nat) (List.drop (i*1) [V.i (↑k:Int)])),kR,.row kR ?_⟩ .nil) kR kR;·intro i hi;rw [Ij c2 hi];rfl
  ·refine ak ?_;refine bL ?_;refine ai ?_;refine hK _ ?_;clear hK K;refine aj (n':=6) kR kR ?_;refine an ah (M:=[]) (n:=2) [pc (48:Nat) ((-9223372036854775808:Int)<=(↑k:Int)+1/\(↑k:Int)+1<=(9223372036854775807:Int)) (V.i ((↑k:Int)+1)),pv (29:Nat) (V.i ((↑k:Int)+1))] kR kR ⟨oM,tI⟩ ?_;refine aa ?_;refine ai ?_;refine⟨k+1,by omega,?_,by omega⟩;rw [AV c2];refine aC (tl:=[(1,V.i f),(9,V.own (5:Nat)),(27,V.sl (1:Nat) (Sh.n S) fun(i:Nat)=>[V.ptr (Np S i)]),(28,V.i (↑(Sh.n S):Int)),(29,V.i (↑(k+1):Int))]) (sl:=[(5,Ob.row (3:Nat) (1:Nat) (List.length (b9 S f k)) (fB S f (k+1)))]) [(5,5)] (.cons kR (.cons kR (.cons kR (.cons kR (.cons kR .nil))))) (.cons ⟨Ob.row (3:Nat) (1:Nat) (List.length (b9 S f k)) (fB S f k),kR,.row kR ?_⟩ .nil) kR kR;·intro i hi;rw [Ii c2];rfl
 ·have hk1:k=S.n:=by simp at c1;omega
  subst hk1;refine bg ?_;refine bO ?_;refine bO ?_;refine bC ?_;refine ai ?_;clear hK K;refine hK _ ?_;clear hK K;refine sK fun K hK=> ?_;refine aj (n':=3) kR kR ?_;refine an ah (M:=[]) (n:=3) [pv (49:Nat) (V.own (5:Nat)),pv (4:Nat) (V.own (5:Nat)),pv (5:Nat) (V.i (0:Int))] kR kR tI ?_;refine aa ?_;refine ai ?_;refine hK _ ?_;clear hK K;refine ay ?_;refine fh [(0,5)] [(4,V.own (0:Nat)),(5,V.i (0:Int))] (.inr rfl) (.cons kR (.cons kR .nil)) (.cons ⟨Ob.row (3:Nat) (1:Nat) (List.length (b9 S f (Sh.n S))) (fB S f (Sh.n S)),kR,.row kR (fun _ _=>rfl)⟩ .nil) kR kR kR kR
def jd(S:Sh)(k:Nat):List Nat:=(List.range k).filter fun i=>decide ((S.pl i).kind=3)
def jo(S:Sh)(k j:Nat):List V:=[.i (((jd S k).getD j 0:Nat)+1:Int)]
theorem G6{S:Sh}{k:Nat}(h:(S.pl k).kind=3):jd S (k+1)=jd S k++[k]:=by unfold jd;rw [List.range_succ,List.filter_append];simp [h]
theorem Kx{S:Sh}{k:Nat}(h:(S.pl k).kind≠3):jd S (k+1)=jd S k:=by unfold jd;rw [List.range_succ,List.filter_append];simp [h]
theorem BU(S:Sh)(k:Nat):(jd S k).length<=k:=Nat.le_trans (List.length_filter_le _ _) (by rw [List.length_range];exact Nat.le_refl _)
theorem Jz{S:Sh}{k i:Nat}:i∈jd S k<->i< k/\(S.pl i).kind=3:=by unfold jd;rw [List.mem_filter,List.mem_range,decide_eq_true_eq]
theorem JA{S:Sh}{k j:Nat}(h:(S.pl k).kind=3)(hj:j< (jd S k).length):jo S (k+1) j=jo S k j:=by unfold jo;rw [G6 h,List.getD_eq_getElem?_getD,List.getD_eq_getElem?_getD,List.getElem?_append_left hj]
theorem Mh{S:Sh}{k:Nat}(h:(S.pl k).kind=3):[V.i ((k:Int)+1)]=jo S (k+1) (jd S k).length:=by unfold jo;rw [G6 h,List.getD_eq_getElem?_getD,List.getElem?_append_right (Nat.le_refl _),Nat.sub_self];rfl
theorem Mg{S:Sh}{k:Nat}(h:(S.pl k).kind≠3):jo S (k+1)=jo S k:=by funext j;unfold jo;rw [Kx h]
def pX(S:Sh)(X:Nat->Int)(i:Nat):Nat:=(jd S S.n).getD ((X i).tmod ((jd S S.n).length:Nat)).toNat 0
def BB(S:Sh)(q:Nat):Nat:=if(jd S S.n).length=0 then 0 else min q 16
def BC(X Y:Nat->Int)(i:Nat):List V:=[.c (.int .u8 (X i)),.c (.int .u8 (Y i))]
theorem zM(S:Sh)(q:Nat):BB S q<=16/\BB S q<=q:=by unfold BB;split <;> omega
theorem GC(S:Sh)(X:Nat->Int)(q:Nat)(hX:∀i,i< q->0<=X i/\X i<=255):jw S (BB S q) (pX S X):=fun i hi=>by
 have hq:=zM S q;have hL:0< (jd S S.n).length:=by
  rcases Nat.eq_zero_or_pos (jd S S.n).length with h |h;·unfold BB at hi;rw [if_pos h]at hi;omega
  ·exact h
 have h1:=Int.tmod_nonneg ((jd S S.n).length:Int) (hX i oM).1;have h2:=Int.tmod_lt_of_pos (X i) (show(0:Int)< ((jd S S.n).length:Int) by omega);have h3:((X i).tmod ((jd S S.n).length:Nat)).toNat< (jd S S.n).length:=by omega
 have:pX S X i∈jd S S.n:=by unfold pX;rw [List.getD_eq_getElem?_getD,List.getElem?_eq_getElem h3];exact List.getElem_mem h3
 exact Jz.1 this
theorem xQ(S:Sh)(hn:S.n<=200)(X Y:Nat->Int)(q:Nat)(hq:q<=4611686018427387904)(hX:∀i,i< q->0<=X i/\X i<=255)(hY:∀i,i< q->0<=Y i/\Y i<=255) : AC Tryz.prog 35 [iw S,.sl 2 q (BC X Y),.i 16] (.own 0) [.row 104 7 (BB S q) (hH (pX S X) (pX S Y))]:=by
 refine gU ah cv Tryz.func35 Tryz.ntmps35 fun C hC hF=> ?_;refine sX ah 2 1 [] tI (sX ah 3 1 [] tI (sK fun K hK=>sX ah 4 1 [] tI ?_));refine au ?_;refine iC (gP 7 2 1 (jo S 0) kR rfl) ?_;refine cr (ι:=Nat) (fun k=>[(0,iw S),(1,.sl 2 q (BC X Y)),(2,.i 16),(7,.own 5),(8,.i (k:Nat))]) (fun k=>[(5,.row 2 1 (jd S k).length (jo S k))]) (fun k=>k<=S.n) (fun k=>S.n- k) 0 (Nat.zero_le _) ?_ ?_;·refine aC (sl:=[(5,Ob.row (2:Nat) (1:Nat) (0:Nat) (jo S (0:Nat)))]) [(5,400007)] (.cons kR (.cons kR (.cons kR (.cons kR (.cons kR .nil))))) (.cons oS .nil) kR kR
 intro k hk1;have hl:=BU S k;refine sK fun K hK=>sX ah 2 4 [] tI ?_;refine av (t:=decide ((↑k:Int)< (↑(Sh.n S):Int))) kR (fun c1=> ?_) (fun c1=> ?_)
 ·have hkn:k< S.n:=by simpa using c1
  refine ak ?_;refine ai (hK _ ?_);clear hK K;refine sK fun K hK=> ?_;refine au ?_;refine sK fun K hK=>wR 3 ?_;refine an ah (M:=[]) (n:=6) [pv (17:Nat) (V.sl (7:Nat) (Sh.n S) fun(i:Nat)=>Pl.c (Sh.pl S i)),pv (18:Nat) (V.i (↑k:Int)),pc (19:Nat) ((0:Int)<=(↑k:Int)/\(↑k:Int)< (↑(Sh.n S):Int)) (V.ptr [V.i (↑(Pl.kind (Sh.pl S k)):Int),V.i (Pl.par (Sh.pl S k)),V.i (Pl.cut (Sh.pl S k)),V.i (Pl.area (Sh.pl S k)),V.i (Pl.aF (Sh.pl S k)),V.i (Pl.grown (Sh.pl S k)),V.b (Pl.ret (Sh.pl S k))]),pv (20:Nat) (V.ptr [V.i (↑(Pl.kind (Sh.pl S k)):Int),V.i (Pl.par (Sh.pl S k)),V.i (Pl.cut (Sh.pl S k)),V.i (Pl.area (Sh.pl S k)),V.i (Pl.aF (Sh.pl S k)),V.i (Pl.grown (Sh.pl S k)),V.b (Pl.ret (Sh.pl S k))]),pv (21:Nat) (V.i (↑(Pl.kind (Sh.pl S k)):Int)),pv (22:Nat) (V.b (decide ((↑(Pl.kind (Sh.pl S k)):Int)=3)))] kR kR ⟨oM,tI⟩ ?_;refine nK hK ?_;clear hK K;refine av (t:=decide ((↑(Pl.kind (Sh.pl S k)):Int)=3)) kR (fun c2=> ?_) (fun c2=> ?_)
  ·have h3:(S.pl k).kind=3:=by simp at c2;omega
   refine wR 4 ?_;refine an ah (M:=[]) (n:=6) [pv (23:Nat) (V.own (5:Nat)),pv (24:Nat) (V.i (↑k:Int)),pc (25:Nat) ((-9223372036854775808:Int)<=(↑k:Int)+1/\(↑k:Int)+1<=(9223372036854775807:Int)) (V.i ((↑k:Int)+1)),pv (26:Nat) (V.sl (1:Nat) (1:Nat) fun(i:Nat)=>List.take (1:Nat) (List.drop (i*1) [V.i ((↑k:Int)+1)])),PR.mk (some (27:Nat)) (some (List.length (jd S k)+1<=(1099511627776:Nat))) (V.own (300027:Nat)) [((5:Nat),none),((300027:Nat),some (Ob.row (2:Nat) (1:Nat) (List.length (jd S k)+1) (aE (List.length (jd S k)) (jo S k) fun(i:Nat)=>List.take (1:Nat) (List.drop (i*1) [V.i ((↑k:Int)+1)]))))] false,pv (7:Nat) (V.own (300027:Nat))] kR kR ⟨oM,oM,tI⟩ ?_;refine aa (bL (ai (hK _ ?_)));clear hK K;refine wR 5 ?_;refine an ah (M:=[]) (n:=3) [pv (15:Nat) (V.i (↑k:Int)),pc (16:Nat) ((-9223372036854775808:Int)<=(↑k:Int)+1/\(↑k:Int)+1<=(9223372036854775807:Int)) (V.i ((↑k:Int)+1)),pv (8:Nat) (V.i ((↑k:Int)+1))] kR kR ⟨oM,tI⟩ ?_;refine aa (ai ?_);refine⟨k+1,by omega,?_,by omega⟩;rw [show(jd S (k+1)).length=(jd S k).length+1 by rw [G6 h3,List.length_append];rfl];refine aC (tl:=[(0,V.sl (7:Nat) (Sh.n S) fun(i:Nat)=>Pl.c (Sh.pl S i)),(1,V.sl (2:Nat) q (BC X Y)),(2,V.i (16:Int)),(7,V.own (5:Nat)),(8,V.i (↑(k+1):Int))]) (sl:=[(5,Ob.row (2:Nat) (1:Nat) (List.length (jd S k)+1) (jo S (k+1)))]) [(5,300027)] (.cons kR (.cons kR (.cons kR (.cons kR (.cons kR .nil))))) (.cons ⟨Ob.row (2:Nat) (1:Nat) (List.length (jd S k)+1) (aE (List.length (jd S k)) (jo S k) fun(i:Nat)=>List.take (1:Nat) (List.drop (i*1) [V.i ((↑k:Int)+1)])),kR,.row kR ?_⟩ .nil) kR kR;·exact de (fun j hj=>(JA h3 hj).symm) (Mh h3)
  ·have h3:(S.pl k).kind≠3:=by simp at c2;omega
   refine ak ?_;refine bL (ai (hK _ ?_));clear hK K;refine wR 4 ?_;refine an ah (M:=[]) (n:=3) [pv (15:Nat) (V.i (↑k:Int)),pc (16:Nat) ((-9223372036854775808:Int)<=(↑k:Int)+1/\(↑k:Int)+1<=(9223372036854775807:Int)) (V.i ((↑k:Int)+1)),pv (8:Nat) (V.i ((↑k:Int)+1))] kR kR ⟨oM,tI⟩ ?_;refine aa (ai ?_);refine⟨k+1,by omega,?_,by omega⟩;rw [show(jd S (k+1)).length=(jd S k).length by rw [Kx h3]];refine aC (tl:=[(0,V.sl (7:Nat) (Sh.n S) fun(i:Nat)=>Pl.c (Sh.pl S i)),(1,V.sl (2:Nat) q (BC X Y)),(2,V.i (16:Int)),(7,V.own (5:Nat)),(8,V.i (↑(k+1):Int))]) (sl:=[(5,Ob.row (2:Nat) (1:Nat) (List.length (jd S k)) (jo S (k+1)))]) [(5,5)] (.cons kR (.cons kR (.cons kR (.cons kR (.cons kR .nil))))) (.cons ⟨Ob.row (2:Nat) (1:Nat) (List.length (jd S k)) (jo S k),kR,.row kR ?_⟩ .nil) kR kR;·intro i _;rw [Mg h3];rfl
 obtain rfl:k=S.n:=by simp at c1;omega
 clear c1;refine bg ?_;refine bO ?_;refine bO ?_;refine bC ?_;refine ai ?_;clear hK K;refine hK _ ?_;clear hK K;refine sK fun K hK=>wR 3 ?_;refine aY ah 1 [] ?_;refine nK hK ?_;clear hK K;refine sK fun K hK=>sK fun K hK=>wR 4 ?_;refine aY ah 1 [] ?_;refine nK hK ?_;clear hK K;refine au ?_;refine iC (vj 7 5 (e:=(2:Nat)) (sz:=(1:Nat)) (n:=List.length (jd S (Sh.n S))) (n':=(jd S S.n).length) (row:=jo S (Sh.n S)) (row':=(jo S S.n)) kR kR (fun _ _=>rfl) ?_ ?_) ?_;·rfl
 ·exact fun _ _=>rfl
 refine iC (gP 9 104 7 (hH (pX S X) (pX S Y)) kR rfl) ?_;obtain⟨L,hL⟩:∃L:Nat,L=(jd S S.n).length:=⟨_,rfl⟩;have hpm:=zM S q;have hpe:BB S q=if L=0 then 0 else min q 16:=by rw [hL];rfl
 have hLb:=BU S S.n;rw [<-hL]at hLb ⊢;refine cr (ι:=Nat) (fun k=>[(1,.sl 2 q (BC X Y)),(2,.i 16),(7,.sl 1 L (jo S S.n)),(9,.own 5),(10,.i (k:Nat))]) (fun k=>[(5,.row 104 7 k (hH (pX S X) (pX S Y)))]) (fun k=>k<=BB S q) (fun k=>BB S q- k) 0 (Nat.zero_le _) ?_ ?_;·refine aC (sl:=[(5,Ob.row (104:Nat) (7:Nat) (0:Nat) (hH (pX S X) (pX S Y)))]) [(5,400009)] (.cons kR (.cons kR (.cons kR (.cons kR (.cons kR .nil))))) (.cons oS .nil) kR kR
 intro k hk1;refine sK fun K hK=>sK fun K hK=>wR 2 ?_;refine aY ah 14 [] ?_;refine nK hK ?_;clear hK K;refine av (t:=decide ((↑k:Int)< (↑q:Int)) && decide ((↑k:Int)< 16) && decide ((0:Int)< (↑L:Int))) kR (fun c1=> ?_) (fun c1=> ?_)
 ·have c1':(k< q/\k< 16)/\0< L:=by simp at c1;omega
  have hkm:k< BB S q:=by rw [hpe,if_neg oM];omega
  obtain⟨x1,x2⟩:=hX k c1'.1.1;obtain⟨y1,y2⟩:=hY k c1'.1.1;have xl1:=Int.tmod_nonneg (L:Int) x1;have xl2:=Int.tmod_lt_of_pos (X k) (show(0:Int)< (L:Int) by omega);have yl1:=Int.tmod_nonneg (L:Int) y1;have yl2:=Int.tmod_lt_of_pos (Y k) (show(0:Int)< (L:Int) by omega);refine ak ?_;refine ai (hK _ ?_);clear hK K;refine sK fun K hK=> ?_;refine au ?_;refine wD 3 (aX ah 31 [(2,.i ((↑k:Int)+1)),(6,.c ((0:Int)<=(↑k:Int)/\(↑k:Int)< (↑q:Int))),(7,.c ((0:Int)<=(0:Int)/\(0:Int)< (↑(2:Nat):Int))),(9,.i (X k)),(12,.c ((↑L:Int)≠0)),(13,.c ((0:Int)<=Int.tmod (X k) (↑L:Int)/\Int.tmod (X k) (↑L:Int)< (↑L:Int))),(18,.c ((0:Int)<=(↑k:Int)/\(↑k:Int)< (↑q:Int))),(19,.c ((0:Int)<=(1:Int)/\(1:Int)< (↑(2:Nat):Int))),(21,.i (Y k)),(24,.c ((↑L:Int)≠0)),(25,.c ((0:Int)<=Int.tmod (Y k) (↑L:Int)/\Int.tmod (Y k) (↑L:Int)< (↑L:Int))),(29,.r (PR.mk (some (73:Nat)) (some (k+1<=(1099511627776:Nat))) (V.own (200073:Nat)) [((5:Nat),none),((200073:Nat),some (Ob.row (104:Nat) (7:Nat) (k+1) (aE k (hH (pX S X) (pX S Y)) fun(i:Nat)=>List.take (7:Nat) (List.drop (i*7) [V.i ((↑k:Int)+1),V.i ((↑(List.getD (jd S (Sh.n S)) (Int.toNat (Int.tmod (X k) (↑L:Int))) (0:Nat)):Int)+1),V.i ((↑(List.getD (jd S (Sh.n S)) (Int.toNat (Int.tmod (Y k) (↑L:Int))) (0:Nat)):Int)+1),V.i (0:Int),V.i (0:Int),V.i (0:Int),V.b false]))))] false))] ⟨oM,oM,oM,oM,oM,oM,oM,oM,oM,oM,oM,oM,tI⟩ (aa ⟨kR,(bL (ai (hK _ ?_)))⟩));clear hK K;refine wR 4 ?_;refine aY ah 3 [(1,.c (iR ((↑k:Int)+1)) oM)] ?_;refine aa (ai ?_);refine⟨k+1,by omega,?_,by omega⟩;refine aC (tl:=[(1,V.sl (2:Nat) q (BC X Y)),(2,V.i (16:Int)),(7,V.sl (1:Nat) L (jo S (Sh.n S))),(9,V.own (5:Nat)),(10,V.i (↑(k+1):Int))]) (sl:=[(5,Ob.row (104:Nat) (7:Nat) (k+1) (hH (pX S X) (pX S Y)))]) [(5,200073)] (.cons kR (.cons kR (.cons kR (.cons kR (.cons kR .nil))))) (.cons ⟨Ob.row (104:Nat) (7:Nat) (k+1) (aE k (hH (pX S X) (pX S Y)) fun(i:Nat)=>List.take (7:Nat) (List.drop (i*7) [V.i ((↑k:Int)+1),V.i ((↑(List.getD (jd S (Sh.n S)) (Int.toNat (Int.tmod (X k) (↑L:Int))) (0:Nat)):Int)+1),V.i ((↑(List.getD (jd S (Sh.n S)) (Int.toNat (Int.tmod (Y k) (↑L:Int))) (0:Nat)):Int)+1),V.i (0:Int),V.i (0:Int),V.i (0:Int),V.b false])),kR,.row kR ?_⟩ .nil) kR kR;·exact de (fun _ _=>rfl) (by rw [hL];rfl)
 ·have hkm:k=BB S q:=by
   have:¬((k< q/\k< 16)/\0< L):=by simp at c1;omega
   rw [hpe]at hk1 ⊢;split at hk1;·rename_i h;rw [if_pos h];omega
   ·rename_i h;rw [if_neg h];omega
  refine bg ?_;refine bO ?_;refine bO ?_;refine bC ?_;refine ai ?_;clear hK K;refine hK _ ?_;clear hK K;refine sK fun K hK=>wR 3 ?_;refine aY ah 2 [] ?_;refine nK hK ?_;clear hK K;refine ay ?_;refine fh [(0,5)] [(6,V.own (0:Nat))] (.inr rfl) (.cons kR .nil) (.cons ⟨Ob.row (104:Nat) (7:Nat) k (hH (pX S X) (pX S Y)),kR,.row ?_ (fun _ _=>rfl)⟩ .nil) kR kR kR kR;exact hkm
theorem zO(S:Sh)(hn:S.n<=200)(X Y:Nat->Int)(q:Nat)(hq:q<=4611686018427387904)(hX:∀i,i< q->0<=X i/\X i<=255)(hY:∀i,i< q->0<=Y i/\Y i<=255) :
 AC Tryz.prog 35 [iw S,.sl 2 q (BC X Y),.i 16] (ke (pX S X) (pX S Y) (BB S q)) []:=
 AC.jZ (e:=104) (sz:=7) (n:=BB S q) (row:=hH (pX S X) (pX S Y)) (v:= .own 0) (xQ S hn X Y q hq hX hY) rfl (fun _ _=>rfl) (fun _=>rfl) rfl rfl
theorem Jj(i a b:Nat)(sd:Bool)(hb:i<=16/\a<=256/\b<=256):AC Tryz.prog 38 [.agg [.i ((i:Nat)+1:Int),.i ((a:Nat)+1:Int),.i ((b:Nat)+1:Int),.i 0,.i 0,.i 0,.b false],.i (i9 sd)] (.i ((if sd then b else a:Nat):Int)) []:=by
 refine gU ah cv Tryz.func38 Tryz.ntmps38 fun C hC hF=> ?_;refine sK fun K hK=>wR 2 ?_;refine aY ah 2 [] ?_;refine nK hK ?_;clear hK K;refine sK fun K hK=>sK fun K hK=>wR 3 ?_;refine aY ah 2 [] ?_;refine nK hK ?_;clear hK K;refine av (t:=decide (i9 sd=0)) kR (fun c1=> ?_) (fun c1=> ?_)
 ·have hs:sd=false:=by cases sd with |false=>rfl |true=>simp [i9]at c1
  have e:((a:Nat):Int)+1- 1=((if sd then b else a:Nat):Int):=by rw [hs];simp
  refine sK fun K hK=>wR 4 ?_;refine aY ah 4 [(2,.c (iR ((↑a:Int)+1- (1:Int))) oM)] ?_;refine nK hK ?_;clear hK K;refine ay ?_;refine bZ ?_;rw [<-e];refine rP (V.i ((↑a:Int)+1- (1:Int)))
 ·have hs:sd=true:=by cases sd with |true=>rfl |false=>simp [i9]at c1
  have e:((b:Nat):Int)+1- 1=((if sd then b else a:Nat):Int):=by rw [hs];simp
  refine ak ?_;refine ai (hK _ ?_);clear hK K;refine sK fun K hK=>wR 4 ?_;refine aY ah 4 [(2,.c (iR ((↑b:Int)+1- (1:Int))) oM)] ?_;refine nK hK ?_;clear hK K;refine ay ?_;rw [<-e];refine rP (V.i ((↑b:Int)+1- (1:Int)))
theorem zF(a b:List Int)(ha:a.length<=1000)(hb:b.length<=1000):AC Tryz.prog 40 [V.ints a,V.ints b] (.b (decide (a=b))) []:=by
 refine gU ah cv Tryz.func40 Tryz.ntmps40 fun C hC hF=> ?_;refine sK fun K hK=>wR 2 ?_;refine aY ah 1 [] ?_;refine nK hK ?_;clear hK K;refine sK fun K hK=>sK fun K hK=>wR 3 ?_;refine aY ah 5 [] ?_;refine nK hK ?_;clear hK K;refine av (t:= !decide ((↑(List.length a):Int)=(↑(List.length b):Int))) kR (fun c0=> ?_) (fun c0=> ?_)
 ·have:a≠b:=fun h=>by subst h;simp at c0
  refine sK fun K hK=>wR 4 ?_;refine aY ah 1 [] ?_;refine nK hK ?_;clear hK K;refine ay ?_;refine bZ ?_;rw [decide_eq_false this];refine rP (V.b false)
 have hl:a.length=b.length:=by simp at c0;omega
 refine ak ?_;refine ai (hK _ ?_);clear hK K;refine sK fun K hK=>sK fun K hK=>wR 4 ?_;refine aY ah 1 [] ?_;refine nK hK ?_;clear hK K;refine au ?_;refine cr (ι:=Nat) (fun k=>[(0,V.ints a),(1,V.ints b),(5,.i (k:Nat))]) (fun _=>[]) (fun k=>k<=a.length/\∀j,j< k->gi a j=gi b j) (fun k=>a.length- k) 0 ⟨Nat.zero_le _,fun j hj=>absurd hj (Nat.not_lt_zero _)⟩ ?_ ?_;·refine aC [] (.cons kR (.cons kR (.cons kR .nil))) .nil kR kR
 rintro k ⟨hk1,hk2⟩;refine sK fun K hK=>sK fun K hK=>wR 2 ?_;refine aY ah 4 [] ?_;refine nK hK ?_;clear hK K;refine av (t:=decide ((↑k:Int)< (↑(List.length a):Int))) kR (fun c1=> ?_) (fun c1=> ?_)
 ·have hka:k< a.length:=by simpa using c1
  have hkb:k< b.length:=by omega
  refine ak ?_;refine ai (hK _ ?_);clear hK K;refine sK fun K hK=> ?_;refine au ?_;refine sK fun K hK=>wD 3 ?_;refine aY ah 9 [(2,.c ((0:Int)<=(↑k:Int)/\(↑k:Int)< (↑(List.length a):Int)) oM),(3,.c ((0:Int)<=(↑k:Int)/\(↑k:Int)< (↑(List.length b):Int)) oM)] ?_;refine aa ⟨kR,(ai (hK _ ?_))⟩;clear hK K;refine av (t:= !decide (gi a k=gi b k)) kR (fun c2=> ?_) (fun c2=> ?_)
  ·have hne:a≠b:=fun h=>by subst h;simp at c2
   refine sK fun K hK=>wR 4 ?_;refine aY ah 1 [] ?_;refine nK hK ?_;clear hK K;refine ay ?_;refine fA ?_;refine bZ (bZ ?_);refine fA ?_;refine bZ ?_;rw [decide_eq_false hne];refine rP (V.b false)
  ·have he:gi a k=gi b k:=by simpa using c2
   refine ak ?_;refine bL (ai (hK _ ?_));clear hK K;refine wR 4 ?_;refine aY ah 3 [(1,.c (iR ((↑k:Int)+1)) oM)] ?_;refine aa (ai ?_);refine⟨k+1,⟨by omega,fun j hj=> ?_⟩,?_,by omega⟩
   ·rcases Nat.lt_or_ge j k with h |h;·exact hk2 j h
    ·obtain rfl:j=k:=by omega
     exact he
   ·refine aC [] (.cons kR (.cons kR (.cons kR .nil))) .nil kR kR
 ·have hka:k=a.length:=by simp at c1;omega
  have heq:a=b:=List.ext_getElem hl fun j h1 h2=>by have:=hk2 j oM;unfold gi at this;rw [List.getD_eq_getElem?_getD,List.getD_eq_getElem?_getD,List.getElem?_eq_getElem h1,List.getElem?_eq_getElem h2]at this;simpa using this
  refine bg ?_;refine bO ?_;refine bO ?_;refine bC ?_;refine ai ?_;clear hK K;refine hK _ ?_;clear hK K;refine sK fun K hK=>wR 3 ?_;refine aY ah 1 [] ?_;refine nK hK ?_;clear hK K;refine ay ?_;rw [decide_eq_true heq];refine rP (V.b true)
theorem o4(a:List Int)(x:Int)(ha:a.length<=1000):AC Tryz.prog 41 [V.ints a,.i x] (.b (decide (x∈a))) []:=by
 refine gU ah cv Tryz.func41 Tryz.ntmps41 fun C hC hF=> ?_;refine sK fun K hK=>wR 2 ?_;refine aY ah 1 [] ?_;refine nK hK ?_;clear hK K;refine sK fun K hK=>sK fun K hK=>wR 3 ?_;refine aY ah 1 [] ?_;refine nK hK ?_;clear hK K;refine au ?_;refine cr (ι:=Nat) (fun k=>[(0,V.ints a),(1,.i x),(5,.i (k:Nat))]) (fun _=>[]) (fun k=>k<=a.length/\∀j,j< k->gi a j≠x) (fun k=>a.length- k) 0 ⟨Nat.zero_le _,fun j hj=>absurd hj (Nat.not_lt_zero _)⟩ ?_ ?_;·refine aC [] (.cons kR (.cons kR (.cons kR .nil))) .nil kR kR
 rintro k ⟨hk1,hk2⟩;refine sK fun K hK=>sK fun K hK=>wR 2 ?_;refine aY ah 4 [] ?_;refine nK hK ?_;clear hK K;refine av (t:=decide ((↑k:Int)< (↑(List.length a):Int))) kR (fun c1=> ?_) (fun c1=> ?_)
 ·have hka:k< a.length:=by simpa using c1
  have hm:gi a k∈a:=by unfold gi;rw [List.getD_eq_getElem?_getD,List.getElem?_eq_getElem hka];exact List.getElem_mem hka
  refine ak ?_;refine ai (hK _ ?_);clear hK K;refine sK fun K hK=> ?_;refine au ?_;refine sK fun K hK=>wR 3 ?_;refine aY ah 6 [(2,.c ((0:Int)<=(↑k:Int)/\(↑k:Int)< (↑(List.length a):Int)) oM)] ?_;refine nK hK ?_;clear hK K;refine av (t:=decide (gi a k=x)) kR (fun c2=> ?_) (fun c2=> ?_)
  ·have he:gi a k=x:=by simpa using c2
   refine sK fun K hK=>wR 4 ?_;refine aY ah 1 [] ?_;refine nK hK ?_;clear hK K;refine ay ?_;refine fA ?_;refine bZ (bZ ?_);refine fA ?_;refine bZ ?_;rw [decide_eq_true (he ▸ hm:x∈a)];refine rP (V.b true)
  ·have he:gi a k≠x:=by simpa using c2
   refine ak ?_;refine bL (ai (hK _ ?_));clear hK K;refine wR 4 ?_;refine aY ah 3 [(1,.c (iR ((↑k:Int)+1)) oM)] ?_;refine aa (ai ?_);refine⟨k+1,⟨by omega,fun j hj=> ?_⟩,?_,by omega⟩
   ·rcases Nat.lt_or_ge j k with h |h;·exact hk2 j h
    ·obtain rfl:j=k:=by omega
     exact he
   ·refine aC [] (.cons kR (.cons kR (.cons kR .nil))) .nil kR kR
 ·have hka:k=a.length:=by simp at c1;omega
  have hn:¬x∈a:=fun h=>by obtain⟨j,hj,e⟩:=List.getElem_of_mem h;refine hk2 j oM ?_;unfold gi;rw [List.getD_eq_getElem?_getD,List.getElem?_eq_getElem hj];exact e
  refine bg ?_;refine bO ?_;refine bO ?_;refine bC ?_;refine ai ?_;clear hK K;refine hK _ ?_;clear hK K;refine sK fun K hK=>wR 3 ?_;refine aY ah 1 [] ?_;refine nK hK ?_;clear hK K;refine ay ?_;rw [decide_eq_false hn];refine rP (V.b false)
def rH(l:List Nat):V:= .sl 1 l.length fun j=>[.i ((l.getD j 0:Nat):Int)]
def vM(BL:List Nat)(T:Nat->Nat)(i:Nat):Bool:=decide (T i∈BL)
def dK(BL:List Nat)(T:Nat->Nat)(i k:Nat):List Int:=f7 (vM BL T) i++if T i∈BL.take k then [(i:Int)+1]else []
def gu(BL:List Nat)(T:Nat->Nat)(i k j:Nat):List V:=[.i (gi (dK BL T i k) j)]
theorem yV(BL:List Nat)(T:Nat->Nat)(i:Nat):dK BL T i 0=f7 (vM BL T) i:=by unfold dK;simp
theorem wB(BL:List Nat)(T:Nat->Nat)(i:Nat):dK BL T i BL.length=f7 (vM BL T) (i+1):=by
 unfold dK;rw [List.take_length];by_cases h:T i∈BL;·rw [if_pos h,lZ (decide_eq_true h)]
 ·rw [if_neg h,List.append_nil,nu (decide_eq_false h)]
theorem Aa{BL:List Nat}{k:Nat}(hk:k< BL.length):BL.take (k+1)=BL.take k++[BL.getD k 0]:=by rw [List.take_add_one,List.getElem?_eq_getElem hk,List.getD_eq_getElem?_getD,List.getElem?_eq_getElem hk];rfl
theorem EJ{BL:List Nat}(hnd:BL.Nodup){T:Nat->Nat}{i k:Nat}(hk:k< BL.length)(h:T i=BL.getD k 0):dK BL T i (k+1)=dK BL T i k++[(i:Int)+1]:=by
 have hn:T i∉BL.take k:=fun hm=>by
  have h1:BL=BL.take k++BL.drop k:=(List.take_append_drop k BL).symm;rw [h1]at hnd;have h2:BL.getD k 0∈BL.drop k:=by rw [List.getD_eq_getElem?_getD,List.getElem?_eq_getElem hk,List.drop_eq_getElem_cons hk];exact List.mem_cons_self ..
  exact(List.nodup_append.1 hnd).2.2 _ hm _ h2 h
 unfold dK;rw [Aa hk,if_pos (by rw [h];simp),if_neg hn];simp
theorem EH{BL:List Nat}{T:Nat->Nat}{i k:Nat}(hk:k< BL.length)(h:T i≠BL.getD k 0):dK BL T i (k+1)=dK BL T i k:=by
 unfold dK;rw [Aa hk];have:T i∈BL.take k++[BL.getD k 0]<->T i∈BL.take k:=by rw [List.mem_append];simp;intro e;exact absurd e (by rw [<-List.getD_eq_getElem?_getD];exact h)
 by_cases hm:T i∈BL.take k;·rw [if_pos (this.2 hm),if_pos hm]
 ·rw [if_neg (fun h=>hm (this.1 h)),if_neg hm]
theorem EI(BL:List Nat)(T:Nat->Nat)(i k:Nat):(dK BL T i k).length<=i+1:=by unfold dK;have:=qm (vM BL T) i;rw [List.length_append];split <;> simp <;> omega
theorem K5{BL:List Nat}(hnd:BL.Nodup){T:Nat->Nat}{i k:Nat}(hk:k< BL.length)(h:T i=BL.getD k 0):(∀j,j< (dK BL T i k).length->gu BL T i k j=gu BL T i (k+1) j)/\[V.i ((i:Int)+1)]=gu BL T i (k+1) (dK BL T i k).length:=by
 unfold gu gi;rw [EJ hnd hk h];refine⟨fun j hj=> ?_,?_⟩;·rw [List.getD_eq_getElem?_getD,List.getD_eq_getElem?_getD,List.getElem?_append_left hj]
 ·rw [List.getD_eq_getElem?_getD,List.getElem?_append_right (Nat.le_refl _),Nat.sub_self];rfl
theorem K4{BL:List Nat}{T:Nat->Nat}{i k:Nat}(hk:k< BL.length)(h:T i≠BL.getD k 0):gu BL T i (k+1)=gu BL T i k:=by funext j;unfold gu;rw [EH hk h]
theorem K3(BL:List Nat)(T:Nat->Nat)(i:Nat):gu BL T (i+1) 0=gu BL T i BL.length:=by funext j;unfold gu;rw [yV,wB]
abbrev MB(BL:List Nat):V:=V.sl 1 (List.length BL) fun(j:Nat)=>[V.i (↑(List.getD BL j (0:Nat)):Int)]
abbrev An(BL:List Nat):=(2,(MB BL))
theorem Ig(A B:Nat->Nat)(m:Nat)(hm:m<=16)(sd:Bool)(hA:∀i,i< m->A i<=256/\B i<=256)(BL:List Nat)(hB:BL.length<=256)(hnd:BL.Nodup) : AC Tryz.prog 37 [ke A B m,.i (i9 sd),rH BL] (.own 0) [.row 2 1 (dK BL (gj sd A B) m 0).length (gu BL (gj sd A B) m 0)]:=by
 refine gU ah cv Tryz.func37 Tryz.ntmps37 fun C hC hF=> ?_;obtain⟨T,hT⟩:∃T,T=gj sd A B:=⟨_,rfl⟩;rw [<-hT];refine sK fun K hK=>wR 2 ?_;refine aY ah 1 [] ?_;refine nK hK ?_;clear hK K;refine sK fun K hK=>wR 3 ?_;refine aY ah 1 [] ?_;refine nK hK ?_;clear hK K;refine sK fun K hK=>sK fun K hK=>wR 4 ?_;refine aY ah 1 [] ?_;refine nK hK ?_;clear hK K;refine au ?_;refine iC (gP 7 2 1 (gu BL T 0 0) kR rfl) ?_;refine cr (ι:=Nat) (fun i=>[(0,ke A B m),(1,.i (i9 sd)),(2,rH BL),(7,.own 5),(8,.i (i:Nat))]) (fun i=>[(5,.row 2 1 (dK BL T i 0).length (gu BL T i 0))]) (fun i=>i<=m) (fun i=>m- i) 0 (Nat.zero_le _) ?_ ?_;·refine aC (sl:=[(5,Ob.row 2 1 0 (gu BL T (0:Nat) (0:Nat)))]) [(5,400007)] (.cons kR (.cons kR (.cons kR (.cons kR (.cons kR .nil))))) (.cons oS .nil) kR kR
 intro i hi1;refine sK fun K hK=>sK fun K hK=>wR 2 ?_;refine aY ah 4 [] ?_;refine nK hK ?_;clear hK K;refine av (t:=decide ((↑i:Int)< (↑m:Int))) kR (fun c1=> ?_) (fun c1=> ?_)
 ·have him:i< m:=by simpa using c1
  refine ak ?_;refine ai (hK _ ?_);clear hK K;refine sK fun K hK=> ?_;refine au ?_;refine sK fun K hK=>wR 3 ?_;refine aY ah 1 [] ?_;refine nK hK ?_;clear hK K;refine au ?_;refine cr (ι:=Nat) (fun k=>[(0,ke A B m),(1,.i (i9 sd)),(2,rH BL),(7,.own 5),(8,.i (i:Nat)),(9,.i (k:Nat))]) (fun k=>[(5,.row 2 1 (dK BL T i k).length (gu BL T i k))]) (fun k=>k<=BL.length) (fun k=>BL.length- k) 0 (Nat.zero_le _) ?_ ?_;·refine aC (sl:=[(5,Ob.row 2 1 (List.length (dK BL T i (0:Nat))) (gu BL T i (0:Nat)))]) [(5,5)] (.cons kR (.cons kR (.cons kR (.cons kR (.cons kR (.cons kR .nil)))))) (.cons oS .nil) kR kR
  intro k hk1;have hbl:=EI BL T i k;refine sK fun K hK=>sK fun K hK=>wR 2 ?_;refine aY ah 4 [] ?_;refine nK hK ?_;clear hK K;refine av (t:=decide ((↑k:Int)< (↑(List.length BL):Int))) kR (fun c2=> ?_) (fun c2=> ?_)
  ·have hkn:k< BL.length:=by simpa using c2
   refine ak ?_;refine ai (hK _ ?_);clear hK K;refine sK fun K hK=> ?_;refine au ?_;refine sK fun K hK=>wD 3 ?_;refine aY ah 5 [(2,.c ((0:Int)<=(↑i:Int)/\(↑i:Int)< (↑m:Int)) oM)] ?_;refine eC (Jj i (A i) (B i) sd ⟨by omega,hA i him⟩) ?_;rw [show(if sd then B i else A i)=T i by rw [hT];rfl];refine aY ah 5 [(2,.c ((0:Int)<=(↑k:Int)/\(↑k:Int)< (↑(List.length BL):Int)) oM)] ?_;refine aa ⟨kR,(ai (hK _ ?_))⟩;clear hK K;refine av (t:=decide ((↑(T i):Int)=(↑(List.getD BL k (0:Nat)):Int))) kR (fun c3=> ?_) (fun c3=> ?_)
   ·have he:T i=BL.getD k 0:=by have h:=of_decide_eq_true c3;omega
    have ht:=K5 hnd hkn he;refine wR 4 (aX ah 9 [(3,.c ((0:Int)<=(↑i:Int)/\(↑i:Int)< (↑m:Int))),(7,.r (PR.mk (some (40:Nat)) (some (List.length (dK BL T i k)+1<=(1099511627776:Nat))) (V.own 300040) [((5:Nat),none),((300040:Nat),some (Ob.row 2 1 (List.length (dK BL T i k)+1) (aE (List.length (dK BL T i k)) (gu BL T i k) fun(i_1:Nat)=>List.take (1:Nat) (List.drop (i_1*1) [V.i ((↑i:Int)+1)]))))] false))] ⟨oM,oM,tI⟩ (aa (bL (ai (hK _ ?_)))));clear hK K;refine wR 5 ?_;refine aY ah 3 [(1,.c (iR ((↑k:Int)+1)) oM)] ?_;refine aa (ai ?_);refine⟨k+1,by omega,?_,by omega⟩;rw [show(dK BL T i (k+1)).length=(dK BL T i k).length+1 by rw [EJ hnd hkn he,List.length_append];rfl];refine aC (tl:=[(0,V.sl 7 m (hH A B)),(1,V.i (i9 sd)),(An BL),(7,V.own 5),(8,V.i (↑i:Int)),(9,V.i (↑(k+1):Int))]) (sl:=[(5,Ob.row 2 1 (List.length (dK BL T i k)+1) (gu BL T i (k+1)))]) [(5,300040)] (.cons kR (.cons kR (.cons kR (.cons kR (.cons kR (.cons kR .nil)))))) (.cons ⟨Ob.row 2 1 (List.length (dK BL T i k)+1) (aE (List.length (dK BL T i k)) (gu BL T i k) fun(i_1:Nat)=>List.take (1:Nat) (List.drop (i_1*1) [V.i ((↑i:Int)+1)])),kR,.row kR ?_⟩ .nil) kR kR;·exact de (fun j hj=>ht.1 j hj) ht.2
   ·have he:T i≠BL.getD k 0:=by have h:=of_decide_eq_false c3;omega
    refine ak ?_;refine bL (ai (hK _ ?_));clear hK K;refine wR 4 ?_;refine aY ah 3 [(1,.c (iR ((↑k:Int)+1)) oM)] ?_;refine aa (ai ?_);refine⟨k+1,by omega,?_,by omega⟩;rw [show(dK BL T i (k+1)).length=(dK BL T i k).length by rw [EH hkn he]];refine aC (tl:=[(0,V.sl 7 m (hH A B)),(1,V.i (i9 sd)),(An BL),(7,V.own 5),(8,V.i (↑i:Int)),(9,V.i (↑(k+1):Int))]) (sl:=[(5,Ob.row 2 1 (List.length (dK BL T i k)) (gu BL T i (k+1)))]) [(5,5)] (.cons kR (.cons kR (.cons kR (.cons kR (.cons kR (.cons kR .nil)))))) (.cons ⟨Ob.row 2 1 (List.length (dK BL T i k)) (gu BL T i k),kR,.row kR ?_⟩ .nil) kR kR;·intro j _;rw [K4 hkn he];rfl
  ·have hke:k=BL.length:=by simp at c2;omega
   subst hke;refine bg ?_;refine bO ?_;refine bO ?_;refine bC ?_;refine bL (ai ?_);clear hK K;refine hK _ ?_;clear hK K;refine wR 3 ?_;refine aY ah 3 [(1,.c (iR ((↑i:Int)+1)) oM)] ?_;refine aa (ai ?_);refine⟨i+1,by omega,?_,by omega⟩;rw [show(dK BL T (i+1) 0).length=(dK BL T i BL.length).length by rw [yV,wB]];refine aC (tl:=[(0,V.sl 7 m (hH A B)),(1,V.i (i9 sd)),(An BL),(7,V.own 5),(8,V.i (↑(i+1):Int))]) (sl:=[(5,Ob.row 2 1 (List.length (dK BL T i (List.length BL))) (gu BL T (i+1) (0:Nat)))]) [(5,5)] (.cons kR (.cons kR (.cons kR (.cons kR (.cons kR .nil))))) (.cons ⟨Ob.row 2 1 (List.length (dK BL T i (List.length BL))) (gu BL T i (List.length BL)),kR,.row kR ?_⟩ .nil) kR kR;·intro j _;rw [K3];rfl
 ·obtain rfl:i=m:=by simp at c1;omega
  refine bg ?_;refine bO ?_;refine bO ?_;refine bC ?_;refine ai ?_;clear hK K;refine hK _ ?_;clear hK K;refine sK fun K hK=>wR 3 ?_;refine aY ah 2 [] ?_;refine nK hK ?_;clear hK K;refine ay ?_;refine fh [(0,5)] [(6,V.own 0)] (.inr rfl) (.cons kR .nil) (.cons oS .nil) kR kR kR kR
theorem AU(A B:Nat->Nat)(m:Nat)(hm:m<=16)(sd:Bool)(hA:∀i,i< m->A i<=256/\B i<=256)(BL:List Nat)(hB:BL.length<=256)(hnd:BL.Nodup) : AC Tryz.prog 37 [ke A B m,.i (i9 sd),rH BL] (V.ints (f7 (vM BL (gj sd A B)) m)) []:=by
 have h:=Ig A B m hm sd hA BL hB hnd;have e:dK BL (gj sd A B) m 0=f7 (vM BL (gj sd A B)) m:=yV _ _ _;have e2:gu BL (gj sd A B) m 0=fun j=>[V.i (gi (f7 (vM BL (gj sd A B)) m) j)]:=by funext j;unfold gu;rw [e]
 rw [e,e2]at h;exact AC.jZ (e:=2) (sz:=1) (v:= .own 0) h rfl (fun _ _=>rfl) (fun _=>rfl) rfl rfl
theorem oR(S:Sh)(hn:S.n<=200)(f:Int)(hf:0<=f/\f< S.q)(hq:S.q<=1000):AC Tryz.prog 29 [DW S,.i f] (.tup [rH (b9 S f S.n),.i 0]) []:= AC.jZ (e:=3) (sz:=1) (n:=(b9 S f S.n).length) (row:=fB S f S.n) (v:= .tup [.own 0,.i 0]) (yy S hn f hf hq) rfl (fun _ _=>rfl) (fun _=>rfl) rfl rfl
theorem AY(S:Sh)(f:Int)(k:Nat):(b9 S f k).Nodup:=List.Nodup.sublist (List.filter_sublist ..) List.nodup_range
theorem t7{g g':Nat->Bool}{m:Nat}(h:∀i,i< m->g i=g' i):f7 g m=f7 g' m:=by
 induction m with
 |zero=>rfl
 |succ m ih=>
  have:=ih fun i hi=>h i oM;cases hg:g m with
  |true=>rw [lZ hg,lZ (by rw [<-h m oM];exact hg),this]
  |false=>rw [nu hg,nu (by rw [<-h m oM];exact hg),this]
theorem IM{cs:List j7}{m:Nat}{p fr:Int}{g:Nat->Bool}(h1:∃c∈cs,sR p fr c=true)(h2:∀c∈cs,sR p fr c=true->∀i,i< m->c.2.2 i=g i):ry cs m p fr=(f7 g m,0):=by
 obtain⟨c,hc,hm⟩:=h1;cases hf:cs.find? (fun c=>decide (c.1=p) && decide (c.2.1=fr))with
 |none=>exact absurd hm (List.find?_eq_none.1 hf c hc)
 |some d=>unfold ry;rw [hf];simp only;rw [t7 (h2 d (List.mem_of_find?_eq_some hf) (List.find?_some hf))]
theorem qG{S:Sh}{T:Nat->Nat}{m:Nat}{c:j7}:c∈gk S T m<->(∃i,i< S.n/\c∈nD S T m i)\/∃k,k< m/\c=Ej k:=by
 unfold gk;rw [List.mem_append,List.mem_flatMap,List.mem_map];constructor
 ·rintro(⟨i,hi,h⟩ | ⟨k,hk,h⟩);·exact .inl ⟨i,List.mem_range.1 hi,h⟩
  ·exact .inr ⟨k,List.mem_range.1 hk,h.symm⟩
 ·rintro(⟨i,hi,h⟩ | ⟨k,hk,h⟩);·exact .inl ⟨i,List.mem_range.2 hi,h⟩
  ·exact .inr ⟨k,List.mem_range.2 hk,h.symm⟩
theorem lH{S:Sh}{T:Nat->Nat}{m i:Nat}{c:j7}(h:c∈nD S T m i):c.1=i/\(((S.pl i).kind=3/\∃k,k< m/\gT S i 0 (T k)=true/\c=((i:Int),(k:Int)+1,Jm S T i k))\/((S.pl i).kind≠3/\∃k,k< S.n/\i< k/\(S.pl k).par=i/\c=((i:Int),(k:Int),fun j=>gT S i k (T j)))):=by
 unfold nD at h;by_cases c3:(S.pl i).kind=3
 ·rw [if_pos c3,List.mem_filterMap]at h;obtain⟨k,hk,h⟩:=h;unfold LY at h;split at h;·rename_i hu;injection h with h;subst h;exact⟨rfl,.inl ⟨c3,k,List.mem_range.1 hk,hu,rfl⟩⟩
  ·cases h
 ·rw [if_neg c3,List.mem_filterMap]at h;obtain⟨k,hk,h⟩:=h;unfold Pc at h;split at h;·rename_i hu;injection h with h;subst h;exact⟨rfl,.inr ⟨c3,k,List.mem_range.1 hk,hu.1,hu.2,rfl⟩⟩
  ·cases h
theorem Gq(x:Int):AC Tryz.prog 171 [.i x] (.b false) []:=by refine gU ah cv Tryz.func171 Tryz.ntmps171 fun C hC hF=> ?_;refine sK fun K hK=>wR 2 ?_;refine aY ah 1 [] ?_;refine nK hK ?_;clear hK K;refine sK fun K hK=>wR 3 ?_;refine aY ah 4 [] ?_;refine nK hK ?_;clear hK K;refine ay ?_;rw [show(V.b false)=V.b (!decide (x=x)) by simp];refine rP (V.b !decide (x=x))
theorem Bo(x:Int):AC Tryz.prog 183 [.i x] (.b false) []:=by refine gU ah cv Tryz.func183 Tryz.ntmps183 fun C hC hF=> ?_;refine sK fun K hK=>wR 2 ?_;refine aY ah 1 [] ?_;refine nK hK ?_;clear hK K;refine sK fun K hK=>wR 3 ?_;refine aY ah 4 [] ?_;refine nK hK ?_;clear hK K;refine ay ?_;rw [show(V.b false)=V.b (!decide (x=x)) by simp];refine rP (V.b !decide (x=x))
theorem Ja(x y:Int):AC Tryz.prog 170 [.i x,.i y] (.b (decide (x< y))) []:=by refine gU ah cv Tryz.func170 Tryz.ntmps170 fun C hC hF=> ?_;refine sK fun K hK=>wR 2 ?_;refine aY ah 1 [] ?_;refine nK hK ?_;clear hK K;refine sK fun K hK=>wR 3 ?_;refine aY ah 1 [] ?_;refine eC (Bo x) ?_;refine aY ah 2 [] ?_;refine eG 1 (g:=false == true) (fun h=>Bo y) ?_;refine aY ah 8 [] ?_;refine nK hK ?_;clear hK K;refine ay ?_;refine rP (V.b (decide (x< y)))
theorem yY(m d:Nat)(hm:m<=16)(hd:d< m):AC Tryz.prog 139 [.sl 1 m cJ,.i ((d:Nat)+1:Int)] (.tup [.i (d:Nat),.b true]) []:=by
 refine gU ah cv Tryz.func139 Tryz.ntmps139 fun C hC hF=> ?_;refine sK fun K hK=>wR 2 ?_;refine an ah (M:=[]) (n:=2) [pv 4 (V.i 0),pv 5 (V.b false)] kR kR tI ?_;refine nK hK ?_;clear hK K;refine sK fun K hK=>wR 3 ?_;refine an ah (M:=[]) (n:=3) [pv 10 (V.sl 1 m cJ),pv 11 (V.i (↑m:Int)),pv 6 (V.i (↑m:Int))] kR kR tI ?_;refine nK hK ?_;clear hK K;refine sK fun K hK=>wR 4 ?_;refine an ah (M:=[]) (n:=3) [pv 12 (V.i (↑m:Int)),pv 7 (V.i 0),pv 8 (V.i (↑m:Int))] kR kR tI ?_;refine nK hK ?_;clear hK K;refine sK fun K hK=> ?_;refine au ?_;refine cr (ι:=Nat×Nat) (fun k=>[(0,.sl 1 m cJ),(1,.i ((d:Nat)+1:Int)),(6,.i (m:Nat)),(7,.i (k.1:Nat)),(8,.i (k.2:Nat))]) (fun _=>[]) (fun k=>k.1<=d/\d<=k.2/\k.2<=m) (fun k=>k.2- k.1) (0,m) ⟨Nat.zero_le _,by omega,Nat.le_refl _⟩ ?_ ?_;·refine aC [] (.cons kR (.cons kR (.cons kR (.cons kR (.cons kR .nil))))) .nil kR kR
 rintro⟨lo,hi⟩ ⟨h1,h2,h3⟩;refine sK fun K hK=>sK fun K hK=>wR 2 ?_;refine an ah (M:=[]) (n:=3) [pv 13 (V.i (↑lo:Int)),pv 14 (V.i (↑hi:Int)),pv 15 (V.b (decide ((↑lo:Int)< (↑hi:Int))))] kR kR tI ?_;refine nK hK ?_;clear hK K;refine av (t:=decide ((↑lo:Int)< (↑hi:Int))) kR (fun c1=> ?_) (fun c1=> ?_)
 ·have hlt:lo< hi:=by have h:=of_decide_eq_true c1;omega
  have e:((lo:Int)+(hi:Int)).fdiv (2 ^ min 1 IntKind.u64.bits)=(((lo+hi) / 2:Nat):Int):=by rw [show(2:Int) ^ min 1 IntKind.u64.bits=2 by decide,Int.fdiv_eq_ediv_of_nonneg _ (by decide)];omega
  obtain⟨h,hh⟩:∃h:Nat,h=(lo+hi) / 2:=⟨_,rfl⟩;rw [<-hh]at e;have hl:lo<=h/\h< hi:=by omega
  have h1:lo<=d:=h1;have h2:d<=hi:=h2;have h3:hi<=m:=h3;refine ak ?_;refine ai (hK _ ?_);clear hK K;refine au ?_;refine sK fun K hK=>wR 3 ?_;refine an ah (M:=[]) (n:=7) [pv 16 (V.i (↑lo:Int)),pv 17 (V.i (↑hi:Int)),pc 18 ((-9223372036854775808:Int)<=(↑lo:Int)+(↑hi:Int)/\(↑lo:Int)+(↑hi:Int)<=9223372036854775807) (V.i ((↑lo:Int)+(↑hi:Int))),pc 19 ((0:Int)<=(↑lo:Int)+(↑hi:Int)/\(↑lo:Int)+(↑hi:Int)<=18446744073709551615) (V.c (Value.int IntKind.u64 ((↑lo:Int)+(↑hi:Int)))),pc 20 ((0:Int)<=(1:Int)) (V.c (Value.int IntKind.u64 (Int.fdiv ((↑lo:Int)+(↑hi:Int)) ((2:Int) ^ min (1:Nat) (IntKind.bits IntKind.u64))))),pc 21 ((-9223372036854775808:Int)<=Int.fdiv ((↑lo:Int)+(↑hi:Int)) ((2:Int) ^ min (1:Nat) (IntKind.bits IntKind.u64))/\Int.fdiv ((↑lo:Int)+(↑hi:Int)) ((2:Int) ^ min (1:Nat) (IntKind.bits IntKind.u64))<=9223372036854775807) (V.i (Int.fdiv ((↑lo:Int)+(↑hi:Int)) ((2:Int) ^ min (1:Nat) (IntKind.bits IntKind.u64)))),pv 9 (V.i (Int.fdiv ((↑lo:Int)+(↑hi:Int)) ((2:Int) ^ min (1:Nat) (IntKind.bits IntKind.u64))))] kR kR ⟨oM,oM,oM,oM,tI⟩ ?_;refine nK hK ?_;clear hK K;refine sK fun K hK=>wR 4 ?_;refine an ah (M:=[]) (n:=5) [pv 22 (V.sl 1 m cJ),pv 23 (V.i (Int.fdiv ((↑lo:Int)+(↑hi:Int)) ((2:Int) ^ min (1:Nat) (IntKind.bits IntKind.u64)))),pc 24 ((0:Int)<=Int.fdiv ((↑lo:Int)+(↑hi:Int)) ((2:Int) ^ min (1:Nat) (IntKind.bits IntKind.u64))/\Int.fdiv ((↑lo:Int)+(↑hi:Int)) ((2:Int) ^ min (1:Nat) (IntKind.bits IntKind.u64))< (↑m:Int)) (V.ptr [V.i ((↑(Int.toNat (Int.fdiv ((↑lo:Int)+(↑hi:Int)) ((2:Int) ^ min (1:Nat) (IntKind.bits IntKind.u64)))):Int)+1)]),pv 25 (V.i ((↑(Int.toNat (Int.fdiv ((↑lo:Int)+(↑hi:Int)) ((2:Int) ^ min (1:Nat) (IntKind.bits IntKind.u64)))):Int)+1)),pv 26 (V.i ((↑d:Int)+1))] kR kR ⟨oM,tI⟩ ?_;rw [e];skip
  refine eC (Ja ((h:Int)+1) ((d:Nat)+1:Int)) ?_;refine nK hK ?_;clear hK K;refine av (t:=decide ((↑h:Int)+1< (↑d:Int)+1)) kR (fun c2=> ?_) (fun c2=> ?_)
  ·have c2':h< d:=by have h:=of_decide_eq_true c2;omega
   refine wR 5 ?_;refine an ah (M:=[]) (n:=3) [pv 28 (V.i (↑h:Int)),pc 29 ((-9223372036854775808:Int)<=(↑h:Int)+1/\(↑h:Int)+1<=(9223372036854775807:Int)) (V.i ((↑h:Int)+1)),pv 7 (V.i ((↑h:Int)+1))] kR kR ⟨oM,tI⟩ ?_;refine aa (bL (ai ?_));refine⟨(h+1,hi),⟨by show h+1<=d;omega,h2,h3⟩,?_,by show hi- (h+1)< hi- lo;omega⟩;refine aC [] (.cons kR (.cons kR (.cons kR (.cons kR (.cons kR .nil))))) .nil kR kR
  ·have c2':d<=h:=by have h:=of_decide_eq_false c2;omega
   refine wR 5 ?_;refine an ah (M:=[]) (n:=2) [pv 30 (V.i (↑h:Int)),pv 8 (V.i (↑h:Int))] kR kR tI ?_;refine aa (bL (ai ?_));refine⟨(lo,h),⟨h1,c2',by show h<=m;omega⟩,?_,by show h- lo< hi- lo;omega⟩;refine aC [] (.cons kR (.cons kR (.cons kR (.cons kR (.cons kR .nil))))) .nil kR kR
 ·have h1:lo<=d:=h1;have h2:d<=hi:=h2;have h3:hi<=m:=h3;have hlt:¬lo< hi:=by have h:=of_decide_eq_false c1;omega
  obtain rfl:lo=d:=by omega
  refine bg ?_;refine bO ?_;refine bO ?_;refine bC ?_;refine ai ?_;clear hK K;refine hK _ ?_;clear hK K;refine sK fun K hK=>wR 3 ?_;refine an ah (M:=[]) (n:=16) [pv 31 (V.i (↑lo:Int)),pv 32 (V.i (↑lo:Int)),pv 33 (V.i (↑m:Int)),pv 34 (V.b (decide ((↑lo:Int)< (↑m:Int)))),pv 35 (V.b (decide ((↑lo:Int)< (↑m:Int)))),pc 36 ((True/\True)/\((decide ((↑lo:Int)< (↑m:Int)) == true)=true->True)) (V.gd (decide ((↑lo:Int)< (↑m:Int)) == true) (V.sl 1 m cJ)),pc 37 ((True/\True)/\((decide ((↑lo:Int)< (↑m:Int)) == true)=true->True)) (V.gd (decide ((↑lo:Int)< (↑m:Int)) == true) (V.i (↑lo:Int))),pc 38 ((((decide ((↑lo:Int)< (↑m:Int)) == true)=true->(decide ((↑lo:Int)< (↑m:Int)) == true)=true)/\((decide ((↑lo:Int)< (↑m:Int)) == true)=true->(decide ((↑lo:Int)< (↑m:Int)) == true)=true)/\True)/\((decide ((↑lo:Int)< (↑m:Int)) == true)=true->(0:Int)<=(↑lo:Int)/\(↑lo:Int)< (↑m:Int))) (V.gd (decide ((↑lo:Int)< (↑m:Int)) == true) (V.ptr [V.i ((↑lo:Int)+1)])),pc 39 ((((decide ((↑lo:Int)< (↑m:Int)) == true)=true->(decide ((↑lo:Int)< (↑m:Int)) == true)=true)/\True)/\((decide ((↑lo:Int)< (↑m:Int)) == true)=true->True)) (V.gd (decide ((↑lo:Int)< (↑m:Int)) == true) (V.i ((↑lo:Int)+1))),pc 40 ((True/\True)/\((decide ((↑lo:Int)< (↑m:Int)) == true)=true->True)) (V.gd (decide ((↑lo:Int)< (↑m:Int)) == true) (V.i ((↑lo:Int)+1))),pc 41 ((((decide ((↑lo:Int)< (↑m:Int)) == true)=true->(decide ((↑lo:Int)< (↑m:Int)) == true)=true)/\((decide ((↑lo:Int)< (↑m:Int)) == true)=true->(decide ((↑lo:Int)< (↑m:Int)) == true)=true)/\True)/\((decide ((↑lo:Int)< (↑m:Int)) == true)=true->True)) (V.gd (decide ((↑lo:Int)< (↑m:Int)) == true) (V.b (decide ((↑lo:Int)+1=(↑lo:Int)+1)))),pc 42 ((((decide ((↑lo:Int)< (↑m:Int)) == true)=true->(decide ((↑lo:Int)< (↑m:Int)) == true)=true)/\True)/\((decide ((↑lo:Int)< (↑m:Int)) == true)=true->True)) (V.gd (decide ((↑lo:Int)< (↑m:Int)) == true) (V.b (decide ((↑lo:Int)+1=(↑lo:Int)+1)))),pc 43 ((True/\True)/\((decide ((↑lo:Int)< (↑m:Int)) == true && decide ((↑lo:Int)+1=(↑lo:Int)+1) == false)=true->True)) (V.gd (decide ((↑lo:Int)< (↑m:Int)) == true && decide ((↑lo:Int)+1=(↑lo:Int)+1) == false) (V.sl 1 m cJ)),pc 44 ((True/\True)/\((decide ((↑lo:Int)< (↑m:Int)) == true && decide ((↑lo:Int)+1=(↑lo:Int)+1) == false)=true->True)) (V.gd (decide ((↑lo:Int)< (↑m:Int)) == true && decide ((↑lo:Int)+1=(↑lo:Int)+1) == false) (V.i (↑lo:Int))),pc 45 ((((decide ((↑lo:Int)< (↑m:Int)) == true && decide ((↑lo:Int)+1=(↑lo:Int)+1) == false)=true->(decide ((↑lo:Int)< (↑m:Int)) == true && decide ((↑lo:Int)+1=(↑lo:Int)+1) == false)=true)/\((decide ((↑lo:Int)< (↑m:Int)) == true && decide ((↑lo:Int)+1=(↑lo:Int)+1) == false)=true->(decide ((↑lo:Int)< (↑m:Int)) == true && decide ((↑lo:Int)+1=(↑lo:Int)+1) == false)=true)/\True)/\((decide ((↑lo:Int)< (↑m:Int)) == true && decide ((↑lo:Int)+1=(↑lo:Int)+1) == false)=true->(0:Int)<=(↑lo:Int)/\(↑lo:Int)< (↑m:Int))) (V.gd (decide ((↑lo:Int)< (↑m:Int)) == true && decide ((↑lo:Int)+1=(↑lo:Int)+1) == false) (V.ptr [V.i ((↑lo:Int)+1)])),pc 46 ((((decide ((↑lo:Int)< (↑m:Int)) == true && decide ((↑lo:Int)+1=(↑lo:Int)+1) == false)=true->(decide ((↑lo:Int)< (↑m:Int)) == true && decide ((↑lo:Int)+1=(↑lo:Int)+1) == false)=true)/\True)/\((decide ((↑lo:Int)< (↑m:Int)) == true && decide ((↑lo:Int)+1=(↑lo:Int)+1) == false)=true->True)) (V.gd (decide ((↑lo:Int)< (↑m:Int)) == true && decide ((↑lo:Int)+1=(↑lo:Int)+1) == false) (V.i ((↑lo:Int)+1)))] kR kR ⟨⟨⟨tI,tI⟩,(fun _=>tI)⟩,⟨⟨tI,tI⟩,(fun _=>tI)⟩,⟨⟨(by(exact fun h=>h)),⟨(by(exact fun h=>h)),tI⟩⟩,(by(intro h;simpa using h))⟩,⟨⟨(by(exact fun h=>h)),tI⟩,(fun _=>tI)⟩,⟨⟨tI,tI⟩,(fun _=>tI)⟩,⟨⟨(by(exact fun h=>h)),⟨(by(exact fun h=>h)),tI⟩⟩,(fun _=>tI)⟩,⟨⟨(by(exact fun h=>h)),tI⟩,(fun _=>tI)⟩,⟨⟨tI,tI⟩,(fun _=>tI)⟩,⟨⟨tI,tI⟩,(fun _=>tI)⟩,⟨⟨(by(exact fun h=>h)),⟨(by(exact fun h=>h)),tI⟩⟩,(by(simp only [xj];omega))⟩,⟨⟨(by(exact fun h=>h)),tI⟩,(fun _=>tI)⟩,tI⟩ ?_;refine eG 1 (g:=decide ((↑lo:Int)< (↑m:Int)) == true && decide ((↑lo:Int)+1=(↑lo:Int)+1) == false) (fun h=>Gq ((lo:Int)+1)) ?_;refine an ah (M:=[]) (n:=2) [pc 48 ((((decide ((↑lo:Int)< (↑m:Int)) == true && decide ((↑lo:Int)+1=(↑lo:Int)+1) == false)=true->(decide ((↑lo:Int)< (↑m:Int)) == true && decide ((↑lo:Int)+1=(↑lo:Int)+1) == false)=true)/\True)/\((decide ((↑lo:Int)< (↑m:Int)) == true && decide ((↑lo:Int)+1=(↑lo:Int)+1) == false)=true->True)) (V.gd (decide ((↑lo:Int)< (↑m:Int)) == true && decide ((↑lo:Int)+1=(↑lo:Int)+1) == false) (V.b false)),pc 49 ((True/\True)/\((decide ((↑lo:Int)< (↑m:Int)) == true && decide ((↑lo:Int)+1=(↑lo:Int)+1) == false && false == true)=true->True)) (V.gd (decide ((↑lo:Int)< (↑m:Int)) == true && decide ((↑lo:Int)+1=(↑lo:Int)+1) == false && false == true) (V.i ((↑lo:Int)+1)))] kR kR ⟨⟨⟨(by(exact fun h=>h)),tI⟩,(fun _=>tI)⟩,⟨⟨tI,tI⟩,(fun _=>tI)⟩,tI⟩ ?_;refine eG 1 (g:=decide ((↑lo:Int)< (↑m:Int)) == true && decide ((↑lo:Int)+1=(↑lo:Int)+1) == false && false == true) (fun h=>Gq ((lo:Int)+1)) ?_;refine an ah (M:=[]) (n:=5) [pc 51 (((decide ((↑lo:Int)< (↑m:Int)) == true && decide ((↑lo:Int)+1=(↑lo:Int)+1) == false)=true->(decide ((↑lo:Int)< (↑m:Int)) == true && decide ((↑lo:Int)+1=(↑lo:Int)+1) == false)=true)/\((decide ((↑lo:Int)< (↑m:Int)) == true && decide ((↑lo:Int)+1=(↑lo:Int)+1) == false)=true->false=true->(decide ((↑lo:Int)< (↑m:Int)) == true && decide ((↑lo:Int)+1=(↑lo:Int)+1) == false && false == true)=true)/\((decide ((↑lo:Int)< (↑m:Int)) == true && decide ((↑lo:Int)+1=(↑lo:Int)+1) == false)=true->True)) (V.gd (decide ((↑lo:Int)< (↑m:Int)) == true && decide ((↑lo:Int)+1=(↑lo:Int)+1) == false) (V.b false)),pc 52 (((decide ((↑lo:Int)< (↑m:Int)) == true)=true->(decide ((↑lo:Int)< (↑m:Int)) == true)=true)/\((decide ((↑lo:Int)< (↑m:Int)) == true)=true->True)/\((decide ((↑lo:Int)< (↑m:Int)) == true)=true->decide ((↑lo:Int)+1=(↑lo:Int)+1)=false->(decide ((↑lo:Int)< (↑m:Int)) == true && decide ((↑lo:Int)+1=(↑lo:Int)+1) == false)=true)) (V.gd (decide ((↑lo:Int)< (↑m:Int)) == true) (V.b (decide ((↑lo:Int)+1=(↑lo:Int)+1) && true))),pc 53 ((decide ((↑lo:Int)< (↑m:Int))=true->(decide ((↑lo:Int)< (↑m:Int)) == true)=true)/\True) (V.b (decide ((↑lo:Int)< (↑m:Int)) && (decide ((↑lo:Int)+1=(↑lo:Int)+1) && true))),pv 4 (V.i (↑lo:Int)),pv 5 (V.b (decide ((↑lo:Int)< (↑m:Int)) && (decide ((↑lo:Int)+1=(↑lo:Int)+1) && true)))] kR kR ⟨⟨(by(exact fun h=>h)),⟨(by(intro _;simp;done)),(fun _=>tI)⟩⟩,⟨(by(exact fun h=>h)),⟨(fun _=>tI),(by(intro _;simp;done))⟩⟩,⟨(by(intro h;rw [h];rfl)),tI⟩,tI⟩ ?_;refine nK hK ?_;clear hK K;refine ay ?_;have e2:(lo:Int)< (m:Int):=by omega
  rw [show(V.b true)=V.b (decide ((lo:Int)< (m:Int)) && (decide ((lo:Int)+1=(lo:Int)+1) && true)) by simp [e2]];refine rP (V.tup [V.i (↑lo:Int),V.b (decide ((↑lo:Int)< (↑m:Int)) && (decide ((↑lo:Int)+1=(↑lo:Int)+1) && true))])
abbrev ux:=List (Nat×Bool)
def yt(hs:ux)(i:Nat):List V:=[.i (((hs.getD i (0,false)).1:Nat)+1:Int),.b (hs.getD i (0,false)).2]
def DX(hs:ux):V:= .sl 2 hs.length (yt hs)
def D2(hs:ux)(c:j7):Bool:=hs.all fun h=>c.2.2 h.1 == h.2
def jb(m:Nat)(l:List j7)(j:Nat):List V:=[.i (l.getD j (0,0,fun _=>false)).1,.i (l.getD j (0,0,fun _=>false)).2.1,.sl 1 m (gh (l.getD j (0,0,fun _=>false)).2.2)]
def xg(hs:ux)(n j:Nat):List V:=[.i (if j< n then((hs.getD j (0,false)).1:Int)else 0)]
def OR(hs:ux)(j:Nat):List V:=[.i ((hs.getD j (0,false)).1:Int)]
def kf(cs:List j7)(hs:ux)(k:Nat):List j7:=(cs.take k).filter (D2 hs)
theorem NB{cs:List j7}{hs:ux}{k:Nat}{c:j7}(hc:cs[k]?=some c)(h:D2 hs c=true):kf cs hs (k+1)=kf cs hs k++[c]:=by unfold kf;rw [List.take_add_one,hc,List.filter_append];simp [h]
theorem NA{cs:List j7}{hs:ux}{k:Nat}{c:j7}(hc:cs[k]?=some c)(h:D2 hs c=false):kf cs hs (k+1)=kf cs hs k:=by unfold kf;rw [List.take_add_one,hc,List.filter_append];simp [h]
theorem JB{m:Nat}{l:List j7}{c:j7}{j:Nat}(hj:j< l.length):jb m (l++[c]) j=jb m l j:=by unfold jb;rw [List.getD_eq_getElem?_getD,List.getElem?_append_left hj,<-List.getD_eq_getElem?_getD]
theorem Mi{m:Nat}{l:List j7}{c:j7}:jb m (l++[c]) l.length=[.i c.1,.i c.2.1,.sl 1 m (gh c.2.2)]:=by unfold jb;rw [List.getD_eq_getElem?_getD,List.getElem?_append_right (Nat.le_refl _),Nat.sub_self];rfl
theorem NM{hs:ux}{c:j7}(h:∀i,i< hs.length->c.2.2 (hs.getD i (0,false)).1=(hs.getD i (0,false)).2):D2 hs c=true:=by unfold D2;refine List.all_eq_true.2 fun x hx=> ?_;obtain⟨i,hi,rfl⟩:=List.getElem_of_mem hx;have:=h i hi;rw [List.getD_eq_getElem?_getD,List.getElem?_eq_getElem hi]at this;simpa using this
theorem NL{hs:ux}{c:j7}{i:Nat}(hi:i< hs.length)(h:c.2.2 (hs.getD i (0,false)).1≠(hs.getD i (0,false)).2):D2 hs c=false:=by
 cases hb:D2 hs c with
 |false=>rfl
 |true=>unfold D2 at hb;have:=List.all_eq_true.1 hb _ (List.getElem_mem hi);rw [List.getD_eq_getElem?_getD,List.getElem?_eq_getElem hi]at h;exact absurd (by simpa using this) h
theorem Jb(cs:List j7)(hs:ux)(k:Nat):(kf cs hs k).length<=cs.length:=by unfold kf;refine Nat.le_trans (List.length_filter_le _ _) ?_;rw [List.length_take];omega
theorem Fp{α:Type}(f:Nat->List α)(b:Nat)(h:∀i,(f i).length<=b)(n:Nat):((List.range n).flatMap f).length<=n*b:=by
 induction n with
 |zero=>simp
 |succ n ih=>rw [List.range_succ,List.flatMap_append,List.length_append,Nat.succ_mul];have:=h n;rw [show [n].flatMap f=f n by simp];omega
theorem vX{S:Sh}(hn:S.n<=200)(T:Nat->Nat){m:Nat}(hm:m<=16):(gk S T m).length<=40016:=by
 unfold gk;rw [List.length_append,List.length_map,List.length_range];have:=Fp (nD S T m) 200 (fun i=>by
  unfold nD;split;·exact Nat.le_trans (List.length_filterMap_le _ _) (by rw [List.length_range];omega)
  ·exact Nat.le_trans (List.length_filterMap_le _ _) (by rw [List.length_range];exact hn)) S.n
 have h2:S.n*200<=200*200:=Nat.mul_le_mul_right _ hn;omega
theorem F7(S:Sh)(hn:S.n<=200)(hk:eZ S)(A B:Nat->Nat)(m:Nat)(hm:m<=16)(hA:jw S m A)(hB:jw S m B)(sd:Bool)(hs:ux)(hhl:hs.length<=200)(hhs:∀i,i< hs.length->(hs.getD i (0,false)).1< m)(cs:List j7)(hcs:cs=gk S (gj sd A B) m) : AC Tryz.prog 92 [iw S,ke A B m,.i (i9 sd),DX hs] (.tup [dV S (gj sd A B) m,.own 0,.i 0]) [.row 187 3 (kf cs hs cs.length).length (jb m (kf cs hs cs.length))]:=by
 have hT:∀i,i< m->gj sd A B i< S.n:=fun i hi=>by unfold gj;split;exact(hB i hi).1;exact(hA i hi).1
 have hcl:cs.length<=40016:=by rw [hcs];exact vX hn _ hm
 obtain⟨T,hTe⟩:∃T,T=gj sd A B:=⟨_,rfl⟩;have AR:=pF S hn hk A B m hm hA hB sd;rw [<-hTe]at hT hcs AR ⊢;refine gU ah cv Tryz.func92 Tryz.ntmps92 fun C hC hF=> ?_;refine sX ah 2 4 [] tI ?_;refine wv ?_;refine sK fun K hK=>wR 3 (aX ah 3 [] tI ?_);refine eC (AR) ?_;refine aX ah 5 [] tI (nK hK ?_);clear hK K;refine sK fun K hK=>sX ah 4 2 [] tI (aB (t:=false) kR rfl ?_);refine ak ?_;refine ai (hK _ ?_);clear hK K;refine sK fun K hK=>sX ah 5 3 [] tI ?_;refine av (t:=decide ((200:Int)< (↑(List.length hs):Int))) kR (fun c0=> ?_) (fun c0=> ?_);·exfalso;have h:=of_decide_eq_true c0;omega
 refine ak ?_;refine ai (hK _ ?_);clear hK K;refine sX ah 6 5 [(2,.r (PR.mk (some (37:Nat)) (some ((0:Int)<=(↑(List.length hs):Int)/\(↑(List.length hs):Int)<=(↑(List.length hs):Int)/\(↑(List.length hs):Int)<=1099511627776)) (V.own (500037:Nat)) [((500037:Nat),some (Ob.row (3:Nat) (1:Nat) (List.length hs) fun(x:Nat)=>[V.c (Value.int IntKind.i64 (0:Int))]))] false)),(3,.r (pn (13:Nat) (V.ref (500013:Nat) (0:Nat)) (500013:Nat) (Ob.box (69:Nat) [V.nil]))),(4,.r (pw ((0:Nat)+(1:Nat)<=(1:Nat)) (500013:Nat) (Ob.box (69:Nat) [V.own (500037:Nat)])))] ⟨⟨oM,oM⟩,oM,tI⟩ (sK fun K hK=>sX ah 7 3 [] tI ?_);refine au ?_;refine cr (ι:=Nat) (fun k=>[(7,.ptr [DX hs]),(11,dV S T m),(13,.ref 5 0),(38,DX hs),(39,.i (hs.length:Nat)),(40,.i (k:Nat))]) (fun k=>[(5,.box 69 [.own 6]),(6,.row 3 1 hs.length (xg hs k))]) (fun k=>k<=hs.length) (fun k=>hs.length- k) 0 (Nat.zero_le _) ?_ ?_;·refine aC (sl:=[(5,Ob.box (69:Nat) [V.own (6:Nat)]),(6,Ob.row (3:Nat) (1:Nat) (List.length hs) (xg hs (0:Nat)))]) [(5,500013),(6,500037)] (.cons kR (.cons kR (.cons kR (.cons kR (.cons kR (.cons kR .nil)))))) (.cons oS (.cons oS .nil)) kR kR
 intro k hk1;refine sX ah 2 1 [] tI (sK fun K hK=> ?_);refine av (t:=decide ((↑k:Int)< (↑(List.length hs):Int))) kR (fun c1=> ?_) (fun c1=> ?_)
 ·have hkl:k< hs.length:=by have h:=of_decide_eq_true c1;omega
  have hkm:=hhs k hkl;refine ak ?_;refine ai (hK _ ?_);clear hK K;refine sK fun K hK=> ?_;refine au ?_;refine sX ah 3 6 [(1,.c ((0:Int)<=(↑k:Int)/\(↑k:Int)< (↑(List.length hs):Int))),(3,.r (pn (15:Nat) (V.ref (200015:Nat) (0:Nat)) (200015:Nat) (Ob.box (111:Nat) [V.i (0:Int),V.b false]))),(5,.r (pw ((0:Nat)+(2:Nat)<=(2:Nat)) (200015:Nat) (Ob.box (111:Nat) [V.i ((↑(Prod.fst (List.getD hs k ((0:Nat),false))):Int)+1),V.b (Prod.snd (List.getD hs k ((0:Nat),false)))])))] ⟨oM,oM,tI⟩ (sK fun K hK=>wD 4 (aX ah 6 [(5,.c ((0:Nat)<=(2:Nat)))] ⟨oM,tI⟩ ?_));refine eC (yY m (hs.getD k (0,false)).1 hm hkm) ?_;refine an ah (M:=[]) (n:=5) [pv (45:Nat) (V.tup [V.i (↑(Prod.fst (List.getD hs k ((0:Nat),false))):Int),V.b true]),pv (53:Nat) (V.i (↑(Prod.fst (List.getD hs k ((0:Nat),false))):Int)),pv (54:Nat) (V.b true),pv (16:Nat) (V.i (↑(Prod.fst (List.getD hs k ((0:Nat),false))):Int)),pv (17:Nat) (V.b true)] kR kR tI ?_;refine aa ⟨kR,(ai (hK _ ?_))⟩;clear hK K;refine sK fun K hK=>sK fun K hK=>wR 5 ?_;refine an ah (M:=[]) (n:=2) [pv (55:Nat) (V.b true),pv (56:Nat) (V.b false)] kR kR tI ?_;refine nK hK ?_;clear hK K;refine aB (t:=false) kR rfl ?_;refine ak ?_;refine ai (hK _ ?_);clear hK K;refine wR 6 ?_;refine an ah (M:=[]) (n:=5) [pc (57:Nat) ((0:Nat)<=(1:Nat)) (V.own (6:Nat)),pv (58:Nat) (V.i (↑k:Int)),pv (59:Nat) (V.i (↑(Prod.fst (List.getD hs k ((0:Nat),false))):Int)),pc (60:Nat) ((0:Int)<=(↑k:Int)/\(↑k:Int)< (↑(List.length hs):Int)) (V.oel (6:Nat) (1:Nat) k (0:Nat)),pw (k< List.length hs/\(0:Nat)+(1:Nat)<=(1:Nat)) (6:Nat) (Ob.row (3:Nat) (1:Nat) (List.length hs) fun(j:Nat)=>if j=k then [V.i (↑(Prod.fst (List.getD hs k ((0:Nat),false))):Int)]else xg hs k j)] kR kR ⟨oM,oM,oM,tI⟩ ?_;refine aa (bL (ai (hK _ ?_)));clear hK K;refine wR 7 ?_;refine an ah (M:=[]) (n:=2) [pc (61:Nat) ((-9223372036854775808:Int)<=(↑k:Int)+1/\(↑k:Int)+1<=(9223372036854775807:Int)) (V.i ((↑k:Int)+1)),pv (40:Nat) (V.i ((↑k:Int)+1))] kR kR ⟨oM,tI⟩ ?_;refine aa (ai ?_);refine⟨k+1,by omega,?_,by omega⟩;refine aC (tl:=[(7,V.ptr [V.sl (2:Nat) (List.length hs) (yt hs)]),(11,V.ptr [V.sl (7:Nat) (Sh.n S) fun(i:Nat)=>Pl.c (Sh.pl S i),V.sl (1:Nat) m cJ,V.sl (1:Nat) m (jN T)]),(13,V.ref (5:Nat) (0:Nat)),(38,V.sl (2:Nat) (List.length hs) (yt hs)),(39,V.i (↑(List.length hs):Int)),(40,V.i (↑(k+1):Int))]) (sl:=[(5,Ob.box (69:Nat) [V.own (6:Nat)]),(6,Ob.row (3:Nat) (1:Nat) (List.length hs) (xg hs (k+1)))]) [(5,5),(6,6)] (.cons kR (.cons kR (.cons kR (.cons kR (.cons kR (.cons kR .nil)))))) (.cons oS (.cons ⟨Ob.row (3:Nat) (1:Nat) (List.length hs) fun(j:Nat)=>if j=k then [V.i (↑(Prod.fst (List.getD hs k ((0:Nat),false))):Int)]else xg hs k j,kR,.row kR ?_⟩ .nil)) kR kR
  ·intro j _;by_cases h:j=k;·subst h;simp only [if_pos];show _=[V.i (if j< j+1 then _ else _)];rw [if_pos (Nat.lt_succ_self j)]
   ·rw [if_neg h];show [V.i (if j< k then _ else _)]=[V.i (if j< k+1 then _ else _)]
    by_cases h2:j< k;·rw [if_pos h2,if_pos oM]
    ·rw [if_neg h2,if_neg oM]
 obtain rfl:k=hs.length:=by have h:=of_decide_eq_false c1;omega
 clear c1;refine iC (xu (tl:=[(7,.ptr [DX hs]),(11,dV S T m),(13,.ptr [.sl 1 hs.length (OR hs)])]) ?_) ?_;·exact⟨Fz.b5 _ rfl,Fz.b5 _ rfl,Fz.refs (t:=69) (cs:=[.own 6]) rfl ⟨Fz.rows (e:=3) (sz:=1) (r:=xg hs hs.length) rfl fun j hj=>by rw [show xg hs hs.length j=OR hs j by unfold xg;rw [if_pos hj];rfl];exact iE.b5 rfl,trivial⟩,trivial⟩
 refine bg ?_;refine bO ?_;refine bO ?_;refine bC ?_;refine ai ?_;clear hK K;refine hK _ ?_;clear hK K;refine sK fun K hK=>wR 3 ?_;refine aY ah 1 [] ?_;refine nK hK ?_;clear hK K;refine sK fun K hK=> ?_;refine wq ?_;refine ai (hK _ ?_);clear hK K;refine sK fun K hK=>sK fun K hK=>wR 4 ?_;refine aY ah 1 [] ?_;refine eC (AF S T m) ?_;refine nK hK ?_;clear hK K;refine au ?_;have it:=Ei S hn hk T m hm hT;rw [AG,<-hcs]at it;refine iC (fG 200018 0 187 3 (jb m (kf cs hs 0)) (t:=190) (cs:=[.nil]) kR rfl kR kR) ?_;refine sq (caps:=[.ptr [dV S T m]]) [] hF [501] [0] [(501,200018),(0,400000)] (fun _ _ h=>by rw [hC]at h;cases h) it kR kR rfl (by simp) (fun i k o h=>by simp at h) A6 kR
  [(7,.ptr [DX hs]),(11,dV S T m),(13,.ptr [.sl 1 hs.length (OR hs)]),(18,.ref 501 0)] (fun k=>k<=cs.length) (fun k=>[.box 190 [.own 0],.row 187 3 (kf cs hs k).length (jb m (kf cs hs k))]) (fun _ _ _=>False) (Nat.zero_le _) kR kR kR kR ⟨by show _=_;kernel_rfl,by show _=_;kernel_rfl,by show _=_;kernel_rfl,by show _=_;kernel_rfl,trivial⟩
  ⟨⟨.box 190 [.own 400000],kR,rfl,rfl⟩,⟨.row 187 3 0 (jb m (kf cs hs 0)),kR,rfl,rfl,rfl,fun _ h=>absurd h (Nat.not_lt_zero _)⟩,trivial⟩ kR ?hdis ?round ?done ?stop
 case hdis=>intro p hp;simp
 case round=>
  rintro C' ⟨lx,hF'⟩ k x hx hk0
  rw [List.getElem?_map,Option.map_eq_some_iff]at hx
  obtain⟨c,hc,rfl⟩:=hx
  have hkc:k< cs.length:=(List.getElem?_eq_some_iff.1 hc).1
  refine wR 2 ?_;refine aY ah 2 [(1,.c ((0:Nat)+(3:Nat)<=(3:Nat)) oM)] ?_;refine aa (ai ?_)
  refine au ?_
  refine sK fun K hK=>sK fun K hK=>wR 3 ?_;refine aY ah 3 [] ?_;refine nK hK ?_;clear hK K
  refine au ?_
  refine iC (dz (t:=(187:Nat)) (cs:=[V.i (Prod.fst c),V.i (Prod.fst (Prod.snd c)),V.sl (1:Nat) m (gh (Prod.snd (Prod.snd c)))]) 100019 kR kR) ?_
  refine cr (ι:=Nat) (fun j=>[(7,.ptr [DX hs]),(11,dV S T m),(13,.ptr [.sl 1 hs.length (OR hs)]),(18,.ref 501 0),(19,.ptr [.i c.1,.i c.2.1,.sl 1 m (gh c.2.2)]),(65,DX hs),(66,.i (hs.length:Nat)),(67,.i (j:Nat))]) (fun _=>[(501,.box 190 [.own 0]),(0,.row 187 3 (kf cs hs k).length (jb m (kf cs hs k)))]) (fun j=>j<=hs.length/\∀i,i< j->c.2.2 (hs.getD i (0,false)).1=(hs.getD i (0,false)).2) (fun j=>hs.length- j) 0 ⟨Nat.zero_le _,fun i hi=>absurd hi (Nat.not_lt_zero _)⟩ ?_ ?_
  ·refine aC (sl:=[(501,Ob.box (190:Nat) [V.own (0:Nat)]),(0,Ob.row (187:Nat) (3:Nat) (List.length (kf cs hs k)) (jb m (kf cs hs k)))]) [(0,0)] (.cons kR (.cons kR (.cons kR (.cons kR (.cons kR (.cons kR (.cons kR (.cons kR .nil)))))))) (.cons oS (.cons oS .nil)) kR kR
  rintro j ⟨hj1,hj2⟩
  refine sK fun K hK=>wR 2 ?_;refine aY ah 1 [] ?_;refine nK hK ?_;clear hK K;refine sK fun K hK=> ?_
  refine av (t:=decide ((↑j:Int)< (↑(List.length hs):Int))) kR (fun d1=> ?_) (fun d1=> ?_)
  ·have hjl:j< hs.length:=by have h:=of_decide_eq_true d1;omega
   have hjm:=hhs j hjl;refine ak ?_;refine ai (hK _ ?_);clear hK K;refine sK fun K hK=> ?_;refine au ?_;refine sK fun K hK=>wR 3 ?_;refine aY ah 6 [(1,.c ((0:Int)<=(↑j:Int)/\(↑j:Int)< (↑(List.length hs):Int)) oM),(3,.c ((0:Nat)+(2:Nat)<=(2:Nat)) oM)] ?_;refine nK hK ?_;clear hK K;refine sK fun K hK=>wD 4 ?_;refine aY ah 11 [(4,.c ((0:Int)<=(↑j:Int)/\(↑j:Int)< (↑(List.length hs):Int)) oM),(1,.c ((0:Int)<=(↑(Prod.fst (List.getD hs j ((0:Nat),false))):Int)/\(↑(Prod.fst (List.getD hs j ((0:Nat),false))):Int)< (↑m:Int)) oM),(2,.c ((1:Nat)<=(2:Nat)) oM)] ?_;refine aa ⟨kR,(ai (hK _ ?_))⟩;clear hK K;refine av (t:= !Prod.snd (Prod.snd c) (Prod.fst (List.getD hs j ((0:Nat),false))) == Prod.snd (List.getD hs j ((0:Nat),false))) kR (fun d2=> ?_) (fun d2=> ?_)
   ·have hno:c.2.2 (hs.getD j (0,false)).1≠(hs.getD j (0,false)).2:=by simpa using d2
    have hok:=NL hjl hno;refine bg ?_;refine Hv rfl ?_;refine bO ?_;refine bO ?_;refine Hv rfl ?_;refine bO ?_;refine bC ?_;refine⟨hkc,?_⟩;show Le _ ⟨fun _=> .any,dj [(501,.box 190 [.own 0]),(0,.row 187 3 (kf cs hs (k+1)).length (jb m (kf cs hs (k+1))))],1⟩;rw [NA hc hok];refine aC (sl:=[(501,Ob.box (190:Nat) [V.own (0:Nat)]),(0,Ob.row (187:Nat) (3:Nat) (List.length (kf cs hs k)) (jb m (kf cs hs k)))]) [(0,0)] .nil (.cons oS (.cons oS .nil)) kR kR
   ·have hyes:c.2.2 (hs.getD j (0,false)).1=(hs.getD j (0,false)).2:=by simpa using d2
    refine ak ?_;refine bL (ai (hK _ ?_));clear hK K;refine wR 5 ?_;refine aY ah 2 [(0,.c (iR ((↑j:Int)+1)) oM)] ?_;refine aa (ai ?_);refine⟨j+1,⟨by omega,fun i hi=> ?_⟩,?_,by omega⟩
    ·rcases Nat.lt_or_ge i j with h |h;·exact hj2 i h
     ·obtain rfl:i=j:=by omega
      exact hyes
    ·refine aC (sl:=[(501,Ob.box (190:Nat) [V.own (0:Nat)]),(0,Ob.row (187:Nat) (3:Nat) (List.length (kf cs hs k)) (jb m (kf cs hs k)))]) [(0,0)] (.cons kR (.cons kR (.cons kR (.cons kR (.cons kR (.cons kR (.cons kR (.cons kR .nil)))))))) (.cons oS (.cons oS .nil)) kR kR
  ·obtain rfl:j=hs.length:=by have h:=of_decide_eq_false d1;omega
   have hok:D2 hs c=true:=NM hj2;have hll:=Jb cs hs k;refine bg ?_;refine bO ?_;refine bO ?_;refine bC ?_;refine ai ?_;clear hK K;refine hK _ ?_;clear hK K;refine wR 3 (aX ah 5 [(0,.c ((0:Nat)<=(1:Nat))),(3,.r (PR.mk (some (87:Nat)) (some (List.length (kf cs hs k)+1<=(1099511627776:Nat))) (V.own (200087:Nat)) [((0:Nat),none),((200087:Nat),some (Ob.row (187:Nat) (3:Nat) (List.length (kf cs hs k)+1) (aE (List.length (kf cs hs k)) (jb m (kf cs hs k)) fun(i:Nat)=>List.take (3:Nat) (List.drop (i*3) [V.i (Prod.fst c),V.i (Prod.fst (Prod.snd c)),V.sl (1:Nat) m (gh (Prod.snd (Prod.snd c)))]))))] false)),(4,.r (pw ((0:Nat)+(1:Nat)<=(1:Nat)) (501:Nat) (Ob.box (190:Nat) [V.own (200087:Nat)])))] ⟨oM,oM,oM,tI⟩ (aa (bL ?_)));refine⟨hkc,?_⟩;show Le _ ⟨fun _=> .any,dj [(501,.box 190 [.own 0]),(0,.row 187 3 (kf cs hs (k+1)).length (jb m (kf cs hs (k+1))))],1⟩;rw [NB hc hok,List.length_append];refine aC (sl:=[(501,Ob.box (190:Nat) [V.own (0:Nat)]),(0,Ob.row (187:Nat) (3:Nat) (List.length (kf cs hs k)+1) (jb m (kf cs hs k++[c])))]) [(0,200087)] .nil (.cons oS (.cons ⟨Ob.row (187:Nat) (3:Nat) (List.length (kf cs hs k)+1) (aE (List.length (kf cs hs k)) (jb m (kf cs hs k)) fun(i:Nat)=>List.take (3:Nat) (List.drop (i*3) [V.i (Prod.fst c),V.i (Prod.fst (Prod.snd c)),V.sl (1:Nat) m (gh (Prod.snd (Prod.snd c)))])),kR,.row kR ?_⟩ .nil)) kR kR;·exact de (fun j hj=>(JB hj).symm) Mi.symm
 case done=>
  intro hk0
  rw [List.length_map]
  refine bL (ai (hK _ ?_));clear hK K;refine sK fun K hK=>wD 2 ?_;refine aY ah 5 [(1,.c ((0:Nat)<=(1:Nat)) oM)] ?_;refine aa ⟨kR,(ai (hK _ ?_))⟩;clear hK K
  refine ay ?_
  refine P2 ?_
  refine fh [(0,0)] [(8,V.ptr [V.sl (7:Nat) (Sh.n S) fun(i:Nat)=>Pl.c (Sh.pl S i),V.sl (1:Nat) m cJ,V.sl (1:Nat) m (jN T)]),(9,V.own (0:Nat)),(10,V.i (0:Int))] (.inr rfl) (.cons kR (.cons kR (.cons kR .nil))) (.cons oS .nil) kR kR kR kR
 case stop=>intro k c sx _ hf;exact hf.elim
def iF(S:Sh)(T:Nat->Nat)(m:Nat)(hs:ux):List j7:=(gk S T m).filter (D2 hs)
def N1(m:Nat)(l:List j7):V:= .sl 3 l.length (jb m l)
theorem I7(S:Sh)(T:Nat->Nat)(m:Nat)(hs:ux):kf (gk S T m) hs (gk S T m).length=iF S T m hs:=by unfold kf iF;rw [List.take_length]
theorem xw{S:Sh}(hn:S.n<=200)(T:Nat->Nat){m:Nat}(hm:m<=16)(hs:ux):(iF S T m hs).length<=40016:=Nat.le_trans (List.length_filter_le _ _) (vX hn T hm)
theorem I9(S:Sh)(hn:S.n<=200)(hk:eZ S)(A B:Nat->Nat)(m:Nat)(hm:m<=16)(hA:jw S m A)(hB:jw S m B)(sd:Bool)(hs:ux)(hhl:hs.length<=200)(hhs:∀i,i< hs.length->(hs.getD i (0,false)).1< m) : AC Tryz.prog 92 [iw S,ke A B m,.i (i9 sd),DX hs] (.tup [dV S (gj sd A B) m,N1 m (iF S (gj sd A B) m hs),.i 0]) []:=by have h:=F7 S hn hk A B m hm hA hB sd hs hhl hhs _ rfl;rw [I7]at h;exact AC.jZ (e:=187) (sz:=3) (n:=(iF S (gj sd A B) m hs).length) (row:=jb m (iF S (gj sd A B) m hs)) (v:= .tup [dV S (gj sd A B) m,.own 0,.i 0]) h rfl (fun _ _=>rfl) (fun _=>rfl) rfl rfl
def mF(l:List j7)(j:Nat):List V:=[.i (l.getD j (0,0,fun _=>false)).1,.i (l.getD j (0,0,fun _=>false)).2.1]
abbrev vG:=((0:Int),(0:Int),fun(x:Nat)=>false)
theorem y5(S:Sh)(hn:S.n<=200)(hk:eZ S)(A B:Nat->Nat)(m:Nat)(hm:m<=16)(hA:jw S m A)(hB:jw S m B)(sd:Bool)(hs:ux)(hhl:hs.length<=200)(hhs:∀i,i< hs.length->(hs.getD i (0,false)).1< m) : AC Tryz.prog 42 [iw S,ke A B m,.i (i9 sd),DX hs] (.tup [.own 0,.i 0]) [.row 101 2 (iF S (gj sd A B) m hs).length (mF (iF S (gj sd A B) m hs))]:=by
 have AL:=I9 S hn hk A B m hm hA hB sd hs hhl hhs;have hll:=xw hn (gj sd A B) hm hs;obtain⟨l,hl⟩:∃l,l=iF S (gj sd A B) m hs:=⟨_,rfl⟩;rw [<-hl]at AL hll ⊢;refine gU ah cv Tryz.func42 Tryz.ntmps42 fun C hC hF=> ?_;refine sK fun K hK=>wR 2 ?_;refine aY ah 2 [] ?_;refine nK hK ?_;clear hK K;refine sK fun K hK=>wR 3 ?_;refine aY ah 4 [] ?_;refine eC (AL) ?_;refine aY ah 7 [] ?_;refine nK hK ?_;clear hK K;refine sK fun K hK=>wR 4 ?_;refine aY ah 1 [] ?_;refine nK hK ?_;clear hK K;refine sK fun K hK=>sK fun K hK=>wR 5 ?_;refine aY ah 3 [] ?_;refine nK hK ?_;clear hK K;refine au ?_;refine iC (gP 13 101 2 (mF l) kR rfl) ?_;refine cr (ι:=Nat) (fun k=>[(12,.i 0),(13,.own 5),(25,N1 m l),(26,.i (l.length:Nat)),(27,.i (k:Nat))]) (fun k=>[(5,.row 101 2 k (mF l))]) (fun k=>k<=l.length) (fun k=>l.length- k) 0 (Nat.zero_le _) ?_ ?_;·refine aC (sl:=[(5,Ob.row 101 2 0 (mF l))]) [(5,500013)] (.cons kR (.cons kR (.cons kR (.cons kR (.cons kR .nil))))) (.cons oS .nil) kR kR
 intro k hk1;refine sK fun K hK=>wR 2 ?_;refine aY ah 1 [] ?_;refine nK hK ?_;clear hK K;refine sK fun K hK=> ?_;refine av (t:=decide ((↑k:Int)< (↑(List.length l):Int))) kR (fun c1=> ?_) (fun c1=> ?_)
 ·have hkl:k< l.length:=by have h:=of_decide_eq_true c1;omega
  refine ak ?_;refine ai (hK _ ?_);clear hK K;refine sK fun K hK=> ?_;refine au ?_;refine sK fun K hK=>wR 3 ?_;refine aY ah 4 [(0,.c ((0:Int)<=(↑k:Int)/\(↑k:Int)< (↑(List.length l):Int)) oM),(2,.c ((0:Nat)+(3:Nat)<=(3:Nat)) oM)] ?_;refine nK hK ?_;clear hK K;refine wR 4 (aX ah 6 [(2,.c ((0:Nat)<=(3:Nat))),(4,.r (PR.mk (some (35:Nat)) (some (k+1<=(1099511627776:Nat))) (V.own 300035) [((5:Nat),none),((300035:Nat),some (Ob.row 101 2 (k+1) (aE k (mF l) fun(i:Nat)=>List.take (2:Nat) (List.drop (i*2) [V.i (Prod.fst (List.getD l k vG)),V.i (Prod.fst (Prod.snd (List.getD l k vG)))]))))] false))] ⟨oM,oM,tI⟩ (aa (bL (ai (hK _ ?_)))));clear hK K;refine wR 5 ?_;refine aY ah 2 [(0,.c (iR ((↑k:Int)+1)) oM)] ?_;refine aa (ai ?_);refine⟨k+1,by omega,?_,by omega⟩;refine aC (tl:=[(12,V.i 0),(13,V.own 5),(25,V.sl 3 (List.length l) (jb m l)),(26,V.i (↑(List.length l):Int)),(27,V.i (↑(k+1):Int))]) (sl:=[(5,Ob.row 101 2 (k+1) (mF l))]) [(5,300035)] (.cons kR (.cons kR (.cons kR (.cons kR (.cons kR .nil))))) (.cons ⟨Ob.row 101 2 (k+1) (aE k (mF l) fun(i:Nat)=>List.take (2:Nat) (List.drop (i*2) [V.i (Prod.fst (List.getD l k vG)),V.i (Prod.fst (Prod.snd (List.getD l k vG)))])),kR,.row kR ?_⟩ .nil) kR kR;·exact de (fun _ _=>rfl) rfl
 ·obtain rfl:k=l.length:=by have h:=of_decide_eq_false c1;omega
  refine bg ?_;refine bO ?_;refine bO ?_;refine bC ?_;refine ai ?_;clear hK K;refine hK _ ?_;clear hK K;refine sK fun K hK=>wR 3 ?_;refine aY ah 4 [] ?_;refine nK hK ?_;clear hK K;refine ay ?_;refine fh [(0,5)] [(8,V.own 0),(9,V.i 0)] (.inr rfl) (.cons kR (.cons kR .nil)) (.cons oS .nil) kR kR kR kR
theorem B5(S:Sh)(hn:S.n<=200)(hk:eZ S)(A B:Nat->Nat)(m:Nat)(hm:m<=16)(hA:jw S m A)(hB:jw S m B)(sd:Bool)(hs:ux)(hhl:hs.length<=200)(hhs:∀i,i< hs.length->(hs.getD i (0,false)).1< m) :
 AC Tryz.prog 42 [iw S,ke A B m,.i (i9 sd),DX hs] (.tup [.sl 2 (iF S (gj sd A B) m hs).length (mF (iF S (gj sd A B) m hs)),.i 0]) []:=
 AC.jZ (e:=101) (sz:=2) (n:=(iF S (gj sd A B) m hs).length) (row:=mF (iF S (gj sd A B) m hs)) (v:= .tup [.own 0,.i 0]) (y5 S hn hk A B m hm hA hB sd hs hhl hhs) rfl (fun _ _=>rfl) (fun _=>rfl) rfl rfl
def MS(x:Sh×(Nat->Int×Int)):Prop:=(∀i k,i<=k->k< x.1.q->(x.2 i).2<=(x.2 k).2)/\∀k,k< x.1.q->(x.2 k).2<=x.1.n
theorem Me(S:Sh)(a:Act):S.n<=(bz S a).1.n:= fN (fun x=>S.n<=x.1.n) (fun _ _=>Nat.le_refl _) (fun _ _=>Nat.le_succ _) (fun _ _ _=>Nat.le_refl _) (fun _ _ _ _ _ _=>Nat.le_succ _) (fun _ _ _ _=>Nat.le_refl _) (fun _ _ _ _ _ _=>Nat.le_refl _) (fun _ _ _ _=>Nat.le_refl _)
theorem GZ{S:Sh}{g:Nat->Int×Int}(h:MS (S,g))(a:Act):MS (iO (S,g) a):=by
  obtain⟨h1,h2⟩:=h
  have h1:∀i k,i<=k->k< S.q->(g i).2<=(g k).2:=h1
  have h2:∀k,k< S.q->(g k).2<=S.n:=h2
  have hn:=Me S a
  obtain⟨f1,_,f3⟩:=rZ S a
  unfold iO
  simp only
  by_cases c:(bz S a).2.2≠0
  · rw [if_pos c]
    refine⟨fun i k hik hk=>h1 i k hik (by rw [<-f3 (.inl c)];exact hk),fun k hk=> ?_⟩
    have:=h2 k (by rw [<-f3 (.inl c)];exact hk)
    show(g k).2<=((bz S a).1.n:Int)
    omega
  rw [if_neg c]
  by_cases k4:a.kind=4
  · rw [if_pos k4]
    have hq:=(f1 oM k4).2
    have e1:∀k,k< S.q->fT g S.q (a.plate,((bz S a).1.n:Int)) k=g k:=fun k hk=>by unfold fT;rw [if_pos hk]
    have e2:fT g S.q (a.plate,((bz S a).1.n:Int)) S.q=(a.plate,((bz S a).1.n:Int)):=by unfold fT;rw [if_neg (Nat.lt_irrefl _)]
    have h3:∀k,k< S.q+1->(fT g S.q (a.plate,((bz S a).1.n:Int)) k).2<=((bz S a).1.n:Int):=fun k hk=>by
      by_cases c:k< S.q
      · rw [e1 k c];have:=h2 k c;omega
      · obtain rfl:k=S.q:=by omega
        rw [e2];exact Int.le_refl _
    refine⟨fun i k hik hk=> ?_,fun k hk=>h3 k (by rw [<-hq];exact hk)⟩
    have hk:k< S.q+1:=by rw [<-hq];exact hk
    show(fT g S.q (a.plate,((bz S a).1.n:Int)) i).2<=(fT g S.q (a.plate,((bz S a).1.n:Int)) k).2
    by_cases c:k< S.q
    · rw [e1 k c,e1 i oM];exact h1 i k hik c
    · obtain rfl:k=S.q:=by omega
      rw [e2]
      exact h3 i oM
  · have hq:=f3 (.inr k4)
    rw [if_neg k4]
    have key:∀g':Nat->Int×Int,(∀i,(g' i).2=(g i).2)->MS ((bz S a).1,g'):=fun g' hg=>by
      refine⟨fun i k hik hk=> ?_,fun k hk=> ?_⟩
      · have hk:k< S.q:=by rw [<-hq];exact hk
        show(g' i).2<=(g' k).2
        rw [hg,hg];exact h1 i k hik hk
      · have hk:k< S.q:=by rw [<-hq];exact hk
        have:=h2 k hk
        show(g' k).2<=((bz S a).1.n:Int)
        rw [hg];omega
    split
    · refine key _ fun i=> ?_
      by_cases c:i=a.flaw.toNat
      · simp only [if_pos c]
      · simp only [if_neg c]
    · exact key _ fun _=>rfl
theorem GX{x:Sh×(Nat->Int×Int)}(i:MS x):∀l,MS (ki x l):=by
 intro l;induction l generalizing x with
 |nil=>exact i
 |cons a l ih=>exact ih (x:=iO x a) (GZ i a)
theorem Gs(r:Rc)(g:Nat->Int×Int):MS (bS r,g):=⟨fun _ k _ hk=>absurd hk (Nat.not_lt_zero _),fun k hk=>absurd hk (Nat.not_lt_zero _)⟩
theorem xp{S:Sh}{X N N':Nat}{f f':Int}(h:D3 S X N f)(h':D3 S X N' f')(hp:vT S)(hN:N<=N'):∀b j,j< b->j< S.n->(S.pl j).fl f'=true->(S.pl j).fl f=true
 |0,j,hb,_,_=>absurd hb (Nat.not_lt_zero _)
 |b+1,j,hb,hj,ht=>by
  by_cases hx:j=X;·subst hx;exact h.fx
  rw [h'.st j hj hx]at ht;rw [h.st j hj hx];have h1:=(hp j hj).1;by_cases c0:(S.pl j).par< 0;·rw [if_pos c0]at ht;cases ht
  ·rw [if_neg c0]at ht ⊢;by_cases c1:(S.pl j).par=X;·rw [if_pos c1]at ht ⊢;have:=of_decide_eq_true ht;exact decide_eq_true oM
   ·rw [if_neg c1]at ht ⊢;exact xp h h' hp hN b _ oM oM ht
theorem qn{g:Nat->Bool}{m d:Nat}(hd:d< m):(((d:Int)+1)∈f7 g m)<->g d=true:=by
  induction m with
  |zero=>omega
  |succ m ih=>
    have hb:∀k,∀x∈f7 g k,x<=k:=fun k=>by
      induction k with
      |zero=>intro x hx;cases hx
      |succ k ihk=>
        intro x hx
        cases hg:g k with
        |true=>
          rw [lZ hg,List.mem_append]at hx
          rcases hx with hx |hx
          · have:=ihk x hx;omega
          · simp at hx;omega
        |false=>rw [nu hg]at hx;have:=ihk x hx;omega
    rcases Nat.lt_or_ge d m with hlt |hge
    · cases hg:g m with
      |true=>
       rw [lZ hg,List.mem_append,ih hlt];constructor
       · rintro(h |h)
         · exact h
         · simp at h;omega
       · exact .inl
      |false=>rw [nu hg];exact ih hlt
    · obtain rfl:d=m:=by omega
      cases hg:g d with
      |true=>rw [lZ hg,List.mem_append];simp
      |false=>
        rw [nu hg]
        constructor
        · intro h;have:=hb d _ h;omega
        · intro h;cases h
theorem Eh{S:Sh}{T:Nat->Nat}{m:Nat}{c c':j7}(h:c∈gk S T m)(h':c'∈gk S T m)(e1:c'.1=c.1)(e2:c'.2.1=c.2.1):c'=c:=by
 rcases qG.1 h with⟨i,hi,hp⟩ | ⟨k,hk,rfl⟩
 ·rcases qG.1 h' with⟨i',hi',hp'⟩ | ⟨k',hk',rfl⟩
  ·obtain⟨q1,hp⟩:=lH hp;obtain⟨q1',hp'⟩:=lH hp';obtain rfl:i'=i:=by omega
   rcases hp with⟨h3,k,hk,hu,rfl⟩ | ⟨h3,k,hk,hik,hpar,rfl⟩
   ·rcases hp' with⟨_,k',hk',hu',rfl⟩ | ⟨h3',_⟩
    ·have e2:(k':Int)+1=(k:Int)+1:=e2;obtain rfl:k'=k:=by omega
     rfl
    ·exact absurd h3 h3'
   ·rcases hp' with⟨h3',_⟩ | ⟨_,k',hk',_,_,rfl⟩;·exact absurd h3' h3
    ·have e2:(k':Int)=(k:Int):=e2;obtain rfl:k'=k:=by omega
     rfl
  ·have q1:=(lH hp).1;have e1:(-1:Int)=c.1:=e1;omega
 ·rcases qG.1 h' with⟨i',hi',hp'⟩ | ⟨k',hk',rfl⟩;·have q1:=(lH hp').1;have e1:c'.1=(-1:Int):=e1;omega
  ·have e2:(k':Int)+1=(k:Int)+1:=e2;obtain rfl:k'=k:=by omega
   rfl
theorem C7{S:Sh}{T:Nat->Nat}{m:Nat}{c:j7}(h:c∈gk S T m):ry (gk S T m) m c.1 c.2.1=(f7 c.2.2 m,0):= IM ⟨c,h,by simp [sR]⟩ fun c' h' hm i _=>by
 have:c'.1=c.1/\c'.2.1=c.2.1:=by simpa [sR]using hm
 rw [Eh h h' this.1 this.2]
end Go.Proofs.YtjmbpjlojjgggaaGreatDoor
