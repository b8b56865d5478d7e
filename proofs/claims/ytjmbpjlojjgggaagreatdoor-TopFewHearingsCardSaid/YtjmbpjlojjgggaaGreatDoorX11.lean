/-
  Several texts in one: Listening: the causes left after some hearings. Walk. Conditions: told in each theorem. .. TopLater in plain Lean: the later of two flaws of a plate is on no plate that does not have the earlier one. Conditions: told in each theorem.
-/
import Derived.Test.YtjmbpjlojjgggaaGreatDoorAbs42
import Derived.Test.YtjmbpjlojjgggaaGreatDoorX00
import Derived.Test.YtjmbpjlojjgggaaGreatDoorX10
import Derived.Test.YtjmbpjlojjgggaaGreatDoorX09
import Derived.Test.YtjmbpjlojjgggaaGreatDoorX03
set_option maxRecDepth 100000
set_option maxHeartbeats 4000000
namespace Go.Proofs.YtjmbpjlojjgggaaGreatDoor
open Go.Ab Go.RowKit Go.Dw Go.Shelf
abbrev kq:=List (Nat×Bool)
def t7(hs:kq)(i:Nat):List V:=[.i (((hs.getD i (0,false)).1:Nat)+1:Int),.b (hs.getD i (0,false)).2]
def yX(hs:kq):V:= .sl 2 hs.length (t7 hs)
def Ec(hs:kq)(c:dK):Bool:=hs.all fun h=>c.2.2 h.1 == h.2
def fW(m:Nat)(l:List dK)(j:Nat):List V:=[.i (l.getD j (0,0,fun _=>false)).1,.i (l.getD j (0,0,fun _=>false)).2.1,.sl 1 m (dn (l.getD j (0,0,fun _=>false)).2.2)]
def zY(hs:kq)(n j:Nat):List V:=[.i (if j< n then((hs.getD j (0,false)).1:Int)else 0)]
def Qc(hs:kq)(j:Nat):List V:=[.i ((hs.getD j (0,false)).1:Int)]
def kf(cs:List dK)(hs:kq)(k:Nat):List dK:=(cs.take k).filter (Ec hs)
theorem OU{cs:List dK}{hs:kq}{k:Nat}{c:dK}(hc:cs[k]?=some c)(h:Ec hs c=true):kf cs hs (k+1)=kf cs hs k++[c]:=by unfold kf;rw [List.take_add_one,hc,List.filter_append];simp [h]
theorem OT{cs:List dK}{hs:kq}{k:Nat}{c:dK}(hc:cs[k]?=some c)(h:Ec hs c=false):kf cs hs (k+1)=kf cs hs k:=by unfold kf;rw [List.take_add_one,hc,List.filter_append];simp [h]
theorem KB{m:Nat}{l:List dK}{c:dK}{j:Nat}(hj:j< l.length):fW m (l++[c]) j=fW m l j:=by unfold fW;rw [List.getD_eq_getElem?_getD,List.getElem?_append_left hj,<-List.getD_eq_getElem?_getD]
theorem Nt{m:Nat}{l:List dK}{c:dK}:fW m (l++[c]) l.length=[.i c.1,.i c.2.1,.sl 1 m (dn c.2.2)]:=by unfold fW;rw [List.getD_eq_getElem?_getD,List.getElem?_append_right (Nat.le_refl _),Nat.sub_self];rfl
theorem O2{hs:kq}{c:dK}(h:∀i,i< hs.length->c.2.2 (hs.getD i (0,false)).1=(hs.getD i (0,false)).2):Ec hs c=true:=by unfold Ec;refine List.all_eq_true.2 fun x hx=> ?_;obtain⟨i,hi,rfl⟩:=List.getElem_of_mem hx;have:=h i hi;rw [List.getD_eq_getElem?_getD,List.getElem?_eq_getElem hi]at this;simpa using this
theorem O1{hs:kq}{c:dK}{i:Nat}(hi:i< hs.length)(h:c.2.2 (hs.getD i (0,false)).1≠(hs.getD i (0,false)).2):Ec hs c=false:=by
 cases hb:Ec hs c with
 |false=>rfl
 |true=>unfold Ec at hb;have:=List.all_eq_true.1 hb _ (List.getElem_mem hi);rw [List.getD_eq_getElem?_getD,List.getElem?_eq_getElem hi]at h;exact absurd (by simpa using this) h
theorem J3(cs:List dK)(hs:kq)(k:Nat):(kf cs hs k).length<=cs.length:=by unfold kf;refine Nat.le_trans (List.length_filter_le _ _) ?_;rw [List.length_take];omega
theorem Ge{α:Type}(f:Nat->List α)(b:Nat)(h:∀i,(f i).length<=b)(n:Nat):((List.range n).flatMap f).length<=n*b:=by
 induction n with
 |zero=>simp
 |succ n ih=>rw [List.range_succ,List.flatMap_append,List.length_append,Nat.succ_mul];have:=h n;rw [show [n].flatMap f=f n by simp];omega
theorem wA{S:Sh}(hn:S.n<=200)(T:Nat->Nat){m:Nat}(hm:m<=16):(gk S T m).length<=40016:=by
 unfold gk;rw [List.length_append,List.length_map,List.length_range];have:=Ge (k7 S T m) 200 (fun i=>by
  unfold k7;split;·exact Nat.le_trans (List.length_filterMap_le _ _) (by rw [List.length_range];omega)
  ·exact Nat.le_trans (List.length_filterMap_le _ _) (by rw [List.length_range];exact hn)) S.n
 have h2:S.n*200<=200*200:=Nat.mul_le_mul_right _ hn;omega
theorem GW(S:Sh)(hn:S.n<=200)(hk:dh S)(A B:Nat->Nat)(m:Nat)(hm:m<=16)(hA:eU S m A)(hB:eU S m B)(sd:Bool)(hs:kq)(hhl:hs.length<=200)(hhs:∀i,i< hs.length->(hs.getD i (0,false)).1< m)(cs:List dK)(hcs:cs=gk S (dJ sd A B) m) : AC Tryz.prog 92 [fD S,gS A B m,.i (iH sd),yX hs] (.tup [dm S (dJ sd A B) m,.own 0,.i 0]) [.row 187 3 (kf cs hs cs.length).length (fW m (kf cs hs cs.length))]:=by
 have hT:∀i,i< m->dJ sd A B i< S.n:=fun i hi=>by unfold dJ;split;exact(hB i hi).1;exact(hA i hi).1
 have hcl:cs.length<=40016:=by rw [hcs];exact wA hn _ hm
 obtain⟨T,hTe⟩:∃T,T=dJ sd A B:=⟨_,rfl⟩;have AR:=pL S hn hk A B m hm hA hB sd;rw [<-hTe]at hT hcs AR ⊢;refine ff ah b9 Tryz.func92 Tryz.ntmps92 fun C hC hF=> ?_;refine sX ah 2 4 [] tI ?_;refine wQ ?_;refine sK fun K hK=>wR 3 (aX ah 3 [] tI ?_);refine eC (AR) ?_;refine aX ah 5 [] tI (nK hK ?_);clear hK K;refine sK fun K hK=>sX ah 4 2 [] tI (aB (t:=false) kR rfl ?_);refine ak ?_;refine aj (hK _ ?_);clear hK K;refine sK fun K hK=>sX ah 5 3 [] tI ?_;refine av (t:=decide ((200:Int)< (↑(List.length hs):Int))) kR (fun c0=> ?_) (fun c0=> ?_);·exfalso;have h:=of_decide_eq_true c0;omega
 refine ak ?_;refine aj (hK _ ?_);clear hK K;refine sX ah 6 5 [(2,.r (PR.mk (some (37:Nat)) (some ((0:Int)<=(↑(List.length hs):Int)/\(↑(List.length hs):Int)<=(↑(List.length hs):Int)/\(↑(List.length hs):Int)<=1099511627776)) (V.own (500037:Nat)) [((500037:Nat),some (Ob.row (3:Nat) (1:Nat) (List.length hs) fun(x:Nat)=>[V.c (Value.int IntKind.i64 (0:Int))]))] false)),(3,.r (pn (13:Nat) (V.ref (500013:Nat) (0:Nat)) (500013:Nat) (Ob.box (69:Nat) [V.nil]))),(4,.r (pw ((0:Nat)+(1:Nat)<=(1:Nat)) (500013:Nat) (Ob.box (69:Nat) [V.own (500037:Nat)])))] ⟨⟨oM,oM⟩,oM,tI⟩ (sK fun K hK=>sX ah 7 3 [] tI ?_);refine aq ?_;refine b8 (ι:=Nat) (fun k=>[(7,.ptr [yX hs]),(11,dm S T m),(13,.ref 5 0),(38,yX hs),(39,.i (hs.length:Nat)),(40,.i (k:Nat))]) (fun k=>[(5,.box 69 [.own 6]),(6,.row 3 1 hs.length (zY hs k))]) (fun k=>k<=hs.length) (fun k=>hs.length- k) 0 (Nat.zero_le _) ?_ ?_;·refine aA (sl:=[(5,Ob.box (69:Nat) [V.own (6:Nat)]),(6,Ob.row (3:Nat) (1:Nat) (List.length hs) (zY hs (0:Nat)))]) [(5,500013),(6,500037)] (.cons kR (.cons kR (.cons kR (.cons kR (.cons kR (.cons kR .nil)))))) (.cons oS (.cons oS .nil)) kR kR
 intro k hk1;refine sX ah 2 1 [] tI (sK fun K hK=> ?_);refine av (t:=decide ((↑k:Int)< (↑(List.length hs):Int))) kR (fun c1=> ?_) (fun c1=> ?_)
 ·have hkl:k< hs.length:=by have h:=of_decide_eq_true c1;omega
  have hkm:=hhs k hkl;refine ak ?_;refine aj (hK _ ?_);clear hK K;refine sK fun K hK=> ?_;refine aq ?_;refine sX ah 3 6 [(1,.c ((0:Int)<=(↑k:Int)/\(↑k:Int)< (↑(List.length hs):Int))),(3,.r (pn (15:Nat) (V.ref (200015:Nat) (0:Nat)) (200015:Nat) (Ob.box (111:Nat) [V.i (0:Int),V.b false]))),(5,.r (pw ((0:Nat)+(2:Nat)<=(2:Nat)) (200015:Nat) (Ob.box (111:Nat) [V.i ((↑(Prod.fst (List.getD hs k ((0:Nat),false))):Int)+1),V.b (Prod.snd (List.getD hs k ((0:Nat),false)))])))] ⟨oM,oM,tI⟩ (sK fun K hK=>wD 4 (aX ah 6 [(5,.c ((0:Nat)<=(2:Nat)))] ⟨oM,tI⟩ ?_));refine eC (zy m (hs.getD k (0,false)).1 hm hkm) ?_;refine aY ah 5 [] ?_;refine aa ⟨kR,(aj (hK _ ?_))⟩;clear hK K;refine sK fun K hK=>sK fun K hK=>wR 5 ?_;refine au ah (M:=[]) (n:=2) [pv (55:Nat) (V.b true),pv (56:Nat) (V.b false)] kR kR tI ?_;refine nK hK ?_;clear hK K;refine aB (t:=false) kR rfl ?_;refine ak ?_;refine aj (hK _ ?_);clear hK K;refine wR 6 ?_;refine aY ah 5 [(0,.c ((0:Nat)<=(1:Nat)) oM),(2,.c ((0:Int)<=(↑k:Int)/\(↑k:Int)< (↑(List.length hs):Int)) oM),(0,.c (k< List.length hs/\(0:Nat)+(1:Nat)<=(1:Nat)) oM)] ?_;refine aa (bG (aj (hK _ ?_)));clear hK K;refine wR 7 ?_;refine aY ah 2 [(0,.c (iR ((↑k:Int)+1)) oM)] ?_;refine aa (aj ?_);refine⟨k+1,by omega,?_,by omega⟩;refine aA (tl:=[(7,V.ptr [V.sl (2:Nat) (List.length hs) (t7 hs)]),(11,V.ptr [V.sl (7:Nat) (Sh.n S) fun(i:Nat)=>Pl.c (Sh.pl S i),V.sl (1:Nat) m cK,V.sl (1:Nat) m (jr T)]),(13,V.ref (5:Nat) (0:Nat)),(38,V.sl (2:Nat) (List.length hs) (t7 hs)),(39,V.i (↑(List.length hs):Int)),(40,V.i (↑(k+1):Int))]) (sl:=[(5,Ob.box (69:Nat) [V.own (6:Nat)]),(6,Ob.row (3:Nat) (1:Nat) (List.length hs) (zY hs (k+1)))]) [(5,5),(6,6)] (.cons kR (.cons kR (.cons kR (.cons kR (.cons kR (.cons kR .nil)))))) (.cons oS (.cons ⟨Ob.row (3:Nat) (1:Nat) (List.length hs) fun(j:Nat)=>if j=k then [V.i (↑(Prod.fst (List.getD hs k ((0:Nat),false))):Int)]else zY hs k j,kR,.row kR ?_⟩ .nil)) kR kR
  ·intro j _;by_cases h:j=k;·subst h;simp only [if_pos];show _=[V.i (if j< j+1 then _ else _)];rw [if_pos (Nat.lt_succ_self j)]
   ·rw [if_neg h];show [V.i (if j< k then _ else _)]=[V.i (if j< k+1 then _ else _)]
    by_cases h2:j< k;·rw [if_pos h2,if_pos oM]
    ·rw [if_neg h2,if_neg oM]
 obtain rfl:k=hs.length:=by have h:=of_decide_eq_false c1;omega
 clear c1;refine gF (xO (tl:=[(7,.ptr [yX hs]),(11,dm S T m),(13,.ptr [.sl 1 hs.length (Qc hs)])]) ?_) ?_;·exact⟨Fz.b5 _ rfl,Fz.b5 _ rfl,Fz.refs (t:=69) (cs:=[.own 6]) rfl ⟨Fz.rows (e:=3) (sz:=1) (r:=zY hs hs.length) rfl fun j hj=>by rw [show zY hs hs.length j=Qc hs j by unfold zY;rw [if_pos hj];rfl];exact iG.b5 rfl,trivial⟩,trivial⟩
 refine aP ?_;refine bK ?_;refine bK ?_;refine bu ?_;refine aj ?_;clear hK K;refine hK _ ?_;clear hK K;refine yS ah 3 1 [] ?_;refine sK fun K hK=> ?_;refine wO ?_;refine aj (hK _ ?_);clear hK K;refine sK fun K hK=>sK fun K hK=>wR 4 ?_;refine aY ah 1 [] ?_;refine eC (Bs S T m) ?_;refine nK hK ?_;clear hK K;refine aq ?_;have it:=E4 S hn hk T m hm hT;rw [Bt,<-hcs]at it;refine gF (fP 200018 0 187 3 (fW m (kf cs hs 0)) (t:=190) (cs:=[.nil]) kR rfl kR kR) ?_;refine sF (caps:=[.ptr [dm S T m]]) [] hF [501] [0] [(501,200018),(0,400000)] (fun _ _ h=>by rw [hC]at h;cases h) it kR kR rfl (by simp) (fun i k o h=>by simp at h) BI kR
  [(7,.ptr [yX hs]),(11,dm S T m),(13,.ptr [.sl 1 hs.length (Qc hs)]),(18,.ref 501 0)] (fun k=>k<=cs.length) (fun k=>[.box 190 [.own 0],.row 187 3 (kf cs hs k).length (fW m (kf cs hs k))]) (fun _ _ _=>False) (Nat.zero_le _) kR kR kR kR ⟨by show _=_;kernel_rfl,by show _=_;kernel_rfl,by show _=_;kernel_rfl,by show _=_;kernel_rfl,trivial⟩
  ⟨⟨.box 190 [.own 400000],kR,rfl,rfl⟩,⟨.row 187 3 0 (fW m (kf cs hs 0)),kR,rfl,rfl,rfl,fun _ h=>absurd h (Nat.not_lt_zero _)⟩,trivial⟩ kR ?hdis ?round ?done ?stop
 case hdis=>intro p hp;simp
 case round=>
  rintro C' ⟨lx,hF'⟩ k x hx hk0
  rw [List.getElem?_map,Option.map_eq_some_iff]at hx
  obtain⟨c,hc,rfl⟩:=hx
  have hkc:k< cs.length:=(List.getElem?_eq_some_iff.1 hc).1
  refine wR 2 ?_;refine aY ah 2 [(1,.c ((0:Nat)+(3:Nat)<=(3:Nat)) oM)] ?_;refine aa (aj ?_)
  refine aq ?_
  refine sK fun K hK=>yS ah 3 3 [] ?_
  refine aq ?_
  refine gF (cz (t:=(187:Nat)) (cs:=[V.i (Prod.fst c),V.i (Prod.fst (Prod.snd c)),V.sl (1:Nat) m (dn (Prod.snd (Prod.snd c)))]) 100019 kR kR) ?_
  refine b8 (ι:=Nat) (fun j=>[(7,.ptr [yX hs]),(11,dm S T m),(13,.ptr [.sl 1 hs.length (Qc hs)]),(18,.ref 501 0),(19,.ptr [.i c.1,.i c.2.1,.sl 1 m (dn c.2.2)]),(65,yX hs),(66,.i (hs.length:Nat)),(67,.i (j:Nat))]) (fun _=>[(501,.box 190 [.own 0]),(0,.row 187 3 (kf cs hs k).length (fW m (kf cs hs k)))]) (fun j=>j<=hs.length/\∀i,i< j->c.2.2 (hs.getD i (0,false)).1=(hs.getD i (0,false)).2) (fun j=>hs.length- j) 0 ⟨Nat.zero_le _,fun i hi=>absurd hi (Nat.not_lt_zero _)⟩ ?_ ?_
  ·refine aA (sl:=[(501,Ob.box (190:Nat) [V.own (0:Nat)]),(0,Ob.row (187:Nat) (3:Nat) (List.length (kf cs hs k)) (fW m (kf cs hs k)))]) [(0,0)] (.cons kR (.cons kR (.cons kR (.cons kR (.cons kR (.cons kR (.cons kR (.cons kR .nil)))))))) (.cons oS (.cons oS .nil)) kR kR
  rintro j ⟨hj1,hj2⟩
  refine yS ah 2 1 [] ?_;refine sK fun K hK=> ?_
  refine av (t:=decide ((↑j:Int)< (↑(List.length hs):Int))) kR (fun d1=> ?_) (fun d1=> ?_)
  ·have hjl:j< hs.length:=by have h:=of_decide_eq_true d1;omega
   have hjm:=hhs j hjl;refine ak ?_;refine aj (hK _ ?_);clear hK K;refine sK fun K hK=> ?_;refine aq ?_;refine yS ah 3 6 [(1,.c ((0:Int)<=(↑j:Int)/\(↑j:Int)< (↑(List.length hs):Int)) oM),(3,.c ((0:Nat)+(2:Nat)<=(2:Nat)) oM)] ?_;refine sK fun K hK=>wD 4 ?_;refine aY ah 11 [(4,.c ((0:Int)<=(↑j:Int)/\(↑j:Int)< (↑(List.length hs):Int)) oM),(1,.c ((0:Int)<=(↑(Prod.fst (List.getD hs j ((0:Nat),false))):Int)/\(↑(Prod.fst (List.getD hs j ((0:Nat),false))):Int)< (↑m:Int)) oM),(2,.c ((1:Nat)<=(2:Nat)) oM)] ?_;refine aa ⟨kR,(aj (hK _ ?_))⟩;clear hK K;refine av (t:= !Prod.snd (Prod.snd c) (Prod.fst (List.getD hs j ((0:Nat),false))) == Prod.snd (List.getD hs j ((0:Nat),false))) kR (fun d2=> ?_) (fun d2=> ?_)
   ·have hno:c.2.2 (hs.getD j (0,false)).1≠(hs.getD j (0,false)).2:=by simpa using d2
    have hok:=O1 hjl hno;refine aP ?_;refine Iy rfl ?_;refine bK ?_;refine bK ?_;refine Iy rfl ?_;refine bK ?_;refine bu ?_;refine⟨hkc,?_⟩;show Le _ ⟨fun _=> .any,dw [(501,.box 190 [.own 0]),(0,.row 187 3 (kf cs hs (k+1)).length (fW m (kf cs hs (k+1))))],1⟩;rw [OT hc hok];refine aA (sl:=[(501,Ob.box (190:Nat) [V.own (0:Nat)]),(0,Ob.row (187:Nat) (3:Nat) (List.length (kf cs hs k)) (fW m (kf cs hs k)))]) [(0,0)] .nil (.cons oS (.cons oS .nil)) kR kR
   ·have hyes:c.2.2 (hs.getD j (0,false)).1=(hs.getD j (0,false)).2:=by simpa using d2
    refine ak ?_;refine bG (aj (hK _ ?_));clear hK K;refine wR 5 ?_;refine aY ah 2 [(0,.c (iR ((↑j:Int)+1)) oM)] ?_;refine aa (aj ?_);refine⟨j+1,⟨by omega,fun i hi=> ?_⟩,?_,by omega⟩
    ·rcases Nat.lt_or_ge i j with h |h;·exact hj2 i h
     ·obtain rfl:i=j:=by omega
      exact hyes
    ·refine aA (sl:=[(501,Ob.box (190:Nat) [V.own (0:Nat)]),(0,Ob.row (187:Nat) (3:Nat) (List.length (kf cs hs k)) (fW m (kf cs hs k)))]) [(0,0)] (.cons kR (.cons kR (.cons kR (.cons kR (.cons kR (.cons kR (.cons kR (.cons kR .nil)))))))) (.cons oS (.cons oS .nil)) kR kR
  ·obtain rfl:j=hs.length:=by have h:=of_decide_eq_false d1;omega
   have hok:Ec hs c=true:=O2 hj2;have hll:=J3 cs hs k;refine aP ?_;refine bK ?_;refine bK ?_;refine bu ?_;refine aj ?_;clear hK K;refine hK _ ?_;clear hK K;refine wR 3 (aX ah 5 [(0,.c ((0:Nat)<=(1:Nat))),(3,.r (PR.mk (some (87:Nat)) (some (List.length (kf cs hs k)+1<=(1099511627776:Nat))) (V.own (200087:Nat)) [((0:Nat),none),((200087:Nat),some (Ob.row (187:Nat) (3:Nat) (List.length (kf cs hs k)+1) (aC (List.length (kf cs hs k)) (fW m (kf cs hs k)) fun(i:Nat)=>List.take (3:Nat) (List.drop (i*3) [V.i (Prod.fst c),V.i (Prod.fst (Prod.snd c)),V.sl (1:Nat) m (dn (Prod.snd (Prod.snd c)))]))))] false)),(4,.r (pw ((0:Nat)+(1:Nat)<=(1:Nat)) (501:Nat) (Ob.box (190:Nat) [V.own (200087:Nat)])))] ⟨oM,oM,oM,tI⟩ (aa (bG ?_)));refine⟨hkc,?_⟩;show Le _ ⟨fun _=> .any,dw [(501,.box 190 [.own 0]),(0,.row 187 3 (kf cs hs (k+1)).length (fW m (kf cs hs (k+1))))],1⟩;rw [OU hc hok,List.length_append];refine aA (sl:=[(501,Ob.box (190:Nat) [V.own (0:Nat)]),(0,Ob.row (187:Nat) (3:Nat) (List.length (kf cs hs k)+1) (fW m (kf cs hs k++[c])))]) [(0,200087)] .nil (.cons oS (.cons ⟨Ob.row (187:Nat) (3:Nat) (List.length (kf cs hs k)+1) (aC (List.length (kf cs hs k)) (fW m (kf cs hs k)) fun(i:Nat)=>List.take (3:Nat) (List.drop (i*3) [V.i (Prod.fst c),V.i (Prod.fst (Prod.snd c)),V.sl (1:Nat) m (dn (Prod.snd (Prod.snd c)))])),kR,.row kR ?_⟩ .nil)) kR kR;·exact cN (fun j hj=>(KB hj).symm) Nt.symm
 case done=>
  intro hk0
  rw [List.length_map]
  refine bG (aj (hK _ ?_));clear hK K;refine sK fun K hK=>wD 2 ?_;refine aY ah 5 [(1,.c ((0:Nat)<=(1:Nat)) oM)] ?_;refine aa ⟨kR,(aj (hK _ ?_))⟩;clear hK K
  refine ax ?_
  refine Rj ?_
  refine eJ [(0,0)] [(8,V.ptr [V.sl (7:Nat) (Sh.n S) fun(i:Nat)=>Pl.c (Sh.pl S i),V.sl (1:Nat) m cK,V.sl (1:Nat) m (jr T)]),(9,V.own (0:Nat)),(10,V.i (0:Int))] (.inr rfl) (.cons kR (.cons kR (.cons kR .nil))) (.cons oS .nil) kR kR kR kR
 case stop=>intro k c sx _ hf;exact hf.elim
def cr(S:Sh)(T:Nat->Nat)(m:Nat)(hs:kq):List dK:=(gk S T m).filter (Ec hs)
def sB(m:Nat)(l:List dK):V:= .sl 3 l.length (fW m l)
theorem J1(S:Sh)(T:Nat->Nat)(m:Nat)(hs:kq):kf (gk S T m) hs (gk S T m).length=cr S T m hs:=by unfold kf cr;rw [List.take_length]
theorem nr{S:Sh}(hn:S.n<=200)(T:Nat->Nat){m:Nat}(hm:m<=16)(hs:kq):(cr S T m hs).length<=40016:=Nat.le_trans (List.length_filter_le _ _) (wA hn T hm)
theorem vB(S:Sh)(hn:S.n<=200)(hk:dh S)(A B:Nat->Nat)(m:Nat)(hm:m<=16)(hA:eU S m A)(hB:eU S m B)(sd:Bool)(hs:kq)(hhl:hs.length<=200)(hhs:∀i,i< hs.length->(hs.getD i (0,false)).1< m) : AC Tryz.prog 92 [fD S,gS A B m,.i (iH sd),yX hs] (.tup [dm S (dJ sd A B) m,sB m (cr S (dJ sd A B) m hs),.i 0]) []:=by have h:=GW S hn hk A B m hm hA hB sd hs hhl hhs _ rfl;rw [J1]at h;exact AC.iQ (e:=187) (sz:=3) (n:=(cr S (dJ sd A B) m hs).length) (row:=fW m (cr S (dJ sd A B) m hs)) (v:= .tup [dm S (dJ sd A B) m,.own 0,.i 0]) h rfl (fun _ _=>rfl) (fun _=>rfl) rfl rfl
def vv(l:List dK)(j:Nat):List V:=[.i (l.getD j (0,0,fun _=>false)).1,.i (l.getD j (0,0,fun _=>false)).2.1]
abbrev vW:=((0:Int),(0:Int),fun(x:Nat)=>false)
theorem zC(S:Sh)(hn:S.n<=200)(hk:dh S)(A B:Nat->Nat)(m:Nat)(hm:m<=16)(hA:eU S m A)(hB:eU S m B)(sd:Bool)(hs:kq)(hhl:hs.length<=200)(hhs:∀i,i< hs.length->(hs.getD i (0,false)).1< m) : AC Tryz.prog 42 [fD S,gS A B m,.i (iH sd),yX hs] (.tup [.own 0,.i 0]) [.row 101 2 (cr S (dJ sd A B) m hs).length (vv (cr S (dJ sd A B) m hs))]:=by
 have AL:=vB S hn hk A B m hm hA hB sd hs hhl hhs;have hll:=nr hn (dJ sd A B) hm hs;obtain⟨l,hl⟩:∃l,l=cr S (dJ sd A B) m hs:=⟨_,rfl⟩;rw [<-hl]at AL hll ⊢;refine ff ah b9 Tryz.func42 Tryz.ntmps42 fun C hC hF=> ?_;refine yS ah 2 2 [] ?_;refine sK fun K hK=>wR 3 ?_;refine aY ah 4 [] ?_;refine eC (AL) ?_;refine yN ah 7 [] hK ?_;clear hK K;refine yS ah 4 1 [] ?_;refine sK fun K hK=>yS ah 5 3 [] ?_;refine aq ?_;refine gF (fZ 13 101 2 (vv l) kR rfl) ?_;refine b8 (ι:=Nat) (fun k=>[(12,.i 0),(13,.own 5),(25,sB m l),(26,.i (l.length:Nat)),(27,.i (k:Nat))]) (fun k=>[(5,.row 101 2 k (vv l))]) (fun k=>k<=l.length) (fun k=>l.length- k) 0 (Nat.zero_le _) ?_ ?_;·refine aA (sl:=[(5,Ob.row 101 2 0 (vv l))]) [(5,500013)] (.cons kR (.cons kR (.cons kR (.cons kR (.cons kR .nil))))) (.cons oS .nil) kR kR
 intro k hk1;refine yS ah 2 1 [] ?_;refine sK fun K hK=> ?_;refine av (t:=decide ((↑k:Int)< (↑(List.length l):Int))) kR (fun c1=> ?_) (fun c1=> ?_)
 ·have hkl:k< l.length:=by have h:=of_decide_eq_true c1;omega
  refine ak ?_;refine aj (hK _ ?_);clear hK K;refine sK fun K hK=> ?_;refine aq ?_;refine yS ah 3 4 [(0,.c ((0:Int)<=(↑k:Int)/\(↑k:Int)< (↑(List.length l):Int)) oM),(2,.c ((0:Nat)+(3:Nat)<=(3:Nat)) oM)] ?_;refine wR 4 (aX ah 6 [(2,.c ((0:Nat)<=(3:Nat))),(4,.r (PR.mk (some (35:Nat)) (some (k+1<=(1099511627776:Nat))) (V.own 300035) [((5:Nat),none),((300035:Nat),some (Ob.row 101 2 (k+1) (aC k (vv l) fun(i:Nat)=>List.take (2:Nat) (List.drop (i*2) [V.i (Prod.fst (List.getD l k vW)),V.i (Prod.fst (Prod.snd (List.getD l k vW)))]))))] false))] ⟨oM,oM,tI⟩ (aa (bG (aj (hK _ ?_)))));clear hK K;refine wR 5 ?_;refine aY ah 2 [(0,.c (iR ((↑k:Int)+1)) oM)] ?_;refine aa (aj ?_);refine⟨k+1,by omega,?_,by omega⟩;refine aA (tl:=[(12,V.i 0),(13,V.own 5),(25,V.sl 3 (List.length l) (fW m l)),(26,V.i (↑(List.length l):Int)),(27,V.i (↑(k+1):Int))]) (sl:=[(5,Ob.row 101 2 (k+1) (vv l))]) [(5,300035)] (.cons kR (.cons kR (.cons kR (.cons kR (.cons kR .nil))))) (.cons ⟨Ob.row 101 2 (k+1) (aC k (vv l) fun(i:Nat)=>List.take (2:Nat) (List.drop (i*2) [V.i (Prod.fst (List.getD l k vW)),V.i (Prod.fst (Prod.snd (List.getD l k vW)))])),kR,.row kR ?_⟩ .nil) kR kR;·exact cN (fun _ _=>rfl) rfl
 ·obtain rfl:k=l.length:=by have h:=of_decide_eq_false c1;omega
  refine aP ?_;refine bK ?_;refine bK ?_;refine bu ?_;refine aj ?_;clear hK K;refine hK _ ?_;clear hK K;refine yS ah 3 4 [] ?_;refine ax ?_;refine eJ [(0,5)] [(8,V.own 0),(9,V.i 0)] (.inr rfl) (.cons kR (.cons kR .nil)) (.cons oS .nil) kR kR kR kR
theorem N0(S:Sh)(hn:S.n<=200)(hk:dh S)(A B:Nat->Nat)(m:Nat)(hm:m<=16)(hA:eU S m A)(hB:eU S m B)(sd:Bool)(hs:kq)(hhl:hs.length<=200)(hhs:∀i,i< hs.length->(hs.getD i (0,false)).1< m) :
 AC Tryz.prog 42 [fD S,gS A B m,.i (iH sd),yX hs] (.tup [.sl 2 (cr S (dJ sd A B) m hs).length (vv (cr S (dJ sd A B) m hs)),.i 0]) []:=
 AC.iQ (e:=101) (sz:=2) (n:=(cr S (dJ sd A B) m hs).length) (row:=vv (cr S (dJ sd A B) m hs)) (v:= .tup [.own 0,.i 0]) (zC S hn hk A B m hm hA hB sd hs hhl hhs) rfl (fun _ _=>rfl) (fun _=>rfl) rfl rfl
structure EW(rest:Nat->Option Ob):Prop where
  lo:∀id o,rest id=some o->id< 500
  nm:∀id o,rest id=some o->∀h:Nat->Nat,eF o (o.bx h)
theorem Jw{S:Sh}{rest:Nat->Option Ob}{id:Nat}(h:id< 500):gH S rest id=rest id:=by unfold gH;rw [if_pos h]
theorem GU{tm:Nat->V}{σ rest:Nat->Option Ob}{nx nxc:Nat}{S S':Sh}{δ:List (Nat×Option Ob)}{tl:List (Nat×V)}(hR:EW rest)(hx:1<=nxc)(hn:S.n<=200)(hn':S'.n<=200)(hD:jx S S' nxc δ)(hσ:σ=bz (gH S rest) δ) (htm:∀h:Nat->Nat,h 500=500->(∀id,id< 500->h id=id)->lX (fun p=>tm p.1=p.2.bx h) tl):Bp ⟨tm,σ,nx⟩ ⟨gJ tl,gH S' rest,1⟩:=by
 subst hσ;obtain⟨N,h,h1,h2,h3,h4⟩:=hD _ (iL hn _);obtain⟨h',hh⟩:∃h':Nat->Nat,∀id,h' id=if id< 500 then id else if id< 1000 then h id else nx*100000+id:=⟨_,fun _=>rfl⟩
 have hl:∀id,id< 500->h' id=id:=fun id a=>by rw [hh,if_pos a]
 have hr:∀id,500<=id->id< 1000->h' id=h id:=fun id a b=>by rw [hh,if_neg oM,if_pos b]
 refine GV h' hn' h1 ⟨fun i j hi hi2 hj hj2 he=>h2.inj i j hi hi2 hj hj2 (by rwa [hr i hi oM,hr j hj oM]at he),?_,?_,?_,?_,?_,fun i hi=> ?_,fun i hi=> ?_⟩ (fun id o _ ho=> ?_) (fun i j hi0 hi he hj=> ?_) (fun id hid=> ?_) (htm h' (by rw [hr 500 oM oM];exact h2.s) hl);·rw [hr 500 oM oM];exact h2.s
 ·rw [hr 501 oM oM];exact h2.p
 ·rw [hr 502 oM oM];exact h2.t
 ·rw [hr 503 oM oM];exact h2.f
 ·rw [hr 504 oM oM];exact h2.a
 ·rw [hr _ oM oM];exact h2.pl i hi
 ·rw [hr _ oM oM];exact h2.mp i hi
 ·have hid:=hR.lo id o ho;refine⟨o,?_,hR.nm id o ho h'⟩;rw [hl id hid,h4 id (.inl hid) oM,Jw hid];exact ho
 ·have hi1:i< 500:=by
   cases ho:rest i with
   |none=>exact absurd ho hi
   |some o=>exact hR.lo i o ho
  rw [hl i hi1]at he;rcases hj with⟨hj,_⟩ |hj
  ·have hj1:j< 500:=by
    cases ho:rest j with
    |none=>exact absurd ho hj
    |some o=>exact hR.lo j o ho
   rw [hl j hj1]at he;exact he
  ·rw [hr j hj.1 oM]at he;have:=h3 j hj.1 oM;omega
 ·rw [hh,if_neg oM,if_neg oM];omega
section
variable {P:Program}{N:Nat}{C:Cx P N}{ops:Array Oper}{nx:Nat}{os:List Oper}{tm:Nat->V}{σ:Nat->Option Ob}{ks:List (List Nat×List Nat)}{K:(Nat->V)->(Nat->Option Ob)->List (List Nat×List Nat)->Prop}{ty:TypeId}{pos:String}{af:Array Edge}
theorem zk{d:Nat}{fo:Operand}{ar:Array Operand}{ats:Array TypeId}{f:FuncId}{first caps args args':List V}{v v':V}{obs:List Ob}{δ:List (Nat×Option Ob)}(pre:List (Nat×Ob))(hc:AC P f args' v obs)(hf:ev tm fo= .fn (.func f) first caps) (hargs:first++ar.toList.map (ev tm)++caps=args) (hfz:iG (oI pre) args args') (hd:decide (d< 1000)=true) (hv:v.kL (List.range obs.length)=true) (hC:∀o∈obs,o.yZ) (hob:decide (obs.length<=90)=true) (hvr:v.bx (ay nx (some d))=v') (hδ:b6 (ay nx (some d)) 0 obs=δ) (hp:∀p∈pre,σ p.1=some p.2) (hk:bB C ops nx os (bL tm d v') (bz σ δ) (ks++[(aQ δ,dN pre++aQ δ)]) K):bB C ops nx (⟨some d,.call {callee:= .value fo,args:=ar,argTypes:=ats},ty,pos,af,none⟩::os) tm σ ks K:=by obtain⟨hl,hfz⟩:=hfz.get;subst hvr hδ;have hd1:=of_decide_eq_true hd;exact cC rfl (wL (P:=P) (W:=C.W) (LB:=C.LB) (d:=some d) (ty:=ty) (pos:=pos) (af:=af) (gd:=none) (ats:=ats) hc hf hargs pre hl hfz hv hC nx (by simpa using hd) (of_decide_eq_true hob)) hp (dY hd1 (of_decide_eq_true hob)) hk
end
theorem jN{pre:List (Nat×Ob)}{F:Nat->Option Ob}(hF:∀p∈pre,F p.1=some p.2){id:Nat}{o:Ob}(h:(id,o)∈pre):oI pre id=some o:=by
 unfold oI;cases hf:pre.find? (·.1 == id)with
 |none=>rw [List.find?_eq_none]at hf;have:=hf _ h;simp at this
 |some p=>have h1:=List.find?_some hf;have h2:=hF p (List.mem_of_find?_eq_some hf);have h3:=hF _ h;simp only [beq_iff_eq]at h1;rw [h1]at h2;simp only at h3;rw [h3]at h2;injection h2 with h2;rw [h2];rfl
def oq(S:Sh):List (Nat×Ob):=[(500,iD S gN),(501,vK S gN),(502,fc S),(503,dM S),(504,lU S)]++(List.range S.n).flatMap fun i=>[(505+2*i,v9 S gN i),(506+2*i,gI S i)]
theorem xy{S:Sh}{σ:Nat->Option Ob}(h:eP S gN σ):∀p∈oq S,σ p.1=some p.2:=by
 intro p hp;unfold oq at hp;rcases List.mem_append.1 hp with hp |hp
 ·simp at hp;rcases hp with h' |h' |h' |h' |h' <;> subst h'
  ·exact h.s
  ·exact h.p
  ·exact h.t
  ·exact h.f
  ·exact h.a
 ·rw [List.mem_flatMap]at hp;obtain⟨i,hi,hp⟩:=hp;have hi:i< S.n:=by simpa using hi
  simp at hp;rcases hp with h' |h' <;> subst h'
  ·exact h.pl i hi
  ·exact h.mp i hi
theorem Jy{S:Sh}(hn:S.n<=200):eP S gN (oI (oq S)):=by
 have hF:=xy (iL hn fun _=>none);have hb:∀i,i< S.n->(505+2*i,v9 S gN i)∈oq S/\(506+2*i,gI S i)∈oq S:=fun i hi=>by have:∀p,p∈[(505+2*i,v9 S gN i),(506+2*i,gI S i)]->p∈oq S:=fun p hp=>List.mem_append_right _ (List.mem_flatMap.2 ⟨i,by simpa using hi,hp⟩);exact⟨this _ (by simp),this _ (by simp)⟩
 exact⟨jN hF (by simp [oq]),jN (id:=501) hF (by simp [oq]),jN (id:=502) hF (by simp [oq]),jN (id:=503) hF (by simp [oq]),jN (id:=504) hF (by simp [oq]),fun i hi=>jN hF (hb i hi).1,fun i hi=>jN hF (hb i hi).2⟩
theorem JH{S:Sh}(hn:S.n<=200):Fz (oI (oq S)) (.ref 500 0) (JF S):=Gl (Jy hn)
theorem eP.bL{S:Sh}{σ:Nat->Option Ob}(h:eP S gN σ)(hn:S.n<=200){k:Nat}(hk:k< 500\/1000<=k)(o:Option Ob):eP S gN (Ab.bL σ k o):=by
 refine⟨?_,?_,?_,?_,?_,fun i hi=> ?_,fun i hi=> ?_⟩;·rw [ag _ _ oM];exact h.s
 ·rw [ag _ _ (by show(501:Nat)≠k;omega)];exact h.p
 ·rw [ag _ _ (by show(502:Nat)≠k;omega)];exact h.t
 ·rw [ag _ _ (by show(503:Nat)≠k;omega)];exact h.f
 ·rw [ag _ _ (by show(504:Nat)≠k;omega)];exact h.a
 ·rw [ag _ _ (by show 505+2*i≠k;omega)];exact h.pl i hi
 ·rw [ag _ _ (by show 506+2*i≠k;omega)];exact h.mp i hi
theorem eP.bz{S:Sh}(hn:S.n<=200):∀ {δ:List (Nat×Option Ob)}{σ:Nat->Option Ob},eP S gN σ->(∀p∈δ,p.1< 500\/1000<=p.1)->eP S gN (Ab.bz σ δ)
 | [],_,h,_=>h
 | (k,o)::δ,σ,h,hk=>eP.bz hn (δ:=δ) (h.bL hn (hk (k,o) (by simp)) o) fun p hp=>hk p (by simp [hp])
theorem jl{tm:Nat->V}{σ rest:Nat->Option Ob}{nx:Nat}{S:Sh}{δ:List (Nat×Option Ob)}{tl:List (Nat×V)}(gl:List (Nat×Nat))(hn:S.n<=200)(hσ:σ=Ab.bz (gH S rest) δ)(hδ:δ.all (fun p=>decide (p.1< 500\/1000<=p.1))=true)(sl:List (Nat×Ob)) (hsl:lX (fun p=>p.1< 500/\(aH gl nx p.1< 500\/1000<=aH gl nx p.1)/\∃ob,σ (aH gl nx p.1)=some ob/\∀h:Nat->Nat,eF ob (p.2.bx h)) sl) (hnd:((sl.map fun p=>aH gl nx p.1).Nodup)) (hgl:gl.all (fun p=>decide (p.1< 500))=true) (htm:∀h:Nat->Nat,h 500=500->(∀id,id< 500->h id=aH gl nx id)->lX (fun p=>tm p.1=p.2.bx h) tl):Bp ⟨tm,σ,nx⟩ ⟨gJ tl,gH S (dw sl),1⟩:=by
 have hF:eP S gN σ:=by rw [hσ];exact eP.bz hn (iL hn _) fun p hp=>by have:=List.all_eq_true.1 hδ p hp;simpa using this
 have hmem:∀id o,dw sl id=some o->(id,o)∈sl:=by
  intro id o;clear hsl hnd;induction sl with
  |nil=>intro h;cases h
  |cons p sl ih=>
   intro h;have h:Ab.bL (dw sl) p.1 (some p.2) id=some o:=h;by_cases e:id=p.1;·rw [e,an]at h;injection h with h;rw [e,<-h];simp
   ·rw [ag _ _ e]at h;exact List.mem_cons_of_mem _ (ih h)
 have hlo:∀id o,dw sl id=some o->id< 500/\(aH gl nx id< 500\/1000<=aH gl nx id)/\∃ob,σ (aH gl nx id)=some ob/\∀h:Nat->Nat,eF ob (o.bx h):=fun id o h=>hsl.mem _ (hmem id o h);obtain⟨h',hh⟩:∃h':Nat->Nat,∀id,h' id=if id< 500 then aH gl nx id else if id< 1000 then id else nx*100000+id:=⟨_,fun _=>rfl⟩
 have hl:∀id,id< 500->h' id=aH gl nx id:=fun id a=>by rw [hh,if_pos a]
 have hr:∀id,500<=id->id< 1000->h' id=id:=fun id a b=>by rw [hh,if_neg oM,if_pos b]
 refine GV h' hn hF ⟨fun i j hi hi2 hj hj2 he=>by rwa [hr i hi oM,hr j hj oM]at he,hr _ oM oM,hr _ oM oM,hr _ oM oM,hr _ oM oM,hr _ oM oM,fun i hi=>hr _ oM oM,fun i hi=>hr _ oM oM⟩ (fun id o _ ho=> ?_) (fun i j _ hi he hj=> ?_) (fun id hid=> ?_) (htm h' (hr 500 oM oM) hl);·obtain⟨h1,_,ob,h2,h3⟩:=hlo id o ho;exact⟨ob,by rw [hl id h1];exact h2,h3 h'⟩
 ·cases hoi:dw sl i with
  |none=>exact absurd hoi hi
  |some o=>
   obtain⟨i1,i2,_⟩:=hlo i o hoi;rw [hl i i1]at he;rcases hj with⟨hj,_⟩ |hj
   ·cases hoj:dw sl j with
    |none=>exact absurd hoj hj
    |some o'=>obtain⟨j1,_⟩:=hlo j o' hoj;rw [hl j j1]at he;obtain⟨a,ha,hae⟩:=List.getElem_of_mem (hmem i o hoi);obtain⟨b,hb,hbe⟩:=List.getElem_of_mem (hmem j o' hoj);have hab:a=b:=oC hnd (by simpa using ha) (by simp [ha,hb,hae,hbe,he]);subst hab;rw [hae]at hbe;injection hbe
   ·rw [hr j hj.1 oM]at he;omega
 ·rw [hh,if_neg oM,if_neg oM];omega
def lq(x:Sh×(Nat->Int×Int))(a:Act):Sh×(Nat->Int×Int):= ((bO x.1 a).1,if(bO x.1 a).2.2≠0 then x.2 else if a.kind=4 then jA x.2 x.1.q (a.plate,(bO x.1 a).1.n)else if a.kind=5 then fun i=>if i=a.flaw.toNat then(-1,(x.2 i).2)else x.2 i else x.2)
def k9(x:Sh×(Nat->Int×Int))(l:List Act):Sh×(Nat->Int×Int):=l.foldl lq x
theorem Et(x:Sh×(Nat->Int×Int))(l:List Act)(a:Act):k9 x (l++[a])=lq (k9 x l) a:=by simp [k9]
theorem yp(x:Sh×(Nat->Int×Int))(l:List Act):(k9 x l).1=cD x.1 l:=by
 induction l generalizing x with
 |nil=>rfl
 |cons a l ih=>exact ih (lq x a)
theorem AQ(S:Sh)(a:Act):((bO S a).2.2=0->a.kind=4->(bO S a).2.1=S.q/\(bO S a).1.q=S.q+1)/\((bO S a).2.2=0->a.kind=5->(0<=a.flaw/\a.flaw< S.q))/\(((bO S a).2.2≠0\/a.kind≠4)->(bO S a).1.q=S.q):=by
 refine iE (fun x=>(x.2.2=0->a.kind=4->x.2.1=S.q/\x.1.q=S.q+1)/\(x.2.2=0->a.kind=5->(0<=a.flaw/\a.flaw< S.q))/\((x.2.2≠0\/a.kind≠4)->x.1.q=S.q)) ?_ ?_ ?_ ?_ ?_ ?_ ?_;·exact fun e he=>⟨fun h=>absurd h he,fun h=>absurd h he,fun _=>rfl⟩
 ·exact fun _ k=>⟨fun _ h=>by omega,fun _ h=>by omega,fun _=>rfl⟩
 ·exact fun _ k _=>⟨fun _ h=>by omega,fun _ h=>by omega,fun _=>rfl⟩
 ·exact fun _ k _ _ _ _=>⟨fun _ h=>by omega,fun _ h=>by omega,fun _=>rfl⟩
 ·exact fun _ k _ _=>⟨fun _ _=>⟨rfl,rfl⟩,fun _ h=>by omega,fun h=>h.elim (fun h=>absurd rfl h) fun h=>absurd k h⟩
 ·exact fun _ k _ c _ _=>⟨fun _ h=>by omega,fun _ _=>c,fun _=>rfl⟩
 ·exact fun _ k _ _=>⟨fun _ h=>by omega,fun _ h=>by omega,fun _=>rfl⟩
abbrev yt(n:Nat)(g:Nat->Int×Int):Ob:= .row 98 2 n (aU g)
theorem AO{n:Nat}{g:Nat->Int×Int}{h:Nat->Nat}:eF (yt n g) ((yt n g).bx h):=⟨rfl,rfl,rfl,fun _ _=>rfl⟩
theorem Pe{n:Nat}{g:Nat->Int×Int}{h:Nat->Nat}{a b:Int}:eF (.row 98 2 (n+1) (aC n (aU g) fun i=>([V.i a,V.i b].drop (i*2)).take 2)) ((yt (n+1) (jA g n (a,b))).bx h):=by
 refine⟨rfl,rfl,rfl,fun i hi=> ?_⟩;show aC n (aU g) _ i=[V.i (jA g n (a,b) i).1,V.i (jA g n (a,b) i).2];by_cases q:i< n;·simp only [aC,jA,if_pos q]
 ·have:i=n:=by omega
  subst this;simp only [aC,jA,if_neg q,Nat.sub_self];rfl
theorem Pf{n f:Nat}{g:Nat->Int×Int}{h:Nat->Nat}:eF (.row 98 2 n fun j=>if j=f then [V.i (-1),V.i (g f).2]else aU g j) ((yt n fun i=>if i=f then(-1,(g i).2)else g i).bx h):=by
 refine⟨rfl,rfl,rfl,fun i hi=> ?_⟩;show(if i=f then [V.i (-1),V.i (g f).2]else aU g i)=[V.i (if i=f then(-1,(g i).2)else g i).1,V.i (if i=f then(-1,(g i).2)else g i).2];by_cases q:i=f;·subst q;simp only [if_pos]
 ·simp only [if_neg q]
theorem Ew(n:Nat)(g:Nat->Int×Int):EW (dw [(5,yt n g)]):=by
 have e:∀id o,dw [(5,yt n g)] id=some o->id=5/\o=yt n g:=fun id o h=>by
  have h:Ab.bL (fun _=>none) 5 (some (yt n g)) id=some o:=h;by_cases q:id=5;·rw [q,an]at h;injection h with h;exact⟨q,h.symm⟩
  ·rw [ag _ _ q]at h;cases h
 exact⟨fun id o h=>by rw [(e id o h).1];decide,fun id o h k=>by rw [(e id o h).2];exact⟨rfl,rfl,rfl,fun _ _=>rfl⟩⟩
theorem HZ(r:Rc)(hr:r.ok)(l:List Act)(hl:l.length<=60):AC Tryz.prog 34 [r.v,qL l] (.tup [JF (cD (bV r) l),.sl 2 (cD (bV r) l).q (aU (k9 (bV r,fun _=>(0,0)) l).2),.b true]) []:=by
 refine ff ah b9 Tryz.func34 Tryz.ntmps34 fun C hC hF=> ?_;refine yS ah 2 4 [] ?_;refine sK fun K hK=>wR 3 ?_;refine aY ah 1 [] ?_;refine BJ (first:=[]) (caps:=[]) (k:=200015) (v':=V.tup [V.ref 200015 0,V.i 0]) (ob':=Ob.box 123 [V.b true,V.i (Rc.n0 r),V.i (Rc.n1 r),V.i (Rc.n2 r),V.i (Rc.n3 r),V.i (Rc.k0 r),V.i (Rc.k1 r),V.i (Rc.k2 r),V.i (Rc.k3 r),V.i (Rc.seed r),V.i (Rc.soft r),V.i (Rc.hard r),V.i (Rc.mo r),V.i (Rc.st r),V.nil,V.nil,V.nil,V.nil]) (LY r hr) kR kR kR kR kR kR kR ?_;refine yN ah 5 [] hK ?_;clear hK K;refine sK fun K hK=>yS ah 4 6 [] ?_;refine aB (t:=false) kR rfl ?_;refine ak ?_;refine aj (hK _ ?_);clear hK K;refine yS ah 5 1 [] ?_;refine sK fun K hK=>yS ah 6 1 [] ?_;refine aq ?_;refine gF (fP 200015 14 131 1 (fun _=>[]) (t:=123) (cs:=cX r .nil .nil .nil .nil) kR rfl kR kR) ?_;refine gF (fP 200015 15 55 4 (fun _=>[]) (t:=123) (cs:=cX r (.own 600014) .nil .nil .nil) kR rfl kR kR) ?_;refine gF (fP 200015 16 149 2 (fun _=>[]) (t:=123) (cs:=cX r (.own 600014) (.own 700015) .nil .nil) kR rfl kR kR) ?_;refine gF (fP 200015 17 40 13 (fun _=>[]) (t:=123) (cs:=cX r (.own 600014) (.own 700015) (.own 800016) .nil) kR rfl kR kR) ?_;refine Ft hC (fun k=>⟨gJ [(1,qL l),(7,.ref 500 0),(9,.own 5),(10,.i (k:Nat))],gH (cD (bV r) (l.take k)) (dw [(5,yt (cD (bV r) (l.take k)).q (k9 (bV r,fun _=>(0,0)) (l.take k)).2)]),1⟩) (fun k=>k<=l.length) (fun k=>l.length- k) 0 (Nat.zero_le _) ?_ ?_;·rw [show cD (bV r) (l.take 0)=bV r by simp [cD],show k9 (bV r,fun _=>(0,0)) (l.take 0)=(bV r,fun _=>(0,0)) by simp [k9]];refine(M1 (r:=r) (s:=200015) (p:=600014) (t:=700015) (f:=800016) (a:=900017) (tl:=[(1,qL l),(7,.ref 500 0),(9,.nil),(10,.i 0)]) rfl kR ⟨fun _=>[],kR⟩ ⟨fun _=>[],kR⟩ ⟨fun _=>[],kR⟩ ⟨fun _=>[],kR⟩ fun h hh=>⟨rfl,by show _=V.ref (h 500) 0;rw [hh];rfl,rfl,rfl,trivial⟩).trans ?_;refine Bp.trans (Le.d (fZ (tm:=gJ [(1,qL l),(7,.ref 500 0),(9,.nil),(10,.i 0)]) (σ:=gH (bV r) fun _=>none) (nx:=1) 9 98 2 (aU fun _=>(0,0)) kR rfl)) ?_;exact jl [(5,100009)] (S:=bV r) (rest:=fun _=>none) (δ:=[(100009,some (yt 0 fun _=>(0,0)))]) (Nat.zero_le _) rfl (by decide) _ ⟨⟨show(5:Nat)< 500 by decide,.inr (show 1000<=(100009:Nat) by decide),yt 0 fun _=>(0,0),kR,fun h=>AO⟩,trivial⟩ (by simp) (by decide) fun h h5 hlo=>⟨rfl,by show _=V.ref (h 500) 0;rw [h5];rfl,by show _=V.own (h 5);rw [hlo 5 (by decide)];rfl,rfl,trivial⟩
 intro k hk;obtain⟨hS,hSl,hSr⟩:=Cu (qu hr) (l.take k);have hSl2:(cD (bV r) (l.take k)).l<=k:=by refine Nat.le_trans hSl ?_;show 0+_<=_;rw [List.length_take];omega
 have hSn:=hS.n;have hSq:=hS.q;have hfst:=yp (bV r,fun _=>(0,0)) (l.take k);obtain⟨S,hSS⟩:∃S,S=cD (bV r) (l.take k):=⟨_,rfl⟩;obtain⟨g,hgg⟩:∃g,g=(k9 (bV r,fun _=>(0,0)) (l.take k)).2:=⟨_,rfl⟩;rw [<-hSS]at hS hSl2 hSn hSq hfst ⊢;rw [<-hgg];refine sK fun K hK=>yS ah 2 4 [] ?_;refine av (t:=decide ((↑k:Int)< (↑(List.length l):Int))) kR (fun c1=> ?_) (fun c1=> ?_)
 ·have hkl:k< l.length:=by simpa using c1
  refine ak ?_;refine aj (hK _ ?_);clear hK K;refine sK fun K hK=> ?_;refine aq ?_;refine sK fun K hK=>wR 3 ?_;refine aY ah 5 [(3,.c ((0:Int)<=(↑k:Int)/\(↑k:Int)< (↑(List.length l):Int)) oM)] ?_;refine CY (Oh C.wl hS oM (fJ l k) rfl kR (by decide) (by decide)) rfl rfl (iL oM _) fun δ ks hD=> ?_;refine yN ah 5 [] hK ?_;clear hK K;refine sK fun K hK=>sK fun K hK=> ?_;have hfa:=AQ S (fJ l k);have h1:=qD hS (fJ l k);have h2:=Ie S (fJ l k);refine Mi hC (GU (tl:=[(1,qL l),(7,.ref 500 0),(9,.own 5),(10,.i (k:Nat)),(11,.i (bO S (fJ l k)).2.1),(12,.i (bO S (fJ l k)).2.2)]) (Ew S.q g) (by decide) oM (by have:=h1.n;omega) hD rfl fun h h5 hlo=>⟨rfl,by show _=V.ref (h 500) 0;rw [h5];rfl,by show _=V.own (h 5);rw [hlo 5 (by decide)];rfl,rfl,rfl,rfl,trivial⟩) ?_;have hT:cD (bV r) (l.take (k+1))=(bO S (fJ l k)).1:=by rw [yA hkl,Eu,<-hSS]
  have hC2:(k9 (bV r,fun _=>(0,0)) (l.take (k+1))).2=(lq (S,g) (fJ l k)).2:=by
   rw [yA hkl,Et];have:k9 (bV r,fun _=>(0,0)) (l.take k)=(S,g):=by rw [hgg,<-hfst]
   rw [this]
  obtain⟨S',hS'⟩:∃S',S'=(bO S (fJ l k)).1:=⟨_,rfl⟩;obtain⟨e,he⟩:∃e,e=(bO S (fJ l k)).2.2:=⟨_,rfl⟩;obtain⟨nn,hnn⟩:∃nn,nn=(bO S (fJ l k)).2.1:=⟨_,rfl⟩;rw [<-hS']at hfa h1 h2 hT ⊢;rw [<-he,<-hnn]at hfa ⊢;have hn':S'.n<=200:=by have:=h1.n;omega
  refine yT ah 2 2 [] hK ?_;clear hK K;refine av (t:= !decide (e=0)) kR (fun c2=> ?_) (fun c2=> ?_)
  ·have c2':e≠0:=by simpa using c2
   refine aP ?_;refine bK ?_;refine bu ?_;refine aj ?_;clear hK K;refine hK _ ?_;clear hK K;refine wR 3 ?_;refine aY ah 3 [(1,.c (iR ((↑k:Int)+1)) oM)] ?_;refine aa (aj ?_);refine⟨k+1,by omega,?_,by omega⟩;rw [hT,hC2,show(lq (S,g) (fJ l k)).2=g by show(if(bO S (fJ l k)).2.2≠0 then _ else _)=_;rw [if_pos (by rw [<-he];exact c2')],hfa.2.2 (.inl c2')];exact jl [(5,5)] (S:=S') (rest:=dw [(5,yt S.q g)]) (δ:=[]) hn' rfl rfl _ ⟨⟨show(5:Nat)< 500 by decide,.inl (show(5:Nat)< 500 by decide),yt S.q g,kR,fun h=>AO⟩,trivial⟩ (by simp) (by decide) fun h h5 hlo=>⟨rfl,by show _=V.ref (h 500) 0;rw [h5];rfl,by show _=V.own (h 5);rw [hlo 5 (by decide)];rfl,rfl,trivial⟩
  have c2':e=0:=by simpa using c2
  refine ak ?_;refine aj (hK _ ?_);clear hK K;refine yS ah 3 5 [(2,.c ((0:Int)<=(↑k:Int)/\(↑k:Int)< (↑(List.length l):Int)) oM)] ?_;refine aq ?_;refine sX ah 4 2 [] tI ?_;refine av (t:=decide (Act.kind (fJ l k)=4)) kR (fun c3=> ?_) (fun c3=> ?_)
  ·have k4:(fJ l k).kind=4:=by simpa using c3
   obtain⟨q1,q2⟩:=hfa.1 c2' k4;rw [q1];refine sK fun K hK=>sX ah 5 4 [] tI ?_;refine av (t:= !decide ((↑(Sh.q S):Int)=(↑(Sh.q S):Int))) kR (fun c4=> ?_) (fun c4=> ?_);·simp at c4
   refine ak ?_;refine aj (hK _ ?_);clear hK K;refine wD 6 (aX ah 7 [(3,.c ((0:Int)<=(↑k:Int)/\(↑k:Int)< (↑(List.length l):Int)))] ⟨oM,tI⟩ ?_);refine zk (oq S') (qI S' hn') rfl rfl ⟨JH hn',trivial⟩ rfl rfl (fun o ho=> ?_) rfl rfl rfl (xy (iL hn' _)) ?_;·simp at ho;subst ho;exact fun i _ u hu=>by simp [Pl.c]at hu;rcases hu with h |h |h |h |h |h |h <;> subst h <;> rfl
   refine aX ah 5 [(3,.r (PR.mk (some (63:Nat)) (some (Sh.q S+1<=(1099511627776:Nat))) (V.own 500063) [((5:Nat),none),((500063:Nat),some (Ob.row 98 2 (Sh.q S+1) (aC (Sh.q S) (aU g) fun(i:Nat)=>List.take (2:Nat) (List.drop (i*2) [V.i (Act.plate (fJ l k)),V.i (↑(Sh.n S'):Int)]))))] false))] ⟨oM,tI⟩ (aa ⟨Ak kR,(bG (bG (aj (hK _ ?_))))⟩);clear hK K;refine wR 7 ?_;refine aY ah 3 [(1,.c (iR ((↑k:Int)+1)) oM)] ?_;refine aa (aj ?_);refine⟨k+1,by omega,?_,by omega⟩;have hse:(lq (S,g) (fJ l k)).2=jA g S.q ((fJ l k).plate,(S'.n:Int)):=by show(if(bO S (fJ l k)).2.2≠0 then _ else _)=_;rw [if_neg (by rw [<-he];exact not_not_intro c2'),if_pos k4,hS']
   rw [hT,hC2,hse,q2];exact jl [(5,500063)] (S:=S') (rest:=dw [(5,yt S.q g)]) (δ:=[(500059,some (.row 51 7 S'.n fun i=>(S'.pl i).c)),(5,none),(500063,some (.row 98 2 (S.q+1) (aC S.q (aU g) fun i=>([V.i (fJ l k).plate,V.i (S'.n:Int)].drop (i*2)).take 2)))]) hn' kR rfl _ ⟨⟨show(5:Nat)< 500 by decide,.inr (show 1000<=(500063:Nat) by decide),.row 98 2 (S.q+1) (aC S.q (aU g) fun i=>([V.i (fJ l k).plate,V.i (S'.n:Int)].drop (i*2)).take 2),kR,fun h=>Pe⟩,trivial⟩ (by simp) (by decide) fun h h5 hlo=>⟨rfl,by show _=V.ref (h 500) 0;rw [h5];rfl,by show _=V.own (h 5);rw [hlo 5 (by decide)];rfl,rfl,trivial⟩
  have k4:(fJ l k).kind≠4:=by simpa using c3
  have hq':S'.q=S.q:=hfa.2.2 (.inr k4);refine sX ah 5 2 [] tI ?_;refine av (t:=decide (Act.kind (fJ l k)=5)) kR (fun c5=> ?_) (fun c5=> ?_)
  ·have k5:(fJ l k).kind=5:=by simpa using c5
   obtain⟨f1,f2⟩:=hfa.2.1 c2' k5;refine sK fun K hK=> ?_;refine sX ah 6 16 [(2,.c ((0:Int)<=(↑k:Int)/\(↑k:Int)< (↑(List.length l):Int))),(7,.c (gA (decide (Act.flaw (fJ l k)< 0) == false) True)),(8,.c (gA (decide (Act.flaw (fJ l k)< 0) == false) True)),(9,.c (gC (decide (Act.flaw (fJ l k)< 0) == false) ((0:Int)<=(↑k:Int)/\(↑k:Int)< (↑(List.length l):Int)))),(10,.c (gB (decide (Act.flaw (fJ l k)< 0) == false) True)),(11,.c (gB (decide (Act.flaw (fJ l k)< 0) == false) True)),(12,.c (gA (decide (Act.flaw (fJ l k)< 0) == false) True)),(13,.c (gB (decide (Act.flaw (fJ l k)< 0) == false) True)),(14,.c (gC (decide (Act.flaw (fJ l k)< 0) == false) True)),(15,.c (True/\(decide (Act.flaw (fJ l k)< 0)=false->(decide (Act.flaw (fJ l k)< 0) == false)=true)))] ⟨oM,⟨⟨tI,tI⟩,(fun _=>tI)⟩,⟨⟨tI,tI⟩,(fun _=>tI)⟩,⟨⟨(by(exact fun h=>h)),⟨(by(exact fun h=>h)),tI⟩⟩,(by(intro hg;simp at hg;omega))⟩,⟨⟨(by(exact fun h=>h)),tI⟩,(fun _=>tI)⟩,⟨⟨(by(exact fun h=>h)),tI⟩,(fun _=>tI)⟩,⟨⟨tI,tI⟩,(fun _=>tI)⟩,⟨⟨(by(exact fun h=>h)),tI⟩,(fun _=>tI)⟩,⟨⟨(by(exact fun h=>h)),⟨(by(exact fun h=>h)),tI⟩⟩,(fun _=>tI)⟩,⟨tI,(by(intro h;rw [h];rfl))⟩,tI⟩ ?_;refine av (t:=decide (Act.flaw (fJ l k)< 0) || decide ((↑(Sh.q S):Int)<=Act.flaw (fJ l k))) kR (fun c6=> ?_) (fun c6=> ?_);·simp at c6;omega
   refine ak ?_;refine aj (hK _ ?_);clear hK K;refine wR 7 (aX ah 9 [(3,.c ((0:Int)<=(↑k:Int)/\(↑k:Int)< (↑(List.length l):Int))),(6,.c ((0:Int)<=Act.flaw (fJ l k)/\Act.flaw (fJ l k)< (↑(Sh.q S):Int))),(8,.r (pw (Int.toNat (Act.flaw (fJ l k))< Sh.q S/\(0:Nat)+(1:Nat)<=(2:Nat)) (5:Nat) (Ob.row 98 2 (Sh.q S) fun(j:Nat)=>if j=Int.toNat (Act.flaw (fJ l k))then [V.i (-1),V.i (Prod.snd (g (Int.toNat (Act.flaw (fJ l k)))))]else aU g j)))] ⟨oM,oM,oM,tI⟩ (aa (bG (bG (aj (hK _ ?_))))));clear hK K;refine wR 8 (aX ah 3 [(1,.i ((↑k:Int)+1))] ⟨oM,tI⟩ (aa (aj ?_)));refine⟨k+1,by omega,?_,by omega⟩;have hse:(lq (S,g) (fJ l k)).2=fun i=>if i=(fJ l k).flaw.toNat then(-1,(g i).2)else g i:=by show(if(bO S (fJ l k)).2.2≠0 then _ else _)=_;rw [if_neg (by rw [<-he];exact not_not_intro c2'),if_neg k4,if_pos k5]
   rw [hT,hC2,hse,hq'];exact jl [(5,5)] (S:=S') (rest:=dw [(5,yt S.q g)]) (δ:=[(5,some (.row 98 2 S.q fun j=>if j=(fJ l k).flaw.toNat then [V.i (-1),V.i (g (fJ l k).flaw.toNat).2]else aU g j))]) hn' kR rfl _ ⟨⟨show(5:Nat)< 500 by decide,.inl (show(5:Nat)< 500 by decide),.row 98 2 S.q fun j=>if j=(fJ l k).flaw.toNat then [V.i (-1),V.i (g (fJ l k).flaw.toNat).2]else aU g j,kR,fun h=>Pf⟩,trivial⟩ (by simp) (by decide) fun h h5 hlo=>⟨rfl,by show _=V.ref (h 500) 0;rw [h5];rfl,by show _=V.own (h 5);rw [hlo 5 (by decide)];rfl,rfl,trivial⟩
  ·have k5:(fJ l k).kind≠5:=by simpa using c5
   refine ak ?_;refine bG (bG (aj (hK _ ?_)));clear hK K;refine wR 6 (aX ah 3 [(1,.i ((↑k:Int)+1))] ⟨oM,tI⟩ (aa (aj ?_)));refine⟨k+1,by omega,?_,by omega⟩;have hse:(lq (S,g) (fJ l k)).2=g:=by show(if(bO S (fJ l k)).2.2≠0 then _ else _)=_;rw [if_neg (by rw [<-he];exact not_not_intro c2'),if_neg k4,if_neg k5]
   rw [hT,hC2,hse,hq'];exact jl [(5,5)] (S:=S') (rest:=dw [(5,yt S.q g)]) (δ:=[]) hn' rfl rfl _ ⟨⟨show(5:Nat)< 500 by decide,.inl (show(5:Nat)< 500 by decide),yt S.q g,kR,fun h=>AO⟩,trivial⟩ (by simp) (by decide) fun h h5 hlo=>⟨rfl,by show _=V.ref (h 500) 0;rw [h5];rfl,by show _=V.own (h 5);rw [hlo 5 (by decide)];rfl,rfl,trivial⟩
 ·have hkl:k=l.length:=by simp at c1;omega
  refine gF (xO (tl:=[(7,JF S),(9,.sl 2 S.q (aU g))]) ?_) ?_;·exact⟨Gl (S:=S) (iL oM _),Fz.rows (id:=5) (e:=98) (sz:=2) (r:=aU g) rfl fun i _=>iG.b5 rfl,trivial⟩
  refine aP ?_;refine bK ?_;refine bK ?_;refine bu ?_;refine aj ?_;clear hK K;refine hK _ ?_;clear hK K;refine sX ah 3 5 [] tI ?_;refine ax ?_;rw [hgg,hSS,hkl,List.take_length];refine rP (V.tup [V.ptr [V.b true,V.i (Rc.n0 (Sh.r (cD (bV r) l))),V.i (Rc.n1 (Sh.r (cD (bV r) l))),V.i (Rc.n2 (Sh.r (cD (bV r) l))),V.i (Rc.n3 (Sh.r (cD (bV r) l))),V.i (Rc.k0 (Sh.r (cD (bV r) l))),V.i (Rc.k1 (Sh.r (cD (bV r) l))),V.i (Rc.k2 (Sh.r (cD (bV r) l))),V.i (Rc.k3 (Sh.r (cD (bV r) l))),V.i (Rc.seed (Sh.r (cD (bV r) l))),V.i (Rc.soft (Sh.r (cD (bV r) l))),V.i (Rc.hard (Sh.r (cD (bV r) l))),V.i (Rc.mo (Sh.r (cD (bV r) l))),V.i (Rc.st (Sh.r (cD (bV r) l))),V.sl 1 (Sh.n (cD (bV r) l)) fun(i:Nat)=>[V.ptr [V.i (↑(Pl.kind (Sh.pl (cD (bV r) l) i)):Int),V.i (Pl.par (Sh.pl (cD (bV r) l) i)),V.i (Pl.cut (Sh.pl (cD (bV r) l) i)),V.i (Pl.area (Sh.pl (cD (bV r) l) i)),V.i (Pl.aF (Sh.pl (cD (bV r) l) i)),V.i (Pl.grown (Sh.pl (cD (bV r) l) i)),V.b (Pl.ret (Sh.pl (cD (bV r) l) i)),xz (Sh.pl (cD (bV r) l) i)]],V.sl 4 (Sh.m (cD (bV r) l)) fun(i:Nat)=>aN.c (Sh.tk (cD (bV r) l) i),V.sl 2 (Sh.q (cD (bV r) l)) (aU (Sh.g (cD (bV r) l))),V.sl 13 (Sh.l (cD (bV r) l)) bS],V.sl 2 (Sh.q (cD (bV r) l)) (aU (Prod.snd (k9 (bV r,fun(x:Nat)=>((0:Int),(0:Int))) l))),V.b true])
structure CL(S:Sh)(X N:Nat)(f:Int):Prop where
  x:X< S.n
  xn:X< N
  n:N<=S.n
  fx:(S.pl X).fl f=true
  st:∀j,j< S.n->j≠X->(S.pl j).fl f=(if(S.pl j).par< 0 then false else if(S.pl j).par=X then decide (N<=j)else(S.pl (S.pl j).par.toNat).fl f)
theorem CL.of{S T:Sh}{X N:Nat}{f:Int}(h:CL S X N f)(hp:tN S)(hn:T.n=S.n)(hs:∀i,i< S.n->(T.pl i).par=(S.pl i).par/\(T.pl i).fl f=(S.pl i).fl f):CL T X N f:=by
 refine⟨by rw [hn];exact h.x,h.xn,by rw [hn];exact h.n,by rw [(hs X h.x).2];exact h.fx,fun j hj hjx=> ?_⟩;rw [hn]at hj;have h1:=(hp j hj).1;rw [(hs j hj).1,(hs j hj).2,h.st j hj hjx];by_cases c:(S.pl j).par< 0;·rw [if_pos c,if_pos c]
 ·rw [if_neg c,if_neg c,(hs (S.pl j).par.toNat oM).2]
theorem CL.app{S T:Sh}{X N:Nat}{f:Int}(h:CL S X N f)(hp:tN S)(hn:T.n=S.n+1)(hs:∀i,i< S.n->(T.pl i).par=(S.pl i).par/\(T.pl i).fl f=(S.pl i).fl f){p:Pl}(hq:T.pl S.n=p)(hpp:p.par< S.n) (c:p.fl f=if p.par< 0 then false else if p.par=X then decide (N<=S.n)else(S.pl p.par.toNat).fl f):CL T X N f:=by
 refine⟨by rw [hn];have:=h.x;omega,h.xn,by rw [hn];have:=h.n;omega,by rw [(hs X h.x).2];exact h.fx,fun j hj hjx=> ?_⟩;rw [hn]at hj;rcases Nat.lt_or_ge j S.n with hlt |hge
 ·have h1:=(hp j hlt).1;rw [(hs j hlt).1,(hs j hlt).2,h.st j hlt hjx];by_cases c:(S.pl j).par< 0;·rw [if_pos c,if_pos c]
  ·rw [if_neg c,if_neg c,(hs (S.pl j).par.toNat oM).2]
 ·obtain rfl:j=S.n:=by omega
  rw [hq,c];by_cases c1:p.par< 0;·rw [if_pos c1,if_pos c1]
  ·rw [if_neg c1,if_neg c1,(hs p.par.toNat oM).2]
structure IP(x:Sh×(Nat->Int×Int)):Prop where
  new:∀f:Int,(x.1.q:Int)<=f->∀j,j< x.1.n->(x.1.pl j).fl f=false
  old:∀f:Nat,f< x.1.q->(x.2 f).1= -1\/∃X N:Nat,x.2 f=((X:Int),(N:Int))/\CL x.1 X N f
theorem IP.of{S T:Sh}{g g':Nat->Int×Int}(h:IP (S,g))(hp:tN S)(hn:T.n=S.n)(hq:T.q=S.q)(hs:∀i,i< S.n->(T.pl i).par=(S.pl i).par)(hf:∀i,i< S.n->∀f:Int,((S.q:Int)<=f\/∃k:Nat,f=k/\(g' k).1≠ -1)->(T.pl i).fl f=(S.pl i).fl f) (hg:∀k,k< S.q->(g' k).1= -1\/g' k=g k):IP (T,g'):=by
 refine⟨fun f hf1 j hj=> ?_,fun k hk=> ?_⟩
 ·have hj:j< S.n:=by rw [<-hn];exact hj
  have hf1:(S.q:Int)<=f:=by rw [<-hq];exact hf1
  rw [hf j hj f (.inl hf1)];exact h.new f hf1 j hj
 ·have hk:k< S.q:=by rw [<-hq];exact hk
  by_cases c:(g' k).1= -1;·exact .inl c
  rcases hg k hk with h1 |h1;·exact .inl h1
  rcases h.old k hk with h2 | ⟨X,N,h2,h3⟩;·exact .inl (show(g' k).1= -1 by rw [h1];exact h2)
  ·exact .inr ⟨X,N,h1.trans h2,h3.of hp hn fun i hi=>⟨hs i hi,hf i hi k (.inr ⟨k,rfl,c⟩)⟩⟩
theorem Ey(fl:Int->Bool){q f:Int}(h:f≠q):fV fl q f=fl f:=by unfold fV;simp [h]
theorem Ex{S:Sh}{g:Nat->Int×Int}(h:S.ok)(hk:dh S)(i:IP (S,g))(a:Act):IP (lq (S,g) a):=by
 have hp:=hk.par;unfold lq;simp only;refine iE (fun y=>IP (y.1,if y.2.2≠0 then g else if a.kind=4 then jA g S.q (a.plate,y.1.n)else if a.kind=5 then fun i=>if i=a.flaw.toNat then(-1,(g i).2)else g i else g)) ?_ ?_ ?_ ?_ ?_ ?_ ?_;·intro e he;rw [if_pos he];exact i
 ·intro _ k1;rw [if_neg (by simp),if_neg oM,if_neg oM];have hs:∀j,j< S.n->dH S.pl S.n (ov a) j=S.pl j:=fun j hj=>qk hj;refine⟨fun f hf j hj=> ?_,fun k hk=> ?_⟩
  ·show(dH S.pl S.n (ov a) j).fl f=false;have hj:j< S.n+1:=hj;rcases Nat.lt_or_ge j S.n with h1 |h1;·rw [hs j h1];exact i.new f hf j h1
   ·obtain rfl:j=S.n:=by omega
    rw [n7];rfl
  ·rcases i.old k hk with h2 | ⟨X,N,h2,h3⟩;·exact .inl h2
   ·exact .inr ⟨X,N,h2,h3.app hp rfl (fun j hj=>by rw [show(Sh.pl _ j)=dH S.pl S.n (ov a) j from rfl,hs j hj];exact⟨rfl,rfl⟩) n7 (show(-1:Int)< _ by omega) rfl⟩
 ·intro _ k1 _;rw [if_neg (by simp),if_neg oM,if_neg oM];exact i.of hp rfl rfl (fun _ _=>rfl) (fun _ _ _ _=>rfl) fun _ _=> .inr rfl
 ·intro _ k1 c1 _ _ _;rw [if_neg (by simp),if_neg oM,if_neg oM];obtain⟨P,hP⟩:∃P:Nat,a.plate=P:=⟨a.plate.toNat,by omega⟩;rw [hP,Int.toNat_natCast];have hPn:P< S.n:=by omega
  have hs:∀j,j< S.n->∀q,(dH (bW S.pl P (S.pl P).under) S.n q j).par=(S.pl j).par/\(dH (bW S.pl P (S.pl P).under) S.n q j).fl=(S.pl j).fl:=fun j hj q=>by
   rw [qk hj];unfold bW;split;·rename_i h;subst h;exact⟨rfl,rfl⟩
   ·exact⟨rfl,rfl⟩
  refine⟨fun f hf j hj=> ?_,fun k hk=> ?_⟩
  ·have hj:j< S.n+1:=hj;rcases Nat.lt_or_ge j S.n with h1 |h1;·show(dH _ S.n _ j).fl f=false;rw [(hs j h1 _).2];exact i.new f hf j h1
   ·obtain rfl:j=S.n:=by omega
    show(dH _ S.n _ S.n).fl f=false;rw [n7];exact i.new f hf P hPn
  ·rcases i.old k hk with h2 | ⟨X,N,h2,h3⟩;·exact .inl h2
   ·refine .inr ⟨X,N,h2,h3.app hp rfl (fun j hj=>⟨(hs j hj _).1,by rw [show(Sh.pl _ j)=dH _ S.n _ j from rfl,(hs j hj _).2]⟩) n7 (show(P:Int)< S.n by omega) ?_⟩;show(S.pl P).fl k=if(P:Int)< 0 then false else if(P:Int)=X then decide (N<=S.n)else(S.pl (P:Int).toNat).fl k
    rw [if_neg oM,Int.toNat_natCast];by_cases hx:(P:Int)=X
    ·obtain rfl:P=X:=by omega
     rw [if_pos rfl,h3.fx,decide_eq_true h3.n]
    ·rw [if_neg hx]
 ·intro _ k1 c1 _;rw [if_neg (by simp),if_pos k1];obtain⟨P,hP⟩:∃P:Nat,a.plate=P:=⟨a.plate.toNat,by omega⟩;rw [hP,Int.toNat_natCast];have hPn:P< S.n:=by omega
  have hs:∀j,(bW S.pl P ((S.pl P).j9 S.q) j).par=(S.pl j).par:=fun j=>by
   unfold bW;split;·rename_i h;subst h;rfl
   ·rfl
  have hf:∀j,∀f:Int,f≠S.q->(bW S.pl P ((S.pl P).j9 S.q) j).fl f=(S.pl j).fl f:=fun j f hne=>by
   unfold bW;split;·rename_i h;subst h;show((S.pl j).fl f || decide (f=S.q))=_;rw [decide_eq_false hne,Bool.or_false]
   ·rfl
  have hq:∀j,j< S.n->(bW S.pl P ((S.pl P).j9 S.q) j).fl S.q=decide (j=P):=fun j hj=>by
   unfold bW;split;·rename_i h;subst h;show((S.pl j).fl S.q || decide ((S.q:Int)=S.q))=_;simp
   ·rename_i h;rw [decide_eq_false h];exact i.new _ (Int.le_refl _) j hj
  refine⟨fun f hf1 j hj=> ?_,fun k hk=> ?_⟩
  ·have hf1:((S.q+1:Nat):Int)<=f:=hf1;have hj:j< S.n:=hj;show(bW S.pl P ((S.pl P).j9 S.q) j).fl f=false;have hge:(S.q:Int)+1<=f:=by push_cast at hf1;exact hf1
   have hne:f≠(S.q:Int):=by omega
   rw [hf j f hne];exact i.new f (show(S.q:Int)<=f by omega) j hj
  ·have hk:k< S.q+1:=hk;rcases Nat.lt_or_ge k S.q with h1 |h1
   ·have e:jA S.g S.q (a.plate,a.place) k=S.g k:=by unfold jA;rw [if_pos h1]
    have e2:jA g S.q ((P:Int),(S.n:Int)) k=g k:=by unfold jA;rw [if_pos h1]
    show(jA g S.q ((P:Int),(S.n:Int)) k).1= -1\/∃X N:Nat,jA g S.q ((P:Int),(S.n:Int)) k=_/\_;rw [e2];rcases i.old k h1 with h2 | ⟨X,N,h2,h3⟩;·exact .inl h2
    ·exact .inr ⟨X,N,h2,h3.of hp rfl fun j hj=>⟨hs j,hf j k oM⟩⟩
   ·obtain rfl:k=S.q:=by omega
    have e2:jA g S.q ((P:Int),(S.n:Int)) S.q=((P:Int),(S.n:Int)):=by unfold jA;rw [if_neg (Nat.lt_irrefl _)]
    refine .inr ⟨P,S.n,e2,⟨hPn,hPn,Nat.le_refl _,?_,fun j hj hjx=> ?_⟩⟩;·show(bW S.pl P ((S.pl P).j9 S.q) P).fl S.q=true;rw [hq P hPn,decide_eq_true rfl]
    ·have hj:j< S.n:=hj;show(bW S.pl P ((S.pl P).j9 S.q) j).fl S.q=if(bW S.pl P ((S.pl P).j9 S.q) j).par< 0 then false else if(bW S.pl P ((S.pl P).j9 S.q) j).par=P then decide (S.n<=j)else(bW S.pl P ((S.pl P).j9 S.q) (bW S.pl P ((S.pl P).j9 S.q) j).par.toNat).fl S.q
     rw [hs j,hq j hj,decide_eq_false hjx];have h1:=(hp j hj).1;split;·rfl
     ·rename_i hn0;split;·rw [decide_eq_false oM]
      ·rename_i hnp;rw [hq _ oM,decide_eq_false oM]
 ·intro _ k1 c1 c2 _ _;rw [if_neg (by simp),if_neg oM,if_pos k1];obtain⟨P,hP⟩:∃P:Nat,a.plate=P:=⟨a.plate.toNat,by omega⟩;obtain⟨Q,hQ⟩:∃Q:Nat,a.flaw=Q:=⟨a.flaw.toNat,by omega⟩;rw [hP,hQ,Int.toNat_natCast,Int.toNat_natCast];refine i.of (T:={S with pl:=bW S.pl P ((S.pl P).vf Q),l:=S.l+1}) hp rfl rfl (fun j _=> ?_) (fun j _ f hf=> ?_) fun k _=> ?_
  ·show(bW S.pl P ((S.pl P).vf Q) j).par=_;unfold bW;split;·rename_i h;subst h;rfl
   ·rfl
  ·have hne:f≠Q:=by
    rcases hf with hf | ⟨k,rfl,hk⟩;·omega
    ·intro e;refine hk ?_;have:k=Q:=by omega
     simp only [if_pos this]
   show(bW S.pl P ((S.pl P).vf Q) j).fl f=_;unfold bW;split;·rename_i h;subst h;exact Ey _ hne
   ·rfl
  ·by_cases h:k=Q;·exact .inl (by simp only [if_pos h])
   ·exact .inr (by simp only [if_neg h])
 ·intro _ k1 c1 _;rw [if_neg (by simp),if_neg oM,if_neg oM];refine i.of hp rfl rfl (fun j _=> ?_) (fun j _ f _=> ?_) fun _ _=> .inr rfl
  ·show(bW S.pl a.plate.toNat {S.pl a.plate.toNat with ret:=true} j).par=_;unfold bW;split;·rename_i h;subst h;rfl
   ·rfl
  ·show(bW S.pl a.plate.toNat {S.pl a.plate.toNat with ret:=true} j).fl f=_;unfold bW;split;·rename_i h;subst h;rfl
   ·rfl
theorem Ks{x:Sh×(Nat->Int×Int)}(h:x.1.ok)(hk:dh x.1)(i:IP x):∀l,IP (k9 x l):=by
 intro l;induction l generalizing x with
 |nil=>exact i
 |cons a l ih=>exact ih (x:=lq x a) (qD h a) (CF h hk a) (Ex h hk i a)
theorem J9(r:Rc)(g:Nat->Int×Int):IP (bV r,g):=⟨fun _ _ j hj=>absurd hj (Nat.not_lt_zero _),fun f hf=>absurd hf (Nat.not_lt_zero _)⟩
theorem xd{S:Sh}{X:Nat}{k t:Nat}{c:Int}(h:t≠X):qm S X (k+1) t c=qm S X k (S.pl t).par t:=by rw [qm,if_pos ⟨by omega,by omega⟩,Int.toNat_natCast]
theorem zF{S:Sh}{X:Nat}{k:Nat}{c:Int}:qm S X k X c=((X:Int),c):=qn (fun h=>h.1 rfl)
theorem zG{S:Sh}{X N:Nat}{f:Int}(h:CL S X N f)(hp:tN S):∀(k t:Nat) (c:Int),t< k->t< S.n->(S.pl t).fl f=if t=X then true else decide ((qm S X k t c).1=X) && decide ((N:Int)<=(qm S X k t c).2)
 |0,t,c,hk,_=>absurd hk (Nat.not_lt_zero _)
 |k+1,t,c,hk,ht=>by
  by_cases hx:t=X;·subst hx;rw [if_pos rfl];exact h.fx
  rw [if_neg hx,xd hx,h.st t ht hx];have h1:=(hp t ht).1;by_cases c0:(S.pl t).par< 0;·rw [if_pos c0,qn (fun h=>by omega)];rw [decide_eq_false (show ¬(S.pl t).par=(X:Int) by omega)];rfl
  ·rw [if_neg c0];obtain⟨p,hp1⟩:∃p:Nat,(S.pl t).par=p:=⟨(S.pl t).par.toNat,by omega⟩;rw [hp1,Int.toNat_natCast];by_cases hpx:p=X;·subst hpx;rw [if_pos rfl,zF,decide_eq_true (show(p:Int)=p from rfl),Bool.true_and];exact decide_eq_decide.2 oM
   ·rw [if_neg oM,zG h hp k p t oM oM,if_neg hpx]
theorem ji{S:Sh}{X:Nat}(hp:tN S):∀(k t:Nat) (c:Int),t< k->t< S.n->t≠X->(qm S X k t c).1=X->∃w:Nat,(qm S X k t c).2=w/\w< S.n/\(S.pl w).par=X
 |0,t,c,hk,_=>absurd hk (Nat.not_lt_zero _)
 |k+1,t,c,hk,ht=>fun hx he=>by
  rw [xd hx]at he ⊢;have h1:=(hp t ht).1;by_cases c0:(S.pl t).par< 0;·rw [qn (fun h=>by omega)]at he;have he:(S.pl t).par=X:=he;omega
  ·obtain⟨p,hp1⟩:∃p:Nat,(S.pl t).par=p:=⟨(S.pl t).par.toNat,by omega⟩;rw [hp1]at he ⊢;by_cases hpx:p=X;·subst hpx;rw [zF];exact⟨t,rfl,ht,hp1⟩
   ·exact ji hp k p t oM oM hpx he
def N5(q:Nat->Bool)(v:Nat->Int)(n:Nat):Nat->Int
 |0=> -1
 |k+1=>if q (n- 1- k)=true then v (n- 1- k)else N5 q v n k
theorem ru(q:Nat->Bool)(v:Nat->Int)(n:Nat):∀k,k<=n->((∀i,n- k<=i->i< n->q i=false)/\N5 q v n k= -1)\/∃w,n- k<=w/\w< n/\q w=true/\(∀i,n- k<=i->i< w->q i=false)/\N5 q v n k=v w
 |0,_=> .inl ⟨fun i h1 h2=>by omega,rfl⟩
 |k+1,hk=>by
  unfold N5;by_cases hq:q (n- 1- k)=true;·rw [if_pos hq];exact .inr ⟨n- 1- k,by omega,by omega,hq,fun i h1 h2=>by omega,rfl⟩
  ·rw [if_neg hq];have hq:q (n- 1- k)=false:=by simpa using hq
   rcases ru q v n k oM with⟨h1,h2⟩ | ⟨w,h1,h2,h3,h4,h5⟩
   ·refine .inl ⟨fun i h3 h4=> ?_,h2⟩;by_cases c:i=n- 1- k;·rw [c];exact hq
    ·exact h1 i oM h4
   ·refine .inr ⟨w,by omega,h2,h3,fun i h6 h7=> ?_,h5⟩;by_cases c:i=n- 1- k;·rw [c];exact hq
    ·exact h4 i oM h7
theorem oG{g g':Nat->Bool}{m:Nat}(h:∀i,i< m->g i=g' i):cY g m=cY g' m:=by
 induction m with
 |zero=>rfl
 |succ m ih=>
  have:=ih fun i hi=>h i oM;cases hg:g m with
  |true=>rw [kX hg,kX (by rw [<-h m oM];exact hg),this]
  |false=>rw [kW hg,kW (by rw [<-h m oM];exact hg),this]
theorem x5{g:Nat->Bool}{m:Nat}(h:∀i,i< m->g i=false):cY g m=[]:=by
 induction m with
 |zero=>rfl
 |succ m ih=>rw [kW (h m oM)];exact ih fun i hi=>h i oM
theorem BV{cs:List dK}{m:Nat}{p fr:Int}{g:Nat->Bool}(h1:∃c∈cs,rj p fr c=true)(h2:∀c∈cs,rj p fr c=true->∀i,i< m->c.2.2 i=g i):p0 cs m p fr=(cY g m,0):=by
 obtain⟨c,hc,hm⟩:=h1;cases hf:cs.find? (fun c=>decide (c.1=p) && decide (c.2.1=fr))with
 |none=>exact absurd hm (List.find?_eq_none.1 hf c hc)
 |some d=>unfold p0;rw [hf];simp only;rw [oG (h2 d (List.mem_of_find?_eq_some hf) (List.find?_some hf))]
theorem mX{S:Sh}{T:Nat->Nat}{m:Nat}{c:dK}:c∈gk S T m<->(∃i,i< S.n/\c∈k7 S T m i)\/∃k,k< m/\c=E5 k:=by
 unfold gk;rw [List.mem_append,List.mem_flatMap,List.mem_map];constructor
 ·rintro(⟨i,hi,h⟩ | ⟨k,hk,h⟩);·exact .inl ⟨i,List.mem_range.1 hi,h⟩
  ·exact .inr ⟨k,List.mem_range.1 hk,h.symm⟩
 ·rintro(⟨i,hi,h⟩ | ⟨k,hk,h⟩);·exact .inl ⟨i,List.mem_range.2 hi,h⟩
  ·exact .inr ⟨k,List.mem_range.2 hk,h.symm⟩
theorem ur{S:Sh}{T:Nat->Nat}{m i:Nat}{c:dK}(h:c∈k7 S T m i):c.1=i/\(((S.pl i).kind=3/\∃k,k< m/\fE S i 0 (T k)=true/\c=((i:Int),(k:Int)+1,Ao S T i k))\/((S.pl i).kind≠3/\∃k,k< S.n/\i< k/\(S.pl k).par=i/\c=((i:Int),(k:Int),fun j=>fE S i k (T j)))):=by
 unfold k7 at h;by_cases c3:(S.pl i).kind=3
 ·rw [if_pos c3,List.mem_filterMap]at h;obtain⟨k,hk,h⟩:=h;unfold Kj at h;split at h;·rename_i hu;injection h with h;subst h;exact⟨rfl,.inl ⟨c3,k,List.mem_range.1 hk,hu,rfl⟩⟩
  ·cases h
 ·rw [if_neg c3,List.mem_filterMap]at h;obtain⟨k,hk,h⟩:=h;unfold P9 at h;split at h;·rename_i hu;injection h with h;subst h;exact⟨rfl,.inr ⟨c3,k,List.mem_range.1 hk,hu.1,hu.2,rfl⟩⟩
  ·cases h
theorem zZ{S:Sh}{f:Int}{T:Nat->Nat}{i:Nat}(h:T i< S.n):v8 (bQ S f S.n) T i=(S.pl (T i)).fl f:=by
 unfold v8;cases hf:(S.pl (T i)).fl f with
 |true=>exact decide_eq_true (tT.2 ⟨h,hf⟩)
 |false=>exact decide_eq_false fun hm=>by rw [(tT.1 hm).2]at hf;cases hf
theorem xY{S:Sh}(hk:dh S){X w:Nat}(h3:(S.pl X).kind=3)(hw:w< S.n)(hp:(S.pl w).par=X):False:=by
 rcases hk w hw with⟨_,h⟩ | ⟨_,h1,_,_,h2⟩;·omega
 ·rw [hp,Int.toNat_natCast]at h2;omega
theorem Ip{S:Sh}(hn:S.n<=200)(hk:dh S){X t:Nat}(h3:(S.pl X).kind=3)(ht:t< S.n):fE S X 0 t=decide (t=X):=by
 unfold fE;by_cases hx:t=X;·subst hx;rw [zF];simp
 ·rw [decide_eq_false hx];cases h:decide ((qm S X 300 t S.n).1=X)with
  |false=>rfl
  |true=>obtain⟨w,_,hw,hp⟩:=ji hk.par 300 t S.n oM ht hx (of_decide_eq_true h);exact(xY hk h3 hw hp).elim
theorem Ln{S:Sh}(hn:S.n<=200)(hk:dh S){X N:Nat}{f:Int}(h:CL S X N f)(h3:(S.pl X).kind=3){t:Nat}(ht:t< S.n):(S.pl t).fl f=decide (t=X):=by
 rw [zG h hk.par 300 t S.n oM ht];by_cases hx:t=X;·rw [if_pos hx,decide_eq_true hx]
 ·rw [if_neg hx,decide_eq_false hx];cases hc:decide ((qm S X 300 t S.n).1=X)with
  |false=>rfl
  |true=>obtain⟨w,_,hw,hp⟩:=ji hk.par 300 t S.n oM ht hx (of_decide_eq_true hc);exact(xY hk h3 hw hp).elim
theorem DA{S:Sh}(hn:S.n<=200)(hk:dh S){X N:Nat}{f:Int}(h:CL S X N f)(h3:(S.pl X).kind=3){T:Nat->Nat}{m:Nat}(hT:∀i,i< m->T i< S.n){F:Int}(hF:F=N5 (fun i=>decide (T i=X)) (fun i=>(i:Int)+1) m m) :
    (F< 0/\cY (v8 (bQ S f S.n) T) m=[])\/(0<=F/\p0 (gk S T m) m X F=(cY (v8 (bQ S f S.n) T) m,0)):=by
  rcases ru (fun i=>decide (T i=X)) (fun i=>(i:Int)+1) m m (Nat.le_refl _)with⟨h1,h2⟩ | ⟨w,_,h2,h4,h5,h6⟩
  · refine .inl ⟨by rw [hF,h2];decide,x5 fun i hi=> ?_⟩
    rw [zZ (hT i hi),Ln hn hk h h3 (hT i hi)]
    exact h1 i oM hi
  · rw [<-hF]at h6
    refine .inr ⟨by rw [h6];omega,BV ⟨((X:Int),(w:Int)+1,Ao S T X w),mX.2 (.inl ⟨X,h.x,?_⟩),by simp [rj,h6]⟩ ?_⟩
    · unfold k7
      rw [if_pos h3,List.mem_filterMap]
      exact⟨w,List.mem_range.2 h2,by unfold Kj;rw [Ip hn hk h3 (hT w h2),h4];rfl⟩
    · intro c hc hm i hi
      have hm':c.1=X/\c.2.1=F:=by simpa [rj]using hm
      rcases mX.1 hc with⟨j,hj,hp⟩ | ⟨k,_,rfl⟩
      · obtain⟨e1,hp⟩:=ur hp
        have hjx:j=X:=by omega
        subst hjx
        rcases hp with⟨_,k,hk1,_,rfl⟩ | ⟨hn3,_⟩
        · have hkw:k=w:=by
            have:((k:Int)+1)=F:=hm'.2
            omega
          subst hkw
          show Ao S T j k i=_
          rw [zZ (hT i hi),Ln hn hk h h3 (hT i hi)]
          unfold Ao
          split
          · rename_i hlt;exact(h5 i oM hlt).symm
          · exact Ip hn hk h3 (hT i hi)
        · exact absurd h3 hn3
      · have:(-1:Int)=X:=hm'.1
        omega
theorem Dz{S:Sh}(hn:S.n<=200)(hk:dh S){X N:Nat}{f:Int}(h:CL S X N f)(h3:(S.pl X).kind≠3){T:Nat->Nat}{m:Nat}(hT:∀i,i< m->T i< S.n/\(S.pl (T i)).kind=3){F:Int}(hF:F=N5 (fun i=>decide ((S.pl i).par=X)) (fun i=>(i:Int)) S.n (S.n- N)) :
    (F< 0/\cY (v8 (bQ S f S.n) T) m=[])\/(0<=F/\p0 (gk S T m) m X F=(cY (v8 (bQ S f S.n) T) m,0)):=by
  have hne:∀i,i< m->T i≠X:=fun i hi e=>h3 (by rw [<-e];exact(hT i hi).2)
  have hNn:=h.n
  have hfl:∀i,i< m->v8 (bQ S f S.n) T i=(decide ((qm S X 300 (T i) S.n).1=X) && decide ((N:Int)<=(qm S X 300 (T i) S.n).2)):=fun i hi=>by
    rw [zZ (hT i hi).1,zG h hk.par 300 (T i) S.n (by have:=(hT i hi).1;omega) (hT i hi).1,if_neg (hne i hi)]
  rcases ru (fun i=>decide ((S.pl i).par=X)) (fun i=>(i:Int)) S.n (S.n- N) oM with⟨h1,h2⟩ | ⟨w,h1,h2,h4,h5,h6⟩
  · refine .inl ⟨by rw [hF,h2];decide,x5 fun i hi=> ?_⟩
    rw [hfl i hi]
    cases hc:decide ((qm S X 300 (T i) S.n).1=X)with
    |false=>rfl
    |true=>
      obtain⟨w,e,hw,hp⟩:=ji hk.par 300 (T i) S.n (by have:=(hT i hi).1;omega) (hT i hi).1 (hne i hi) (of_decide_eq_true hc)
      rw [e,Bool.true_and]
      refine decide_eq_false fun hle=> ?_
      have this:decide ((S.pl w).par=X)=false:=h1 w oM hw
      rw [decide_eq_true hp]at this;cases this
  · rw [<-hF]at h6
    have hXw:X< w:=by
      have h7:(S.pl w).par=X:=of_decide_eq_true h4
      have:=(hk.par w h2).1
      omega
    refine .inr ⟨by rw [h6];omega,BV ⟨((X:Int),(w:Int),fun j=>fE S X w (T j)),mX.2 (.inl ⟨X,h.x,?_⟩),by simp [rj,h6]⟩ ?_⟩
    · unfold k7
      rw [if_neg h3,List.mem_filterMap]
      exact⟨w,List.mem_range.2 h2,by unfold P9;rw [if_pos ⟨hXw,of_decide_eq_true h4⟩]⟩
    · intro c hc hm i hi
      have hm':c.1=X/\c.2.1=F:=by simpa [rj]using hm
      rcases mX.1 hc with⟨j,hj,hp⟩ | ⟨k,_,rfl⟩
      · obtain⟨e1,hp⟩:=ur hp
        have hjx:j=X:=by omega
        subst hjx
        rcases hp with⟨h3',_⟩ | ⟨_,k,hk1,_,_,rfl⟩
        · exact absurd h3' h3
        · have hkw:k=w:=by
            have:(k:Int)=F:=hm'.2
            omega
          subst hkw
          show fE S j k (T i)=_
          rw [hfl i hi]
          unfold fE
          cases hc:decide ((qm S j 300 (T i) S.n).1=j)with
          |false=>rfl
          |true=>
            obtain⟨u,e,hu,hpu⟩:=ji hk.par 300 (T i) S.n (by have:=(hT i hi).1;omega) (hT i hi).1 (hne i hi) (of_decide_eq_true hc)
            rw [e,Bool.true_and,Bool.true_and]
            refine decide_eq_decide.2 ⟨fun hle=>by omega,fun hle=> ?_⟩
            rcases Nat.lt_or_ge u k with hlt |hge
            · have this:decide ((S.pl u).par=j)=false:=h5 u oM hlt
              rw [decide_eq_true hpu]at this;cases this
            · omega
      · have:(-1:Int)=X:=hm'.1
        omega
theorem qx{g:Nat->Bool}{m d:Nat}(hd:d< m):(((d:Int)+1)∈cY g m)<->g d=true:=by
 induction m with
 |zero=>omega
 |succ m ih=>
  have hb:∀k,∀x∈cY g k,x<=k:=fun k=>by
   induction k with
   |zero=>intro x hx;cases hx
   |succ k ihk=>
    intro x hx;cases hg:g k with
    |true=>
     rw [kX hg,List.mem_append]at hx;rcases hx with hx |hx;·have:=ihk x hx;omega
     ·simp at hx;omega
    |false=>rw [kW hg]at hx;have:=ihk x hx;omega
  rcases Nat.lt_or_ge d m with hlt |hge
  ·cases hg:g m with
   |true=>
    rw [kX hg,List.mem_append,ih hlt];constructor
    ·rintro(h |h);·exact h
     ·simp at h;omega
    ·exact .inl
   |false=>rw [kW hg];exact ih hlt
  ·obtain rfl:d=m:=by omega
   cases hg:g d with
   |true=>rw [kX hg,List.mem_append];simp
   |false=>
    rw [kW hg];constructor;·intro h;have:=hb d _ h;omega
    ·intro h;cases h
end Go.Proofs.YtjmbpjlojjgggaaGreatDoor
