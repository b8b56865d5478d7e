/-
  Several texts in one: Listening: the discs that have a cause. Walk. Conditions: told in each theorem. .. The small examples of the layers up to 3, run by the machine. No condition.
-/
import Derived.Test.YtjmbpjlojjgggaaGreatDoorAbs42
import Derived.Test.YtjmbpjlojjgggaaGreatDoorX00
import Derived.Test.YtjmbpjlojjgggaaGreatDoorX10
import Derived.Test.YtjmbpjlojjgggaaGreatDoorX09
import Derived.Test.YtjmbpjlojjgggaaGreatDoorX03
import Derived.Test.YtjmbpjlojjgggaaGreatDoorMC
import Derived.Test.YtjmbpjlojjgggaaGreatDoorX04
import Derived.Test.YtjmbpjlojjgggaaGreatDoorX02
set_option maxRecDepth 100000
set_option maxHeartbeats 4000000
namespace Go.Proofs.YtjmbpjlojjgggaaGreatDoor
open Go.Ab Go.RowKit Go.Dw Go.Shelf
theorem AC.fz{P:Program}{f:FuncId}{args:List V}{v v':V}{obs:List Ob}(h:AC P f args v obs)(k:Fz (jE obs) v v'):AC P f args v' []:=by
 refine⟨h.1,fun L w vs hL hgl hvs=>(h.2 L w vs hL hgl hvs).mono ?_⟩;rintro ee w' ⟨x,rfl,hb,L',ρ',hG,hL',hx,hnn⟩;have ex:Ext w' L' ρ' w' (fun b=>L' b\/qt (jE obs) ρ' b) ρ':=⟨fun b hb=>⟨.inl hb,rfl⟩,fun _ _ h=>h⟩;refine⟨x,rfl,hb,fun b=>L' b\/qt (jE obs) ρ' b,ρ0,⟨fun b hbl=> ?_,hG.new,(fun id o ho=>by cases ho),fun i j y z k _ hi=>absurd rfl hi,hG.sG ex⟩,fun b hbl=> .inl (hL' b hbl),R.Pc hG k x hx,fun _ _=>rfl⟩;rcases hbl with h1 | ⟨id,y,hs,hy,hyb⟩;·exact hG.ll b h1
 ·cases ho:jE obs id with
  |none=>exact absurd ho hs
  |some o=>
   obtain⟨z,hz,hl⟩:=(hG.ob id o ho).lt;rw [hy]at hz;injection hz with hz;subst hz
   exact⟨(hl b hyb).1,.inr (hl b hyb).2.1⟩
theorem Fz.Mq{σ:Nat->Option Ob}{cs cs':List V}(h:iw σ cs cs'):Fz σ (.tup cs) (.tup cs'):= .tup _ _ h.get.1 h.get.2
theorem xH(S:Sh)(hn:S.n<=200)(hk:eX S)(A B:Nat->Nat)(m:Nat)(hm:m<=16)(hA:qz S m A)(hB:qz S m B)(sd:Bool) :
 AC Tryz.prog 89 [iX S,lN A B m,.i (kW sd)] (.tup [ic S (fM sd A B) m,.i 0]) []:=
 AC.fz (zP S hn hk A B m hm hA hB sd) (Fz.Mq ⟨Fz.refs (t:=189) (cs:=ud S (.own 1) (.own 2)) rfl ⟨Fz.cc _ rfl,Fz.rows (e:=2) (sz:=1) (r:=dF) rfl fun _ _=>iw.cc rfl,Fz.rows (e:=3) (sz:=1) (r:=j6 (fM sd A B)) rfl fun _ _=>iw.cc rfl,trivial⟩,Fz.cc _ rfl,trivial⟩)
theorem HQ(S:Sh)(T:Nat->Nat)(m:Nat):AC Tryz.prog 90 [ic S T m] (.fn (.func 136) [] [.ptr [ic S T m]]) []:=by refine gv ah cv Tryz.func90 Tryz.ntmps90 fun C hC hF=> ?_;refine sK fun K hK=>wR 2 ?_;refine aY ah 2 [] ?_;refine nK hK ?_;clear hK K;refine sK fun K hK=>wR 3 ?_;refine aY ah 2 [] ?_;refine nK hK ?_;clear hK K;refine ay ?_;refine rP (V.fn (Fn.func (136:Nat)) [] [V.ptr [V.ptr [V.sl (7:Nat) (Sh.n S) fun(i:Nat)=>Pl.c (Sh.pl S i),V.sl (1:Nat) m dF,V.sl (1:Nat) m (j6 T)]]])
theorem NI(g:Nat->Bool)(m:Nat)(hm:m<=16):AC Tryz.prog 91 [.sl 1 m (jj g),.sl 1 m dF] (V.ints (fY g m)) []:= AC.lY (e:=2) (sz:=1) (n:=(fY g m).length) (row:=vQ g m) (v:= .own 0) (LY g m hm) rfl (fun _ _=>rfl) (fun _=>rfl) rfl rfl
abbrev yK:=Int×Int×(Nat->Bool)
def OK(m:Nat)(c:yK):List V:=DZ m c.1 c.2.1 c.2.2
def Jm(S:Sh)(T:Nat->Nat)(i k:Nat):Option yK:=if fh S i 0 (T k)then some (i,(k:Int)+1,zX S T i k)else none
def OJ(S:Sh)(T:Nat->Nat)(i k:Nat):Option yK:=if i< k/\(S.pl k).par=i then some (i,k,fun j=>fh S i k (T j))else none
def nB(S:Sh)(T:Nat->Nat)(m i:Nat):List yK:=if(S.pl i).kind=3 then(List.range m).filterMap (Jm S T i)else(List.range S.n).filterMap (OJ S T i)
def Eo(k:Nat):yK:=(-1,(k:Int)+1,fun j=>decide (j=k))
def kj(S:Sh)(T:Nat->Nat)(m:Nat):List yK:=(List.range S.n).flatMap (nB S T m)++(List.range m).map Eo
theorem HR(S:Sh)(T:Nat->Nat)(m:Nat):qC S T m=(kj S T m).map (OK m):=by
 unfold qC kj;rw [List.map_append,List.map_map,List.map_flatMap];have h1:∀i,jT S T m i=(nB S T m i).map (OK m):=fun i=>by
  unfold jT nB;split;·rw [List.map_filterMap];congr 1;funext k;unfold s4 Jm;split <;> rfl
  ·rw [List.map_filterMap];congr 1;funext k;unfold CZ OJ;split <;> rfl
 rw [show jT S T m=fun i=>(nB S T m i).map (OK m)from funext h1];rfl
def pP(cs:List yK)(m:Nat)(p fr:Int):List Int×Int:=match cs.find? fun c=>decide (c.1=p) && decide (c.2.1=fr)with
 |some c=>(fY c.2.2 m,0)
 |none=>([],2)
theorem Iu{m:Nat}{l:List yK}:∀x∈l.map (OK m),x.length=1:=fun x hx=>by obtain⟨c,_,rfl⟩:=List.mem_map.1 hx;rfl
def qP(p fr:Int)(c:yK):Bool:=decide (c.1=p) && decide (c.2.1=fr)
theorem Dg{cs:List yK}{m:Nat}{p fr:Int}(h:∀j c,j< cs.length->cs[j]?=some c->qP p fr c=false):pP cs m p fr=([],2):=by
 have:cs.find? (fun c=>decide (c.1=p) && decide (c.2.1=fr))=none:=List.find?_eq_none.2 fun c hc=>by obtain⟨j,hj,rfl⟩:=List.getElem_of_mem hc;have:=h j _ hj (List.getElem?_eq_getElem hj);unfold qP at this;rw [this];simp
 unfold pP;rw [this]
theorem Bf{α:Type}{q:α->Bool}:∀ {l:List α}{k:Nat}{c:α},l[k]?=some c->q c=true->(∀j c',j< k->l[j]?=some c'->q c'=false)->l.find? q=some c
 | [],k,c,h,_,_=>by simp at h
 |x::l,0,c,h,h1,_=>by simp at h;subst h;simp [h1]
 |x::l,k+1,c,h,h1,h2=>by have hx:=h2 0 x (Nat.zero_lt_succ _) rfl;rw [List.find?_cons,hx];exact Bf (k:=k) (by simpa using h) h1 fun j c' hj hc=>h2 (j+1) c' oM (by simpa using hc)
theorem Dh{cs:List yK}{m k:Nat}{p fr:Int}{c:yK}(hc:cs[k]?=some c)(h1:qP p fr c=true)(h2:∀j c,j< k->cs[j]?=some c->qP p fr c=false):pP cs m p fr=(fY c.2.2 m,0):=by have:cs.find? (fun c=>decide (c.1=p) && decide (c.2.1=fr))=some c:=Bf hc h1 h2;unfold pP;rw [this]
theorem Bk(S:Sh)(hn:S.n<=200)(hk:eX S)(A B:Nat->Nat)(m:Nat)(hm:m<=16)(hA:qz S m A)(hB:qz S m B)(sd:Bool)(p fr:Int)(v:V) (v0:(∀(j:Nat) c,j< (kj S (fM sd A B) m).length->(kj S (fM sd A B) m)[j]?=some c->qP p fr c=false)->v= .tup [.nil,.i 2]) (v1:∀(k:Nat) c,(kj S (fM sd A B) m)[k]?=some c->qP p fr c=true->(∀(j:Nat) c,j< k->(kj S (fM sd A B) m)[j]?=some c->qP p fr c=false)->v= .tup [V.ints (fY c.2.2 m),.i 0]) : AC Tryz.prog 39 [iX S,lN A B m,.i (kW sd),.agg [.i p,.i fr]] v []:=by
 have hT:∀i,i< m->fM sd A B i< S.n:=fun i hi=>by unfold fM;split;exact(hB i hi).1;exact(hA i hi).1
 refine gv ah cv Tryz.func39 Tryz.ntmps39 fun C hC hF=> ?_;refine sK fun K hK=>wR 2 ?_;refine aY ah 3 [] ?_;refine nK hK ?_;clear hK K;refine sK fun K hK=>wR 3 ?_;refine aY ah 3 [] ?_;refine eC (xH S hn hk A B m hm hA hB sd) ?_;refine aY ah 6 [(4,.c ((0:Nat)+(1:Nat)<=(1:Nat)) oM)] ?_;refine nK hK ?_;clear hK K;refine sK fun K hK=>sK fun K hK=> ?_;refine j8 (dw (t:=(178:Nat)) (cs:=[V.ptr [V.sl (7:Nat) (Sh.n S) fun(i:Nat)=>Pl.c (Sh.pl S i),V.sl (1:Nat) m dF,V.sl (1:Nat) m (j6 (fM sd A B))]]) 200010 kR kR) ?_;refine wR 4 ?_;refine aY ah 2 [] ?_;refine nK hK ?_;clear hK K;refine aB (t:=false) kR rfl ?_;refine ak ?_;refine ai (hK _ ?_);clear hK K;refine sK fun K hK=>sK fun K hK=>wR 5 ?_;refine aY ah 1 [] ?_;refine eC (HQ S (fM sd A B) m) ?_;refine nK hK ?_;clear hK K;refine av ?_;obtain⟨T,hTe⟩:∃T,T=fM sd A B:=⟨_,rfl⟩;rw [<-hTe]at hT v0 v1 ⊢;have it:=KX S hn hk T m hm hT;rw [HR]at it;obtain⟨cs,hcs⟩:∃cs,cs=kj S T m:=⟨_,rfl⟩;rw [<-hcs]at it v0 v1;refine yj (caps:=[.ptr [ic S T m]]) [] hF [501,502] [] [(501,100008),(502,100009)] (fun _ _ h=>by rw [hC]at h;cases h) it kR kR rfl (by simp) (fun i k o h=>by simp at h) Iu kR
  [(7,.ptr [.i p,.i fr]),(8,.ref 501 0),(9,.ref 502 0),(10,.ptr [ic S T m])] (fun k=>∀j c,j< k->cs[j]?=some c->qP p fr c=false) (fun _=>[.box 41 [.nil],.box 27 [.i 0]])
  (fun k e sx=>e= .ret/\∃c,cs[k]?=some c/\qP p fr c=true/\(∀j c,j< k->cs[j]?=some c->qP p fr c=false)/\sx=[.box 41 [V.ints (fY c.2.2 m)],.box 27 [.i 0]]) (fun j c hj=>absurd hj (Nat.not_lt_zero _)) kR kR kR kR ⟨by show _=_;kernel_rfl,by show _=_;kernel_rfl,by show _=_;kernel_rfl,by show _=_;kernel_rfl,trivial⟩
  ⟨⟨.box 41 [.nil],kR,rfl,rfl⟩,⟨.box 27 [.i 0],kR,rfl,rfl⟩,trivial⟩ kR (fun _ _ h=>by cases h) ?round ?done ?stop
 case round=>
  rintro C' ⟨lx,hF'⟩ k x hx hk0
  rw [List.getElem?_map,Option.map_eq_some_iff]at hx
  obtain⟨c,hc,rfl⟩:=hx
  refine wR 2 ?_;refine aY ah 2 [(1,.c ((0:Nat)+(3:Nat)<=(3:Nat)) oM)] ?_;refine aa (ai ?_)
  refine av ?_
  refine sK fun K hK=>wR 3 ?_;refine aY ah 4 [(1,.c ((0:Nat)<=(3:Nat)) oM)] ?_;refine nK hK ?_;clear hK K
  refine au (t:=decide (Prod.fst c=p) && (decide (Prod.fst (Prod.snd c)=fr) && true)) kR (fun c1=> ?_) (fun c1=> ?_)
  ·have hmc:qP p fr c=true:=by simpa [qP]using c1
   refine sK fun K hK=>wD 4 ?_;refine aq ah (M:=[]) (n:=6) [pv (30:Nat) (V.ref (100012:Nat) (2:Nat)),pc (31:Nat) ((2:Nat)<=(3:Nat)) (V.sl (1:Nat) m (jj (Prod.snd (Prod.snd c)))),pv (32:Nat) (V.ptr [V.sl (7:Nat) (Sh.n S) fun(i:Nat)=>Pl.c (Sh.pl S i),V.sl (1:Nat) m dF,V.sl (1:Nat) m (j6 T)]),pv (33:Nat) (V.ptr [V.sl (7:Nat) (Sh.n S) fun(i:Nat)=>Pl.c (Sh.pl S i),V.sl (1:Nat) m dF,V.sl (1:Nat) m (j6 T)]),pv (34:Nat) (V.ptr [V.sl (1:Nat) m dF,V.sl (1:Nat) m (j6 T)]),pv (35:Nat) (V.sl (1:Nat) m dF)] kR kR ⟨oM,tI⟩ ?_;refine eC (NI c.2.2 m hm) ?_;refine aq ah (M:=[]) (n:=2) [pw ((0:Nat)+(1:Nat)<=(1:Nat)) (501:Nat) (Ob.box (41:Nat) [V.sl (1:Nat) (List.length (fY (Prod.snd (Prod.snd c)) m)) fun(k:Nat)=>[V.i (gi (fY (Prod.snd (Prod.snd c)) m) k)]]),pw ((0:Nat)+(1:Nat)<=(1:Nat)) (502:Nat) (Ob.box (27:Nat) [V.i (0:Int)])] kR kR ⟨oM,oM,tI⟩ ?_;refine aa ⟨kR,(ai (hK _ ?_))⟩;clear hK K;refine ay ?_;refine fy ?_;refine⟨_,⟨rfl,c,hc,hmc,hk0,rfl⟩,?_⟩;refine aD (sl:=[(501,Ob.box (41:Nat) [V.sl (1:Nat) (List.length (fY (Prod.snd (Prod.snd c)) m)) fun(k:Nat)=>[V.i (gi (fY (Prod.snd (Prod.snd c)) m) k)]]),(502,Ob.box (27:Nat) [V.i (0:Int)])]) [] .nil (.cons oS (.cons oS .nil)) kR kR
  ·have hmc:qP p fr c=false:=by
    cases h:qP p fr c with
    |false=>rfl
    |true=>rw [show(decide (c.1=p) && (decide (c.2.1=fr) && true))=qP p fr c by simp [qP],h]at c1;cases c1
   refine ak ?_;refine bL ?_;refine⟨fun j c' hj hc'=> ?_,?_⟩
   ·rcases Nat.lt_or_ge j k with h |h;·exact hk0 j c' h hc'
    ·obtain rfl:j=k:=by omega
     rw [hc]at hc';injection hc' with hc';subst hc';exact hmc
   ·refine aD (sl:=[(501,Ob.box (41:Nat) [V.nil]),(502,Ob.box (27:Nat) [V.i (0:Int)])]) [] .nil (.cons oS (.cons oS .nil)) kR kR
 case done=>
  intro hk0
  rw [List.length_map]at hk0
  have hv:=v0 hk0
  refine bL (ai (hK _ ?_));clear hK K;refine sK fun K hK=>wR 2 ?_;refine aY ah 2 [(0,.c ((0:Nat)+(1:Nat)<=(1:Nat)) oM),(0,.c ((0:Nat)+(1:Nat)<=(1:Nat)) oM)] ?_;refine nK hK ?_;clear hK K
  refine ay ?_
  refine lF (dw (t:=(41:Nat)) (cs:=[V.nil]) 501 kR kR) ?_
  refine lF (dw (t:=(27:Nat)) (cs:=[V.i (2:Int)]) 502 kR kR) ?_
  rw [hv]
  refine rP (V.tup [V.nil,V.i (2:Int)])
 case stop=>
  rintro k e sx hk0 ⟨rfl,c,hc,h1,h2,rfl⟩
  rw [v1 k c hc h1 h2]
  refine ay ?_
  refine fy ?_
  refine bV ?_
  refine lF (dw (t:=(41:Nat)) (cs:=[V.sl (1:Nat) (List.length (fY (Prod.snd (Prod.snd c)) m)) fun(k:Nat)=>[V.i (gi (fY (Prod.snd (Prod.snd c)) m) k)]]) 501 kR kR) ?_
  refine lF (dw (t:=(27:Nat)) (cs:=[V.i (0:Int)]) 502 kR kR) ?_
  refine rP (V.tup [V.sl (1:Nat) (List.length (fY (Prod.snd (Prod.snd c)) m)) fun(k:Nat)=>[V.i (gi (fY (Prod.snd (Prod.snd c)) m) k)],V.i (0:Int)])
theorem Ly(S:Sh)(hn:S.n<=200)(hk:eX S)(A B:Nat->Nat)(m:Nat)(hm:m<=16)(hA:qz S m A)(hB:qz S m B)(sd:Bool)(p fr:Int) : AC Tryz.prog 39 [iX S,lN A B m,.i (kW sd),.agg [.i p,.i fr]] (.tup [V.ints (pP (kj S (fM sd A B) m) m p fr).1,.i (pP (kj S (fM sd A B) m) m p fr).2]) []:=by
 by_cases h:∀(j:Nat) c,j< (kj S (fM sd A B) m).length->(kj S (fM sd A B) m)[j]?=some c->qP p fr c=false;·rw [Dg h];refine AC.res (Bk S hn hk A B m hm hA hB sd p fr (.tup [.nil,.i 2]) (fun _=>rfl) fun k c hc h1 _=> ?_) rfl (b6.Mq ⟨b6.Po _ _,b6.refl _,trivial⟩);rw [h k c (List.getElem?_eq_some_iff.1 hc).1 hc]at h1;cases h1
 ·exact Bk S hn hk A B m hm hA hB sd p fr _ (fun h'=>absurd h' h) fun k c hc h1 h2=>by rw [Dh hc h1 h2]
def bW(S:Sh)(f:Int)(k:Nat):List Nat:=(List.range k).filter fun i=>(S.pl i).fl f
def fA(S:Sh)(f:Int)(k j:Nat):List V:=[.i (((bW S f k).getD j 0:Nat):Int)]
theorem A5{S:Sh}{f:Int}{k:Nat}(h:(S.pl k).fl f=true):bW S f (k+1)=bW S f k++[k]:=by unfold bW;rw [List.range_succ,List.filter_append];simp [h]
theorem A4{S:Sh}{f:Int}{k:Nat}(h:(S.pl k).fl f=false):bW S f (k+1)=bW S f k:=by unfold bW;rw [List.range_succ,List.filter_append];simp [h]
theorem CL(S:Sh)(f:Int)(k:Nat):(bW S f k).length<=k:=Nat.le_trans (List.length_filter_le _ _) (by rw [List.length_range];exact Nat.le_refl _)
theorem tH{S:Sh}{f:Int}{k i:Nat}:i∈bW S f k<->i< k/\(S.pl i).fl f=true:=by unfold bW;rw [List.mem_filter,List.mem_range]
theorem Il{S:Sh}{f:Int}{k:Nat}(c2:(S.pl k).fl f=true){i:Nat}(hi:i< (bW S f k).length+1):aF (bW S f k).length (fA S f k) (fun i=>List.take 1 (List.drop (i*1) [V.i (k:Int)])) i=fA S f (k+1) i:=by
 simp only [fA,aF];rw [A5 c2];by_cases h:i< (bW S f k).length;·rw [if_pos h,List.getD_eq_getElem?_getD,List.getD_eq_getElem?_getD,List.getElem?_append_left h]
 ·have:i=(bW S f k).length:=by omega
  subst this;rw [if_neg h,Nat.sub_self,List.getD_eq_getElem?_getD,List.getElem?_append_right (Nat.le_refl _),Nat.sub_self];rfl
theorem Ik{S:Sh}{f:Int}{k:Nat}(c2:(S.pl k).fl f=false):fA S f (k+1)=fA S f k:=by funext i;unfold fA;rw [A4 c2]
theorem yI(S:Sh)(hn:S.n<=200)(f:Int)(hf:0<=f/\f< S.q)(hq:S.q<=1000):AC Tryz.prog 29 [HF S,.i f] (.tup [.own 0,.i 0]) [.row 3 1 (bW S f S.n).length (fA S f S.n)]:=by
 refine v5 ah cv (fn:=Tryz.f29) (N:=_) ⟨Tryz.func29,rfl,Tryz.ntmps29,kR⟩ (by simp) fun C hC hF=> ?_;refine sK fun K hK=> ?_;refine aj (n':=2) kR kR ?_;refine aq ah (M:=[]) (n:=2) [pv (4:Nat) V.nil,pv (5:Nat) (V.i (0:Int))] kR kR tI ?_;refine aa ?_;refine ai ?_;refine hK _ ?_;clear hK K;refine sK fun K hK=> ?_;refine sK fun K hK=> ?_;refine aj (n':=3) kR kR ?_;refine aq ah (M:=[]) (n:=2) [pv (15:Nat) (V.ptr [V.b true,V.i (Rc.n0 (Sh.r S)),V.i (Rc.n1 (Sh.r S)),V.i (Rc.n2 (Sh.r S)),V.i (Rc.n3 (Sh.r S)),V.i (Rc.k0 (Sh.r S)),V.i (Rc.k1 (Sh.r S)),V.i (Rc.k2 (Sh.r S)),V.i (Rc.k3 (Sh.r S)),V.i (Rc.seed (Sh.r S)),V.i (Rc.soft (Sh.r S)),V.i (Rc.hard (Sh.r S)),V.i (Rc.mo (Sh.r S)),V.i (Rc.st (Sh.r S)),V.sl (1:Nat) (Sh.n S) fun(i:Nat)=>[V.ptr [V.i (↑(Pl.kind (Sh.pl S i)):Int),V.i (Pl.par (Sh.pl S i)),V.i (Pl.cut (Sh.pl S i)),V.i (Pl.area (Sh.pl S i)),V.i (Pl.aE (Sh.pl S i)),V.i (Pl.grown (Sh.pl S i)),V.b (Pl.ret (Sh.pl S i)),xb (Sh.pl S i)]],V.sl (4:Nat) (Sh.m S) fun(i:Nat)=>aN.c (Sh.tk S i),V.sl (2:Nat) (Sh.q S) (aT (Sh.g S)),V.sl (13:Nat) (Sh.l S) bN]),pv (16:Nat) (V.i f)] kR kR tI ?_;refine zw (first:=[]) (caps:=[]) (Cd S f hf hq) kR kR kR kR kR ?_;refine aq ah (M:=[]) (n:=7) [pv (14:Nat) (V.tup [V.i (Prod.fst (Sh.g S (Int.toNat f))),V.i (Prod.snd (Sh.g S (Int.toNat f))),V.i (0:Int)]),pv (18:Nat) (V.i (Prod.fst (Sh.g S (Int.toNat f)))),pv (19:Nat) (V.i (Prod.snd (Sh.g S (Int.toNat f)))),pv (20:Nat) (V.i (0:Int)),pv (6:Nat) (V.i (Prod.fst (Sh.g S (Int.toNat f)))),pv (7:Nat) (V.i (Prod.snd (Sh.g S (Int.toNat f)))),pv (8:Nat) (V.i (0:Int))] kR kR tI ?_;refine aa ?_;refine ai ?_;refine hK _ ?_;clear hK K;refine sK fun K hK=> ?_;refine aj (n':=4) kR kR ?_;refine aq ah (M:=[]) (n:=2) [pv (21:Nat) (V.i (0:Int)),pv (22:Nat) (V.b false)] kR kR tI ?_;refine aa ?_;refine ai ?_;refine hK _ ?_;clear hK K;refine aB (t:=false) kR rfl ?_;refine ak ?_;refine ai ?_;refine hK _ ?_;clear hK K;refine sK fun K hK=> ?_;refine aj (n':=5) kR kR ?_;refine aq ah (M:=[]) (n:=1) [pv (9:Nat) V.nil] kR kR tI ?_;refine aa ?_;refine ai ?_;refine hK _ ?_;clear hK K;refine sK fun K hK=> ?_;refine sK fun K hK=> ?_;refine aj (n':=6) kR kR ?_;refine aq ah (M:=[]) (n:=6) [pv (24:Nat) (V.ptr [V.b true,V.i (Rc.n0 (Sh.r S)),V.i (Rc.n1 (Sh.r S)),V.i (Rc.n2 (Sh.r S)),V.i (Rc.n3 (Sh.r S)),V.i (Rc.k0 (Sh.r S)),V.i (Rc.k1 (Sh.r S)),V.i (Rc.k2 (Sh.r S)),V.i (Rc.k3 (Sh.r S)),V.i (Rc.seed (Sh.r S)),V.i (Rc.soft (Sh.r S)),V.i (Rc.hard (Sh.r S)),V.i (Rc.mo (Sh.r S)),V.i (Rc.st (Sh.r S)),V.sl (1:Nat) (Sh.n S) fun(i:Nat)=>[V.ptr [V.i (↑(Pl.kind (Sh.pl S i)):Int),V.i (Pl.par (Sh.pl S i)),V.i (Pl.cut (Sh.pl S i)),V.i (Pl.area (Sh.pl S i)),V.i (Pl.aE (Sh.pl S i)),V.i (Pl.grown (Sh.pl S i)),V.b (Pl.ret (Sh.pl S i)),xb (Sh.pl S i)]],V.sl (4:Nat) (Sh.m S) fun(i:Nat)=>aN.c (Sh.tk S i),V.sl (2:Nat) (Sh.q S) (aT (Sh.g S)),V.sl (13:Nat) (Sh.l S) bN]),pv (25:Nat) (V.ptr [V.b true,V.i (Rc.n0 (Sh.r S)),V.i (Rc.n1 (Sh.r S)),V.i (Rc.n2 (Sh.r S)),V.i (Rc.n3 (Sh.r S)),V.i (Rc.k0 (Sh.r S)),V.i (Rc.k1 (Sh.r S)),V.i (Rc.k2 (Sh.r S)),V.i (Rc.k3 (Sh.r S)),V.i (Rc.seed (Sh.r S)),V.i (Rc.soft (Sh.r S)),V.i (Rc.hard (Sh.r S)),V.i (Rc.mo (Sh.r S)),V.i (Rc.st (Sh.r S)),V.sl (1:Nat) (Sh.n S) fun(i:Nat)=>[V.ptr [V.i (↑(Pl.kind (Sh.pl S i)):Int),V.i (Pl.par (Sh.pl S i)),V.i (Pl.cut (Sh.pl S i)),V.i (Pl.area (Sh.pl S i)),V.i (Pl.aE (Sh.pl S i)),V.i (Pl.grown (Sh.pl S i)),V.b (Pl.ret (Sh.pl S i)),xb (Sh.pl S i)]],V.sl (4:Nat) (Sh.m S) fun(i:Nat)=>aN.c (Sh.tk S i),V.sl (2:Nat) (Sh.q S) (aT (Sh.g S)),V.sl (13:Nat) (Sh.l S) bN]),pv (26:Nat) (V.ptr [V.sl (1:Nat) (Sh.n S) fun(i:Nat)=>[V.ptr [V.i (↑(Pl.kind (Sh.pl S i)):Int),V.i (Pl.par (Sh.pl S i)),V.i (Pl.cut (Sh.pl S i)),V.i (Pl.area (Sh.pl S i)),V.i (Pl.aE (Sh.pl S i)),V.i (Pl.grown (Sh.pl S i)),V.b (Pl.ret (Sh.pl S i)),xb (Sh.pl S i)]],V.sl (4:Nat) (Sh.m S) fun(i:Nat)=>aN.c (Sh.tk S i),V.sl (2:Nat) (Sh.q S) (aT (Sh.g S)),V.sl (13:Nat) (Sh.l S) bN]),pv (27:Nat) (V.sl (1:Nat) (Sh.n S) fun(i:Nat)=>[V.ptr [V.i (↑(Pl.kind (Sh.pl S i)):Int),V.i (Pl.par (Sh.pl S i)),V.i (Pl.cut (Sh.pl S i)),V.i (Pl.area (Sh.pl S i)),V.i (Pl.aE (Sh.pl S i)),V.i (Pl.grown (Sh.pl S i)),V.b (Pl.ret (Sh.pl S i)),xb (Sh.pl S i)]]),pv (28:Nat) (V.i (↑(Sh.n S):Int)),pv (29:Nat) (V.i (0:Int))] kR kR tI ?_;refine aa ?_;refine ai ?_;refine hK _ ?_;clear hK K;refine av ?_;refine j8 (jC 9 3 1 (fA S f 0) kR rfl) ?_;refine cJ (ι:=Nat) (fun k=>[(1,.i f),(9,.own 5),(27,.sl 1 S.n fun i=>[.ptr (Np S i)]),(28,.i S.n),(29,.i (k:Nat))]) (fun k=>[(5,.row 3 1 (bW S f k).length (fA S f k))]) (fun k=>k<=S.n) (fun k=>S.n- k) 0 (Nat.zero_le _) ?_ ?_;·refine aD (sl:=[(5,Ob.row (3:Nat) (1:Nat) (0:Nat) (fA S f (0:Nat)))]) [(5,600009)] (.cons kR (.cons kR (.cons kR (.cons kR (.cons kR .nil))))) (.cons ⟨Ob.row (3:Nat) (1:Nat) (0:Nat) (fA S f (0:Nat)),kR,.row kR (fun _ _=>rfl)⟩ .nil) kR kR
 intro k hk;have hbl:=CL S f k;refine sK fun K hK=> ?_;refine aj (n':=2) kR kR ?_;refine aq ah (M:=[]) (n:=1) [pv (30:Nat) (V.b (decide ((↑k:Int)< (↑(Sh.n S):Int))))] kR kR tI ?_;refine aa ?_;refine ai ?_;refine hK _ ?_;clear hK K;refine sK fun K hK=> ?_;refine au (t:=decide ((↑k:Int)< (↑(Sh.n S):Int))) kR (fun c1=> ?_) (fun c1=> ?_)
 ·have hk1:k< S.n:=by simpa using c1
  refine ak ?_;refine ai ?_;refine hK _ ?_;clear hK K;refine sK fun K hK=> ?_;refine av ?_;refine sK fun K hK=> ?_;refine aj (n':=3) kR kR ?_;refine aq ah (M:=[]) (n:=5) [pv (31:Nat) (V.i (↑k:Int)),pc (32:Nat) ((0:Int)<=(↑k:Int)/\(↑k:Int)< (↑(Sh.n S):Int)) (V.ptr [V.ptr [V.i (↑(Pl.kind (Sh.pl S k)):Int),V.i (Pl.par (Sh.pl S k)),V.i (Pl.cut (Sh.pl S k)),V.i (Pl.area (Sh.pl S k)),V.i (Pl.aE (Sh.pl S k)),V.i (Pl.grown (Sh.pl S k)),V.b (Pl.ret (Sh.pl S k)),xb (Sh.pl S k)]]),pv (33:Nat) (V.ptr [V.i (↑(Pl.kind (Sh.pl S k)):Int),V.i (Pl.par (Sh.pl S k)),V.i (Pl.cut (Sh.pl S k)),V.i (Pl.area (Sh.pl S k)),V.i (Pl.aE (Sh.pl S k)),V.i (Pl.grown (Sh.pl S k)),V.b (Pl.ret (Sh.pl S k)),xb (Sh.pl S k)]),pv (10:Nat) (V.i (↑k:Int)),pv (11:Nat) (V.ptr [V.i (↑(Pl.kind (Sh.pl S k)):Int),V.i (Pl.par (Sh.pl S k)),V.i (Pl.cut (Sh.pl S k)),V.i (Pl.area (Sh.pl S k)),V.i (Pl.aE (Sh.pl S k)),V.i (Pl.grown (Sh.pl S k)),V.b (Pl.ret (Sh.pl S k)),xb (Sh.pl S k)])] kR kR ⟨oM,tI⟩ ?_;refine aa ?_;refine ai ?_;refine hK _ ?_;clear hK K;refine sK fun K hK=> ?_;refine aj (n':=4) kR kR ?_;refine aq ah (M:=[]) (n:=12) [pv (35:Nat) (V.ptr [V.i (↑(Pl.kind (Sh.pl S k)):Int),V.i (Pl.par (Sh.pl S k)),V.i (Pl.cut (Sh.pl S k)),V.i (Pl.area (Sh.pl S k)),V.i (Pl.aE (Sh.pl S k)),V.i (Pl.grown (Sh.pl S k)),V.b (Pl.ret (Sh.pl S k)),xb (Sh.pl S k)]),pv (36:Nat) (V.ptr [V.i (↑(Pl.kind (Sh.pl S k)):Int),V.i (Pl.par (Sh.pl S k)),V.i (Pl.cut (Sh.pl S k)),V.i (Pl.area (Sh.pl S k)),V.i (Pl.aE (Sh.pl S k)),V.i (Pl.grown (Sh.pl S k)),V.b (Pl.ret (Sh.pl S k)),xb (Sh.pl S k)]),pv (37:Nat) (V.ptr [xb (Sh.pl S k)]),pv (38:Nat) (xb (Sh.pl S k)),pv (39:Nat) (V.i f),pv (40:Nat) (V.tup [V.agg [],V.b (Pl.fl (Sh.pl S k) f)]),pv (34:Nat) (V.tup [V.agg [],V.b (Pl.fl (Sh.pl S k) f)]),pv (41:Nat) (V.agg []),pv (42:Nat) (V.b (Pl.fl (Sh.pl S k) f)),pn (12:Nat) (V.ref (300012:Nat) (0:Nat)) (300012:Nat) (Ob.box (157:Nat) []),pw ((0:Nat)+(0:Nat)<=(0:Nat)) (300012:Nat) (Ob.box (157:Nat) []),pv (13:Nat) (V.b (Pl.fl (Sh.pl S k) f))] kR kR ⟨oM,tI⟩ ?_;refine aa ?_;refine ai ?_;refine hK _ ?_;clear hK K;refine sK fun K hK=> ?_;refine aj (n':=5) kR kR ?_;refine aq ah (M:=[]) (n:=1) [pv (43:Nat) (V.b (Pl.fl (Sh.pl S k) f))] kR kR tI ?_;refine aa ?_;refine ai ?_;refine hK _ ?_;clear hK K;refine au (t:=Pl.fl (Sh.pl S k) f) kR (fun c2=> ?_) (fun c2=> ?_);·refine aj (n':=6) kR kR ?_;refine aq ah (M:=[]) (n:=5) [pv (44:Nat) (V.own (5:Nat)),pv (45:Nat) (V.i (↑k:Int)),pv (46:Nat) (V.sl (1:Nat) (1:Nat) fun(i:Nat)=>List.take (1:Nat) (List.drop (i*1) [V.i (↑k:Int)])),PR.mk (some (47:Nat)) (some (List.length (bW S f k)+1<=(1099511627776:Nat))) (V.own (500047:Nat)) [((5:Nat),none),((500047:Nat),some (Ob.row (3:Nat) (1:Nat) (List.length (bW S f k)+1) (aF (List.length (bW S f k)) (fA S f k) fun(i:Nat)=>List.take (1:Nat) (List.drop (i*1) [V.i (↑k:Int)]))))] false,pv (9:Nat) (V.own (500047:Nat))] kR kR ⟨oM,tI⟩ ?_;refine aa ?_;refine bL ?_;refine ai ?_;refine hK _ ?_;clear hK K;refine aj (n':=7) kR kR ?_;refine aq ah (M:=[]) (n:=2) [pc (48:Nat) ((-9223372036854775808:Int)<=(↑k:Int)+1/\(↑k:Int)+1<=(9223372036854775807:Int)) (V.i ((↑k:Int)+1)),pv (29:Nat) (V.i ((↑k:Int)+1))] kR kR ⟨oM,tI⟩ ?_;refine aa ?_;refine ai ?_;refine⟨k+1,by omega,?_,by omega⟩;rw [show(bW S f (k+1)).length=(bW S f k).length+1 by rw [A5 c2,List.length_append];rfl];refine aD (tl:=[(1,V.i f),(9,V.own (5:Nat)),(27,V.sl (1:Nat) (Sh.n S) fun(i:Nat)=>[V.ptr (Np S i)]),(28,V.i (↑(Sh.n S):Int)),(29,V.i (↑(k+1):Int))]) (sl:=[(5,Ob.row (3:Nat) (1:Nat) (List.length (bW S f k)+1) (fA S f (k+1)))]) [(5,500047)] (.cons kR (.cons kR (.cons kR (.cons kR (.cons kR .nil))))) (.cons ⟨Ob.row (3:Nat) (1:Nat) (List.length (bW S f k)+1) (aF (List.length (bW S f k)) (fA S f k) fun(i:Nat)=>List.take (1:Nat) (List.drop (i*1) [V.i (↑k:Int)])),kR,.row kR ?_⟩ .nil) kR kR;·intro i hi;rw [Il c2 hi];rfl
  ·refine ak ?_;refine bL ?_;refine ai ?_;refine hK _ ?_;clear hK K;refine aj (n':=6) kR kR ?_;refine aq ah (M:=[]) (n:=2) [pc (48:Nat) ((-9223372036854775808:Int)<=(↑k:Int)+1/\(↑k:Int)+1<=(9223372036854775807:Int)) (V.i ((↑k:Int)+1)),pv (29:Nat) (V.i ((↑k:Int)+1))] kR kR ⟨oM,tI⟩ ?_;refine aa ?_;refine ai ?_;refine⟨k+1,by omega,?_,by omega⟩;rw [A4 c2];refine aD (tl:=[(1,V.i f),(9,V.own (5:Nat)),(27,V.sl (1:Nat) (Sh.n S) fun(i:Nat)=>[V.ptr (Np S i)]),(28,V.i (↑(Sh.n S):Int)),(29,V.i (↑(k+1):Int))]) (sl:=[(5,Ob.row (3:Nat) (1:Nat) (List.length (bW S f k)) (fA S f (k+1)))]) [(5,5)] (.cons kR (.cons kR (.cons kR (.cons kR (.cons kR .nil))))) (.cons ⟨Ob.row (3:Nat) (1:Nat) (List.length (bW S f k)) (fA S f k),kR,.row kR ?_⟩ .nil) kR kR;·intro i hi;rw [Ik c2];rfl
 ·have hk1:k=S.n:=by simp at c1;omega
  subst hk1;refine bw ?_;refine b5 ?_;refine b5 ?_;refine bF ?_;refine ai ?_;clear hK K;refine hK _ ?_;clear hK K;refine sK fun K hK=> ?_;refine aj (n':=3) kR kR ?_;refine aq ah (M:=[]) (n:=3) [pv (49:Nat) (V.own (5:Nat)),pv (4:Nat) (V.own (5:Nat)),pv (5:Nat) (V.i (0:Int))] kR kR tI ?_;refine aa ?_;refine ai ?_;refine hK _ ?_;clear hK K;refine ay ?_;refine gM [(0,5)] [(4,V.own (0:Nat)),(5,V.i (0:Int))] (.inr rfl) (.cons kR (.cons kR .nil)) (.cons ⟨Ob.row (3:Nat) (1:Nat) (List.length (bW S f (Sh.n S))) (fA S f (Sh.n S)),kR,.row kR (fun _ _=>rfl)⟩ .nil) kR kR kR kR
def i5(S:Sh)(k:Nat):List Nat:=(List.range k).filter fun i=>decide ((S.pl i).kind=3)
def jl(S:Sh)(k j:Nat):List V:=[.i (((i5 S k).getD j 0:Nat)+1:Int)]
theorem G5{S:Sh}{k:Nat}(h:(S.pl k).kind=3):i5 S (k+1)=i5 S k++[k]:=by unfold i5;rw [List.range_succ,List.filter_append];simp [h]
theorem Kz{S:Sh}{k:Nat}(h:(S.pl k).kind≠3):i5 S (k+1)=i5 S k:=by unfold i5;rw [List.range_succ,List.filter_append];simp [h]
theorem B0(S:Sh)(k:Nat):(i5 S k).length<=k:=Nat.le_trans (List.length_filter_le _ _) (by rw [List.length_range];exact Nat.le_refl _)
theorem JA{S:Sh}{k i:Nat}:i∈i5 S k<->i< k/\(S.pl i).kind=3:=by unfold i5;rw [List.mem_filter,List.mem_range,decide_eq_true_eq]
theorem JB{S:Sh}{k j:Nat}(h:(S.pl k).kind=3)(hj:j< (i5 S k).length):jl S (k+1) j=jl S k j:=by unfold jl;rw [G5 h,List.getD_eq_getElem?_getD,List.getD_eq_getElem?_getD,List.getElem?_append_left hj]
theorem Mk{S:Sh}{k:Nat}(h:(S.pl k).kind=3):[V.i ((k:Int)+1)]=jl S (k+1) (i5 S k).length:=by unfold jl;rw [G5 h,List.getD_eq_getElem?_getD,List.getElem?_append_right (Nat.le_refl _),Nat.sub_self];rfl
theorem Mj{S:Sh}{k:Nat}(h:(S.pl k).kind≠3):jl S (k+1)=jl S k:=by funext j;unfold jl;rw [Kz h]
def pT(S:Sh)(X:Nat->Int)(i:Nat):Nat:=(i5 S S.n).getD ((X i).tmod ((i5 S S.n).length:Nat)).toNat 0
def BI(S:Sh)(q:Nat):Nat:=if(i5 S S.n).length=0 then 0 else min q 16
def GD(X Y:Nat->Int)(i:Nat):List V:=[.c (.int .u8 (X i)),.c (.int .u8 (Y i))]
theorem zZ(S:Sh)(q:Nat):BI S q<=16/\BI S q<=q:=by unfold BI;split <;> omega
theorem GC(S:Sh)(X:Nat->Int)(q:Nat)(hX:∀i,i< q->0<=X i/\X i<=255):qz S (BI S q) (pT S X):=fun i hi=>by
 have hq:=zZ S q;have hL:0< (i5 S S.n).length:=by
  rcases Nat.eq_zero_or_pos (i5 S S.n).length with h |h;·unfold BI at hi;rw [if_pos h]at hi;omega
  ·exact h
 have h1:=Int.tmod_nonneg ((i5 S S.n).length:Int) (hX i oM).1;have h2:=Int.tmod_lt_of_pos (X i) (show(0:Int)< ((i5 S S.n).length:Int) by omega);have h3:((X i).tmod ((i5 S S.n).length:Nat)).toNat< (i5 S S.n).length:=by omega
 have:pT S X i∈i5 S S.n:=by unfold pT;rw [List.getD_eq_getElem?_getD,List.getElem?_eq_getElem h3];exact List.getElem_mem h3
 exact JA.1 this
theorem xV(S:Sh)(hn:S.n<=200)(X Y:Nat->Int)(q:Nat)(hq:q<=4611686018427387904)(hX:∀i,i< q->0<=X i/\X i<=255)(hY:∀i,i< q->0<=Y i/\Y i<=255) : AC Tryz.prog 35 [iX S,.sl 2 q (GD X Y),.i 16] (.own 0) [.row 104 7 (BI S q) (kE (pT S X) (pT S Y))]:=by
 refine gv ah cv Tryz.func35 Tryz.ntmps35 fun C hC hF=> ?_;refine sX ah 2 1 [] tI (sX ah 3 1 [] tI (sK fun K hK=>sX ah 4 1 [] tI ?_));refine av ?_;refine j8 (jC 7 2 1 (jl S 0) kR rfl) ?_;refine cJ (ι:=Nat) (fun k=>[(0,iX S),(1,.sl 2 q (GD X Y)),(2,.i 16),(7,.own 5),(8,.i (k:Nat))]) (fun k=>[(5,.row 2 1 (i5 S k).length (jl S k))]) (fun k=>k<=S.n) (fun k=>S.n- k) 0 (Nat.zero_le _) ?_ ?_;·refine aD (sl:=[(5,Ob.row (2:Nat) (1:Nat) (0:Nat) (jl S (0:Nat)))]) [(5,400007)] (.cons kR (.cons kR (.cons kR (.cons kR (.cons kR .nil))))) (.cons oS .nil) kR kR
 intro k hk1;have hl:=B0 S k;refine sK fun K hK=>sX ah 2 4 [] tI ?_;refine au (t:=decide ((↑k:Int)< (↑(Sh.n S):Int))) kR (fun c1=> ?_) (fun c1=> ?_)
 ·have hkn:k< S.n:=by simpa using c1
  refine ak ?_;refine ai (hK _ ?_);clear hK K;refine sK fun K hK=> ?_;refine av ?_;refine sK fun K hK=>wR 3 ?_;refine aq ah (M:=[]) (n:=6) [pv (17:Nat) (V.sl (7:Nat) (Sh.n S) fun(i:Nat)=>Pl.c (Sh.pl S i)),pv (18:Nat) (V.i (↑k:Int)),pc (19:Nat) ((0:Int)<=(↑k:Int)/\(↑k:Int)< (↑(Sh.n S):Int)) (V.ptr [V.i (↑(Pl.kind (Sh.pl S k)):Int),V.i (Pl.par (Sh.pl S k)),V.i (Pl.cut (Sh.pl S k)),V.i (Pl.area (Sh.pl S k)),V.i (Pl.aE (Sh.pl S k)),V.i (Pl.grown (Sh.pl S k)),V.b (Pl.ret (Sh.pl S k))]),pv (20:Nat) (V.ptr [V.i (↑(Pl.kind (Sh.pl S k)):Int),V.i (Pl.par (Sh.pl S k)),V.i (Pl.cut (Sh.pl S k)),V.i (Pl.area (Sh.pl S k)),V.i (Pl.aE (Sh.pl S k)),V.i (Pl.grown (Sh.pl S k)),V.b (Pl.ret (Sh.pl S k))]),pv (21:Nat) (V.i (↑(Pl.kind (Sh.pl S k)):Int)),pv (22:Nat) (V.b (decide ((↑(Pl.kind (Sh.pl S k)):Int)=3)))] kR kR ⟨oM,tI⟩ ?_;refine nK hK ?_;clear hK K;refine au (t:=decide ((↑(Pl.kind (Sh.pl S k)):Int)=3)) kR (fun c2=> ?_) (fun c2=> ?_)
  ·have h3:(S.pl k).kind=3:=by simp at c2;omega
   refine wR 4 ?_;refine aq ah (M:=[]) (n:=6) [pv (23:Nat) (V.own (5:Nat)),pv (24:Nat) (V.i (↑k:Int)),pc (25:Nat) ((-9223372036854775808:Int)<=(↑k:Int)+1/\(↑k:Int)+1<=(9223372036854775807:Int)) (V.i ((↑k:Int)+1)),pv (26:Nat) (V.sl (1:Nat) (1:Nat) fun(i:Nat)=>List.take (1:Nat) (List.drop (i*1) [V.i ((↑k:Int)+1)])),PR.mk (some (27:Nat)) (some (List.length (i5 S k)+1<=(1099511627776:Nat))) (V.own (300027:Nat)) [((5:Nat),none),((300027:Nat),some (Ob.row (2:Nat) (1:Nat) (List.length (i5 S k)+1) (aF (List.length (i5 S k)) (jl S k) fun(i:Nat)=>List.take (1:Nat) (List.drop (i*1) [V.i ((↑k:Int)+1)]))))] false,pv (7:Nat) (V.own (300027:Nat))] kR kR ⟨oM,oM,tI⟩ ?_;refine aa (bL (ai (hK _ ?_)));clear hK K;refine wR 5 ?_;refine aq ah (M:=[]) (n:=3) [pv (15:Nat) (V.i (↑k:Int)),pc (16:Nat) ((-9223372036854775808:Int)<=(↑k:Int)+1/\(↑k:Int)+1<=(9223372036854775807:Int)) (V.i ((↑k:Int)+1)),pv (8:Nat) (V.i ((↑k:Int)+1))] kR kR ⟨oM,tI⟩ ?_;refine aa (ai ?_);refine⟨k+1,by omega,?_,by omega⟩;rw [show(i5 S (k+1)).length=(i5 S k).length+1 by rw [G5 h3,List.length_append];rfl];refine aD (tl:=[(0,V.sl (7:Nat) (Sh.n S) fun(i:Nat)=>Pl.c (Sh.pl S i)),(1,V.sl (2:Nat) q (GD X Y)),(2,V.i (16:Int)),(7,V.own (5:Nat)),(8,V.i (↑(k+1):Int))]) (sl:=[(5,Ob.row (2:Nat) (1:Nat) (List.length (i5 S k)+1) (jl S (k+1)))]) [(5,300027)] (.cons kR (.cons kR (.cons kR (.cons kR (.cons kR .nil))))) (.cons ⟨Ob.row (2:Nat) (1:Nat) (List.length (i5 S k)+1) (aF (List.length (i5 S k)) (jl S k) fun(i:Nat)=>List.take (1:Nat) (List.drop (i*1) [V.i ((↑k:Int)+1)])),kR,.row kR ?_⟩ .nil) kR kR;·exact eR (fun j hj=>(JB h3 hj).symm) (Mk h3)
  ·have h3:(S.pl k).kind≠3:=by simp at c2;omega
   refine ak ?_;refine bL (ai (hK _ ?_));clear hK K;refine wR 4 ?_;refine aq ah (M:=[]) (n:=3) [pv (15:Nat) (V.i (↑k:Int)),pc (16:Nat) ((-9223372036854775808:Int)<=(↑k:Int)+1/\(↑k:Int)+1<=(9223372036854775807:Int)) (V.i ((↑k:Int)+1)),pv (8:Nat) (V.i ((↑k:Int)+1))] kR kR ⟨oM,tI⟩ ?_;refine aa (ai ?_);refine⟨k+1,by omega,?_,by omega⟩;rw [show(i5 S (k+1)).length=(i5 S k).length by rw [Kz h3]];refine aD (tl:=[(0,V.sl (7:Nat) (Sh.n S) fun(i:Nat)=>Pl.c (Sh.pl S i)),(1,V.sl (2:Nat) q (GD X Y)),(2,V.i (16:Int)),(7,V.own (5:Nat)),(8,V.i (↑(k+1):Int))]) (sl:=[(5,Ob.row (2:Nat) (1:Nat) (List.length (i5 S k)) (jl S (k+1)))]) [(5,5)] (.cons kR (.cons kR (.cons kR (.cons kR (.cons kR .nil))))) (.cons ⟨Ob.row (2:Nat) (1:Nat) (List.length (i5 S k)) (jl S k),kR,.row kR ?_⟩ .nil) kR kR;·intro i _;rw [Mj h3];rfl
 obtain rfl:k=S.n:=by simp at c1;omega
 clear c1;refine bw ?_;refine b5 ?_;refine b5 ?_;refine bF ?_;refine ai ?_;clear hK K;refine hK _ ?_;clear hK K;refine sK fun K hK=>wR 3 ?_;refine aY ah 1 [] ?_;refine nK hK ?_;clear hK K;refine sK fun K hK=>sK fun K hK=>wR 4 ?_;refine aY ah 1 [] ?_;refine nK hK ?_;clear hK K;refine av ?_;refine j8 (Br 7 5 (e:=(2:Nat)) (sz:=(1:Nat)) (n:=List.length (i5 S (Sh.n S))) (n':=(i5 S S.n).length) (row:=jl S (Sh.n S)) (row':=(jl S S.n)) kR kR (fun _ _=>rfl) ?_ ?_) ?_;·rfl
 ·exact fun _ _=>rfl
 refine j8 (jC 9 104 7 (kE (pT S X) (pT S Y)) kR rfl) ?_;obtain⟨L,hL⟩:∃L:Nat,L=(i5 S S.n).length:=⟨_,rfl⟩;have hpm:=zZ S q;have hpe:BI S q=if L=0 then 0 else min q 16:=by rw [hL];rfl
 have hLb:=B0 S S.n;rw [<-hL]at hLb ⊢;refine cJ (ι:=Nat) (fun k=>[(1,.sl 2 q (GD X Y)),(2,.i 16),(7,.sl 1 L (jl S S.n)),(9,.own 5),(10,.i (k:Nat))]) (fun k=>[(5,.row 104 7 k (kE (pT S X) (pT S Y)))]) (fun k=>k<=BI S q) (fun k=>BI S q- k) 0 (Nat.zero_le _) ?_ ?_;·refine aD (sl:=[(5,Ob.row (104:Nat) (7:Nat) (0:Nat) (kE (pT S X) (pT S Y)))]) [(5,400009)] (.cons kR (.cons kR (.cons kR (.cons kR (.cons kR .nil))))) (.cons oS .nil) kR kR
 intro k hk1;refine sK fun K hK=>sK fun K hK=>wR 2 ?_;refine aY ah 14 [] ?_;refine nK hK ?_;clear hK K;refine au (t:=decide ((↑k:Int)< (↑q:Int)) && decide ((↑k:Int)< 16) && decide ((0:Int)< (↑L:Int))) kR (fun c1=> ?_) (fun c1=> ?_)
 ·have c1':(k< q/\k< 16)/\0< L:=by simp at c1;omega
  have hkm:k< BI S q:=by rw [hpe,if_neg oM];omega
  obtain⟨x1,x2⟩:=hX k c1'.1.1;obtain⟨y1,y2⟩:=hY k c1'.1.1;have xl1:=Int.tmod_nonneg (L:Int) x1;have xl2:=Int.tmod_lt_of_pos (X k) (show(0:Int)< (L:Int) by omega);have yl1:=Int.tmod_nonneg (L:Int) y1;have yl2:=Int.tmod_lt_of_pos (Y k) (show(0:Int)< (L:Int) by omega);refine ak ?_;refine ai (hK _ ?_);clear hK K;refine sK fun K hK=> ?_;refine av ?_;refine wD 3 (aX ah 31 [(2,.i ((↑k:Int)+1)),(6,.c ((0:Int)<=(↑k:Int)/\(↑k:Int)< (↑q:Int))),(7,.c ((0:Int)<=(0:Int)/\(0:Int)< (↑(2:Nat):Int))),(9,.i (X k)),(12,.c ((↑L:Int)≠0)),(13,.c ((0:Int)<=Int.tmod (X k) (↑L:Int)/\Int.tmod (X k) (↑L:Int)< (↑L:Int))),(18,.c ((0:Int)<=(↑k:Int)/\(↑k:Int)< (↑q:Int))),(19,.c ((0:Int)<=(1:Int)/\(1:Int)< (↑(2:Nat):Int))),(21,.i (Y k)),(24,.c ((↑L:Int)≠0)),(25,.c ((0:Int)<=Int.tmod (Y k) (↑L:Int)/\Int.tmod (Y k) (↑L:Int)< (↑L:Int))),(29,.r (PR.mk (some (73:Nat)) (some (k+1<=(1099511627776:Nat))) (V.own (200073:Nat)) [((5:Nat),none),((200073:Nat),some (Ob.row (104:Nat) (7:Nat) (k+1) (aF k (kE (pT S X) (pT S Y)) fun(i:Nat)=>List.take (7:Nat) (List.drop (i*7) [V.i ((↑k:Int)+1),V.i ((↑(List.getD (i5 S (Sh.n S)) (Int.toNat (Int.tmod (X k) (↑L:Int))) (0:Nat)):Int)+1),V.i ((↑(List.getD (i5 S (Sh.n S)) (Int.toNat (Int.tmod (Y k) (↑L:Int))) (0:Nat)):Int)+1),V.i (0:Int),V.i (0:Int),V.i (0:Int),V.b false]))))] false))] ⟨oM,oM,oM,oM,oM,oM,oM,oM,oM,oM,oM,oM,tI⟩ (aa ⟨kR,(bL (ai (hK _ ?_)))⟩));clear hK K;refine wR 4 ?_;refine aY ah 3 [(1,.c (iR ((↑k:Int)+1)) oM)] ?_;refine aa (ai ?_);refine⟨k+1,by omega,?_,by omega⟩;refine aD (tl:=[(1,V.sl (2:Nat) q (GD X Y)),(2,V.i (16:Int)),(7,V.sl (1:Nat) L (jl S (Sh.n S))),(9,V.own (5:Nat)),(10,V.i (↑(k+1):Int))]) (sl:=[(5,Ob.row (104:Nat) (7:Nat) (k+1) (kE (pT S X) (pT S Y)))]) [(5,200073)] (.cons kR (.cons kR (.cons kR (.cons kR (.cons kR .nil))))) (.cons ⟨Ob.row (104:Nat) (7:Nat) (k+1) (aF k (kE (pT S X) (pT S Y)) fun(i:Nat)=>List.take (7:Nat) (List.drop (i*7) [V.i ((↑k:Int)+1),V.i ((↑(List.getD (i5 S (Sh.n S)) (Int.toNat (Int.tmod (X k) (↑L:Int))) (0:Nat)):Int)+1),V.i ((↑(List.getD (i5 S (Sh.n S)) (Int.toNat (Int.tmod (Y k) (↑L:Int))) (0:Nat)):Int)+1),V.i (0:Int),V.i (0:Int),V.i (0:Int),V.b false])),kR,.row kR ?_⟩ .nil) kR kR;·exact eR (fun _ _=>rfl) (by rw [hL];rfl)
 ·have hkm:k=BI S q:=by
   have:¬((k< q/\k< 16)/\0< L):=by simp at c1;omega
   rw [hpe]at hk1 ⊢;split at hk1;·rename_i h;rw [if_pos h];omega
   ·rename_i h;rw [if_neg h];omega
  refine bw ?_;refine b5 ?_;refine b5 ?_;refine bF ?_;refine ai ?_;clear hK K;refine hK _ ?_;clear hK K;refine sK fun K hK=>wR 3 ?_;refine aY ah 2 [] ?_;refine nK hK ?_;clear hK K;refine ay ?_;refine gM [(0,5)] [(6,V.own (0:Nat))] (.inr rfl) (.cons kR .nil) (.cons ⟨Ob.row (104:Nat) (7:Nat) k (kE (pT S X) (pT S Y)),kR,.row ?_ (fun _ _=>rfl)⟩ .nil) kR kR kR kR;exact hkm
theorem z4(S:Sh)(hn:S.n<=200)(X Y:Nat->Int)(q:Nat)(hq:q<=4611686018427387904)(hX:∀i,i< q->0<=X i/\X i<=255)(hY:∀i,i< q->0<=Y i/\Y i<=255) :
 AC Tryz.prog 35 [iX S,.sl 2 q (GD X Y),.i 16] (lN (pT S X) (pT S Y) (BI S q)) []:=
 AC.lY (e:=104) (sz:=7) (n:=BI S q) (row:=kE (pT S X) (pT S Y)) (v:= .own 0) (xV S hn X Y q hq hX hY) rfl (fun _ _=>rfl) (fun _=>rfl) rfl rfl
theorem Bx(i a b:Nat)(sd:Bool)(hb:i<=16/\a<=256/\b<=256):AC Tryz.prog 38 [.agg [.i ((i:Nat)+1:Int),.i ((a:Nat)+1:Int),.i ((b:Nat)+1:Int),.i 0,.i 0,.i 0,.b false],.i (kW sd)] (.i ((if sd then b else a:Nat):Int)) []:=by
 refine gv ah cv Tryz.func38 Tryz.ntmps38 fun C hC hF=> ?_;refine sK fun K hK=>wR 2 ?_;refine aY ah 2 [] ?_;refine nK hK ?_;clear hK K;refine sK fun K hK=>sK fun K hK=>wR 3 ?_;refine aY ah 2 [] ?_;refine nK hK ?_;clear hK K;refine au (t:=decide (kW sd=0)) kR (fun c1=> ?_) (fun c1=> ?_)
 ·have hs:sd=false:=by cases sd with |false=>rfl |true=>simp [kW]at c1
  have e:((a:Nat):Int)+1- 1=((if sd then b else a:Nat):Int):=by rw [hs];simp
  refine sK fun K hK=>wR 4 ?_;refine aY ah 4 [(2,.c (iR ((↑a:Int)+1- (1:Int))) oM)] ?_;refine nK hK ?_;clear hK K;refine ay ?_;refine bV ?_;rw [<-e];refine rP (V.i ((↑a:Int)+1- (1:Int)))
 ·have hs:sd=true:=by cases sd with |true=>rfl |false=>simp [kW]at c1
  have e:((b:Nat):Int)+1- 1=((if sd then b else a:Nat):Int):=by rw [hs];simp
  refine ak ?_;refine ai (hK _ ?_);clear hK K;refine sK fun K hK=>wR 4 ?_;refine aY ah 4 [(2,.c (iR ((↑b:Int)+1- (1:Int))) oM)] ?_;refine nK hK ?_;clear hK K;refine ay ?_;rw [<-e];refine rP (V.i ((↑b:Int)+1- (1:Int)))
theorem zS(a b:List Int)(ha:a.length<=1000)(hb:b.length<=1000):AC Tryz.prog 40 [V.ints a,V.ints b] (.b (decide (a=b))) []:=by
 refine gv ah cv Tryz.func40 Tryz.ntmps40 fun C hC hF=> ?_;refine sK fun K hK=>wR 2 ?_;refine aY ah 1 [] ?_;refine nK hK ?_;clear hK K;refine sK fun K hK=>sK fun K hK=>wR 3 ?_;refine aY ah 5 [] ?_;refine nK hK ?_;clear hK K;refine au (t:= !decide ((↑(List.length a):Int)=(↑(List.length b):Int))) kR (fun c0=> ?_) (fun c0=> ?_)
 ·have:a≠b:=fun h=>by subst h;simp at c0
  refine sK fun K hK=>wR 4 ?_;refine aY ah 1 [] ?_;refine nK hK ?_;clear hK K;refine ay ?_;refine bV ?_;rw [decide_eq_false this];refine rP (V.b false)
 have hl:a.length=b.length:=by simp at c0;omega
 refine ak ?_;refine ai (hK _ ?_);clear hK K;refine sK fun K hK=>sK fun K hK=>wR 4 ?_;refine aY ah 1 [] ?_;refine nK hK ?_;clear hK K;refine av ?_;refine cJ (ι:=Nat) (fun k=>[(0,V.ints a),(1,V.ints b),(5,.i (k:Nat))]) (fun _=>[]) (fun k=>k<=a.length/\∀j,j< k->gi a j=gi b j) (fun k=>a.length- k) 0 ⟨Nat.zero_le _,fun j hj=>absurd hj (Nat.not_lt_zero _)⟩ ?_ ?_;·refine aD [] (.cons kR (.cons kR (.cons kR .nil))) .nil kR kR
 rintro k ⟨hk1,hk2⟩;refine sK fun K hK=>sK fun K hK=>wR 2 ?_;refine aY ah 4 [] ?_;refine nK hK ?_;clear hK K;refine au (t:=decide ((↑k:Int)< (↑(List.length a):Int))) kR (fun c1=> ?_) (fun c1=> ?_)
 ·have hka:k< a.length:=by simpa using c1
  have hkb:k< b.length:=by omega
  refine ak ?_;refine ai (hK _ ?_);clear hK K;refine sK fun K hK=> ?_;refine av ?_;refine sK fun K hK=>wD 3 ?_;refine aY ah 9 [(2,.c ((0:Int)<=(↑k:Int)/\(↑k:Int)< (↑(List.length a):Int)) oM),(3,.c ((0:Int)<=(↑k:Int)/\(↑k:Int)< (↑(List.length b):Int)) oM)] ?_;refine aa ⟨kR,(ai (hK _ ?_))⟩;clear hK K;refine au (t:= !decide (gi a k=gi b k)) kR (fun c2=> ?_) (fun c2=> ?_)
  ·have hne:a≠b:=fun h=>by subst h;simp at c2
   refine sK fun K hK=>wR 4 ?_;refine aY ah 1 [] ?_;refine nK hK ?_;clear hK K;refine ay ?_;refine fy ?_;refine bV (bV ?_);refine fy ?_;refine bV ?_;rw [decide_eq_false hne];refine rP (V.b false)
  ·have he:gi a k=gi b k:=by simpa using c2
   refine ak ?_;refine bL (ai (hK _ ?_));clear hK K;refine wR 4 ?_;refine aY ah 3 [(1,.c (iR ((↑k:Int)+1)) oM)] ?_;refine aa (ai ?_);refine⟨k+1,⟨by omega,fun j hj=> ?_⟩,?_,by omega⟩
   ·rcases Nat.lt_or_ge j k with h |h;·exact hk2 j h
    ·obtain rfl:j=k:=by omega
     exact he
   ·refine aD [] (.cons kR (.cons kR (.cons kR .nil))) .nil kR kR
 ·have hka:k=a.length:=by simp at c1;omega
  have heq:a=b:=List.ext_getElem hl fun j h1 h2=>by have:=hk2 j oM;unfold gi at this;rw [List.getD_eq_getElem?_getD,List.getD_eq_getElem?_getD,List.getElem?_eq_getElem h1,List.getElem?_eq_getElem h2]at this;simpa using this
  refine bw ?_;refine b5 ?_;refine b5 ?_;refine bF ?_;refine ai ?_;clear hK K;refine hK _ ?_;clear hK K;refine sK fun K hK=>wR 3 ?_;refine aY ah 1 [] ?_;refine nK hK ?_;clear hK K;refine ay ?_;rw [decide_eq_true heq];refine rP (V.b true)
theorem J8(a:List Int)(x:Int)(ha:a.length<=1000):AC Tryz.prog 41 [V.ints a,.i x] (.b (decide (x∈a))) []:=by
 refine gv ah cv Tryz.func41 Tryz.ntmps41 fun C hC hF=> ?_;refine sK fun K hK=>wR 2 ?_;refine aY ah 1 [] ?_;refine nK hK ?_;clear hK K;refine sK fun K hK=>sK fun K hK=>wR 3 ?_;refine aY ah 1 [] ?_;refine nK hK ?_;clear hK K;refine av ?_;refine cJ (ι:=Nat) (fun k=>[(0,V.ints a),(1,.i x),(5,.i (k:Nat))]) (fun _=>[]) (fun k=>k<=a.length/\∀j,j< k->gi a j≠x) (fun k=>a.length- k) 0 ⟨Nat.zero_le _,fun j hj=>absurd hj (Nat.not_lt_zero _)⟩ ?_ ?_;·refine aD [] (.cons kR (.cons kR (.cons kR .nil))) .nil kR kR
 rintro k ⟨hk1,hk2⟩;refine sK fun K hK=>sK fun K hK=>wR 2 ?_;refine aY ah 4 [] ?_;refine nK hK ?_;clear hK K;refine au (t:=decide ((↑k:Int)< (↑(List.length a):Int))) kR (fun c1=> ?_) (fun c1=> ?_)
 ·have hka:k< a.length:=by simpa using c1
  have hm:gi a k∈a:=by unfold gi;rw [List.getD_eq_getElem?_getD,List.getElem?_eq_getElem hka];exact List.getElem_mem hka
  refine ak ?_;refine ai (hK _ ?_);clear hK K;refine sK fun K hK=> ?_;refine av ?_;refine sK fun K hK=>wR 3 ?_;refine aY ah 6 [(2,.c ((0:Int)<=(↑k:Int)/\(↑k:Int)< (↑(List.length a):Int)) oM)] ?_;refine nK hK ?_;clear hK K;refine au (t:=decide (gi a k=x)) kR (fun c2=> ?_) (fun c2=> ?_)
  ·have he:gi a k=x:=by simpa using c2
   refine sK fun K hK=>wR 4 ?_;refine aY ah 1 [] ?_;refine nK hK ?_;clear hK K;refine ay ?_;refine fy ?_;refine bV (bV ?_);refine fy ?_;refine bV ?_;rw [decide_eq_true (he ▸ hm:x∈a)];refine rP (V.b true)
  ·have he:gi a k≠x:=by simpa using c2
   refine ak ?_;refine bL (ai (hK _ ?_));clear hK K;refine wR 4 ?_;refine aY ah 3 [(1,.c (iR ((↑k:Int)+1)) oM)] ?_;refine aa (ai ?_);refine⟨k+1,⟨by omega,fun j hj=> ?_⟩,?_,by omega⟩
   ·rcases Nat.lt_or_ge j k with h |h;·exact hk2 j h
    ·obtain rfl:j=k:=by omega
     exact he
   ·refine aD [] (.cons kR (.cons kR (.cons kR .nil))) .nil kR kR
 ·have hka:k=a.length:=by simp at c1;omega
  have hn:¬x∈a:=fun h=>by obtain⟨j,hj,e⟩:=List.getElem_of_mem h;refine hk2 j oM ?_;unfold gi;rw [List.getD_eq_getElem?_getD,List.getElem?_eq_getElem hj];exact e
  refine bw ?_;refine b5 ?_;refine b5 ?_;refine bF ?_;refine ai ?_;clear hK K;refine hK _ ?_;clear hK K;refine sK fun K hK=>wR 3 ?_;refine aY ah 1 [] ?_;refine nK hK ?_;clear hK K;refine ay ?_;rw [decide_eq_false hn];refine rP (V.b false)
def Gr(l:List Nat):V:= .sl 1 l.length fun j=>[.i ((l.getD j 0:Nat):Int)]
def yD(BL:List Nat)(T:Nat->Nat)(i:Nat):Bool:=decide (T i∈BL)
def dK(BL:List Nat)(T:Nat->Nat)(i k:Nat):List Int:=fY (yD BL T) i++if T i∈BL.take k then [(i:Int)+1]else []
def ga(BL:List Nat)(T:Nat->Nat)(i k j:Nat):List V:=[.i (gi (dK BL T i k) j)]
theorem y9(BL:List Nat)(T:Nat->Nat)(i:Nat):dK BL T i 0=fY (yD BL T) i:=by unfold dK;simp
theorem wJ(BL:List Nat)(T:Nat->Nat)(i:Nat):dK BL T i BL.length=fY (yD BL T) (i+1):=by
 unfold dK;rw [List.take_length];by_cases h:T i∈BL;·rw [if_pos h,rH (decide_eq_true h)]
 ·rw [if_neg h,List.append_nil,rG (decide_eq_false h)]
theorem Hf{BL:List Nat}{k:Nat}(hk:k< BL.length):BL.take (k+1)=BL.take k++[BL.getD k 0]:=by rw [List.take_add_one,List.getElem?_eq_getElem hk,List.getD_eq_getElem?_getD,List.getElem?_eq_getElem hk];rfl
theorem EO{BL:List Nat}(hnd:BL.Nodup){T:Nat->Nat}{i k:Nat}(hk:k< BL.length)(h:T i=BL.getD k 0):dK BL T i (k+1)=dK BL T i k++[(i:Int)+1]:=by
 have hn:T i∉BL.take k:=fun hm=>by
  have h1:BL=BL.take k++BL.drop k:=(List.take_append_drop k BL).symm;rw [h1]at hnd;have h2:BL.getD k 0∈BL.drop k:=by rw [List.getD_eq_getElem?_getD,List.getElem?_eq_getElem hk,List.drop_eq_getElem_cons hk];exact List.mem_cons_self ..
  exact(List.nodup_append.1 hnd).2.2 _ hm _ h2 h
 unfold dK;rw [Hf hk,if_pos (by rw [h];simp),if_neg hn];simp
theorem EM{BL:List Nat}{T:Nat->Nat}{i k:Nat}(hk:k< BL.length)(h:T i≠BL.getD k 0):dK BL T i (k+1)=dK BL T i k:=by
 unfold dK;rw [Hf hk];have:T i∈BL.take k++[BL.getD k 0]<->T i∈BL.take k:=by rw [List.mem_append];simp;intro e;exact absurd e (by rw [<-List.getD_eq_getElem?_getD];exact h)
 by_cases hm:T i∈BL.take k;·rw [if_pos (this.2 hm),if_pos hm]
 ·rw [if_neg (fun h=>hm (this.1 h)),if_neg hm]
theorem EN(BL:List Nat)(T:Nat->Nat)(i k:Nat):(dK BL T i k).length<=i+1:=by unfold dK;have:=vn (yD BL T) i;rw [List.length_append];split <;> simp <;> omega
theorem K8{BL:List Nat}(hnd:BL.Nodup){T:Nat->Nat}{i k:Nat}(hk:k< BL.length)(h:T i=BL.getD k 0):(∀j,j< (dK BL T i k).length->ga BL T i k j=ga BL T i (k+1) j)/\[V.i ((i:Int)+1)]=ga BL T i (k+1) (dK BL T i k).length:=by
 unfold ga gi;rw [EO hnd hk h];refine⟨fun j hj=> ?_,?_⟩;·rw [List.getD_eq_getElem?_getD,List.getD_eq_getElem?_getD,List.getElem?_append_left hj]
 ·rw [List.getD_eq_getElem?_getD,List.getElem?_append_right (Nat.le_refl _),Nat.sub_self];rfl
theorem K7{BL:List Nat}{T:Nat->Nat}{i k:Nat}(hk:k< BL.length)(h:T i≠BL.getD k 0):ga BL T i (k+1)=ga BL T i k:=by funext j;unfold ga;rw [EM hk h]
theorem K6(BL:List Nat)(T:Nat->Nat)(i:Nat):ga BL T (i+1) 0=ga BL T i BL.length:=by funext j;unfold ga;rw [y9,wJ]
abbrev MC(BL:List Nat):V:=V.sl 1 (List.length BL) fun(j:Nat)=>[V.i (↑(List.getD BL j (0:Nat)):Int)]
abbrev AD(BL:List Nat):=(2,(MC BL))
theorem Ih(A B:Nat->Nat)(m:Nat)(hm:m<=16)(sd:Bool)(hA:∀i,i< m->A i<=256/\B i<=256)(BL:List Nat)(hB:BL.length<=256)(hnd:BL.Nodup) : AC Tryz.prog 37 [lN A B m,.i (kW sd),Gr BL] (.own 0) [.row 2 1 (dK BL (fM sd A B) m 0).length (ga BL (fM sd A B) m 0)]:=by
 refine gv ah cv Tryz.func37 Tryz.ntmps37 fun C hC hF=> ?_;obtain⟨T,hT⟩:∃T,T=fM sd A B:=⟨_,rfl⟩;rw [<-hT];refine sK fun K hK=>wR 2 ?_;refine aY ah 1 [] ?_;refine nK hK ?_;clear hK K;refine sK fun K hK=>wR 3 ?_;refine aY ah 1 [] ?_;refine nK hK ?_;clear hK K;refine sK fun K hK=>sK fun K hK=>wR 4 ?_;refine aY ah 1 [] ?_;refine nK hK ?_;clear hK K;refine av ?_;refine j8 (jC 7 2 1 (ga BL T 0 0) kR rfl) ?_;refine cJ (ι:=Nat) (fun i=>[(0,lN A B m),(1,.i (kW sd)),(2,Gr BL),(7,.own 5),(8,.i (i:Nat))]) (fun i=>[(5,.row 2 1 (dK BL T i 0).length (ga BL T i 0))]) (fun i=>i<=m) (fun i=>m- i) 0 (Nat.zero_le _) ?_ ?_;·refine aD (sl:=[(5,Ob.row 2 1 0 (ga BL T (0:Nat) (0:Nat)))]) [(5,400007)] (.cons kR (.cons kR (.cons kR (.cons kR (.cons kR .nil))))) (.cons oS .nil) kR kR
 intro i hi1;refine sK fun K hK=>sK fun K hK=>wR 2 ?_;refine aY ah 4 [] ?_;refine nK hK ?_;clear hK K;refine au (t:=decide ((↑i:Int)< (↑m:Int))) kR (fun c1=> ?_) (fun c1=> ?_)
 ·have him:i< m:=by simpa using c1
  refine ak ?_;refine ai (hK _ ?_);clear hK K;refine sK fun K hK=> ?_;refine av ?_;refine sK fun K hK=>wR 3 ?_;refine aY ah 1 [] ?_;refine nK hK ?_;clear hK K;refine av ?_;refine cJ (ι:=Nat) (fun k=>[(0,lN A B m),(1,.i (kW sd)),(2,Gr BL),(7,.own 5),(8,.i (i:Nat)),(9,.i (k:Nat))]) (fun k=>[(5,.row 2 1 (dK BL T i k).length (ga BL T i k))]) (fun k=>k<=BL.length) (fun k=>BL.length- k) 0 (Nat.zero_le _) ?_ ?_;·refine aD (sl:=[(5,Ob.row 2 1 (List.length (dK BL T i (0:Nat))) (ga BL T i (0:Nat)))]) [(5,5)] (.cons kR (.cons kR (.cons kR (.cons kR (.cons kR (.cons kR .nil)))))) (.cons oS .nil) kR kR
  intro k hk1;have hbl:=EN BL T i k;refine sK fun K hK=>sK fun K hK=>wR 2 ?_;refine aY ah 4 [] ?_;refine nK hK ?_;clear hK K;refine au (t:=decide ((↑k:Int)< (↑(List.length BL):Int))) kR (fun c2=> ?_) (fun c2=> ?_)
  ·have hkn:k< BL.length:=by simpa using c2
   refine ak ?_;refine ai (hK _ ?_);clear hK K;refine sK fun K hK=> ?_;refine av ?_;refine sK fun K hK=>wD 3 ?_;refine aY ah 5 [(2,.c ((0:Int)<=(↑i:Int)/\(↑i:Int)< (↑m:Int)) oM)] ?_;refine eC (Bx i (A i) (B i) sd ⟨by omega,hA i him⟩) ?_;rw [show(if sd then B i else A i)=T i by rw [hT];rfl];refine aY ah 5 [(2,.c ((0:Int)<=(↑k:Int)/\(↑k:Int)< (↑(List.length BL):Int)) oM)] ?_;refine aa ⟨kR,(ai (hK _ ?_))⟩;clear hK K;refine au (t:=decide ((↑(T i):Int)=(↑(List.getD BL k (0:Nat)):Int))) kR (fun c3=> ?_) (fun c3=> ?_)
   ·have he:T i=BL.getD k 0:=by have h:=of_decide_eq_true c3;omega
    have ht:=K8 hnd hkn he;refine wR 4 (aX ah 9 [(3,.c ((0:Int)<=(↑i:Int)/\(↑i:Int)< (↑m:Int))),(7,.r (PR.mk (some (40:Nat)) (some (List.length (dK BL T i k)+1<=(1099511627776:Nat))) (V.own 300040) [((5:Nat),none),((300040:Nat),some (Ob.row 2 1 (List.length (dK BL T i k)+1) (aF (List.length (dK BL T i k)) (ga BL T i k) fun(i_1:Nat)=>List.take (1:Nat) (List.drop (i_1*1) [V.i ((↑i:Int)+1)]))))] false))] ⟨oM,oM,tI⟩ (aa (bL (ai (hK _ ?_)))));clear hK K;refine wR 5 ?_;refine aY ah 3 [(1,.c (iR ((↑k:Int)+1)) oM)] ?_;refine aa (ai ?_);refine⟨k+1,by omega,?_,by omega⟩;rw [show(dK BL T i (k+1)).length=(dK BL T i k).length+1 by rw [EO hnd hkn he,List.length_append];rfl];refine aD (tl:=[(0,V.sl 7 m (kE A B)),(1,V.i (kW sd)),(AD BL),(7,V.own 5),(8,V.i (↑i:Int)),(9,V.i (↑(k+1):Int))]) (sl:=[(5,Ob.row 2 1 (List.length (dK BL T i k)+1) (ga BL T i (k+1)))]) [(5,300040)] (.cons kR (.cons kR (.cons kR (.cons kR (.cons kR (.cons kR .nil)))))) (.cons ⟨Ob.row 2 1 (List.length (dK BL T i k)+1) (aF (List.length (dK BL T i k)) (ga BL T i k) fun(i_1:Nat)=>List.take (1:Nat) (List.drop (i_1*1) [V.i ((↑i:Int)+1)])),kR,.row kR ?_⟩ .nil) kR kR;·exact eR (fun j hj=>ht.1 j hj) ht.2
   ·have he:T i≠BL.getD k 0:=by have h:=of_decide_eq_false c3;omega
    refine ak ?_;refine bL (ai (hK _ ?_));clear hK K;refine wR 4 ?_;refine aY ah 3 [(1,.c (iR ((↑k:Int)+1)) oM)] ?_;refine aa (ai ?_);refine⟨k+1,by omega,?_,by omega⟩;rw [show(dK BL T i (k+1)).length=(dK BL T i k).length by rw [EM hkn he]];refine aD (tl:=[(0,V.sl 7 m (kE A B)),(1,V.i (kW sd)),(AD BL),(7,V.own 5),(8,V.i (↑i:Int)),(9,V.i (↑(k+1):Int))]) (sl:=[(5,Ob.row 2 1 (List.length (dK BL T i k)) (ga BL T i (k+1)))]) [(5,5)] (.cons kR (.cons kR (.cons kR (.cons kR (.cons kR (.cons kR .nil)))))) (.cons ⟨Ob.row 2 1 (List.length (dK BL T i k)) (ga BL T i k),kR,.row kR ?_⟩ .nil) kR kR;·intro j _;rw [K7 hkn he];rfl
  ·have hke:k=BL.length:=by simp at c2;omega
   subst hke;refine bw ?_;refine b5 ?_;refine b5 ?_;refine bF ?_;refine bL (ai ?_);clear hK K;refine hK _ ?_;clear hK K;refine wR 3 ?_;refine aY ah 3 [(1,.c (iR ((↑i:Int)+1)) oM)] ?_;refine aa (ai ?_);refine⟨i+1,by omega,?_,by omega⟩;rw [show(dK BL T (i+1) 0).length=(dK BL T i BL.length).length by rw [y9,wJ]];refine aD (tl:=[(0,V.sl 7 m (kE A B)),(1,V.i (kW sd)),(AD BL),(7,V.own 5),(8,V.i (↑(i+1):Int))]) (sl:=[(5,Ob.row 2 1 (List.length (dK BL T i (List.length BL))) (ga BL T (i+1) (0:Nat)))]) [(5,5)] (.cons kR (.cons kR (.cons kR (.cons kR (.cons kR .nil))))) (.cons ⟨Ob.row 2 1 (List.length (dK BL T i (List.length BL))) (ga BL T i (List.length BL)),kR,.row kR ?_⟩ .nil) kR kR;·intro j _;rw [K6];rfl
 ·obtain rfl:i=m:=by simp at c1;omega
  refine bw ?_;refine b5 ?_;refine b5 ?_;refine bF ?_;refine ai ?_;clear hK K;refine hK _ ?_;clear hK K;refine sK fun K hK=>wR 3 ?_;refine aY ah 2 [] ?_;refine nK hK ?_;clear hK K;refine ay ?_;refine gM [(0,5)] [(6,V.own 0)] (.inr rfl) (.cons kR .nil) (.cons oS .nil) kR kR kR kR
theorem Ii(A B:Nat->Nat)(m:Nat)(hm:m<=16)(sd:Bool)(hA:∀i,i< m->A i<=256/\B i<=256)(BL:List Nat)(hB:BL.length<=256)(hnd:BL.Nodup) : AC Tryz.prog 37 [lN A B m,.i (kW sd),Gr BL] (V.ints (fY (yD BL (fM sd A B)) m)) []:=by
 have h:=Ih A B m hm sd hA BL hB hnd;have e:dK BL (fM sd A B) m 0=fY (yD BL (fM sd A B)) m:=y9 _ _ _;have e2:ga BL (fM sd A B) m 0=fun j=>[V.i (gi (fY (yD BL (fM sd A B)) m) j)]:=by funext j;unfold ga;rw [e]
 rw [e,e2]at h;exact AC.lY (e:=2) (sz:=1) (v:= .own 0) h rfl (fun _ _=>rfl) (fun _=>rfl) rfl rfl
theorem vU(S:Sh)(hn:S.n<=200)(f:Int)(hf:0<=f/\f< S.q)(hq:S.q<=1000):AC Tryz.prog 29 [HF S,.i f] (.tup [Gr (bW S f S.n),.i 0]) []:= AC.lY (e:=3) (sz:=1) (n:=(bW S f S.n).length) (row:=fA S f S.n) (v:= .tup [.own 0,.i 0]) (yI S hn f hf hq) rfl (fun _ _=>rfl) (fun _=>rfl) rfl rfl
theorem Im(S:Sh)(f:Int)(k:Nat):(bW S f k).Nodup:=List.Nodup.sublist (List.filter_sublist ..) List.nodup_range
theorem wU{S:Sh}{X:Nat}{k t:Nat}{c:Int}(h:t≠X):qb S X (k+1) t c=qb S X k (S.pl t).par t:=by rw [qb,if_pos ⟨by omega,by omega⟩,Int.toNat_natCast]
theorem zh{S:Sh}{X:Nat}{k:Nat}{c:Int}:qb S X k X c=((X:Int),c):=qc (fun h=>h.1 rfl)
theorem zi{S:Sh}{X N:Nat}{f:Int}(h:D7 S X N f)(hp:tA S):∀(k t:Nat) (c:Int),t< k->t< S.n->(S.pl t).fl f=if t=X then true else decide ((qb S X k t c).1=X) && decide ((N:Int)<=(qb S X k t c).2)
 |0,t,c,hk,_=>absurd hk (Nat.not_lt_zero _)
 |k+1,t,c,hk,ht=>by
  by_cases hx:t=X;·subst hx;rw [if_pos rfl];exact h.fx
  rw [if_neg hx,wU hx,h.st t ht hx];have h1:=(hp t ht).1;by_cases c0:(S.pl t).par< 0;·rw [if_pos c0,qc (fun h=>by omega)];rw [decide_eq_false (show ¬(S.pl t).par=(X:Int) by omega)];rfl
  ·rw [if_neg c0];obtain⟨p,hp1⟩:∃p:Nat,(S.pl t).par=p:=⟨(S.pl t).par.toNat,by omega⟩;rw [hp1,Int.toNat_natCast];by_cases hpx:p=X;·subst hpx;rw [if_pos rfl,zh,decide_eq_true (show(p:Int)=p from rfl),Bool.true_and];exact decide_eq_decide.2 oM
   ·rw [if_neg oM,zi h hp k p t oM oM,if_neg hpx]
theorem jc{S:Sh}{X:Nat}(hp:tA S):∀(k t:Nat) (c:Int),t< k->t< S.n->t≠X->(qb S X k t c).1=X->∃w:Nat,(qb S X k t c).2=w/\w< S.n/\(S.pl w).par=X
 |0,t,c,hk,_=>absurd hk (Nat.not_lt_zero _)
 |k+1,t,c,hk,ht=>fun hx he=>by
  rw [wU hx]at he ⊢;have h1:=(hp t ht).1;by_cases c0:(S.pl t).par< 0;·rw [qc (fun h=>by omega)]at he;have he:(S.pl t).par=X:=he;omega
  ·obtain⟨p,hp1⟩:∃p:Nat,(S.pl t).par=p:=⟨(S.pl t).par.toNat,by omega⟩;rw [hp1]at he ⊢;by_cases hpx:p=X;·subst hpx;rw [zh];exact⟨t,rfl,ht,hp1⟩
   ·exact jc hp k p t oM oM hpx he
def sE(q:Nat->Bool)(v:Nat->Int)(n:Nat):Nat->Int
 |0=> -1
 |k+1=>if q (n- 1- k)=true then v (n- 1- k)else sE q v n k
theorem qQ(q:Nat->Bool)(v:Nat->Int)(n:Nat):∀k,k<=n->((∀i,n- k<=i->i< n->q i=false)/\sE q v n k= -1)\/∃w,n- k<=w/\w< n/\q w=true/\(∀i,n- k<=i->i< w->q i=false)/\sE q v n k=v w
 |0,_=> .inl ⟨fun i h1 h2=>by omega,rfl⟩
 |k+1,hk=>by
  unfold sE;by_cases hq:q (n- 1- k)=true;·rw [if_pos hq];exact .inr ⟨n- 1- k,by omega,by omega,hq,fun i h1 h2=>by omega,rfl⟩
  ·rw [if_neg hq];have hq:q (n- 1- k)=false:=by simpa using hq
   rcases qQ q v n k oM with⟨h1,h2⟩ | ⟨w,h1,h2,h3,h4,h5⟩
   ·refine .inl ⟨fun i h3 h4=> ?_,h2⟩;by_cases c:i=n- 1- k;·rw [c];exact hq
    ·exact h1 i oM h4
   ·refine .inr ⟨w,by omega,h2,h3,fun i h6 h7=> ?_,h5⟩;by_cases c:i=n- 1- k;·rw [c];exact hq
    ·exact h4 i oM h7
theorem Dz{g g':Nat->Bool}{m:Nat}(h:∀i,i< m->g i=g' i):fY g m=fY g' m:=by
 induction m with
 |zero=>rfl
 |succ m ih=>
  have:=ih fun i hi=>h i oM;cases hg:g m with
  |true=>rw [rH hg,rH (by rw [<-h m oM];exact hg),this]
  |false=>rw [rG hg,rG (by rw [<-h m oM];exact hg),this]
theorem xM{g:Nat->Bool}{m:Nat}(h:∀i,i< m->g i=false):fY g m=[]:=by
 induction m with
 |zero=>rfl
 |succ m ih=>rw [rG (h m oM)];exact ih fun i hi=>h i oM
theorem Bl{cs:List yK}{m:Nat}{p fr:Int}{g:Nat->Bool}(h1:∃c∈cs,qP p fr c=true)(h2:∀c∈cs,qP p fr c=true->∀i,i< m->c.2.2 i=g i):pP cs m p fr=(fY g m,0):=by
 obtain⟨c,hc,hm⟩:=h1;cases hf:cs.find? (fun c=>decide (c.1=p) && decide (c.2.1=fr))with
 |none=>exact absurd hm (List.find?_eq_none.1 hf c hc)
 |some d=>unfold pP;rw [hf];simp only;rw [Dz (h2 d (List.mem_of_find?_eq_some hf) (List.find?_some hf))]
theorem mP{S:Sh}{T:Nat->Nat}{m:Nat}{c:yK}:c∈kj S T m<->(∃i,i< S.n/\c∈nB S T m i)\/∃k,k< m/\c=Eo k:=by
 unfold kj;rw [List.mem_append,List.mem_flatMap,List.mem_map];constructor
 ·rintro(⟨i,hi,h⟩ | ⟨k,hk,h⟩);·exact .inl ⟨i,List.mem_range.1 hi,h⟩
  ·exact .inr ⟨k,List.mem_range.1 hk,h.symm⟩
 ·rintro(⟨i,hi,h⟩ | ⟨k,hk,h⟩);·exact .inl ⟨i,List.mem_range.2 hi,h⟩
  ·exact .inr ⟨k,List.mem_range.2 hk,h.symm⟩
theorem t8{S:Sh}{T:Nat->Nat}{m i:Nat}{c:yK}(h:c∈nB S T m i):c.1=i/\(((S.pl i).kind=3/\∃k,k< m/\fh S i 0 (T k)=true/\c=((i:Int),(k:Int)+1,zX S T i k))\/((S.pl i).kind≠3/\∃k,k< S.n/\i< k/\(S.pl k).par=i/\c=((i:Int),(k:Int),fun j=>fh S i k (T j)))):=by
 unfold nB at h;by_cases c3:(S.pl i).kind=3
 ·rw [if_pos c3,List.mem_filterMap]at h;obtain⟨k,hk,h⟩:=h;unfold Jm at h;split at h;·rename_i hu;injection h with h;subst h;exact⟨rfl,.inl ⟨c3,k,List.mem_range.1 hk,hu,rfl⟩⟩
  ·cases h
 ·rw [if_neg c3,List.mem_filterMap]at h;obtain⟨k,hk,h⟩:=h;unfold OJ at h;split at h;·rename_i hu;injection h with h;subst h;exact⟨rfl,.inr ⟨c3,k,List.mem_range.1 hk,hu.1,hu.2,rfl⟩⟩
  ·cases h
theorem zD{S:Sh}{f:Int}{T:Nat->Nat}{i:Nat}(h:T i< S.n):yD (bW S f S.n) T i=(S.pl (T i)).fl f:=by
 unfold yD;cases hf:(S.pl (T i)).fl f with
 |true=>exact decide_eq_true (tH.2 ⟨h,hf⟩)
 |false=>exact decide_eq_false fun hm=>by rw [(tH.1 hm).2]at hf;cases hf
theorem xJ{S:Sh}(hk:eX S){X w:Nat}(h3:(S.pl X).kind=3)(hw:w< S.n)(hp:(S.pl w).par=X):False:=by
 rcases hk w hw with⟨_,h⟩ | ⟨_,h1,_,_,h2⟩;·omega
 ·rw [hp,Int.toNat_natCast]at h2;omega
theorem Hp{S:Sh}(hn:S.n<=200)(hk:eX S){X t:Nat}(h3:(S.pl X).kind=3)(ht:t< S.n):fh S X 0 t=decide (t=X):=by
 unfold fh;by_cases hx:t=X;·subst hx;rw [zh];simp
 ·rw [decide_eq_false hx];cases h:decide ((qb S X 300 t S.n).1=X)with
  |false=>rfl
  |true=>obtain⟨w,_,hw,hp⟩:=jc hk.par 300 t S.n oM ht hx (of_decide_eq_true h);exact(xJ hk h3 hw hp).elim
theorem Kg{S:Sh}(hn:S.n<=200)(hk:eX S){X N:Nat}{f:Int}(h:D7 S X N f)(h3:(S.pl X).kind=3){t:Nat}(ht:t< S.n):(S.pl t).fl f=decide (t=X):=by
 rw [zi h hk.par 300 t S.n oM ht];by_cases hx:t=X;·rw [if_pos hx,decide_eq_true hx]
 ·rw [if_neg hx,decide_eq_false hx];cases hc:decide ((qb S X 300 t S.n).1=X)with
  |false=>rfl
  |true=>obtain⟨w,_,hw,hp⟩:=jc hk.par 300 t S.n oM ht hx (of_decide_eq_true hc);exact(xJ hk h3 hw hp).elim
theorem CX{S:Sh}(hn:S.n<=200)(hk:eX S){X N:Nat}{f:Int}(h:D7 S X N f)(h3:(S.pl X).kind=3){T:Nat->Nat}{m:Nat}(hT:∀i,i< m->T i< S.n){F:Int}(hF:F=sE (fun i=>decide (T i=X)) (fun i=>(i:Int)+1) m m) :
    (F< 0/\fY (yD (bW S f S.n) T) m=[])\/(0<=F/\pP (kj S T m) m X F=(fY (yD (bW S f S.n) T) m,0)):=by
  rcases qQ (fun i=>decide (T i=X)) (fun i=>(i:Int)+1) m m (Nat.le_refl _)with⟨h1,h2⟩ | ⟨w,_,h2,h4,h5,h6⟩
  · refine .inl ⟨by rw [hF,h2];decide,xM fun i hi=> ?_⟩
    rw [zD (hT i hi),Kg hn hk h h3 (hT i hi)]
    exact h1 i oM hi
  · rw [<-hF]at h6
    refine .inr ⟨by rw [h6];omega,Bl ⟨((X:Int),(w:Int)+1,zX S T X w),mP.2 (.inl ⟨X,h.x,?_⟩),by simp [qP,h6]⟩ ?_⟩
    · unfold nB
      rw [if_pos h3,List.mem_filterMap]
      exact⟨w,List.mem_range.2 h2,by unfold Jm;rw [Hp hn hk h3 (hT w h2),h4];rfl⟩
    · intro c hc hm i hi
      have hm':c.1=X/\c.2.1=F:=by simpa [qP]using hm
      rcases mP.1 hc with⟨j,hj,hp⟩ | ⟨k,_,rfl⟩
      · obtain⟨e1,hp⟩:=t8 hp
        have hjx:j=X:=by omega
        subst hjx
        rcases hp with⟨_,k,hk1,_,rfl⟩ | ⟨hn3,_⟩
        · have hkw:k=w:=by
            have:((k:Int)+1)=F:=hm'.2
            omega
          subst hkw
          show zX S T j k i=_
          rw [zD (hT i hi),Kg hn hk h h3 (hT i hi)]
          unfold zX
          split
          · rename_i hlt;exact(h5 i oM hlt).symm
          · exact Hp hn hk h3 (hT i hi)
        · exact absurd h3 hn3
      · have:(-1:Int)=X:=hm'.1
        omega
theorem CW{S:Sh}(hn:S.n<=200)(hk:eX S){X N:Nat}{f:Int}(h:D7 S X N f)(h3:(S.pl X).kind≠3){T:Nat->Nat}{m:Nat}(hT:∀i,i< m->T i< S.n/\(S.pl (T i)).kind=3){F:Int}(hF:F=sE (fun i=>decide ((S.pl i).par=X)) (fun i=>(i:Int)) S.n (S.n- N)) :
    (F< 0/\fY (yD (bW S f S.n) T) m=[])\/(0<=F/\pP (kj S T m) m X F=(fY (yD (bW S f S.n) T) m,0)):=by
  have hne:∀i,i< m->T i≠X:=fun i hi e=>h3 (by rw [<-e];exact(hT i hi).2)
  have hNn:=h.n
  have hfl:∀i,i< m->yD (bW S f S.n) T i=(decide ((qb S X 300 (T i) S.n).1=X) && decide ((N:Int)<=(qb S X 300 (T i) S.n).2)):=fun i hi=>by
    rw [zD (hT i hi).1,zi h hk.par 300 (T i) S.n (by have:=(hT i hi).1;omega) (hT i hi).1,if_neg (hne i hi)]
  rcases qQ (fun i=>decide ((S.pl i).par=X)) (fun i=>(i:Int)) S.n (S.n- N) oM with⟨h1,h2⟩ | ⟨w,h1,h2,h4,h5,h6⟩
  · refine .inl ⟨by rw [hF,h2];decide,xM fun i hi=> ?_⟩
    rw [hfl i hi]
    cases hc:decide ((qb S X 300 (T i) S.n).1=X)with
    |false=>rfl
    |true=>
      obtain⟨w,e,hw,hp⟩:=jc hk.par 300 (T i) S.n (by have:=(hT i hi).1;omega) (hT i hi).1 (hne i hi) (of_decide_eq_true hc)
      rw [e,Bool.true_and]
      refine decide_eq_false fun hle=> ?_
      have this:decide ((S.pl w).par=X)=false:=h1 w oM hw
      rw [decide_eq_true hp]at this;cases this
  · rw [<-hF]at h6
    have hXw:X< w:=by
      have h7:(S.pl w).par=X:=of_decide_eq_true h4
      have:=(hk.par w h2).1
      omega
    refine .inr ⟨by rw [h6];omega,Bl ⟨((X:Int),(w:Int),fun j=>fh S X w (T j)),mP.2 (.inl ⟨X,h.x,?_⟩),by simp [qP,h6]⟩ ?_⟩
    · unfold nB
      rw [if_neg h3,List.mem_filterMap]
      exact⟨w,List.mem_range.2 h2,by unfold OJ;rw [if_pos ⟨hXw,of_decide_eq_true h4⟩]⟩
    · intro c hc hm i hi
      have hm':c.1=X/\c.2.1=F:=by simpa [qP]using hm
      rcases mP.1 hc with⟨j,hj,hp⟩ | ⟨k,_,rfl⟩
      · obtain⟨e1,hp⟩:=t8 hp
        have hjx:j=X:=by omega
        subst hjx
        rcases hp with⟨h3',_⟩ | ⟨_,k,hk1,_,_,rfl⟩
        · exact absurd h3' h3
        · have hkw:k=w:=by
            have:(k:Int)=F:=hm'.2
            omega
          subst hkw
          show fh S j k (T i)=_
          rw [hfl i hi]
          unfold fh
          cases hc:decide ((qb S j 300 (T i) S.n).1=j)with
          |false=>rfl
          |true=>
            obtain⟨u,e,hu,hpu⟩:=jc hk.par 300 (T i) S.n (by have:=(hT i hi).1;omega) (hT i hi).1 (hne i hi) (of_decide_eq_true hc)
            rw [e,Bool.true_and,Bool.true_and]
            refine decide_eq_decide.2 ⟨fun hle=>by omega,fun hle=> ?_⟩
            rcases Nat.lt_or_ge u k with hlt |hge
            · have this:decide ((S.pl u).par=j)=false:=h5 u oM hlt
              rw [decide_eq_true hpu]at this;cases this
            · omega
      · have:(-1:Int)=X:=hm'.1
        omega
theorem Io(x lo hi:Int):AC Tryz.prog 135 [.i x,.i lo,.i hi] (.b (decide (lo<=x) && decide (x<=hi))) []:=by refine gv ah cv Tryz.func135 Tryz.ntmps135 fun C hC hF=> ?_;refine sK fun K hK=>wR 2 ?_;refine aY ah 1 [] ?_;refine nK hK ?_;clear hK K;refine sK fun K hK=>wR 3 ?_;refine aY ah 9 [] ?_;refine nK hK ?_;clear hK K;refine ay ?_;refine rP (V.b (decide (lo<=x) && decide (x<=hi)))
theorem A6(x lo hi:Int):AC Tryz.prog 88 [.i x,.i lo,.i hi] (.b (decide (lo<=x) && decide (x<=hi))) []:=by refine gv ah cv Tryz.func88 Tryz.ntmps88 fun C hC hF=> ?_;refine sK fun K hK=>wR 2 ?_;refine aY ah 1 [] ?_;refine nK hK ?_;clear hK K;refine sK fun K hK=>wR 3 ?_;refine aY ah 9 [] ?_;refine nK hK ?_;clear hK K;refine ay ?_;refine rP (V.b (decide (lo<=x) && decide (x<=hi)))
theorem DE:AC Tryz.prog 133 [] vI []:=by
 refine gv ah cv Tryz.func133 Tryz.ntmps133 fun C hC hF=> ?_;refine sK fun K hK=>wR 2 ?_;refine aY ah 1 [] ?_;refine nK hK ?_;clear hK K;refine sK fun K hK=>wR 3 ?_;refine aY ah 2 [] ?_;refine nK hK ?_;clear hK K;refine sK fun K hK=>sK fun K hK=>wR 4 ?_;refine aY ah 1 [] ?_;refine nK hK ?_;clear hK K;refine av ?_;obtain⟨c0,hc0⟩:∃c0,c0=lZ (nG 0 0):=⟨_,rfl⟩;refine cJ (ι:=Nat×List V) (fun x=>[(1,.ref 1 0),(5,.i x.1)]) (fun x=>[(1,.box 303 x.2)]) (fun x=>x.1<=51/\x.2=lZ (nG x.1 0)) (fun x=>51- x.1) (0,c0) ⟨Nat.zero_le _,hc0⟩ ?_ ?_;·show Le _ ⟨f9 [(1,.ref 1 0),(5,.i 0)],di [(1,.box 303 c0)],1⟩;refine aD (tl:=[(1,V.ref 1 0),(5,V.i 0)]) (sl:=[(1,Ob.box 303 c0)]) [(1,200004)] (.cons kR (.cons kR .nil)) (.cons ⟨Ob.box 303 [V.i 0,V.i 0,V.i 0,V.i 0,V.i 0,V.i 0,V.i 0,V.i 0,V.i 0,V.i 0,V.i 0,V.i 0,V.i 0,V.i 0,V.i 0,V.i 0,V.i 0,V.i 0,V.i 0,V.i 0,V.i 0,V.i 0,V.i 0,V.i 0,V.i 0,V.i 0,V.i 0,V.i 0,V.i 0,V.i 0,V.i 0,V.i 0,V.i 0,V.i 0,V.i 0,V.i 0,V.i 0,V.i 0,V.i 0,V.i 0,V.i 0,V.i 0,V.i 0,V.i 0,V.i 0,V.i 0,V.i 0,V.i 0,V.i 0,V.i 0,V.i 0,V.i 0,V.i 0,V.i 0,V.i 0,V.i 0,V.i 0,V.i 0,V.i 0,V.i 0,V.i 0,V.i 0,V.i 0,V.i 0,V.i 0,V.i 0,V.i 0,V.i 0,V.i 0,V.i 0,V.i 0,V.i 0,V.i 0,V.i 0,V.i 0,V.i 0,V.i 0,V.i 0,V.i 0,V.i 0,V.i 0,V.i 0,V.i 0,V.i 0,V.i 0,V.i 0,V.i 0,V.i 0,V.i 0,V.i 0,V.i 0,V.i 0,V.i 0,V.i 0,V.i 0,V.i 0,V.i 0,V.i 0,V.i 0,V.i 0,V.i 0,V.i 0,V.i 0,V.i 0,V.i 0,V.i 0,V.i 0,V.i 0,V.i 0,V.i 0,V.i 0,V.i 0,V.i 0,V.i 0,V.i 0,V.i 0,V.i 0,V.i 0,V.i 0,V.i 0,V.i 0,V.i 0,V.i 0,V.i 0,V.i 0,V.i 0,V.i 0,V.i 0,V.i 0,V.i 0,V.i 0,V.i 0,V.i 0,V.i 0,V.i 0,V.i 0,V.i 0,V.i 0,V.i 0,V.i 0,V.i 0,V.i 0,V.i 0,V.i 0,V.i 0,V.i 0,V.i 0,V.i 0,V.i 0,V.i 0,V.i 0,V.i 0,V.i 0,V.i 0,V.i 0,V.i 0,V.i 0,V.i 0,V.i 0,V.i 0,V.i 0,V.i 0,V.i 0,V.i 0,V.i 0,V.i 0,V.i 0,V.i 0,V.i 0,V.i 0,V.i 0,V.i 0,V.i 0,V.i 0,V.i 0,V.i 0,V.i 0,V.i 0,V.i 0,V.i 0,V.i 0,V.i 0,V.i 0,V.i 0,V.i 0,V.i 0,V.i 0,V.i 0,V.i 0,V.i 0,V.i 0,V.i 0,V.i 0,V.i 0,V.i 0,V.i 0,V.i 0,V.i 0,V.i 0,V.i 0,V.i 0,V.i 0,V.i 0,V.i 0,V.i 0,V.i 0,V.i 0,V.i 0,V.i 0,V.i 0,V.i 0,V.i 0,V.i 0,V.i 0,V.i 0,V.i 0,V.i 0,V.i 0,V.i 0,V.i 0,V.i 0,V.i 0,V.i 0,V.i 0,V.i 0,V.i 0,V.i 0,V.i 0,V.i 0,V.i 0,V.i 0,V.i 0,V.i 0,V.i 0,V.i 0,V.i 0,V.i 0,V.i 0,V.i 0,V.i 0,V.i 0,V.i 0,V.i 0,V.i 0,V.i 0,V.i 0,V.i 0,V.i 0,V.i 0,V.i 0,V.i 0,V.i 0,V.i 0,V.i 0,V.i 0,V.i 0,V.i 0,V.i 0,V.i 0,V.i 0,V.i 0,V.i 0,V.i 0,V.i 0,V.i 0,V.i 0,V.i 0,V.i 0,V.i 0,V.i 0,V.i 0,V.i 0,V.i 0,V.i 0,V.i 0,V.i 0,V.i 0,V.i 0,V.i 0,V.i 0,V.i 0,V.i 0,V.i 0,V.i 0,V.i 0,V.i 0,V.i 0,V.i 0,V.i 0,V.i 0,V.i 0,V.i 0,V.i 0,V.i 0,V.i 0,V.i 0,V.i 0,V.i 0,V.i 0,V.i 0,V.i 0,V.i 0,V.i 0,V.i 0,V.i 0,V.i 0,V.i 0,V.i 0,V.i 0,V.i 0,V.i 0,V.i 0,V.i 0,V.i 0,V.i 0,V.i 0,V.i 0,V.i 0,V.i 0,V.i 0,V.i 0,V.i 0,V.i 0,V.i 0,V.i 0,V.i 0,V.i 0,V.i 0,V.i 0,V.i 0,V.i 0,V.i 0,V.i 0,V.i 0,V.i 0,V.i 0,V.i 0,V.i 0,V.i 0,V.i 0,V.i 0,V.i 0,V.i 0,V.i 0,V.i 0,V.i 0,V.i 0,V.i 0,V.i 0,V.i 0,V.i 0,V.i 0,V.i 0,V.i 0,V.i 0,V.i 0,V.i 0,V.i 0,V.i 0,V.i 0,V.i 0,V.i 0,V.i 0,V.i 0,V.i 0,V.i 0,V.i 0,V.i 0,V.i 0,V.i 0,V.i 0,V.i 0,V.i 0,V.i 0,V.i 0,V.i 0,V.i 0,V.i 0,V.i 0,V.i 0,V.i 0,V.i 0,V.i 0,V.i 0,V.i 0,V.i 0,V.i 0,V.i 0,V.i 0,V.i 0,V.i 0,V.i 0,V.i 0,V.i 0,V.i 0,V.i 0,V.i 0,V.i 0,V.i 0,V.i 0,V.i 0,V.i 0,V.i 0,V.i 0,V.i 0,V.i 0,V.i 0,V.i 0,V.i 0,V.i 0,V.i 0,V.i 0,V.i 0,V.i 0,V.i 0,V.i 0,V.i 0,V.i 0,V.i 0,V.i 0,V.i 0,V.i 0,V.i 0,V.i 0,V.i 0,V.i 0,V.i 0,V.i 0,V.i 0,V.i 0,V.i 0,V.i 0,V.i 0,V.i 0,V.i 0,V.i 0,V.i 0,V.i 0,V.i 0,V.i 0,V.i 0,V.i 0,V.i 0,V.i 0,V.i 0,V.i 0,V.i 0,V.i 0,V.i 0,V.i 0,V.i 0,V.i 0,V.i 0,V.i 0,V.i 0,V.i 0,V.i 0,V.i 0,V.i 0,V.i 0,V.i 0,V.i 0,V.i 0,V.i 0,V.i 0,V.i 0,V.i 0,V.i 0,V.i 0,V.i 0,V.i 0,V.i 0,V.i 0,V.i 0,V.i 0,V.i 0,V.i 0,V.i 0,V.i 0,V.i 0,V.i 0,V.i 0,V.i 0,V.i 0,V.i 0,V.i 0,V.i 0,V.i 0,V.i 0,V.i 0,V.i 0,V.i 0,V.i 0,V.i 0,V.i 0,V.i 0,V.i 0,V.i 0,V.i 0,V.i 0,V.i 0,V.i 0,V.i 0,V.i 0,V.i 0,V.i 0,V.i 0,V.i 0,V.i 0,V.i 0,V.i 0,V.i 0,V.i 0,V.i 0,V.i 0,V.i 0,V.i 0,V.i 0,V.i 0,V.i 0,V.i 0,V.i 0,V.i 0,V.i 0,V.i 0,V.i 0,V.i 0,V.i 0,V.i 0,V.i 0,V.i 0,V.i 0,V.i 0,V.i 0,V.i 0,V.i 0,V.i 0,V.i 0,V.i 0,V.i 0,V.i 0,V.i 0,V.i 0,V.i 0,V.i 0,V.i 0,V.i 0,V.i 0,V.i 0,V.i 0,V.i 0,V.i 0,V.i 0,V.i 0,V.i 0,V.i 0,V.i 0,V.i 0,V.i 0,V.i 0,V.i 0,V.i 0,V.i 0,V.i 0,V.i 0,V.i 0,V.i 0,V.i 0,V.i 0,V.i 0,V.i 0,V.i 0,V.i 0,V.i 0,V.i 0,V.i 0,V.i 0,V.i 0,V.i 0,V.i 0,V.i 0,V.i 0,V.i 0,V.i 0,V.i 0,V.i 0,V.i 0,V.i 0,V.i 0,V.i 0,V.i 0,V.i 0,V.i 0,V.i 0,V.i 0,V.i 0,V.i 0,V.i 0,V.i 0,V.i 0,V.i 0,V.i 0,V.i 0,V.i 0,V.i 0,V.i 0,V.i 0,V.i 0,V.i 0,V.i 0,V.i 0,V.i 0,V.i 0,V.i 0,V.i 0,V.i 0,V.i 0,V.i 0,V.i 0,V.i 0,V.i 0,V.i 0,V.i 0,V.i 0,V.i 0,V.i 0,V.i 0,V.i 0,V.i 0,V.i 0,V.i 0,V.i 0,V.i 0,V.i 0,V.i 0,V.i 0,V.i 0,V.i 0,V.i 0,V.i 0,V.i 0,V.i 0,V.i 0,V.i 0,V.i 0,V.i 0,V.i 0,V.i 0,V.i 0,V.i 0,V.i 0,V.i 0,V.i 0,V.i 0,V.i 0,V.i 0,V.i 0,V.i 0,V.i 0,V.i 0,V.i 0,V.i 0,V.i 0,V.i 0,V.i 0,V.i 0,V.i 0,V.i 0,V.i 0,V.i 0,V.i 0,V.i 0,V.i 0,V.i 0,V.i 0,V.i 0,V.i 0,V.i 0,V.i 0,V.i 0,V.i 0,V.i 0,V.i 0,V.i 0,V.i 0,V.i 0,V.i 0,V.i 0,V.i 0,V.i 0,V.i 0,V.i 0,V.i 0,V.i 0,V.i 0,V.i 0,V.i 0,V.i 0,V.i 0,V.i 0,V.i 0,V.i 0,V.i 0,V.i 0,V.i 0,V.i 0,V.i 0,V.i 0,V.i 0,V.i 0,V.i 0,V.i 0,V.i 0,V.i 0,V.i 0,V.i 0,V.i 0,V.i 0,V.i 0,V.i 0,V.i 0,V.i 0,V.i 0,V.i 0,V.i 0,V.i 0,V.i 0,V.i 0,V.i 0,V.i 0,V.i 0,V.i 0,V.i 0,V.i 0,V.i 0,V.i 0,V.i 0,V.i 0,V.i 0,V.i 0,V.i 0,V.i 0,V.i 0,V.i 0,V.i 0,V.i 0,V.i 0,V.i 0,V.i 0,V.i 0,V.i 0,V.i 0,V.i 0,V.i 0,V.i 0,V.i 0,V.i 0,V.i 0,V.i 0,V.i 0,V.i 0,V.i 0,V.i 0,V.i 0,V.i 0,V.i 0,V.i 0,V.i 0,V.i 0,V.i 0,V.i 0,V.i 0,V.i 0,V.i 0,V.i 0,V.i 0,V.i 0,V.i 0,V.i 0,V.i 0,V.i 0,V.i 0,V.i 0,V.i 0,V.i 0,V.i 0,V.i 0,V.i 0,V.i 0,V.i 0,V.i 0,V.i 0,V.i 0,V.i 0,V.i 0,V.i 0,V.i 0,V.i 0,V.i 0,V.i 0,V.i 0,V.i 0,V.i 0,V.i 0,V.i 0,V.i 0,V.i 0,V.i 0,V.i 0,V.i 0,V.i 0,V.i 0,V.i 0,V.i 0,V.i 0,V.i 0,V.i 0,V.i 0,V.i 0,V.i 0,V.i 0,V.i 0,V.i 0,V.i 0,V.i 0,V.i 0,V.i 0,V.i 0,V.i 0,V.i 0,V.i 0,V.i 0,V.i 0,V.i 0,V.i 0,V.i 0,V.i 0,V.i 0,V.i 0,V.i 0,V.i 0,V.i 0,V.i 0,V.i 0,V.i 0,V.i 0,V.i 0,V.i 0,V.i 0,V.i 0,V.i 0,V.i 0,V.i 0,V.i 0,V.i 0,V.i 0,V.i 0,V.i 0,V.i 0,V.i 0,V.i 0,V.i 0,V.i 0,V.i 0,V.i 0,V.i 0,V.i 0,V.i 0,V.i 0,V.i 0,V.i 0,V.i 0,V.i 0,V.i 0,V.i 0,V.i 0,V.i 0,V.i 0,V.i 0,V.i 0,V.i 0,V.i 0,V.i 0,V.i 0,V.i 0,V.i 0,V.i 0,V.i 0,V.i 0,V.i 0,V.i 0,V.i 0,V.i 0,V.i 0,V.i 0,V.i 0,V.i 0,V.i 0,V.i 0,V.i 0,V.i 0,V.i 0,V.i 0,V.i 0,V.i 0,V.i 0,V.i 0,V.i 0,V.i 0,V.i 0,V.i 0,V.i 0,V.i 0,V.i 0,V.i 0,V.i 0,V.i 0,V.i 0,V.i 0,V.i 0,V.i 0,V.i 0,V.i 0,V.i 0,V.i 0,V.i 0,V.i 0,V.i 0,V.i 0,V.i 0,V.i 0,V.i 0,V.i 0,V.i 0,V.i 0,V.i 0,V.i 0,V.i 0,V.i 0,V.i 0,V.i 0,V.i 0,V.i 0,V.i 0,V.i 0,V.i 0,V.i 0,V.i 0,V.i 0,V.i 0,V.i 0,V.i 0,V.i 0,V.i 0,V.i 0,V.i 0,V.i 0,V.i 0,V.i 0,V.i 0,V.i 0,V.i 0,V.i 0,V.i 0,V.i 0,V.i 0,V.i 0,V.i 0,V.i 0,V.i 0,V.i 0,V.i 0,V.i 0,V.i 0,V.i 0,V.i 0,V.i 0,V.i 0,V.i 0,V.i 0,V.i 0,V.i 0,V.i 0,V.i 0,V.i 0,V.i 0,V.i 0,V.i 0,V.i 0,V.i 0,V.i 0,V.i 0,V.i 0,V.i 0,V.i 0,V.i 0,V.i 0,V.i 0,V.i 0,V.i 0,V.i 0,V.i 0,V.i 0,V.i 0,V.i 0,V.i 0,V.i 0,V.i 0,V.i 0,V.i 0,V.i 0,V.i 0,V.i 0,V.i 0,V.i 0,V.i 0,V.i 0,V.i 0,V.i 0,V.i 0,V.i 0,V.i 0,V.i 0,V.i 0,V.i 0,V.i 0,V.i 0,V.i 0,V.i 0,V.i 0,V.i 0,V.i 0,V.i 0,V.i 0,V.i 0,V.i 0,V.i 0,V.i 0,V.i 0,V.i 0,V.i 0,V.i 0,V.i 0,V.i 0,V.i 0,V.i 0,V.i 0,V.i 0,V.i 0,V.i 0,V.i 0,V.i 0,V.i 0,V.i 0,V.i 0,V.i 0,V.i 0,V.i 0,V.i 0,V.i 0,V.i 0,V.i 0,V.i 0,V.i 0,V.i 0,V.i 0,V.i 0,V.i 0,V.i 0,V.i 0,V.i 0,V.i 0,V.i 0,V.i 0,V.i 0,V.i 0,V.i 0,V.i 0,V.i 0,V.i 0,V.i 0,V.i 0,V.i 0,V.i 0,V.i 0,V.i 0,V.i 0,V.i 0,V.i 0,V.i 0,V.i 0,V.i 0,V.i 0,V.i 0,V.i 0,V.i 0,V.i 0,V.i 0,V.i 0,V.i 0,V.i 0,V.i 0,V.i 0,V.i 0,V.i 0,V.i 0,V.i 0,V.i 0,V.i 0,V.i 0,V.i 0,V.i 0,V.i 0,V.i 0,V.i 0,V.i 0,V.i 0,V.i 0,V.i 0,V.i 0,V.i 0,V.i 0,V.i 0,V.i 0,V.i 0,V.i 0,V.i 0,V.i 0,V.i 0,V.i 0,V.i 0,V.i 0,V.i 0,V.i 0,V.i 0,V.i 0,V.i 0,V.i 0,V.i 0,V.i 0,V.i 0,V.i 0,V.i 0,V.i 0,V.i 0,V.i 0,V.i 0,V.i 0,V.i 0,V.i 0,V.i 0,V.i 0,V.i 0,V.i 0,V.i 0,V.i 0,V.i 0,V.i 0,V.i 0,V.i 0,V.i 0,V.i 0,V.i 0,V.i 0,V.i 0,V.i 0,V.i 0,V.i 0,V.i 0,V.i 0,V.i 0,V.i 0,V.i 0,V.i 0,V.i 0,V.i 0,V.i 0,V.i 0,V.i 0,V.i 0,V.i 0,V.i 0,V.i 0,V.i 0,V.i 0,V.i 0,V.i 0,V.i 0,V.i 0,V.i 0,V.i 0,V.i 0,V.i 0,V.i 0,V.i 0,V.i 0,V.i 0,V.i 0,V.i 0,V.i 0,V.i 0,V.i 0,V.i 0,V.i 0,V.i 0,V.i 0,V.i 0,V.i 0,V.i 0,V.i 0,V.i 0,V.i 0,V.i 0,V.i 0,V.i 0,V.i 0,V.i 0,V.i 0,V.i 0,V.i 0,V.i 0,V.i 0,V.i 0,V.i 0,V.i 0,V.i 0,V.i 0,V.i 0,V.i 0,V.i 0,V.i 0,V.i 0,V.i 0,V.i 0,V.i 0,V.i 0,V.i 0,V.i 0,V.i 0,V.i 0,V.i 0,V.i 0,V.i 0,V.i 0,V.i 0,V.i 0,V.i 0,V.i 0,V.i 0,V.i 0,V.i 0,V.i 0,V.i 0,V.i 0,V.i 0,V.i 0,V.i 0,V.i 0,V.i 0,V.i 0,V.i 0,V.i 0,V.i 0,V.i 0,V.i 0,V.i 0,V.i 0,V.i 0,V.i 0,V.i 0,V.i 0,V.i 0,V.i 0,V.i 0,V.i 0,V.i 0,V.i 0,V.i 0,V.i 0,V.i 0,V.i 0,V.i 0,V.i 0,V.i 0,V.i 0,V.i 0,V.i 0,V.i 0,V.i 0,V.i 0,V.i 0,V.i 0,V.i 0,V.i 0,V.i 0,V.i 0,V.i 0,V.i 0,V.i 0,V.i 0,V.i 0,V.i 0,V.i 0,V.i 0,V.i 0,V.i 0,V.i 0,V.i 0,V.i 0,V.i 0,V.i 0,V.i 0,V.i 0,V.i 0,V.i 0,V.i 0,V.i 0,V.i 0,V.i 0,V.i 0,V.i 0,V.i 0,V.i 0,V.i 0,V.i 0,V.i 0,V.i 0,V.i 0,V.i 0,V.i 0,V.i 0,V.i 0,V.i 0,V.i 0,V.i 0,V.i 0,V.i 0,V.i 0,V.i 0,V.i 0,V.i 0,V.i 0,V.i 0,V.i 0,V.i 0,V.i 0,V.i 0,V.i 0,V.i 0,V.i 0,V.i 0,V.i 0,V.i 0,V.i 0,V.i 0,V.i 0,V.i 0,V.i 0,V.i 0,V.i 0,V.i 0,V.i 0,V.i 0,V.i 0,V.i 0,V.i 0,V.i 0,V.i 0,V.i 0,V.i 0,V.i 0,V.i 0,V.i 0,V.i 0,V.i 0,V.i 0,V.i 0,V.i 0,V.i 0,V.i 0,V.i 0,V.i 0,V.i 0,V.i 0,V.i 0,V.i 0,V.i 0,V.i 0,V.i 0,V.i 0,V.i 0,V.i 0,V.i 0,V.i 0,V.i 0,V.i 0,V.i 0,V.i 0,V.i 0,V.i 0,V.i 0,V.i 0,V.i 0,V.i 0,V.i 0,V.i 0,V.i 0,V.i 0,V.i 0,V.i 0,V.i 0,V.i 0,V.i 0,V.i 0,V.i 0,V.i 0,V.i 0,V.i 0,V.i 0,V.i 0,V.i 0,V.i 0,V.i 0,V.i 0,V.i 0,V.i 0,V.i 0,V.i 0,V.i 0,V.i 0,V.i 0,V.i 0,V.i 0,V.i 0,V.i 0,V.i 0,V.i 0,V.i 0,V.i 0,V.i 0,V.i 0,V.i 0,V.i 0,V.i 0,V.i 0,V.i 0,V.i 0,V.i 0,V.i 0,V.i 0,V.i 0,V.i 0,V.i 0,V.i 0,V.i 0,V.i 0,V.i 0,V.i 0,V.i 0,V.i 0,V.i 0,V.i 0,V.i 0,V.i 0,V.i 0,V.i 0,V.i 0,V.i 0,V.i 0,V.i 0,V.i 0,V.i 0,V.i 0,V.i 0,V.i 0,V.i 0,V.i 0,V.i 0,V.i 0,V.i 0,V.i 0,V.i 0,V.i 0,V.i 0,V.i 0,V.i 0,V.i 0,V.i 0,V.i 0,V.i 0,V.i 0,V.i 0,V.i 0,V.i 0,V.i 0,V.i 0,V.i 0,V.i 0,V.i 0,V.i 0,V.i 0,V.i 0,V.i 0,V.i 0,V.i 0,V.i 0,V.i 0,V.i 0,V.i 0,V.i 0,V.i 0,V.i 0,V.i 0,V.i 0,V.i 0,V.i 0,V.i 0,V.i 0,V.i 0,V.i 0,V.i 0,V.i 0,V.i 0,V.i 0,V.i 0,V.i 0,V.i 0,V.i 0,V.i 0,V.i 0,V.i 0,V.i 0,V.i 0,V.i 0,V.i 0,V.i 0,V.i 0,V.i 0,V.i 0,V.i 0,V.i 0,V.i 0,V.i 0,V.i 0,V.i 0,V.i 0,V.i 0,V.i 0,V.i 0,V.i 0,V.i 0,V.i 0,V.i 0,V.i 0,V.i 0,V.i 0,V.i 0,V.i 0,V.i 0,V.i 0,V.i 0,V.i 0,V.i 0,V.i 0,V.i 0,V.i 0,V.i 0,V.i 0,V.i 0,V.i 0,V.i 0,V.i 0,V.i 0,V.i 0,V.i 0,V.i 0,V.i 0,V.i 0,V.i 0,V.i 0,V.i 0,V.i 0,V.i 0,V.i 0,V.i 0,V.i 0,V.i 0,V.i 0,V.i 0,V.i 0,V.i 0,V.i 0,V.i 0,V.i 0,V.i 0,V.i 0,V.i 0,V.i 0,V.i 0,V.i 0,V.i 0,V.i 0,V.i 0,V.i 0,V.i 0,V.i 0,V.i 0,V.i 0,V.i 0,V.i 0,V.i 0,V.i 0,V.i 0,V.i 0,V.i 0,V.i 0,V.i 0,V.i 0,V.i 0,V.i 0,V.i 0,V.i 0,V.i 0,V.i 0,V.i 0,V.i 0,V.i 0,V.i 0,V.i 0,V.i 0,V.i 0,V.i 0,V.i 0,V.i 0,V.i 0,V.i 0,V.i 0,V.i 0,V.i 0,V.i 0,V.i 0,V.i 0,V.i 0,V.i 0,V.i 0,V.i 0,V.i 0,V.i 0,V.i 0,V.i 0,V.i 0,V.i 0,V.i 0,V.i 0,V.i 0,V.i 0,V.i 0,V.i 0,V.i 0,V.i 0,V.i 0,V.i 0,V.i 0,V.i 0,V.i 0,V.i 0,V.i 0,V.i 0,V.i 0,V.i 0,V.i 0,V.i 0,V.i 0,V.i 0,V.i 0,V.i 0,V.i 0,V.i 0,V.i 0,V.i 0,V.i 0,V.i 0,V.i 0,V.i 0,V.i 0,V.i 0,V.i 0,V.i 0,V.i 0,V.i 0,V.i 0,V.i 0,V.i 0,V.i 0,V.i 0,V.i 0,V.i 0,V.i 0,V.i 0,V.i 0,V.i 0,V.i 0,V.i 0,V.i 0,V.i 0,V.i 0,V.i 0,V.i 0,V.i 0,V.i 0,V.i 0,V.i 0,V.i 0,V.i 0,V.i 0,V.i 0,V.i 0,V.i 0,V.i 0,V.i 0,V.i 0,V.i 0,V.i 0,V.i 0,V.i 0,V.i 0,V.i 0,V.i 0,V.i 0,V.i 0,V.i 0,V.i 0,V.i 0,V.i 0,V.i 0,V.i 0,V.i 0,V.i 0,V.i 0,V.i 0,V.i 0,V.i 0,V.i 0,V.i 0,V.i 0,V.i 0,V.i 0,V.i 0,V.i 0,V.i 0,V.i 0,V.i 0,V.i 0,V.i 0,V.i 0,V.i 0,V.i 0,V.i 0,V.i 0,V.i 0,V.i 0,V.i 0,V.i 0,V.i 0,V.i 0,V.i 0,V.i 0,V.i 0,V.i 0,V.i 0,V.i 0,V.i 0,V.i 0,V.i 0,V.i 0,V.i 0,V.i 0,V.i 0,V.i 0,V.i 0,V.i 0,V.i 0,V.i 0,V.i 0,V.i 0,V.i 0,V.i 0,V.i 0,V.i 0,V.i 0,V.i 0,V.i 0,V.i 0,V.i 0,V.i 0,V.i 0,V.i 0,V.i 0,V.i 0,V.i 0,V.i 0,V.i 0,V.i 0,V.i 0,V.i 0,V.i 0,V.i 0,V.i 0,V.i 0,V.i 0,V.i 0,V.i 0,V.i 0,V.i 0,V.i 0,V.i 0,V.i 0,V.i 0,V.i 0,V.i 0,V.i 0,V.i 0,V.i 0,V.i 0,V.i 0,V.i 0,V.i 0,V.i 0,V.i 0,V.i 0,V.i 0,V.i 0,V.i 0,V.i 0,V.i 0,V.i 0,V.i 0,V.i 0,V.i 0,V.i 0,V.i 0,V.i 0,V.i 0,V.i 0,V.i 0,V.i 0,V.i 0,V.i 0,V.i 0,V.i 0,V.i 0,V.i 0,V.i 0,V.i 0,V.i 0,V.i 0,V.i 0,V.i 0,V.i 0,V.i 0,V.i 0,V.i 0,V.i 0,V.i 0,V.i 0,V.i 0,V.i 0,V.i 0,V.i 0,V.i 0,V.i 0,V.i 0,V.i 0,V.i 0,V.i 0,V.i 0,V.i 0,V.i 0,V.i 0,V.i 0,V.i 0,V.i 0,V.i 0,V.i 0,V.i 0,V.i 0,V.i 0,V.i 0,V.i 0,V.i 0,V.i 0,V.i 0,V.i 0,V.i 0,V.i 0,V.i 0,V.i 0,V.i 0,V.i 0,V.i 0,V.i 0,V.i 0,V.i 0,V.i 0,V.i 0,V.i 0,V.i 0,V.i 0,V.i 0,V.i 0,V.i 0,V.i 0,V.i 0,V.i 0,V.i 0,V.i 0,V.i 0,V.i 0,V.i 0,V.i 0,V.i 0,V.i 0,V.i 0,V.i 0,V.i 0,V.i 0,V.i 0,V.i 0,V.i 0,V.i 0,V.i 0,V.i 0,V.i 0,V.i 0,V.i 0,V.i 0,V.i 0,V.i 0,V.i 0,V.i 0,V.i 0,V.i 0,V.i 0,V.i 0,V.i 0,V.i 0,V.i 0,V.i 0,V.i 0,V.i 0,V.i 0,V.i 0,V.i 0,V.i 0,V.i 0,V.i 0,V.i 0,V.i 0,V.i 0,V.i 0,V.i 0,V.i 0,V.i 0,V.i 0,V.i 0,V.i 0,V.i 0,V.i 0,V.i 0,V.i 0,V.i 0,V.i 0,V.i 0,V.i 0,V.i 0,V.i 0,V.i 0,V.i 0,V.i 0,V.i 0,V.i 0,V.i 0,V.i 0,V.i 0,V.i 0,V.i 0,V.i 0,V.i 0,V.i 0,V.i 0,V.i 0,V.i 0,V.i 0,V.i 0,V.i 0,V.i 0,V.i 0,V.i 0,V.i 0,V.i 0,V.i 0,V.i 0,V.i 0,V.i 0,V.i 0,V.i 0,V.i 0,V.i 0,V.i 0,V.i 0,V.i 0,V.i 0,V.i 0,V.i 0,V.i 0,V.i 0,V.i 0,V.i 0,V.i 0,V.i 0,V.i 0,V.i 0,V.i 0,V.i 0,V.i 0,V.i 0,V.i 0,V.i 0,V.i 0,V.i 0,V.i 0,V.i 0,V.i 0,V.i 0,V.i 0,V.i 0,V.i 0,V.i 0,V.i 0,V.i 0,V.i 0,V.i 0,V.i 0,V.i 0,V.i 0,V.i 0,V.i 0,V.i 0,V.i 0,V.i 0,V.i 0,V.i 0,V.i 0,V.i 0,V.i 0,V.i 0,V.i 0,V.i 0,V.i 0,V.i 0,V.i 0,V.i 0,V.i 0,V.i 0,V.i 0,V.i 0,V.i 0,V.i 0,V.i 0,V.i 0,V.i 0,V.i 0,V.i 0,V.i 0,V.i 0,V.i 0,V.i 0,V.i 0,V.i 0,V.i 0,V.i 0,V.i 0,V.i 0,V.i 0,V.i 0,V.i 0,V.i 0,V.i 0,V.i 0,V.i 0,V.i 0,V.i 0,V.i 0,V.i 0,V.i 0,V.i 0,V.i 0,V.i 0,V.i 0,V.i 0,V.i 0,V.i 0,V.i 0,V.i 0,V.i 0,V.i 0,V.i 0,V.i 0,V.i 0,V.i 0,V.i 0,V.i 0,V.i 0,V.i 0,V.i 0,V.i 0,V.i 0,V.i 0,V.i 0,V.i 0,V.i 0,V.i 0,V.i 0,V.i 0,V.i 0,V.i 0,V.i 0,V.i 0,V.i 0,V.i 0,V.i 0,V.i 0,V.i 0,V.i 0,V.i 0,V.i 0,V.i 0,V.i 0,V.i 0,V.i 0,V.i 0,V.i 0,V.i 0,V.i 0,V.i 0,V.i 0,V.i 0,V.i 0,V.i 0,V.i 0,V.i 0,V.i 0,V.i 0,V.i 0,V.i 0,V.i 0,V.i 0,V.i 0,V.i 0,V.i 0,V.i 0,V.i 0,V.i 0,V.i 0,V.i 0,V.i 0,V.i 0,V.i 0,V.i 0,V.i 0,V.i 0,V.i 0,V.i 0,V.i 0,V.i 0,V.i 0,V.i 0,V.i 0,V.i 0,V.i 0,V.i 0,V.i 0,V.i 0,V.i 0,V.i 0,V.i 0,V.i 0,V.i 0,V.i 0,V.i 0,V.i 0,V.i 0,V.i 0,V.i 0,V.i 0,V.i 0,V.i 0,V.i 0,V.i 0,V.i 0,V.i 0,V.i 0,V.i 0,V.i 0,V.i 0,V.i 0,V.i 0,V.i 0,V.i 0,V.i 0,V.i 0,V.i 0,V.i 0,V.i 0,V.i 0,V.i 0,V.i 0,V.i 0,V.i 0,V.i 0,V.i 0,V.i 0,V.i 0,V.i 0,V.i 0,V.i 0,V.i 0,V.i 0,V.i 0,V.i 0,V.i 0,V.i 0,V.i 0,V.i 0,V.i 0,V.i 0,V.i 0,V.i 0,V.i 0,V.i 0,V.i 0,V.i 0,V.i 0,V.i 0,V.i 0,V.i 0,V.i 0,V.i 0,V.i 0,V.i 0,V.i 0,V.i 0,V.i 0,V.i 0,V.i 0,V.i 0,V.i 0,V.i 0,V.i 0,V.i 0,V.i 0,V.i 0,V.i 0,V.i 0,V.i 0,V.i 0,V.i 0,V.i 0,V.i 0,V.i 0,V.i 0,V.i 0,V.i 0,V.i 0,V.i 0,V.i 0,V.i 0,V.i 0,V.i 0,V.i 0,V.i 0,V.i 0,V.i 0,V.i 0,V.i 0,V.i 0,V.i 0,V.i 0,V.i 0,V.i 0,V.i 0,V.i 0,V.i 0,V.i 0,V.i 0,V.i 0,V.i 0,V.i 0,V.i 0,V.i 0,V.i 0,V.i 0,V.i 0,V.i 0,V.i 0,V.i 0,V.i 0,V.i 0,V.i 0,V.i 0,V.i 0,V.i 0,V.i 0,V.i 0,V.i 0,V.i 0,V.i 0,V.i 0,V.i 0,V.i 0,V.i 0,V.i 0,V.i 0,V.i 0,V.i 0,V.i 0,V.i 0,V.i 0,V.i 0,V.i 0,V.i 0,V.i 0,V.i 0,V.i 0,V.i 0,V.i 0,V.i 0,V.i 0,V.i 0,V.i 0,V.i 0,V.i 0,V.i 0,V.i 0,V.i 0,V.i 0,V.i 0,V.i 0,V.i 0,V.i 0,V.i 0,V.i 0,V.i 0,V.i 0,V.i 0,V.i 0,V.i 0,V.i 0,V.i 0,V.i 0,V.i 0,V.i 0,V.i 0,V.i 0,V.i 0,V.i 0,V.i 0,V.i 0,V.i 0,V.i 0,V.i 0,V.i 0,V.i 0,V.i 0,V.i 0,V.i 0,V.i 0,V.i 0,V.i 0,V.i 0,V.i 0,V.i 0,V.i 0,V.i 0,V.i 0,V.i 0,V.i 0,V.i 0,V.i 0,V.i 0,V.i 0,V.i 0,V.i 0,V.i 0,V.i 0,V.i 0,V.i 0,V.i 0,V.i 0,V.i 0,V.i 0,V.i 0,V.i 0,V.i 0,V.i 0,V.i 0,V.i 0,V.i 0,V.i 0,V.i 0,V.i 0,V.i 0,V.i 0,V.i 0,V.i 0,V.i 0,V.i 0,V.i 0,V.i 0,V.i 0,V.i 0,V.i 0,V.i 0,V.i 0,V.i 0,V.i 0,V.i 0,V.i 0,V.i 0,V.i 0,V.i 0,V.i 0,V.i 0,V.i 0,V.i 0,V.i 0,V.i 0,V.i 0,V.i 0,V.i 0,V.i 0,V.i 0,V.i 0,V.i 0,V.i 0,V.i 0,V.i 0,V.i 0,V.i 0,V.i 0,V.i 0,V.i 0,V.i 0,V.i 0,V.i 0,V.i 0,V.i 0,V.i 0,V.i 0,V.i 0,V.i 0,V.i 0,V.i 0,V.i 0,V.i 0,V.i 0,V.i 0,V.i 0,V.i 0,V.i 0,V.i 0,V.i 0,V.i 0,V.i 0,V.i 0,V.i 0,V.i 0,V.i 0,V.i 0,V.i 0,V.i 0,V.i 0,V.i 0,V.i 0,V.i 0,V.i 0,V.i 0,V.i 0,V.i 0,V.i 0,V.i 0,V.i 0,V.i 0,V.i 0,V.i 0,V.i 0,V.i 0,V.i 0,V.i 0,V.i 0,V.i 0,V.i 0,V.i 0,V.i 0,V.i 0,V.i 0,V.i 0,V.i 0,V.i 0,V.i 0,V.i 0,V.i 0,V.i 0,V.i 0,V.i 0,V.i 0,V.i 0,V.i 0,V.i 0,V.i 0,V.i 0,V.i 0,V.i 0,V.i 0,V.i 0,V.i 0,V.i 0,V.i 0,V.i 0,V.i 0,V.i 0,V.i 0,V.i 0,V.i 0,V.i 0,V.i 0,V.i 0,V.i 0,V.i 0,V.i 0,V.i 0,V.i 0,V.i 0,V.i 0,V.i 0,V.i 0,V.i 0,V.i 0,V.i 0,V.i 0,V.i 0,V.i 0,V.i 0,V.i 0,V.i 0,V.i 0,V.i 0,V.i 0,V.i 0,V.i 0,V.i 0,V.i 0,V.i 0,V.i 0,V.i 0,V.i 0,V.i 0,V.i 0,V.i 0,V.i 0,V.i 0,V.i 0,V.i 0,V.i 0,V.i 0,V.i 0,V.i 0,V.i 0,V.i 0,V.i 0,V.i 0,V.i 0,V.i 0,V.i 0,V.i 0,V.i 0,V.i 0,V.i 0,V.i 0,V.i 0,V.i 0,V.i 0,V.i 0,V.i 0,V.i 0,V.i 0,V.i 0,V.i 0,V.i 0,V.i 0,V.i 0],kR,.box ?_⟩ .nil) kR kR;rw [hc0];kernel_rfl
 rintro⟨n,cs⟩ ⟨hn,hcs⟩;simp only at hn hcs ⊢;have hlen:cs.length=2601:=by rw [hcs,vA]
 refine sK fun K hK=>wR 2 ?_;refine aY ah 1 [] ?_;refine nK hK ?_;clear hK K;refine sK fun K hK=> ?_;refine au (t:=decide ((↑n:Int)< 51)) kR (fun c1=> ?_) (fun c1=> ?_)
 ·have c2:n< 51:=by simp at c1;omega
  refine ak ?_;refine ai (hK _ ?_);clear hK K;refine sK fun K hK=> ?_;refine av ?_;refine sK fun K hK=>wR 3 ?_;refine aY ah 2 [] ?_;refine nK hK ?_;clear hK K;refine sK fun K hK=>wR 4 ?_;refine aY ah 6 [(3,.c ((0:Int)<=(↑n:Int)/\(↑n:Int)< (↑(51:Nat):Int)) oM),(0,.d),(0,.c ((0:Nat)+n*51+(0:Nat)*(1:Nat)+(1:Nat)<=List.length cs) oM)] ?_;refine nK hK ?_;clear hK K;refine sK fun K hK=>wR 5 ?_;refine aY ah 1 [] ?_;refine nK hK ?_;clear hK K;refine av ?_;obtain⟨c1,hc1⟩:∃c1,c1=cs.set (0+n*51+0*1) (V.i 1):=⟨_,rfl⟩;have he1:c1=lZ (nG n 1):=by
   rw [hc1,hcs,show 0+n*51+0*1=n*51+0 by omega];refine BZ c2 (by decide) ?_ fun a b hb h=> ?_;·simp [nG,jb]
   ·unfold nG;by_cases h1:a< n <;> by_cases h2:a=n <;> simp [h1,h2] <;> omega
  refine cJ (ι:=Nat×List V) (fun x=>[(1,.ref 1 0),(2,.i n),(3,.i x.1),(5,.i n)]) (fun x=>[(1,.box 303 x.2)]) (fun x=>1<=x.1/\x.1<=n+1/\x.2=lZ (nG n x.1)) (fun x=>n+1- x.1) (1,c1) ⟨Nat.le_refl _,Nat.le_add_left _ _,he1⟩ ?_ ?_;·show Le _ ⟨f9 [(1,.ref 1 0),(2,.i n),(3,.i 1),(5,.i n)],di [(1,.box 303 c1)],1⟩;refine aD (tl:=[(1,V.ref 1 0),(2,V.i (↑n:Int)),(3,V.i 1),(5,V.i (↑n:Int))]) (sl:=[(1,Ob.box 303 c1)]) [(1,1)] (.cons kR (.cons kR (.cons kR (.cons kR .nil)))) (.cons ⟨Ob.box 303 (setCells cs ((0:Nat)+n*51+(0:Nat)*(1:Nat)) [V.c (Value.int IntKind.i64 1)]),kR,.box ?_⟩ .nil) kR kR;rw [he1,vB,<-he1,hc1];rfl
  rintro⟨k,cs2⟩ ⟨hk1,hk,hcs2⟩;simp only at hk1 hk hcs2 ⊢;have hlen2:cs2.length=2601:=by rw [hcs2,vA]
  refine sK fun K hK=>sK fun K hK=>wR 2 ?_;refine aY ah 3 [] ?_;refine nK hK ?_;clear hK K;refine au (t:=decide ((↑k:Int)<=(↑n:Int))) kR (fun c3=> ?_) (fun c3=> ?_)
  ·have c4:k<=n:=by simp at c3;omega
   obtain⟨m,rfl⟩:∃m,n=m+1:=⟨n- 1,by omega⟩;obtain⟨j,rfl⟩:∃j,k=j+1:=⟨k- 1,by omega⟩;refine ak ?_;refine ai (hK _ ?_);clear hK K;refine sK fun K hK=> ?_;refine av ?_;refine wD 3 ?_;refine aY ah 11 [(5,.c (iR ((↑(m+1):Int)- 1)) oM),(1,.c (iR ((↑(j+1):Int)- 1)) oM),(1,.c ((0:Int)<=(↑(m+1):Int)- 1/\(↑(m+1):Int)- 1< (↑(51:Nat):Int)) oM),(0,.c ((0:Int)<=(↑(j+1):Int)- 1/\(↑(j+1):Int)- 1< (↑(51:Nat):Int)) oM)] ?_;refine cC rfl (nS 2 (.tmp 28) (t':=303) (cs:=cs2) (v:= .i (b9 m j)) (ah.agg rfl) rfl ?hv) ?hp ?hn ?_;case hv=>rw [hcs2];exact vw (n:=m) (k:=j) oM oM oM (by simp [nG])
   case hp=>intro p hp;rw [List.mem_singleton]at hp;subst hp;rfl
   case hn=>simp [j3]
   refine aY ah 7 [(2,.c (iR ((↑(m+1):Int)- 1)) oM),(2,.c ((0:Int)<=(↑(m+1):Int)- 1/\(↑(m+1):Int)- 1< (↑(51:Nat):Int)) oM),(0,.c ((0:Int)<=(↑(j+1):Int)/\(↑(j+1):Int)< (↑(51:Nat):Int)) oM)] ?_;refine cC rfl (nS 2 (.tmp 36) (t':=303) (cs:=cs2) (v:= .i (b9 m (j+1))) (ah.agg rfl) rfl ?hv) ?hp ?hn ?_;case hv=>rw [hcs2];exact vw (n:=m) (k:=j+1) oM oM oM (by simp [nG])
   case hp=>intro p hp;rw [List.mem_singleton]at hp;subst hp;rfl
   case hn=>simp [j3]
   have b1:=uP (n:=m) oM j;have b2:=uP (n:=m) oM (j+1);refine aY ah 5 [(0,.c (iR ((↑(b9 m j):Int)+(↑(b9 m (j+1)):Int))) oM),(1,.c ((0:Int)<=(↑(m+1):Int)/\(↑(m+1):Int)< (↑(51:Nat):Int)) oM),(0,.c ((0:Int)<=(↑(j+1):Int)/\(↑(j+1):Int)< (↑(51:Nat):Int)) oM),(0,.c ((0:Nat)+(m+1)*51+(j+1)*1+(1:Nat)<=List.length cs2) oM)] ?_;refine aa ⟨kR,(bL (ai (hK _ ?_)))⟩;clear hK K;refine wR 4 ?_;refine aY ah 3 [(1,.c (iR ((↑(j+1):Int)+1)) oM)] ?_;refine aa (ai ?_);obtain⟨c3,hc3⟩:∃c3,c3=cs2.set (0+(m+1)*51+(j+1)*1) (V.i ((b9 m j:Int)+b9 m (j+1))):=⟨_,rfl⟩;have he3:c3=lZ (nG (m+1) (j+2)):=by
    rw [hc3,hcs2,show 0+(m+1)*51+(j+1)*1=(m+1)*51+(j+1) by omega];refine BZ oM oM ?_ fun a b hb h=> ?_;·simp [nG,ja]
    ·unfold nG;by_cases h1:a< m+1 <;> by_cases h2:a=m+1 <;> simp [h1,h2] <;> (have:(b< j+2)=(b< j+1):=by simp;omega) <;> simp [this]
   refine⟨(j+2,c3),⟨by simp,by simp;omega,he3⟩,?_,by simp;omega⟩;show Le _ ⟨f9 [(1,.ref 1 0),(2,.i ((m+1:Nat):Int)),(3,.i ((j+2:Nat):Int)),(5,.i ((m+1:Nat):Int))],di [(1,.box 303 c3)],1⟩;refine aD (tl:=[(1,V.ref 1 0),(2,V.i (↑(m+1):Int)),(3,V.i (↑(j+2):Int)),(5,V.i (↑(m+1):Int))]) (sl:=[(1,Ob.box 303 c3)]) [(1,1)] (.cons kR (.cons kR (.cons kR (.cons kR .nil)))) (.cons ⟨Ob.box 303 (setCells cs2 ((0:Nat)+(m+1)*51+(j+1)*1) [V.c (Value.int IntKind.i64 ((↑(b9 m j):Int)+(↑(b9 m (j+1)):Int)))]),kR,.box ?_⟩ .nil) kR kR;rw [he3,vB,<-he3,hc3];rfl
  ·have c4:k=n+1:=by simp at c3;omega
   have he4:cs2=lZ (nG (n+1) 0):=by
    rw [hcs2,c4];congr 1
    funext a b;unfold nG;by_cases h1:a< n;·simp [h1,show a< n+1 by omega]
    ·by_cases h2:a=n
     ·subst h2;by_cases h3:b< a+1;·simp [h3]
      ·simp [h3,nX a b oM]
     ·simp [h1,h2,show ¬a< n+1 by omega]
   refine bw ?_;refine b5 ?_;refine b5 ?_;refine bF ?_;refine bL (ai ?_);clear hK K;refine hK _ ?_;clear hK K;refine wR 3 ?_;refine aY ah 2 [(0,.c (iR ((↑n:Int)+1)) oM)] ?_;refine aa (ai ?_);refine⟨(n+1,cs2),⟨by simp;omega,he4⟩,?_,by simp;omega⟩;refine aD (tl:=[(1,V.ref 1 0),(5,V.i (↑(n+1):Int))]) (sl:=[(1,Ob.box 303 cs2)]) [(1,1)] (.cons kR (.cons kR .nil)) (.cons ⟨Ob.box 303 cs2,kR,.box ?_⟩ .nil) kR kR;rw [he4,vB]
 ·have c2:n=51:=by simp at c1;omega
  have he5:cs=lZ b9:=by rw [hcs,c2];unfold lZ;refine List.map_congr_left fun x hx=> ?_;rw [List.mem_range]at hx;rw [nG,if_pos (.inl oM)]
  refine j8 (dw (t:=303) (cs:=cs) 1 kR (by rw [he5];exact Jy b9)) ?_;refine bw ?_;refine b5 ?_;refine b5 ?_;refine bF ?_;refine ai ?_;clear hK K;refine hK _ ?_;clear hK K;refine sK fun K hK=>wR 3 ?_;refine aY ah 2 [] ?_;refine nK hK ?_;clear hK K;refine ay ?_;rw [show vI=V.ptr cs by rw [vI,he5]];refine rP (V.ptr (List.drop (0:Nat) cs))
theorem nY(n:Nat)(k:Int)(hn:n<=50):AC Tryz.prog 167 [vI,.i n,.i k] (.i (C0 n k)) []:=by
 refine gv ah cv Tryz.func167 Tryz.ntmps167 fun C hC hF=> ?_;refine sK fun K hK=>wR 2 ?_;refine aY ah 1 [] ?_;refine nK hK ?_;clear hK K;refine sK fun K hK=>sK fun K hK=>wR 3 ?_;refine aY ah 7 [] ?_;refine nK hK ?_;clear hK K;refine au (t:=decide (k< 0) || decide ((↑n:Int)< k)) kR (fun c1=> ?_) (fun c1=> ?_)
 ·refine sK fun K hK=> ?_;refine wR 4 ?_;refine aY ah 1 [] ?_;refine nK hK ?_;clear hK K;refine ay ?_;refine bV ?_;rw [show C0 n k=0 by
   rw [C0];simp at c1;by_cases h:k< 0;·rw [if_pos h]
   ·rw [if_neg h,nX n k.toNat oM];rfl]
  refine rP (V.i 0)
 ·simp at c1;obtain⟨j,rfl⟩:∃j:Nat,k=j:=⟨k.toNat,by omega⟩;refine ak ?_;refine ai (hK _ ?_);clear hK K;refine sK fun K hK=>wR 4 ?_;refine aY ah 6 [(4,.c ((0:Int)<=(↑n:Int)/\(↑n:Int)< (↑(51:Nat):Int)) oM),(0,.c ((0:Int)<=(↑j:Int)/\(↑j:Int)< (↑(51:Nat):Int)) oM)] ?_;refine tC rfl (wm 2 (.tmp 19) (cs:=List.drop (j*1) (List.drop (n*51) (lZ b9))) (v:= .i (b9 n j)) (ah.agg rfl) rfl ?hv) ?_;case hv=>rw [List.drop_drop,List.getElem?_drop];exact vw (n:=n) (k:=j) oM oM oM rfl
  refine aY ah 1 [] ?_;refine nK hK ?_;clear hK K;refine ay ?_;rw [uR];refine rP (V.i (↑(b9 n j):Int))
theorem rj{a b:Int}(h:a=b):b6 (V.i a) (V.i b):=by subst h;exact b6.refl _
theorem B8(N b s M:Nat)(hN:N<=50)(hb:b<=N)(hs:s<=50)(hM:M<=51):AC Tryz.prog 168 [.agg [vI,.i N,.i s],.i b,.i ((M:Int)- 1)] (.i (bX b (N- b) s M)) []:=by
 refine gv ah cv Tryz.func168 Tryz.ntmps168 fun C hC hF=> ?_;refine sK fun K hK=>wR 2 ?_;refine aY ah 2 [] ?_;refine nK hK ?_;clear hK K;refine sK fun K hK=>sK fun K hK=>wR 3 ?_;refine aY ah 3 [(1,.c (iR ((↑M:Int)- 1+(1:Int))) oM)] ?_;refine nK hK ?_;clear hK K;refine av ?_;refine cJ (ι:=Nat) (fun k=>[(1,.i b),(3,.ptr [vI,.i N,.i s]),(6,.i (bX b (N- b) s k)),(9,.i ((M:Int)- 1+1)),(10,.i k)]) (fun _=>[]) (fun k=>k<=M) (fun k=>M- k) 0 (Nat.zero_le _) ?_ ?_;·refine aD [] (.cons kR (.cons kR (.cons kR (.cons kR (.cons kR .nil))))) .nil kR kR
 intro k hk;have hle:=sq b (N- b) s (k+1);have h50:=uP (n:=b+(N- b)) oM s;have he:bX b (N- b) s (k+1)=bX b (N- b) s k+b9 b k*D8 (N- b) s k:=rfl;have hp:C0 b (k:Int)*C0 (N- b) ((s:Int)- k)=((b9 b k*D8 (N- b) s k:Nat):Int):=by rw [uR,Is];simp
 refine sK fun K hK=>wR 2 ?_;refine aY ah 1 [] ?_;refine nK hK ?_;clear hK K;refine sK fun K hK=> ?_;refine au (t:=decide ((↑k:Int)< (↑M:Int)- 1+(1:Int))) kR (fun c1=> ?_) (fun c1=> ?_)
 ·have hk1:k< M:=by simp at c1;omega
  refine ak ?_;refine ai (hK _ ?_);clear hK K;refine sK fun K hK=> ?_;refine av ?_;refine sK fun K hK=>wR 3 ?_;refine aY ah 2 [] ?_;refine nK hK ?_;clear hK K;refine wD 4 ?_;refine aY ah 5 [] ?_;refine eC (nY b k oM) ?_;refine aX ah 10 [(5,.i ((↑N:Int)- (↑b:Int))),(9,.i ((↑s:Int)- (↑k:Int)))] ⟨oM,oM,tI⟩ ?_;refine eC (AC.conv (nY (N- b) ((s:Int)- k) oM) (args':=[V.ptr (lZ b9),V.i ((↑N:Int)- (↑b:Int)),V.i ((↑s:Int)- (↑k:Int))]) ⟨b6.refl _,?_,b6.refl _,trivial⟩) ?_;·exact rj oM
  refine aY ah 3 [(0,.c (iR (C0 b (↑k:Int)*C0 (N- b) ((↑s:Int)- (↑k:Int)))) oM),(0,.c (iR ((↑(bX b (N- b) s k):Int)+C0 b (↑k:Int)*C0 (N- b) ((↑s:Int)- (↑k:Int)))) oM)] ?_;refine aa ⟨kR,(bL (ai (hK _ ?_)))⟩;clear hK K;refine wR 5 ?_;refine aY ah 2 [(0,.c (iR ((↑k:Int)+1)) oM)] ?_;refine aa (ai ?_);refine⟨k+1,by omega,?_,by omega⟩;refine aD (tl:=[(1,V.i (↑b:Int)),(3,V.ptr [V.ptr (lZ b9),V.i (↑N:Int),V.i (↑s:Int)]),(6,V.i (↑(bX b (N- b) s (k+1)):Int)),(9,V.i ((↑M:Int)- 1+(1:Int))),(10,V.i (↑(k+1):Int))]) [] (.cons kR (.cons kR (.cons ?_ (.cons kR (.cons kR .nil))))) .nil kR kR;exact congrArg V.i (by rw [he,hp];omega)
 ·obtain rfl:k=M:=by simp at c1;omega
  refine bw ?_;refine b5 ?_;refine b5 ?_;refine bF ?_;refine ai ?_;clear hK K;refine hK _ ?_;clear hK K;refine sK fun K hK=>wR 3 ?_;refine aY ah 2 [] ?_;refine nK hK ?_;clear hK K;refine ay ?_;refine rP (V.i (↑(bX b (N- b) s k):Int))
theorem C5(n b:Nat)(re ac:Int)(hn:n<=50)(hb:1<=b/\b<=n)(hr:0<=re/\re<=1000)(ha:0<=ac/\ac<=1000):AC Tryz.prog 132 [.agg [.i n,.i 0,.i b,.i re,.i ac]] (.i 0) []:=by
 refine gv ah cv Tryz.func132 Tryz.ntmps132 fun C hC hF=> ?_;refine sK fun K hK=>wR 2 ?_;refine aY ah 2 [] ?_;refine nK hK ?_;clear hK K;refine sK fun K hK=>sK fun K hK=>wR 3 ?_;refine aY ah 2 [] ?_;refine eC (Io n 0 50) ?_;refine aY ah 23 [] ?_;refine eG 1 (g:=(!(decide ((0:Int)<=(↑n:Int)) && decide ((↑n:Int)<=50)) && true || decide ((↑b:Int)<=0) || decide ((↑n:Int)< (↑b:Int))) == false) (fun h=>A6 re 0 1000) ?_;refine aY ah 5 [] ?_;refine eG 1 (g:=(!(decide ((0:Int)<=(↑n:Int)) && decide ((↑n:Int)<=50)) && true || decide ((↑b:Int)<=0) || decide ((↑n:Int)< (↑b:Int)) || !(decide ((0:Int)<=re) && decide (re<=1000))) == false) (fun h=>A6 ac 0 1000) ?_;refine aY ah 2 [] ?_;refine nK hK ?_;clear hK K;refine au (t:= !(decide ((0:Int)<=(↑n:Int)) && decide ((↑n:Int)<=50)) && true || decide ((↑b:Int)<=0) || decide ((↑n:Int)< (↑b:Int)) || !(decide ((0:Int)<=re) && decide (re<=1000)) || !(decide ((0:Int)<=ac) && decide (ac<=1000))) kR (fun c1=> ?_) (fun c1=> ?_);·simp at c1;omega
 refine ak ?_;refine ai (hK _ ?_);clear hK K;refine sK fun K hK=>wR 4 ?_;refine aY ah 1 [] ?_;refine nK hK ?_;clear hK K;refine ay ?_;refine rP (V.i 0)
theorem FL(n b:Nat)(re ac:Int)(s m:Nat)(hn:n<=50)(hb:1<=b/\b<=n)(hr:0<=re/\re<=1000)(ha:0<=ac/\ac<=1000)(hs:s<=n)(hm:m<=n):AC Tryz.prog 134 [.agg [.i n,.i 0,.i b,.i re,.i ac],vI,.i s,.i m] (.b (iE n b re ac s m)) []:=by
 have h1:=uP hn s;have h2:=sq 0 n s (m+1);have h3:=sq b (n- b) s (m+1);rw [Nat.zero_add]at h2;rw [show b+(n- b)=n by omega]at h3;have h4:0<=re*(b9 n s:Int)/\re*(b9 n s:Int)<=1000*1125899906842624:=⟨Int.mul_nonneg hr.1 oM,Int.mul_le_mul hr.2 oM oM (by decide)⟩;have h5:0<=ac*(b9 n s:Int)/\ac*(b9 n s:Int)<=1000*1125899906842624:=⟨Int.mul_nonneg ha.1 oM,Int.mul_le_mul ha.2 oM oM (by decide)⟩;refine gv ah cv Tryz.func134 Tryz.ntmps134 fun C hC hF=> ?_;refine sX ah 2 2 [] tI (sK fun K hK=>wD 3 ?_);refine aq ah (M:=[]) (n:=9) [pv (11:Nat) (V.ptr (lZ b9)),pv (12:Nat) (V.ptr [V.i (↑n:Int),V.i (0:Int),V.i (↑b:Int),V.i re,V.i ac]),pv (13:Nat) (V.i (↑n:Int)),pv (14:Nat) (V.i (↑s:Int)),pv (15:Nat) (V.agg [V.ptr (lZ b9),V.i (↑n:Int),V.i (↑s:Int)]),pv (16:Nat) (V.ptr (lZ b9)),pv (17:Nat) (V.ptr [V.i (↑n:Int),V.i (0:Int),V.i (↑b:Int),V.i re,V.i ac]),pv (18:Nat) (V.i (↑n:Int)),pv (19:Nat) (V.i (↑s:Int))] kR kR tI ?_;refine eC (nY n s hn) ?_;rw [uR];refine aq ah (M:=[]) (n:=3) [pn (9:Nat) (V.ref (200009:Nat) (0:Nat)) (200009:Nat) (Ob.box (305:Nat) [V.c (Value.pointer none),V.i (0:Int),V.i (0:Int)]),pw ((0:Nat)+(3:Nat)<=(3:Nat)) (200009:Nat) (Ob.box (305:Nat) [V.ptr (lZ b9),V.i (↑n:Int),V.i (↑s:Int)]),pv (10:Nat) (V.i (↑(b9 n s):Int))] kR kR ⟨oM,tI⟩ ?_;refine aa ⟨kR,(ai (hK _ ?_))⟩;clear hK K;refine sK fun K hK=>wD 4 ?_;refine aq ah (M:=[]) (n:=5) [pv (21:Nat) (V.i (↑(b9 n s):Int)),pc (22:Nat) ((0:Nat)<=(3:Nat)) (V.agg [V.ptr (lZ b9),V.i (↑n:Int),V.i (↑s:Int)]),pv (23:Nat) (V.ptr [V.i (0:Int),V.i (↑b:Int),V.i re,V.i ac]),pv (24:Nat) (V.i (0:Int)),pv (25:Nat) (V.i (↑m:Int))] kR kR ⟨oM,tI⟩ ?_;refine eC (AC.conv (B8 n 0 s (m+1) hn oM oM oM) (args':=[V.agg [V.ptr (lZ b9),V.i (↑n:Int),V.i (↑s:Int)],V.i (0:Int),V.i (↑m:Int)]) ⟨b6.refl _,b6.refl _,?_,trivial⟩) ?_;·exact rj oM
 refine aq ah (M:=[]) (n:=12) [pc (27:Nat) ((-9223372036854775808:Int)<=(↑(b9 n s):Int)- (↑(bX (0:Nat) (n- 0) s (m+1)):Int)/\(↑(b9 n s):Int)- (↑(bX (0:Nat) (n- 0) s (m+1)):Int)<=9223372036854775807) (V.i ((↑(b9 n s):Int)- (↑(bX (0:Nat) (n- 0) s (m+1)):Int))),pc (28:Nat) ((-9223372036854775808:Int)<=(1000:Int)*((↑(b9 n s):Int)- (↑(bX (0:Nat) (n- 0) s (m+1)):Int))/\(1000:Int)*((↑(b9 n s):Int)- (↑(bX (0:Nat) (n- 0) s (m+1)):Int))<=9223372036854775807) (V.i ((1000:Int)*((↑(b9 n s):Int)- (↑(bX (0:Nat) (n- 0) s (m+1)):Int)))),pv (29:Nat) (V.ptr [V.i re,V.i ac]),pv (30:Nat) (V.i re),pv (31:Nat) (V.i (↑(b9 n s):Int)),pc (32:Nat) ((-9223372036854775808:Int)<=re*(↑(b9 n s):Int)/\re*(↑(b9 n s):Int)<=9223372036854775807) (V.i (re*(↑(b9 n s):Int))),pv (33:Nat) (V.b (decide ((1000:Int)*((↑(b9 n s):Int)- (↑(bX (0:Nat) (n- 0) s (m+1)):Int))<=re*(↑(b9 n s):Int)))),pv (34:Nat) (V.b (decide ((1000:Int)*((↑(b9 n s):Int)- (↑(bX (0:Nat) (n- 0) s (m+1)):Int))<=re*(↑(b9 n s):Int)))),pc (35:Nat) ((True/\True)/\((decide ((1000:Int)*((↑(b9 n s):Int)- (↑(bX (0:Nat) (n- 0) s (m+1)):Int))<=re*(↑(b9 n s):Int)) == true)=true->(0:Nat)<=(3:Nat))) (V.gd (decide ((1000:Int)*((↑(b9 n s):Int)- (↑(bX (0:Nat) (n- 0) s (m+1)):Int))<=re*(↑(b9 n s):Int)) == true) (V.agg [V.ptr (lZ b9),V.i (↑n:Int),V.i (↑s:Int)])),pc (36:Nat) ((True/\True)/\((decide ((1000:Int)*((↑(b9 n s):Int)- (↑(bX (0:Nat) (n- 0) s (m+1)):Int))<=re*(↑(b9 n s):Int)) == true)=true->True)) (V.gd (decide ((1000:Int)*((↑(b9 n s):Int)- (↑(bX (0:Nat) (n- 0) s (m+1)):Int))<=re*(↑(b9 n s):Int)) == true) (V.ptr [V.i (↑b:Int),V.i re,V.i ac])),pc (37:Nat) ((((decide ((1000:Int)*((↑(b9 n s):Int)- (↑(bX (0:Nat) (n- 0) s (m+1)):Int))<=re*(↑(b9 n s):Int)) == true)=true->(decide ((1000:Int)*((↑(b9 n s):Int)- (↑(bX (0:Nat) (n- 0) s (m+1)):Int))<=re*(↑(b9 n s):Int)) == true)=true)/\True)/\((decide ((1000:Int)*((↑(b9 n s):Int)- (↑(bX (0:Nat) (n- 0) s (m+1)):Int))<=re*(↑(b9 n s):Int)) == true)=true->True)) (V.gd (decide ((1000:Int)*((↑(b9 n s):Int)- (↑(bX (0:Nat) (n- 0) s (m+1)):Int))<=re*(↑(b9 n s):Int)) == true) (V.i (↑b:Int))),pc (38:Nat) ((True/\True)/\((decide ((1000:Int)*((↑(b9 n s):Int)- (↑(bX (0:Nat) (n- 0) s (m+1)):Int))<=re*(↑(b9 n s):Int)) == true)=true->True)) (V.gd (decide ((1000:Int)*((↑(b9 n s):Int)- (↑(bX (0:Nat) (n- 0) s (m+1)):Int))<=re*(↑(b9 n s):Int)) == true) (V.i (↑m:Int)))] kR kR ⟨⟨(by(simp;omega)),oM⟩,⟨(by(simp;omega)),oM⟩,oM,⟨⟨tI,tI⟩,(by(intro _;simp;done))⟩,⟨⟨tI,tI⟩,(fun _=>tI)⟩,⟨⟨(by(exact fun h=>h)),tI⟩,(fun _=>tI)⟩,⟨⟨tI,tI⟩,(fun _=>tI)⟩,tI⟩ ?_;refine eG 3 (g:=decide ((1000:Int)*((↑(b9 n s):Int)- (↑(bX (0:Nat) (n- 0) s (m+1)):Int))<=re*(↑(b9 n s):Int)) == true) (fun h=>AC.conv (B8 n b s (m+1) hn oM oM oM) (args':=[V.agg [V.ptr (lZ b9),V.i (↑n:Int),V.i (↑s:Int)],V.i (↑b:Int),V.i (↑m:Int)]) ⟨b6.refl _,b6.refl _,?_,trivial⟩) ?_;·exact rj oM
 refine aX ah 8 [(0,.c ((True/\((decide ((1000:Int)*((↑(b9 n s):Int)- (↑(bX (0:Nat) (n- 0) s (m+1)):Int))<=re*(↑(b9 n s):Int)) == true)=true->(decide ((1000:Int)*((↑(b9 n s):Int)- (↑(bX (0:Nat) (n- 0) s (m+1)):Int))<=re*(↑(b9 n s):Int)) == true)=true)/\True)/\((decide ((1000:Int)*((↑(b9 n s):Int)- (↑(bX (0:Nat) (n- 0) s (m+1)):Int))<=re*(↑(b9 n s):Int)) == true)=true->(-9223372036854775808:Int)<=(1000:Int)*(↑(bX b (n- b) s (m+1)):Int)/\(1000:Int)*(↑(bX b (n- b) s (m+1)):Int)<=9223372036854775807))),(1,.c (gA (decide ((1000:Int)*((↑(b9 n s):Int)- (↑(bX (0:Nat) (n- 0) s (m+1)):Int))<=re*(↑(b9 n s):Int)) == true) True)),(2,.c (gB (decide ((1000:Int)*((↑(b9 n s):Int)- (↑(bX (0:Nat) (n- 0) s (m+1)):Int))<=re*(↑(b9 n s):Int)) == true) True)),(3,.c (gA (decide ((1000:Int)*((↑(b9 n s):Int)- (↑(bX (0:Nat) (n- 0) s (m+1)):Int))<=re*(↑(b9 n s):Int)) == true) True)),(4,.c (gC (decide ((1000:Int)*((↑(b9 n s):Int)- (↑(bX (0:Nat) (n- 0) s (m+1)):Int))<=re*(↑(b9 n s):Int)) == true) ((-9223372036854775808:Int)<=ac*(↑(b9 n s):Int)/\ac*(↑(b9 n s):Int)<=9223372036854775807))),(5,.c (gC (decide ((1000:Int)*((↑(b9 n s):Int)- (↑(bX (0:Nat) (n- 0) s (m+1)):Int))<=re*(↑(b9 n s):Int)) == true) True)),(6,.c ((decide ((1000:Int)*((↑(b9 n s):Int)- (↑(bX (0:Nat) (n- 0) s (m+1)):Int))<=re*(↑(b9 n s):Int))=true->(decide ((1000:Int)*((↑(b9 n s):Int)- (↑(bX (0:Nat) (n- 0) s (m+1)):Int))<=re*(↑(b9 n s):Int)) == true)=true)/\True))] ⟨⟨⟨tI,⟨(by(exact fun h=>h)),tI⟩⟩,(by(intro hg;simp at hg;omega))⟩,⟨⟨tI,tI⟩,(fun _=>tI)⟩,⟨⟨(by(exact fun h=>h)),tI⟩,(fun _=>tI)⟩,⟨⟨tI,tI⟩,(fun _=>tI)⟩,⟨⟨(by(exact fun h=>h)),⟨(by(exact fun h=>h)),tI⟩⟩,(by(intro hg;simp at hg;omega))⟩,⟨⟨(by(exact fun h=>h)),⟨(by(exact fun h=>h)),tI⟩⟩,(fun _=>tI)⟩,⟨(by(intro h;rw [h];rfl)),tI⟩,tI⟩ ?_;refine aa ⟨kR,(ai (hK _ ?_))⟩;clear hK K;refine ay ?_;refine rP (V.b (decide ((1000:Int)*((↑(b9 n s):Int)- (↑(bX (0:Nat) (n- 0) s (m+1)):Int))<=re*(↑(b9 n s):Int)) && decide ((1000:Int)*(↑(bX b (n- b) s (m+1)):Int)<=ac*(↑(b9 n s):Int))))
abbrev vK(n:Nat)(b:Nat)(re:Int)(ac:Int):=(1,Ob.box 249 [V.i (↑n:Int),V.i 0,V.i (↑b:Int),V.i re,V.i ac])
theorem vZ(n b:Nat)(re ac:Int)(hn:n<=50)(hb:1<=b/\b<=n)(hr:0<=re/\re<=1000)(ha:0<=ac/\ac<=1000):AC Tryz.prog 86 [.i n,.i 0,.i b,.i re,.i ac] (.tup [.i (Jw n b re ac),.i (r7 n b re ac (Jw n b re ac).toNat),.i 0]) []:=by
 obtain⟨s,m,e1,e2,hs,hm,h1,h2,h3⟩:=Mg (n:=n) (b:=b) (re:=re) (ac:=ac) hb.1 hb.2 hr.1 ha.1;rw [e1,show((s:Int)).toNat=s from Int.toNat_natCast s,e2];refine gv ah cv Tryz.func86 Tryz.ntmps86 fun C hC hF=> ?_;refine sK fun K hK=>wR 2 ?_;refine aY ah 3 [] ?_;refine nK hK ?_;clear hK K;refine wF ?_;refine sK fun K hK=>wR 3 ?_;refine aY ah 8 [(7,.c ((0:Nat)+(5:Nat)<=(5:Nat)) oM)] ?_;refine nK hK ?_;clear hK K;refine sK fun K hK=>sK fun K hK=>wR 4 ?_;refine aY ah 1 [(0,.c ((0:Nat)<=(5:Nat)) oM)] ?_;refine eC (C5 n b re ac hn hb hr ha) ?_;refine aY ah 1 [] ?_;refine nK hK ?_;clear hK K;refine sK fun K hK=>wR 5 ?_;refine aY ah 2 [] ?_;refine nK hK ?_;clear hK K;refine aB (t:=false) kR rfl ?_;refine ak ?_;refine ai (hK _ ?_);clear hK K;refine sK fun K hK=>wR 6 ?_;refine eC (DE) ?_;refine aY ah 1 [] ?_;refine nK hK ?_;clear hK K;refine sK fun K hK=>wR 7 ?_;refine aY ah 2 [] ?_;refine nK hK ?_;clear hK K;refine sK fun K hK=> ?_;refine wC ?_;refine ai (hK _ ?_);clear hK K;refine sK fun K hK=>sK fun K hK=>wR 8 ?_;refine aY ah 3 [(1,.c (iR ((↑n:Int)+1)) oM)] ?_;refine nK hK ?_;clear hK K;refine av ?_;refine cJ (ι:=Nat) (fun i=>[(0,.i n),(13,.ref 1 0),(15,vI),(31,.i ((n:Int)+1)),(32,.i i)]) (fun _=>[(1,.box 249 [.i n,.i 0,.i b,.i re,.i ac])]) (fun i=>i<=s) (fun i=>s- i) 0 (Nat.zero_le _) ?_ ?_;·refine aD (sl:=[(vK n b re ac)]) [(1,200013)] (.cons kR (.cons kR (.cons kR (.cons kR (.cons kR .nil))))) (.cons oS .nil) kR kR
 intro i hi;refine sK fun K hK=>wR 2 ?_;refine aY ah 1 [] ?_;refine nK hK ?_;clear hK K;refine sK fun K hK=> ?_;refine au (t:=decide ((↑i:Int)< (↑n:Int)+1)) kR (fun c1=> ?_) (fun c1=> ?_)
 ·refine ak ?_;refine ai (hK _ ?_);clear hK K;refine sK fun K hK=> ?_;refine av ?_;refine sK fun K hK=>wR 3 ?_;refine aY ah 2 [] ?_;refine nK hK ?_;clear hK K;refine sK fun K hK=>wR 4 ?_;refine aY ah 3 [(1,.c (iR ((↑n:Int)+1)) oM)] ?_;refine nK hK ?_;clear hK K;refine av ?_;refine cJ (ι:=Nat) (fun j=>[(0,.i n),(13,.ref 1 0),(15,vI),(16,.i i),(31,.i ((n:Int)+1)),(32,.i i),(36,.i ((n:Int)+1)),(37,.i j)]) (fun _=>[(1,.box 249 [.i n,.i 0,.i b,.i re,.i ac])]) (fun j=>j<=n+1/\(i=s->j<=m)) (fun j=>n+1- j) 0 ⟨Nat.zero_le _,fun _=>Nat.zero_le _⟩ ?_ ?_;·refine aD (sl:=[(vK n b re ac)]) [(1,1)] (.cons kR (.cons kR (.cons kR (.cons kR (.cons kR (.cons kR (.cons kR (.cons kR .nil)))))))) (.cons oS .nil) kR kR
  rintro j ⟨hj,hjm⟩;refine sK fun K hK=>wR 2 ?_;refine aY ah 1 [] ?_;refine nK hK ?_;clear hK K;refine sK fun K hK=> ?_;refine au (t:=decide ((↑j:Int)< (↑n:Int)+1)) kR (fun c2=> ?_) (fun c2=> ?_)
  ·have hj1:j<=n:=by simp at c2;omega
   refine ak ?_;refine ai (hK _ ?_);clear hK K;refine sK fun K hK=> ?_;refine av ?_;refine sK fun K hK=>wR 3 ?_;refine aY ah 2 [] ?_;refine nK hK ?_;clear hK K;refine sK fun K hK=>wR 4 ?_;refine aY ah 4 [(0,.c ((0:Nat)<=(5:Nat)) oM)] ?_;refine eC (FL n b re ac i j hn hb hr ha oM hj1) ?_;refine nK hK ?_;clear hK K;refine au (t:=iE n b re ac i j) kR (fun c3=> ?_) (fun c3=> ?_)
   ·have c3:iE n b re ac i j=true:=c3;have hi1:i=s:=by
     rcases Nat.lt_or_ge i s with h4 |h4;·have:=DW (h2 i h4) j oM;rw [c3]at this;cases this
     ·omega
    subst hi1;have hj2:j=m:=by
     rcases Nat.lt_or_ge j m with h4 |h4;·have:=h3 j h4;rw [c3]at this;cases this
     ·have:=hjm rfl;omega
    subst hj2;refine bw ?_;refine Ca rfl ?_;refine b5 ?_;refine b5 ?_;refine Ca rfl ?_;refine Ca rfl ?_;refine b5 ?_;refine b5 ?_;refine bF ?_;refine ai ?_;clear hK K;clear hK K;refine hK _ ?_;clear hK K;refine sK fun K hK=>wR 5 ?_;refine aY ah 5 [] ?_;refine nK hK ?_;clear hK K;refine ay ?_;refine PS ?_;refine rP (V.tup [V.i (↑i:Int),V.i (↑j:Int),V.i 0])
   ·have c3:iE n b re ac i j=false:=c3;refine ak ?_;refine bL (ai (hK _ ?_));clear hK K;refine wR 5 ?_;refine aY ah 2 [(0,.c (iR ((↑j:Int)+1)) oM)] ?_;refine aa (ai ?_);refine⟨j+1,⟨by omega,fun h4=> ?_⟩,by refine aD (sl:=[(vK n b re ac)]) [(1,1)] (.cons kR (.cons kR (.cons kR (.cons kR (.cons kR (.cons kR (.cons kR (.cons kR .nil)))))))) (.cons oS .nil) kR kR,by omega⟩;have:=hjm h4;rcases Nat.lt_or_ge j m with h5 |h5;·omega
    ·have h6:j=m:=by omega
     subst h6 h4;rw [h1]at c3;cases c3
  ·have hj1:j=n+1:=by simp at c2;omega
   have hi1:i≠s:=fun h4=>by have:=hjm h4;omega
   refine bw ?_;refine b5 ?_;refine b5 ?_;refine bF ?_;refine bL (ai ?_);clear hK K;refine hK _ ?_;clear hK K;refine wR 3 ?_;refine aY ah 2 [(0,.c (iR ((↑i:Int)+1)) oM)] ?_;refine aa (ai ?_);refine⟨i+1,by omega,by refine aD (sl:=[(vK n b re ac)]) [(1,1)] (.cons kR (.cons kR (.cons kR (.cons kR (.cons kR .nil))))) (.cons oS .nil) kR kR,by omega⟩
 ·simp at c1;omega
def Fk:List Nat:=[148,111,66,149,112,67,192,188,199,201,999999,999999,999999,999999,999999,999999,999999,999999,999999,999999,999999,999999,999999,999999]
def Nk:ML:=[(64,[21]),(189,[8]),(175,[24])]
def Be(sz n:Nat)(cs:List V):V:= .sl sz n fun i=>(cs.drop (i*sz)).take sz
def sR(l:List Int):V:=Be 1 l.length (l.map V.i)
def Nj:List (Int×Int)->List V
 | []=>[]
 |x::l=> .i x.1:: .i x.2::Nj l
def De(l:List (Int×Int)):V:=Be 2 l.length (Nj l)
def ID(l:List Int):V:= .sl 1 l.length (rowOf (l.map fun x=>[.i x]))
def Dd(l:List (Int×Int)):V:= .sl 2 l.length (rowOf (l.map fun x=>[.i x.1,.i x.2]))
theorem Fj(l:List (List V))(h:l.all V.bq=true)(i:Nat):V.bq (rowOf l i)=true:=gU h i
def w7:V:= .agg [.i 400,.i 2000,.i 200,.i 2000,.i 1000,.i 1000,.i 100]
def IC:List (Int×Int):=[(-400,400),(-200,600),(-400,400)]
theorem IE:AM Tryz.prog 14 [w7,De [(0,0),(100,100),(0,0)]] [] (.tup [.own 0,.i 0]) [] [.row 47 2 3 (rowOf [[.i (-400),.i 400],[.i (-200),.i 600],[.i (-400),.i 400]])]:=CO ah cv Nk Fk kR kR
theorem Lj:AC Tryz.prog 14 [w7,De [(0,0),(100,100),(0,0)]] (.tup [Dd IC,.i 0]) []:=AC.lY (IE.ac (by decide)) rfl (fun _ _=>rfl) (Fj _ rfl) rfl rfl
theorem O8:AC Tryz.prog 21 [w7,Dd IC,.i 1000] (.tup [.i 31831,.i 0]) []:=AM.ac (CO ah cv Nk Fk kR kR) (by decide)
theorem Lh:AM Tryz.prog 144 [.agg [sR [64],sR [128],.i 256],sR [100,0,0, -3]] [] (.tup [.own 0,.i 0]) [] [.row 2 1 4 (rowOf [[.i 100],[.i 75],[.i 37],[.i 15]])]:=CO ah cv Nk Fk kR kR
theorem Nl:AC Tryz.prog 144 [.agg [sR [64],sR [128],.i 256],sR [100,0,0, -3]] (.tup [ID [100,75,37,15],.i 0]) []:=AC.lY (Lh.ac (by decide)) rfl (fun _ _=>rfl) (Fj _ rfl) rfl rfl
def O6:ByteArray:=⟨#[97]⟩
def Kf:V:=Be 2 1 [.c (.string O6),De [(10, -10),(5,0)]]
def Ke:V:=Be 7 1 [.i 0,.i 0,.i 2,.i 0,.i 0,.i 0,.i 500]
theorem Ll:AC Tryz.prog 145 [Kf,Ke] (.tup [Dd [(5, -5),(2,0)],.i 0]) []:=AM.ac (CO ah cv Nk Fk kR kR) (by decide)
def O7:ByteArray:=⟨#[102]⟩
def Kc(l:List Int):V:= .agg (.c (.string O7)::l.map V.i)
theorem IF:AC Tryz.prog 100 [Kc [1000,400,10,0,0,0,0],.agg [.i 95,.i 20,.i 0]] (.tup [.i 200,.i 0]) []:=AM.ac (CO ah cv Nk Fk kR kR) (by decide)
def P8:List (FuncId×List V×V):=[(14,[w7,De [(0,0),(100,100),(0,0)]],.tup [Dd IC,.i 0]),(21,[w7,Dd IC,.i 1000],.tup [.i 31831,.i 0]),(144,[.agg [sR [64],sR [128],.i 256],sR [100,0,0, -3]],.tup [ID [100,75,37,15],.i 0]),(145,[Kf,Ke],.tup [Dd [(5, -5),(2,0)],.i 0])]
theorem Ov:kf Tryz.prog P8:=dg Lj rfl rfl (dg O8 rfl rfl (dg Nl rfl rfl (dg Ll rfl rfl nu)))
theorem Av:AC Tryz.prog 101 [] (.b true) []:=AM.ac (ET (O:=DA P8) ah cv [] [] (fun _=>qk Ov) kR kR) (by decide)
end Go.Proofs.YtjmbpjlojjgggaaGreatDoor
