/-
  Several texts in one: Plating shops of many plates: what is read of them. Walks. Conditions: told in each theorem. .. Plating shops of many plates: the line of a plate. Walks. Conditions: told in each theorem.
-/
import Derived.Test.YtjmbpjlojjgggaaGreatDoorAbs42
import Derived.Test.YtjmbpjlojjgggaaGreatDoorX00
import Derived.Test.YtjmbpjlojjgggaaGreatDoorX08
import Derived.Test.YtjmbpjlojjgggaaGreatDoorX02
import Derived.Test.YtjmbpjlojjgggaaGreatDoorX03
import Derived.Test.YtjmbpjlojjgggaaGreatDoorX04
set_option maxRecDepth 100000
namespace Go.Proofs.YtjmbpjlojjgggaaGreatDoor
open Go.Ab Go.RowKit Go.Dw Go.Shelf
abbrev Hq(S:Sh)(i:Nat):List V:=(S.pl i).c++[sE (S.pl i)]
def NI(S:Sh):V:= .sl 7 S.n fun i=>(S.pl i).c
theorem x9(S:Sh)(hn:S.n<=200):AC Tryz.prog 16 [Aw S] (.own 0) [.row 51 7 S.n fun i=>(S.pl i).c]:=by
 refine iS ah cZ Tryz.func16 Tryz.ntmps16 fun C hC hF=> ?_;refine sK fun K hK=>wR 2 ?_;refine aY ah 1 [] ?_;refine nK hK ?_;clear hK K;refine sK fun K hK=>sK fun K hK=>wR 3 ?_;refine aY ah 1 [] ?_;refine eC (ji S.r (.sl 1 S.n fun i=>[.ptr ((S.pl i).c++[sE (S.pl i)])]) (.sl 4 S.m fun i=>(S.tk i).c) (.sl 2 S.q (bZ S.g)) (.sl 13 S.l cE)) ?_;refine nK hK ?_;clear hK K;refine aH (t:=false) kR rfl ?_;refine ak ?_;refine aq (hK _ ?_);clear hK K;refine sK fun K hK=>wR 4 ?_;refine aY ah 1 [] ?_;refine nK hK ?_;clear hK K;refine sK fun K hK=>sK fun K hK=>wR 5 ?_;refine aY ah 6 [] ?_;refine nK hK ?_;clear hK K;refine aD ?_;refine mL (uW 3 51 7 (fun i=>(S.pl i).c) kR rfl) ?_;refine fV (ι:=Nat) (fun k=>[(3,.own 5),(11,.sl 1 S.n fun i=>[.ptr (Hq S i)]),(12,.i S.n),(13,.i (k:Nat))]) (fun k=>[(5,.row 51 7 k fun i=>(S.pl i).c)]) (fun k=>k<=S.n) (fun k=>S.n- k) 0 (Nat.zero_le _) ?_ ?_;·refine aZ (sl:=[(5,Ob.row 51 7 0 fun(i:Nat)=>Pl.c (Sh.pl S i))]) [(5,500003)] (.cons kR (.cons kR (.cons kR (.cons kR .nil)))) (.cons oS .nil) kR kR
 intro k hk;refine sK fun K hK=>wR 2 ?_;refine aY ah 1 [] ?_;refine nK hK ?_;clear hK K;refine sK fun K hK=> ?_;refine aA (t:=decide ((↑k:Int)< (↑(Sh.n S):Int))) kR (fun c1=> ?_) (fun c1=> ?_)
 ·have hk1:k< S.n:=by simpa using c1
  refine ak ?_;refine aq (hK _ ?_);clear hK K;refine sK fun K hK=> ?_;refine aD ?_;refine sK fun K hK=>wR 3 ?_;refine aY ah 3 [(0,.c ((0:Int)<=(↑k:Int)/\(↑k:Int)< (↑(Sh.n S):Int)) oM)] ?_;refine nK hK ?_;clear hK K;refine wR 4 (aX ah 8 [(6,.r (PR.mk (some (23:Nat)) (some (k+1<=(1099511627776:Nat))) (V.own 300023) [((5:Nat),none),((300023:Nat),some (Ob.row 51 7 (k+1) (aO k (fun(i:Nat)=>Pl.c (Sh.pl S i)) fun(i:Nat)=>List.take (7:Nat) (List.drop (i*7) [V.i (↑(Pl.kind (Sh.pl S k)):Int),V.i (Pl.par (Sh.pl S k)),V.i (Pl.cut (Sh.pl S k)),V.i (Pl.area (Sh.pl S k)),V.i (Pl.aC (Sh.pl S k)),V.i (Pl.grown (Sh.pl S k)),V.b (Pl.ret (Sh.pl S k))]))))] false))] ⟨oM,tI⟩ (ag (dS (aq (hK _ ?_)))));clear hK K;refine wR 5 ?_;refine aY ah 2 [(0,.c (iR ((↑k:Int)+1)) oM)] ?_;refine ag (aq ?_);refine⟨k+1,by omega,?_,by omega⟩;refine aZ (tl:=[(3,V.own 5),(11,V.sl 1 (Sh.n S) fun(i:Nat)=>[V.ptr (Hq S i)]),(12,V.i (↑(Sh.n S):Int)),(13,V.i (↑(k+1):Int))]) (sl:=[(5,Ob.row 51 7 (k+1) fun(i:Nat)=>Pl.c (Sh.pl S i))]) [(5,300023)] (.cons kR (.cons kR (.cons kR (.cons kR .nil)))) (.cons ⟨Ob.row 51 7 (k+1) (aO k (fun(i:Nat)=>Pl.c (Sh.pl S i)) fun(i:Nat)=>List.take (7:Nat) (List.drop (i*7) [V.i (↑(Pl.kind (Sh.pl S k)):Int),V.i (Pl.par (Sh.pl S k)),V.i (Pl.cut (Sh.pl S k)),V.i (Pl.area (Sh.pl S k)),V.i (Pl.aC (Sh.pl S k)),V.i (Pl.grown (Sh.pl S k)),V.b (Pl.ret (Sh.pl S k))])),kR,.row kR ?_⟩ .nil) kR kR
  ·intro i hi;by_cases h:i< k;·simp only [aO,if_pos h];rfl
   ·have:i=k:=by omega
    subst this;simp only [aO,if_neg h,Nat.sub_self];rfl
 ·have hk1:k=S.n:=by simp at c1;omega
  subst hk1;refine cm ?_;refine eY ?_;refine eY ?_;refine cO ?_;refine aq ?_;clear hK K;refine hK _ ?_;clear hK K;refine sK fun K hK=>wR 3 ?_;refine aY ah 2 [] ?_;refine nK hK ?_;clear hK K;refine av ?_;refine ql [(0,5)] [(2,V.own 0)] (.inr rfl) (.cons kR .nil) (.cons oS .nil) kR kR kR kR
theorem Bn(S:Sh)(hn:S.n<=200):AC Tryz.prog 16 [Aw S] (NI S) []:= AC.A8 (e:=51) (sz:=7) (n:=S.n) (row:=fun i=>(S.pl i).c) (v:= .own 0) (x9 S hn) rfl (fun _ _=>rfl) (fun _=>rfl) rfl rfl
def Af(S:Sh):Prop:=∀i,i< S.n->(S.pl i).par< (i:Int)/\ -1<=(S.pl i).par
def jZ(S:Sh)(i:Int):Nat->Int
 |0=>i
 |m+1=>if 0<=jZ S i m then(S.pl (jZ S i m).toNat).par else jZ S i m
def Gd(S:Sh):Nat->Int->Nat
 |0,_=>0
 |f+1,i=>if 0<=i then Gd S f (S.pl i.toNat).par+1 else 0
def cH(S:Sh)(i:Int):Nat:=Gd S (S.n+1) i
theorem oW{S:Sh}{i:Int}(h:0<=i):∀m,jZ S i (m+1)=jZ S (S.pl i.toNat).par m
 |0=>by show(if 0<=i then _ else _)=_;rw [if_pos h];rfl
 |m+1=>by have ih:=oW (S:=S) h m;show(if 0<=jZ S i (m+1)then(S.pl (jZ S i (m+1)).toNat).par else jZ S i (m+1))=(if 0<=jZ S (S.pl i.toNat).par m then _ else _);rw [ih]
theorem Be{S:Sh}(hp:Af S):∀(f:Nat) (i:Int),i< f->i< S.n->(∀m,m< Gd S f i->0<=jZ S i m/\jZ S i m< S.n)/\jZ S i (Gd S f i)< 0
 |0,i,h,hn=>⟨fun m hm=>absurd hm (Nat.not_lt_zero _),h⟩
 |f+1,i,h,hn=>by
  by_cases h0:0<=i
  ·have h1:=(hp i.toNat oM).1;obtain⟨k1,k2⟩:=Be hp f (S.pl i.toNat).par oM oM;have e:Gd S (f+1) i=Gd S f (S.pl i.toNat).par+1:=by rw [Gd,if_pos h0]
   rw [e];refine⟨fun m hm=> ?_,by rw [oW h0];exact k2⟩;cases m with
   |zero=>exact⟨h0,hn⟩
   |succ m=>rw [oW h0];exact k1 m oM
  ·have e:Gd S (f+1) i=0:=by rw [Gd,if_neg h0]
   rw [e];exact⟨fun m hm=>absurd hm (Nat.not_lt_zero _),by show i< 0;omega⟩
theorem r9{S:Sh}(hp:Af S){i:Int}(hi:i< S.n):(∀m,m< cH S i->0<=jZ S i m/\jZ S i m< S.n)/\jZ S i (cH S i)< 0:=Be hp _ i oM hi
def Da(S:Sh)(i:Int):List (List V):=(List.range (cH S i)).map fun m=>[.i (jZ S i m)]
theorem r8(S:Sh)(i:Int):(Da S i).length=cH S i:=by simp [Da]
theorem xO{S:Sh}{i:Int}{m:Nat}(h:m< cH S i):(Da S i)[m]?=some [.i (jZ S i m)]:=by simp [Da,h]
theorem KR(S:Sh)(hp:Af S)(hn:S.n<=200)(i:Int)(hi:i< S.n)(hi2: -1<=i):Jp Tryz.prog 129 [.ref 500 0,.ptr [Aw S]] [.box 3 [.i i]] (Da S i):=by
 obtain⟨h1,h2⟩:=r9 hp hi;refine yj ah cZ (fn:=Tryz.f129) (N:=_) ⟨Tryz.func129,rfl,Tryz.ntmps129,kR⟩ rfl (by simp) (fun Y=> ?_) (by simp);rw [r8];refine qA ?_;refine BR (ι:=Nat) (fun m=>⟨dL [(0,.c (.func (.yield Y.l) #[] #[])),(1,.ref 500 0),(2,.ptr [Aw S])],bK [(500,.box 3 [.i (jZ S i m)])],1⟩) (fun m=>m) (fun m=>m<=cH S i) (fun m=>cH S i- m) 0 (Nat.zero_le _) ?_ rfl ?_;·refine aZ (sl:=[(500,Ob.box 3 [V.i (jZ S i (0:Nat))])]) [] (.cons kR (.cons kR (.cons kR .nil))) (.cons oS .nil) kR kR
 intro m hm;by_cases c:m< cH S i
 ·obtain⟨q1,q2⟩:=h1 m c;have hg:=xO c;have hs:jZ S i (m+1)=(S.pl (jZ S i m).toNat).par:=by rw [jZ,if_pos q1]
  obtain⟨p,hp1⟩:∃p:Nat,jZ S i m=p:=⟨(jZ S i m).toNat,by omega⟩;rw [hp1]at q1 q2 hg hs ⊢;have hpt:(p:Int).toNat=p:=rfl;rw [hpt]at hs;have hp2:=hp p oM;refine mX ?_;refine mX (yG 5 kR rfl fun C hF hC=> ?_);refine aY ah 5 [(0,.c ((0:Nat)<=(1:Nat)) oM),(3,.g (decide ((0:Int)<=(↑p:Int)) == true) ((0:Nat)<=(1:Nat)) (by(intro _;simp;done)))] ?_;refine ag ?_;refine⟨kR,kR,by kernel_rfl,⟨_,hg,cA.refl _,trivial⟩,rfl,fun C hF hC=> ?_,fun C hF hC=> ?_⟩
  ·refine aY ah 1 [] ?_;refine ag ?_;refine Bj ?_;refine n8 (t:=decide ((0:Int)<=(↑p:Int)) && true) kR (fun c3=> ?_) (fun c3=> ?_);·refine BS ?_;refine Bj ?_;refine qA ?_;refine An fun C hF hC=> ?_;refine wD 3 ?_;refine aY ah 12 [(4,.c ((0:Nat)<=(1:Nat)) oM),(0,.c ((0:Int)<=(↑p:Int)/\(↑p:Int)< (↑(Sh.n S):Int)) oM),(5,.c ((0:Nat)+(1:Nat)<=(1:Nat)) oM)] ?_;refine ag ⟨kR,?_⟩;refine MV ?_;refine Bj ?_;refine⟨rfl,m+1,by omega,?_,by omega,by omega⟩;rw [hs];refine aZ (sl:=[(500,Ob.box 3 [V.i (Pl.par (Sh.pl S p))])]) [] (.cons kR (.cons kR (.cons kR .nil))) (.cons oS .nil) kR kR
   ·simp at c3
  ·refine aY ah 1 [] ?_;refine ag ?_;refine Bj ?_;refine n8 (t:=decide ((0:Int)<=(↑p:Int)) && false) kR (fun c3=> ?_) (fun c3=> ?_);·simp at c3
   ·refine tc ?_;refine Bk ?_;refine Bk ?_;refine nR ?_;exact⟨.inl rfl,fun h=>(by cases h),fun _=>c⟩
 ·have e:m=cH S i:=by omega
  have hm1:∀m,m<=cH S i-> -1<=jZ S i m:=by
   intro m;induction m with
   |zero=>exact fun _=>hi2
   |succ m ih=>intro hm;obtain⟨z1,z2⟩:=h1 m oM;rw [jZ,if_pos z1];exact(hp _ oM).2
  have e1:jZ S i m= -1:=by rw [e];have:=hm1 (cH S i) (Nat.le_refl _);omega
  rw [e1];refine mX (yF fun C hF hC K hK=> ?_);refine wR 2 ?_;refine aY ah 5 [(0,.c ((0:Nat)<=(1:Nat)) oM),(3,.g (false == true) ((0:Nat)<=(1:Nat)) (by(intro _;simp;done)))] ?_;refine qy kR rfl ?_;refine aY ah 1 [] ?_;refine nK hK ?_;clear hK K;refine n8 (t:=false) kR (fun h=>by cases h) (fun _=> ?_);refine tc ?_;refine Bk ?_;refine Bk ?_;refine nR ?_;skip
  exact⟨.inl rfl,fun _=>e,fun h=>by cases h⟩
def lG(S:Sh):Prop:=∀i,i< S.n->((S.pl i).kind=0/\(S.pl i).par= -1)\/(0< (S.pl i).kind/\(S.pl i).kind<=3/\0<=(S.pl i).par/\(S.pl i).par< (i:Int)/\(S.pl (S.pl i).par.toNat).kind+1=(S.pl i).kind)
theorem lG.par{S:Sh}(h:lG S):Af S:=fun i hi=>by rcases h i hi with⟨_,h1⟩ | ⟨_,_,h1,h2,_⟩ <;> omega
theorem lG.of{S T:Sh}(h:lG S)(hn:T.n=S.n)(hk:∀i,i< S.n->(T.pl i).kind=(S.pl i).kind/\(T.pl i).par=(S.pl i).par):lG T:=fun i hi=>by
 rw [hn]at hi;obtain⟨e1,e2⟩:=hk i hi;rw [e1,e2];rcases h i hi with h1 | ⟨h1,h2,h3,h4,h5⟩;·exact .inl h1
 ·exact .inr ⟨h1,h2,h3,h4,by rw [(hk (S.pl i).par.toNat oM).1];exact h5⟩
theorem lG.app{S T:Sh}(h:lG S){p:Pl}(hn:T.n=S.n+1)(hk:∀i,i< S.n->(T.pl i).kind=(S.pl i).kind/\(T.pl i).par=(S.pl i).par)(hp:T.pl S.n=p) (hq:(p.kind=0/\p.par= -1)\/(0< p.kind/\p.kind<=3/\0<=p.par/\p.par< (S.n:Int)/\(S.pl p.par.toNat).kind+1=p.kind)):lG T:=fun i hi=>by
 by_cases q:i< S.n
 ·obtain⟨e1,e2⟩:=hk i q;rw [e1,e2];rcases h i q with h1 | ⟨h1,h2,h3,h4,h5⟩;·exact .inl h1
  ·exact .inr ⟨h1,h2,h3,h4,by rw [(hk (S.pl i).par.toNat oM).1];exact h5⟩
 ·have:i=S.n:=by omega
  subst this;rw [hp];rcases hq with h1 | ⟨h1,h2,h3,h4,h5⟩;·exact .inl h1
  ·exact .inr ⟨h1,h2,h3,h4,by rw [(hk p.par.toNat oM).1];exact h5⟩
theorem qn(f:Nat->Pl)(k:Nat)(p:Pl)(h1:p.kind=(f k).kind)(h2:p.par=(f k).par)(i:Nat):(fD f k p i).kind=(f i).kind/\(fD f k p i).par=(f i).par:=by
 unfold fD;split;·rename_i h;subst h;exact⟨h1,h2⟩
 ·exact⟨rfl,rfl⟩
theorem ue{f:Nat->Pl}{n i:Nat}{p:Pl}(h:i< n):dI f n p i=f i:=by unfold dI;rw [if_pos h]
theorem uf{f:Nat->Pl}{n:Nat}{p:Pl}:dI f n p n=p:=by unfold dI;rw [if_neg (Nat.lt_irrefl n)]
theorem vq{S:Sh}(h:S.ok)(hk:lG S)(a:Act):lG (aN S a).1:=by
 refine zN (fun x=>lG x.1) (fun _ _=>hk) (fun _ _=> ?_) (fun _ _ _=>hk.of rfl fun _ _=>⟨rfl,rfl⟩) (fun _ _ c1 c2 c3 c4=> ?_) (fun _ _ _ _=> ?_) (fun _ _ _ _ _ _=> ?_) (fun _ _ _ _=> ?_);·exact hk.app (p:=ot a) rfl (fun i hi=>by rw [show(Sh.pl _ i)=dI S.pl S.n (ot a) i from rfl,ue hi];exact⟨rfl,rfl⟩) uf (.inl ⟨rfl,rfl⟩)
 ·obtain⟨z1,z2,z3⟩:=uQ (h.pl a.plate.toNat oM) c3;refine hk.app (p:=(S.pl a.plate.toNat).over a.plate (cg (S.pl a.plate.toNat) (S.tk a.bath.toNat) a)) rfl (fun i hi=> ?_) uf (.inr ⟨?_,?_,c1.1,c1.2,rfl⟩);·rw [show(Sh.pl _ i)=dI (fD S.pl a.plate.toNat (S.pl a.plate.toNat).under) S.n _ i from rfl,ue hi];exact qn S.pl a.plate.toNat (S.pl a.plate.toNat).under rfl rfl i
  ·show 0< (S.pl a.plate.toNat).kind+1;omega
  ·show(S.pl a.plate.toNat).kind+1<=3;omega
 ·exact hk.of rfl fun i _=>qn S.pl a.plate.toNat ((S.pl a.plate.toNat).JE S.q) rfl rfl i
 ·exact hk.of rfl fun i _=>qn S.pl a.plate.toNat ((S.pl a.plate.toNat).JR a.flaw) rfl rfl i
 ·exact hk.of rfl fun i _=>qn S.pl a.plate.toNat {S.pl a.plate.toNat with ret:=true} rfl rfl i
theorem HV(r:Rc):lG (oA r):=fun i hi=>absurd hi (Nat.not_lt_zero _)
def hH(S:Sh)(κ:Nat):Nat->Int
 |0=>0
 |i+1=>hH S κ i+if(S.pl i).kind=κ then dw S.r (S.pl i)else 0
def fU(S:Sh):Nat->Int
 |0=>0
 |i+1=>fU S i+if(S.pl i).kind=3/\(S.pl i).ret=false then 1 else 0
theorem xE{r:Rc}(hr:r.ok){p:Pl}(hp:p.ok):0<=dw r p/\dw r p<=16:=by
 have:=Rc.max_le hr p.kind;have:=hp.grown;unfold dw;split;·omega
 ·omega
theorem rI{S:Sh}(h:S.ok)(κ:Nat):∀i,i<=S.n->0<=hH S κ i/\hH S κ i<=16*i
 |0,_=>⟨Int.le_refl _,Int.le_refl _⟩
 |i+1,hi=>by have h1:=rI h κ i oM;have h2:=xE h.r (h.pl i oM);rw [hH];split <;> omega
theorem F3(S:Sh):∀i,0<=fU S i/\fU S i<=i
 |0=>⟨Int.le_refl _,Int.le_refl _⟩
 |i+1=>by have h1:=F3 S i;rw [fU];split <;> omega
def cX(s r m:Int):Int:=if s<=r then 0 else(s- r+m- 1).tdiv m
def xY(S:Sh)(N:Int):Int:=max 0 (N- fU S S.n)
def zl(S:Sh)(N:Int):Int:=cX (xY S N) (hH S 2 S.n) S.r.st
def I8(S:Sh)(N:Int):Int:=cX (zl S N) (hH S 1 S.n) S.r.mo
def Gv(S:Sh)(N:Int):Int×Int:=if hH S 0 S.n< I8 S N then(0,15)else(xY S N+zl S N+I8 S N,0)
theorem qZ{s r m:Int}(hs:0<=s)(hr:0<=r)(hm:1<=m/\m<=16):0<=cX s r m/\cX s r m<=s+16:=by
 unfold cX;split;·omega
 ·have:=rZ (x:=s- r+m- 1) (p:=m) oM hm.1;omega
def Jv(S:Sh):Prop:=∀i,i< S.n->0< i->0<=(S.pl i).par
theorem CG{S:Sh}(hk:lG S)(h1:Jv S){i:Nat}(hi:i< S.n){m:Nat}(hm:m< cH S i):jZ S i m=0<->m+1=cH S i:=by
 obtain⟨h2,h3⟩:=r9 hk.par (show(i:Int)< S.n by omega);obtain⟨q1,q2⟩:=h2 m hm;have hs:jZ S i (m+1)=(S.pl (jZ S i m).toNat).par:=by rw [jZ,if_pos q1]
 have h0:0< S.n->(S.pl 0).par= -1:=fun h=>by rcases hk 0 h with⟨_,h⟩ | ⟨_,_,h,h',_⟩ <;> omega
 constructor
 ·intro e;rw [e]at hs;by_cases c:m+1< cH S i;·have:=(h2 (m+1) c).1;rw [hs]at this;have e0:=h0 oM;rw [show(0:Int).toNat=0 from rfl,e0]at this;omega
  ·omega
 ·intro e;rw [e]at hs;by_cases c:0< (jZ S i m).toNat;·have:=h1 (jZ S i m).toNat oM c;rw [<-hs]at this;omega
  ·omega
theorem tU{S:Sh}(i:Nat):0< cH S i:=by show 0< Gd S (S.n+1) i;rw [Gd,if_pos oM];omega
def k6(m k:Int):Rc:=⟨0,0,0,0,0,1073741824,1073741824,1073741824,0,0,0,m,k⟩
theorem JV{m k:Int}(hm:1<=m/\m<=16)(hk:1<=k/\k<=16):(k6 m k).ok:=by refine⟨?_,?_,?_,?_,?_,?_,hm,hk⟩ <;> simp [k6]
structure tZ(S:Sh)(m k:Int):Prop where
  ok:S.ok
  r:S.r=k6 m k
  m1:S.m=1
  tk:(S.tk 0).stock=0/\(S.tk 0).yield=1
  kd:lG S
  one:Jv S
theorem G8{S:Sh}{m k:Int}(h:tZ S m k){p:Nat}(hp:p< S.n)(hn:S.n< 256)(hk:(S.pl p).kind<=2)(hr:(S.pl p).ret=false)(hg:(S.pl p).grown< (k6 m k).max (S.pl p).kind)(ha:(S.pl p).area=1) : aN S (aL p 0 0)=({S with n:=S.n+1,pl:=dI (fD S.pl p (S.pl p).under) S.n ((S.pl p).over p 0),tk:=jP S.tk 0 ((S.tk 0).used (aL p 0 0)),l:=S.l+1},(S.n:Int),0):=by
 have hB:b8 (aL p 0 0)=true:=xH (by decide) (by decide);have e1:cq S.r S.n (S.pl p) (aL p 0 0)=0:=by
  have hroom:¬dw S.r (S.pl p)=0:=by unfold dw;rw [hr,h.r];simp only [Bool.false_eq_true,if_false];omega
  unfold cq;rw [if_neg (by rw [hr];simp),if_neg (by rintro(h |h);exact hroom h;omega),if_neg ?_];rw [h.r,ha];show ¬((0:Int)*1< 1000*0\/(0:Int)*1< 1000*0);decide
 have me:∀y,gJ y (aL p 0 0)=0:=fun y=>by rw [tO];simp [NQ]
 have fi:∀y,qc y (aL p 0 0)=0:=fun y=>by show((0:Int)*0*y).tdiv 1000=0;simp
 have eT:cg (S.pl p) (S.tk 0) (aL p 0 0)=0:=by unfold cg;rw [me];simp
 have e2:cJ S.r (S.pl p) (S.tk 0) (aL p 0 0)=0:=by
  unfold cJ;rw [eT,fi,me,h.r,h.tk.1,if_neg,if_neg (by decide)];rintro(h |h);·simp [k6]at h
  ·have:∀κ,κ<=2->cP 0 ((k6 m k).thin (κ+1)) ((k6 m k).aC (κ+1))=true:=fun κ hκ=>by
    match κ,hκ with
    |0,_=>rfl
    |1,_=>rfl
    |2,_=>rfl
   rw [this _ hk]at h;cases h
 unfold aN;rw [if_neg (by rw [hB];simp),if_neg (show ¬(aL p 0 0).kind=1 by show ¬(3:Int)=1;decide),if_neg (show ¬(aL p 0 0).kind=2 by show ¬(3:Int)=2;decide),if_pos (show(aL p 0 0).kind=3 from rfl),
  if_neg (not_not_intro (show 0<=(aL p 0 0).plate/\(aL p 0 0).plate< S.n by show 0<=(p:Int)/\(p:Int)< S.n;omega)),if_neg (not_not_intro (show 0<=(aL p 0 0).bath/\(aL p 0 0).bath< S.m by show 0<=(0:Int)/\(0:Int)< S.m;rw [h.m1];decide))]
 show(if cq S.r S.n (S.pl p) (aL p 0 0)≠0 then _ else if cJ S.r (S.pl p) (S.tk 0) (aL p 0 0)≠0 then _ else _)=_;rw [if_neg (not_not_intro e1),if_neg (not_not_intro e2)];show({S with n:=S.n+1,pl:=dI (fD S.pl p (S.pl p).under) S.n ((S.pl p).over p (cg (S.pl p) (S.tk 0) (aL p 0 0))),tk:=jP S.tk 0 ((S.tk 0).used (aL p 0 0)),l:=S.l+1},(S.n:Int),(0:Int))=_;rw [eT]
theorem Ba{S T:Sh}(h:∀i,i< S.n->(T.pl i).kind=(S.pl i).kind/\((S.pl i).kind=3->(T.pl i).ret=(S.pl i).ret)):∀i,i<=S.n->fU T i=fU S i
 |0,_=>rfl
 |i+1,hi=>by
  obtain⟨h1,h2⟩:=h i oM;rw [fU,fU,Ba h i oM,h1];by_cases c:(S.pl i).kind=3;·rw [h2 c]
  ·rw [if_neg (fun h=>c h.1),if_neg (fun h=>c h.1)]
theorem uI{S:Sh}{m k:Int}(h:tZ S m k){p:Nat}(hp:p< S.n)(hn:S.n< 256)(hk:(S.pl p).kind<=2)(hr:(S.pl p).ret=false)(hg:(S.pl p).grown< (k6 m k).max (S.pl p).kind)(ha:(S.pl p).area=1) :
    ∀T,T=(aN S (aL p 0 0)).1->(aN S (aL p 0 0)).2=((S.n:Int),0)/\tZ T m k/\T.n=S.n+1/\T.l=S.l+1/\
      (T.pl S.n).kind=(S.pl p).kind+1/\(T.pl S.n).ret=false/\(T.pl S.n).grown=0/\(T.pl S.n).area=1/\(T.pl p).grown=(S.pl p).grown+1/\(T.pl p).kind=(S.pl p).kind/\(T.pl p).area=1/\((S.pl p).kind≠0->(T.pl p).ret=false)/\
      (∀i,i< S.n->i≠p->T.pl i=S.pl i)/\fU T T.n=fU S S.n+if(S.pl p).kind=2 then 1 else 0:=by
  intro T hT
  have e:=G8 h hp hn hk hr hg ha
  have hok:T.ok:=by rw [hT];exact qq h.ok _
  have hkd:lG T:=by rw [hT];exact vq h.ok h.kd _
  rw [e]at hT ⊢
  have eN:T.pl S.n=(S.pl p).over p 0:=by rw [hT];exact uf
  have eL:∀i,i< S.n->T.pl i=fD S.pl p (S.pl p).under i:=fun i hi=>by rw [hT];exact ue hi
  have eP:T.pl p=(S.pl p).under:=by rw [eL p hp];unfold fD;rw [if_pos rfl]
  have eO:∀i,i< S.n->i≠p->T.pl i=S.pl i:=fun i hi hne=>by rw [eL i hi];unfold fD;rw [if_neg hne]
  have tn:T.n=S.n+1:=by rw [hT]
  have tk0:T.tk 0=(S.tk 0).used (aL p 0 0):=by rw [hT];rfl
  have me:gJ (S.tk 0).yield (aL p 0 0)=0:=by rw [tO];simp [NQ]
  refine⟨rfl,⟨hok,by rw [hT];exact h.r,by rw [hT];exact h.m1,⟨by rw [tk0];show(S.tk 0).stock- gJ (S.tk 0).yield (aL p 0 0)=0;rw [me,h.tk.1];rfl,by rw [tk0];exact h.tk.2⟩,hkd,fun i hi h0=> ?_⟩,tn,by rw [hT],by rw [eN];rfl,by rw [eN];rfl,by rw [eN];rfl,by rw [eN];exact ha,by rw [eP];rfl,by rw [eP];rfl,by rw [eP];exact ha,fun h0=>by rw [eP];show(if(S.pl p).kind=0 then true else(S.pl p).ret)=false;rw [if_neg h0,hr],eO,?_⟩
  · by_cases c:i< S.n
    · by_cases c2:i=p
      · rw [c2,eP];exact h.one p hp oM
      · rw [eO i c c2];exact h.one i c h0
    · rw [show i=S.n by omega,eN];show(0:Int)<=p;omega
  · rw [tn,fU,eN]
    rw [Ba (S:=S) (T:=T) (fun i hi=> ?_) S.n (Nat.le_refl _)]
    · congr 1
      by_cases c:(S.pl p).kind=2
      · rw [if_pos c,if_pos ⟨by show(S.pl p).kind+1=3;omega,rfl⟩]
      · rw [if_neg c,if_neg (fun hh=>c (by have:(S.pl p).kind+1=3:=hh.1;omega))]
    · by_cases c2:i=p
      · rw [c2,eP];exact⟨rfl,fun h3=>by omega⟩
      · rw [eO i hi c2];exact⟨rfl,fun _=>rfl⟩
def cl(k i:Nat):Nat:=(i+k- 1) / k
def I2(k i:Nat):Nat:=i- k*(cl k i- 1)
theorem LA{k i m:Nat}(hk:1<=k/\k<=4)(h:i% k=0):cl k (i+1)=cl k i+1/\I2 k (i+1)=1/\(i< m*k->cl k i< m):=by
 obtain⟨h1,h2⟩:=hk;have:k=1\/k=2\/k=3\/k=4:=by omega
 unfold I2 cl;rcases this with rfl |rfl |rfl |rfl <;> (refine⟨?_,?_,fun _=> ?_⟩ <;> omega)
theorem LC{k i:Nat}(hk:1<=k/\k<=4)(h:i% k≠0):cl k (i+1)=cl k i/\I2 k (i+1)=I2 k i+1/\I2 k i< k/\0< cl k i:=by
 obtain⟨h1,h2⟩:=hk;have:k=1\/k=2\/k=3\/k=4:=by omega
 unfold I2 cl;rcases this with rfl |rfl |rfl |rfl <;> (refine⟨?_,?_,?_,?_⟩ <;> omega)
theorem JW{m k:Int}(hr:(k6 m k).ok):∀S2,S2=(aN (aN (oA (k6 m k)) (fS 0 1)).1 (dR 0 1)).1-> tZ S2 m k/\S2.n=1/\S2.l=2/\(S2.pl 0).kind=0/\(S2.pl 0).ret=false/\(S2.pl 0).grown=0/\(S2.pl 0).area=1:=by
 intro S2 h2;have eL:=rR (oA (k6 m k)) (k:=0) (ar:=1) oM oM;have k1:=qq (u9 hr) (fS 0 1);have k2:=vq (u9 hr) (HV _) (fS 0 1);have eB:=pN (aN (oA (k6 m k)) (fS 0 1)).1 (by rw [eL];show(0:Nat)< 8;decide) (st:=0) (y:=1) oM oM;have k3:=qq k1 (dR 0 1);have k4:=vq k1 k2 (dR 0 1);rw [<-h2]at k3 k4;rw [eB,eL]at h2;have e0:S2.pl 0=ot (fS 0 1):=by rw [h2];show dI (oA (k6 m k)).pl 0 (ot (fS 0 1)) 0=_;exact uf
 have n1:S2.n=1:=by rw [h2];rfl
 refine⟨⟨k3,by rw [h2];rfl,by rw [h2];rfl,by rw [h2];exact⟨rfl,rfl⟩,k4,fun i hi h0=>by omega⟩,n1,by rw [h2];rfl,by rw [e0];rfl,by rw [e0];rfl,by rw [e0];rfl,by rw [e0];rfl⟩
theorem Eo{S:Sh}{m k n:Nat}(h:tZ S m k)(hm:1<=m/\m<=4)(hk:1<=k/\k<=4)(hn:S.n=1)(h0:(S.pl 0).kind=0)(h1:(S.pl 0).ret=false)(h2:(S.pl 0).grown=0)(h3:n<=40) : Gv S n=if m*k< n then(0,15)else if n=0 then(0,0)else(((1+cl k n+n:Nat):Int),0):=by
 have e0:dw S.r (S.pl 0)=1:=by unfold dw;rw [h1,h0,h2,h.r];rfl
 have eS:fU S 1=0:=by rw [fU,fU,h0,if_neg oM];rfl
 have er:∀κ,hH S κ 1=if κ=0 then 1 else 0:=fun κ=>by
  rw [hH,hH,h0,e0];by_cases c:κ=0;·rw [if_pos c,if_pos c.symm];rfl
  ·rw [if_neg c,if_neg (fun h=>c h.symm)];rfl
 have a1:xY S n=n:=by unfold xY;rw [hn,eS];omega
 have a2:zl S n=(cl k n:Nat):=by
  unfold zl;rw [a1,hn,er,h.r];show cX n 0 (k:Int)=_;unfold cX cl;obtain⟨q1,q2⟩:=hk;have:k=1\/k=2\/k=3\/k=4:=by omega
  by_cases c:(n:Int)<=0;·rw [if_pos c];rcases this with rfl |rfl |rfl |rfl <;> omega
  ·rw [if_neg c,Int.tdiv_eq_ediv_of_nonneg oM];rcases this with rfl |rfl |rfl |rfl <;> omega
 have a3:I8 S n=cX (cl k n:Nat) 0 (m:Int):=by unfold I8;rw [a2,hn,er,h.r];rfl
 unfold Gv;rw [a3,a2,a1,hn,er,if_pos rfl];obtain⟨q1,q2⟩:=hk;obtain⟨p1,p2⟩:=hm;have i1:k=1\/k=2\/k=3\/k=4:=by omega
 have i2:m=1\/m=2\/m=3\/m=4:=by omega
 obtain⟨c,hc⟩:∃c,c=cl k n:=⟨_,rfl⟩;have hz:(n=0<->c=0)/\(m*k< n<->m< c):=by rw [hc];unfold cl;rcases i1 with rfl |rfl |rfl |rfl <;> rcases i2 with rfl |rfl |rfl |rfl <;> omega
 rw [<-hc];have hF:(1:Int)< cX (c:Nat) 0 (m:Int)<->m< c:=by
  unfold cX;split;·omega
  ·rw [Int.tdiv_eq_ediv_of_nonneg oM];rcases i2 with rfl |rfl |rfl |rfl <;> omega
 by_cases d:m*k< n;·rw [if_pos d,if_pos (hF.2 (hz.2.1 d))]
 ·rw [if_neg d,if_neg (fun h=>d (hz.2.2 (hF.1 h)))];have d2:¬m< c:=fun h=>d (hz.2.2 h);by_cases e:n=0;·have:=hz.1.1 e;subst this;rw [if_pos e,e];rfl
  ·rw [if_neg e];have e2:c≠0:=fun h=>e (hz.1.2 h);refine congrArg (fun x=>(x,(0:Int))) ?_;unfold cX;rw [if_neg oM,Int.tdiv_eq_ediv_of_nonneg oM];rcases i2 with rfl |rfl |rfl |rfl <;> omega
theorem Ep{S:Sh}{m k:Int}(h:tZ S m k){n:Nat}(hs:fU S S.n=n):Gv S n=(0,0):=by
 have r0:=(rI h.ok 0 S.n (Nat.le_refl _)).1;have r1:=(rI h.ok 1 S.n (Nat.le_refl _)).1;have r2:=(rI h.ok 2 S.n (Nat.le_refl _)).1;have a1:xY S n=0:=by unfold xY;rw [hs];omega
 have a2:zl S n=0:=by unfold zl cX;rw [a1,if_pos r2]
 have a3:I8 S n=0:=by unfold I8 cX;rw [a2,if_pos r1]
 unfold Gv;rw [a3,a2,a1,if_neg oM];rfl
structure Lb(S:Sh)(m k i μ:Nat):Prop where
  e:tZ S m k
  n:S.n=2+cl k i+i
  l:S.l=S.n+1
  f:(S.pl 1).kind=1/\(S.pl 1).ret=false/\(S.pl 1).area=1/\(S.pl 1).grown=(cl k i:Nat)
  s:fU S S.n=i
  mo:0< i->μ< S.n/\μ≠1/\(S.pl μ).kind=2/\(S.pl μ).ret=false/\(S.pl μ).area=1/\(S.pl μ).grown=(I2 k i:Nat)
structure Nb(S:Sh)(m k i μ:Nat):Prop where
  e:tZ S m k
  n:S.n=2+cl k (i+1)+i
  l:S.l=S.n+1
  f:(S.pl 1).kind=1/\(S.pl 1).ret=false/\(S.pl 1).area=1/\(S.pl 1).grown=(cl k (i+1):Nat)
  s:fU S S.n=i
  mo:μ< S.n/\μ≠1/\(S.pl μ).kind=2/\(S.pl μ).ret=false/\(S.pl μ).area=1/\(S.pl μ).grown+1=(I2 k (i+1):Nat)/\(S.pl μ).grown< k
theorem Cg{S:Sh}{m k:Nat}(h:tZ S m k)(hk:1<=k/\k<=4)(hn:S.n=1)(hl:S.l=2)(h0:(S.pl 0).kind=0)(h1:(S.pl 0).ret=false)(h2:(S.pl 0).grown=0)(h3:(S.pl 0).area=1) : ∀T,T=(aN S (aL ((0:Nat):Int) 0 0)).1->(aN S (aL ((0:Nat):Int) 0 0)).2=((1:Int),0)/\Lb T m k 0 0:=by
 intro T hT;obtain⟨a1,a2,a3,a4,a5,a6,a7,a8,a9,a10,a11,a12,a13,a14⟩:=uI h (p:=0) oM oM oM h1 (by rw [h2,h0];show(0:Int)< 1;decide) h3 T hT;have e0:cl k 0=0:=by
  unfold cl;obtain⟨q1,q2⟩:=hk;have:k=1\/k=2\/k=3\/k=4:=by omega
  rcases this with rfl |rfl |rfl |rfl <;> rfl
 rw [hn]at a1 a5 a6 a7 a8;refine⟨a1,a2,by omega,by omega,⟨by rw [a5,h0],a6,a8,by rw [a7,e0];rfl⟩,?_,fun h=>absurd h (Nat.lt_irrefl _)⟩;rw [a14,hn,fU,fU,h0,if_neg oM,if_neg oM];rfl
theorem JY{S:Sh}{m k i μ:Nat}(h:Lb S m k i μ)(hk:1<=k/\k<=4)(hi:i< m*k)(hm:m*k<=16)(hz:i% k=0) : ∀T,T=(aN S (aL ((1:Nat):Int) 0 0)).1->(aN S (aL ((1:Nat):Int) 0 0)).2=((S.n:Int),0)/\Nb T m k i S.n:=by
 intro T hT;obtain⟨f1,f2,f3,f4⟩:=h.f;obtain⟨c1,c2,c3⟩:=LA (m:=m) hk hz;have c3:=c3 hi;have hn:=h.n;have hcm:m<=16:=by obtain⟨q1,_⟩:=hk;exact Nat.le_trans (Nat.le_mul_of_pos_right m q1) hm
 obtain⟨a1,a2,a3,a4,a5,a6,a7,a8,a9,a10,a11,a12,a13,a14⟩:=uI h.e (p:=1) oM oM oM f2 (by rw [f1,f4];show((cl k i:Nat):Int)< (m:Int);omega) f3 T hT;refine⟨a1,a2,by omega,by have:=h.l;omega,⟨by rw [a10,f1],a12 oM,a11,by rw [a9,f4,c1];rfl⟩,?_,by omega,by omega,by rw [a5,f1],a6,a8,by rw [a7,c2];rfl,by rw [a7];omega⟩;rw [a14,h.s,f1];rfl
theorem JZ{S:Sh}{m k i μ:Nat}(h:Lb S m k i μ)(hk:1<=k/\k<=4)(hz:i% k≠0):Nb S m k i μ:=by obtain⟨c1,c2,c3,c4⟩:=LC hk hz;have hi:0< i:=Nat.pos_of_ne_zero fun h=>hz (by rw [h];exact Nat.zero_mod k);obtain⟨b1,b2,b3,b4,b5,b6⟩:=h.mo hi;obtain⟨f1,f2,f3,f4⟩:=h.f;exact⟨h.e,by rw [c1];exact h.n,h.l,⟨f1,f2,f3,by rw [c1];exact f4⟩,h.s,b1,b2,b3,b4,b5,by rw [b6,c2];rfl,by rw [b6];omega⟩
theorem wJ{S:Sh}{m k i μ:Nat}(h:Nb S m k i μ)(hi:S.n< 256) : ∀T,T=(aN S (aL (μ:Int) 0 0)).1->(aN S (aL (μ:Int) 0 0)).2=((S.n:Int),0)/\Lb T m k (i+1) μ:=by intro T hT;obtain⟨b1,b2,b3,b4,b5,b6,b7⟩:=h.mo;obtain⟨f1,f2,f3,f4⟩:=h.f;have hn:=h.n;obtain⟨a1,a2,a3,a4,a5,a6,a7,a8,a9,a10,a11,a12,a13,a14⟩:=uI h.e (p:=μ) b1 hi oM b4 (by rw [b3];exact b7) b5 T hT;have e1:T.pl 1=S.pl 1:=a13 1 oM (fun h=>b2 h.symm);refine⟨a1,a2,by omega,by have:=h.l;omega,⟨by rw [e1,f1],by rw [e1,f2],by rw [e1,f3],by rw [e1,f4]⟩,?_,fun _=>⟨by omega,b2,by rw [a10,b3],a12 oM,a11,by rw [a9,b6]⟩⟩;rw [a14,h.s,b3];rfl
theorem tu{k i:Nat}(hk:1<=k/\k<=4):cl k i<=i:=by
 obtain⟨h1,h2⟩:=hk;have:k=1\/k=2\/k=3\/k=4:=by omega
 unfold cl;rcases this with rfl |rfl |rfl |rfl <;> omega
theorem JQ{k i:Nat}(hk:1<=k/\k<=4):((i:Int)+k- 1).tdiv k=(cl k i:Nat):=by
 obtain⟨h1,h2⟩:=hk;have:k=1\/k=2\/k=3\/k=4:=by omega
 unfold cl;rw [Int.tdiv_eq_ediv_of_nonneg oM];rcases this with rfl |rfl |rfl |rfl <;> omega
theorem MJ(S:Sh)(i:Int):AC Tryz.prog 82 [Aw S,.i i] (.fn (.func 129) [] [.ref 0 0,.ptr [Aw S]]) [.box 3 [.i i]]:=by refine iS ah cZ Tryz.func82 Tryz.ntmps82 fun C hC hF=> ?_;refine sK fun K hK=>wR 2 ?_;refine b9 (M:=[3]) ah 3 [(1,.r (pn (3:Nat) (V.ref (100003:Nat) (0:Nat)) (100003:Nat) (Ob.box (3:Nat) [V.i i])))] tI ?_;refine nK hK ?_;clear hK K;refine sK fun K hK=>wR 3 ?_;refine b9 (M:=[3]) ah 2 [] tI ?_;refine nK hK ?_;clear hK K;refine av ?_;refine ql [(0,100003)] [(4,V.fn (Fn.func (129:Nat)) [] [V.ref (0:Nat) (0:Nat),V.ptr [V.ptr [V.b true,V.i (Rc.n0 (Sh.r S)),V.i (Rc.n1 (Sh.r S)),V.i (Rc.n2 (Sh.r S)),V.i (Rc.n3 (Sh.r S)),V.i (Rc.k0 (Sh.r S)),V.i (Rc.k1 (Sh.r S)),V.i (Rc.k2 (Sh.r S)),V.i (Rc.k3 (Sh.r S)),V.i (Rc.seed (Sh.r S)),V.i (Rc.soft (Sh.r S)),V.i (Rc.hard (Sh.r S)),V.i (Rc.mo (Sh.r S)),V.i (Rc.st (Sh.r S)),V.sl (1:Nat) (Sh.n S) fun(i:Nat)=>[V.ptr [V.i (↑(Pl.kind (Sh.pl S i)):Int),V.i (Pl.par (Sh.pl S i)),V.i (Pl.cut (Sh.pl S i)),V.i (Pl.area (Sh.pl S i)),V.i (Pl.aC (Sh.pl S i)),V.i (Pl.grown (Sh.pl S i)),V.b (Pl.ret (Sh.pl S i)),sE (Sh.pl S i)]],V.sl (4:Nat) (Sh.m S) fun(i:Nat)=>aS.c (Sh.tk S i),V.sl (2:Nat) (Sh.q S) (bZ (Sh.g S)),V.sl (13:Nat) (Sh.l S) cE]]])] (.inr rfl) (.cons kR .nil) (.cons oS .nil) kR kR kR kR
theorem Hw(S:Sh)(hn:S.n<=200)(k:Nat)(hk:k< S.n):AC Tryz.prog 71 [Aw S,.i k] (.ptr (Hq S k)) []:=by
 refine iS ah cZ Tryz.func71 Tryz.ntmps71 fun C hC hF=> ?_;refine sK fun K hK=>wR 2 ?_;refine aY ah 1 [] ?_;refine nK hK ?_;clear hK K;refine sK fun K hK=>sK fun K hK=>wR 3 ?_;refine aY ah 11 [] ?_;refine nK hK ?_;clear hK K;refine aA (t:=decide ((↑k:Int)< 0) || decide ((↑(Sh.n S):Int)<=(↑k:Int))) kR (fun c1=> ?_) (fun c1=> ?_);·simp at c1;omega
 refine ak ?_;refine aq (hK _ ?_);clear hK K;refine sK fun K hK=>wR 4 ?_;refine aY ah 8 [(5,.c ((0:Int)<=(↑k:Int)/\(↑k:Int)< (↑(Sh.n S):Int)) oM)] ?_;refine nK hK ?_;clear hK K;refine av ?_;refine rP (V.ptr [V.i (↑(Pl.kind (Sh.pl S k)):Int),V.i (Pl.par (Sh.pl S k)),V.i (Pl.cut (Sh.pl S k)),V.i (Pl.area (Sh.pl S k)),V.i (Pl.aC (Sh.pl S k)),V.i (Pl.grown (Sh.pl S k)),V.b (Pl.ret (Sh.pl S k)),sE (Sh.pl S k)])
end Go.Proofs.YtjmbpjlojjgggaaGreatDoor
