/-
  Several texts in one: Plating shops of many plates: what holds of all shops; shops seen as not written. Conditions: told in each theorem. .. The known formats: contracts of side.Known at the three names. No condition.
-/
import Derived.Test.YtdgkdpgjnilmjaaGreatDoorX08
import Derived.Test.YtdgkdpgjnilmjaaGreatDoorX02
import Derived.Test.YtdgkdpgjnilmjaaGreatDoorMC
import Derived.Test.YtdgkdpgjnilmjaaGreatDoorX03
set_option maxRecDepth 100000
namespace Go.Proofs.YtdgkdpgjnilmjaaGreatDoor
open Go.Ab Go.RowKit Go.Dw Go.Shelf
def pG(r:Rc):Sh:=⟨r,0,fun _=>⟨0,0,0,0,0,0,false,0,fun _=>false⟩,0,fun _=>⟨0,0,0,0⟩,0,fun _=>(0,0),0⟩
theorem Dd{r:Rc}(h:r.ok):(pG r).ok:=⟨h,Nat.le_refl _,fun i hi=>absurd hi (Nat.not_lt_zero _),Nat.zero_le _,fun i hi=>absurd hi (Nat.not_lt_zero _),Nat.le_refl _⟩
theorem zw{a:Act}(h:cI a=true)(hk:a.kind=1):1<=a.area/\a.area<=1048576:=by rw [cI,if_pos hk]at h;simp [aq]at h;omega
theorem zx{a:Act}(h:cI a=true)(hk:a.kind=2):(0<=a.stock/\a.stock<=1099511627776)/\1<=a.yield/\a.yield<=1000:=by rw [cI,if_neg oM,if_pos hk]at h;simp [aq]at h;omega
theorem Rc.max_le{r:Rc}(h:r.ok)(k:Nat):r.max k<=16:=by
 have h1:=h.mo;have h2:=h.st
 match k with
 |0=>simp [Rc.max]
 |1=>simp [Rc.max];omega
 |2=>simp [Rc.max];omega
 |k+3=>simp [Rc.max]
theorem xj{S:Sh}(h:S.ok)(a:Act):(bZ S a).1.ok:=by
  unfold bZ
  by_cases hv:cI a=false
  · rw [if_pos hv];exact h
  rw [if_neg hv]
  have hv:cI a=true:=by simpa using hv
  have tk1:∀i,i< S.m->(S.tk i).ok/\0<=(S.tk i).charge/\(S.tk i).charge<=2199023255552*((S.l+1:Nat):Int):=fun i hi=>by
    obtain⟨h1,h2,h3⟩:=h.tk i hi
    exact⟨h1,h2,by omega⟩
  have hn:=h.n
  have hq:=h.q
  have hset:∀(k:Nat) (z:Pl),z.ok->∀i,i< S.n->(kZ S.pl k z i).ok:=fun k z hz i hi=>by
    unfold kZ;split
    · exact hz
    · exact h.pl i hi
  by_cases k1:a.kind=1
  · rw [if_pos k1]
    refine⟨h.r,by show S.n+1<=S.l+1;omega,fun i hi=> ?_,h.m,tk1,by show S.q<=S.l+1;omega⟩
    show(fy S.pl S.n (fc a) i).ok
    unfold fy;split
    · rename_i hi';exact h.pl i hi'
    · exact⟨by simp [fc],zw hv k1,by simp [fc]⟩
  rw [if_neg k1]
  by_cases k2:a.kind=2
  · rw [if_pos k2]
    by_cases c:S.m< 8
    · rw [if_pos c]
      obtain⟨b1,b2⟩:=zx hv k2
      refine⟨h.r,by show S.n<=S.l+1;omega,h.pl,c,fun i hi=> ?_,by show S.q<=S.l+1;omega⟩
      show(jL S.m S.tk a i).ok/\0<=(jL S.m S.tk a i).charge/\(jL S.m S.tk a i).charge<=2199023255552*((S.l+1:Nat):Int)
      unfold jL;split
      · rename_i hi';exact tk1 i hi'
      · refine⟨⟨b2,b1.1,by simp [sI],by simp [sI];exact b1.2⟩,by simp [sI],by simp [sI];omega⟩
    · rw [if_neg c];exact h
  rw [if_neg k2]
  by_cases k3:a.kind=3
  · rw [if_pos k3]
    by_cases c1:0<=a.plate/\a.plate< S.n
    · rw [if_neg (not_not_intro c1)]
      by_cases c2:0<=a.bath/\a.bath< S.m
      · rw [if_neg (not_not_intro c2)]
        by_cases c3:bK S.r S.n (S.pl a.plate.toNat) a=0
        · rw [if_neg (by rw [c3];simp)]
          by_cases c4:bV S.r (S.pl a.plate.toNat) (S.tk a.bath.toNat) a=0
          · rw [if_neg (by rw [c4];simp)]
            have hz:=h.pl a.plate.toNat oM
            obtain⟨ht,hc1,hc2⟩:=h.tk a.bath.toNat oM
            obtain⟨z1,z2,z3⟩:=wG hz c3
            have hmx:=Rc.max_le h.r (S.pl a.plate.toNat).kind
            have hga:a.wE:=zv k3 hv
            obtain⟨q1,q2,q3,q4,q5⟩:=tg hga ht.yield
            obtain⟨q6,q7⟩:=wF hga
            have hms:cj (S.tk a.bath.toNat).yield a<=(S.tk a.bath.toNat).stock:=by
              unfold bV at c4
              split at c4
              · cases c4
              · split at c4
                · cases c4
                · omega
            have hgn:=hz.grown
            refine⟨h.r,by show S.n+1<=S.l+1;omega,fun i hi=> ?_,h.m,fun i hi=> ?_,by show S.q<=S.l+1;omega⟩
            · show(fy (kZ S.pl a.plate.toNat (S.pl a.plate.toNat).under) S.n _ i).ok
              unfold fy;split
              · rename_i hi'
                refine hset _ (S.pl a.plate.toNat).under ⟨hz.kind,hz.area,?_⟩ i hi'
                show 0<=(S.pl a.plate.toNat).grown+1/\(S.pl a.plate.toNat).grown+1<=1000
                omega
              · refine⟨?_,hz.area,by simp [Pl.over]⟩
                show(S.pl a.plate.toNat).kind+1<=3
                omega
            · show(k8 S.tk a.bath.toNat _ i).ok/\0<=(k8 S.tk a.bath.toNat _ i).charge/\(k8 S.tk a.bath.toNat _ i).charge<=2199023255552*((S.l+1:Nat):Int)
              unfold k8;split
              · have w1:=ht.stock;have w2:=ht.laid;have w3:=ht.sum
                refine⟨⟨ht.yield,?_,?_,?_⟩,?_,?_⟩
                · show 0<=(S.tk a.bath.toNat).stock- cj (S.tk a.bath.toNat).yield a;omega
                · show 0<=(S.tk a.bath.toNat).laid+cj (S.tk a.bath.toNat).yield a;omega
                · show(S.tk a.bath.toNat).stock- cj (S.tk a.bath.toNat).yield a+((S.tk a.bath.toNat).laid+cj (S.tk a.bath.toNat).yield a)<=1099511627776;omega
                · show 0<=(S.tk a.bath.toNat).charge+qd a;unfold qd;omega
                · show(S.tk a.bath.toNat).charge+qd a<=_;unfold qd;omega
              · exact tk1 i hi
          · rw [if_pos c4];exact h
        · rw [if_pos c3];exact h
      · rw [if_pos c2];exact h
    · rw [if_pos c1];exact h
  rw [if_neg k3]
  by_cases c1:0<=a.plate/\a.plate< S.n
  · rw [if_neg (not_not_intro c1)]
    have hz:=h.pl a.plate.toNat oM
    by_cases k4:a.kind=4
    · rw [if_pos k4]
      split
      · exact h
      · exact⟨h.r,by show S.n<=S.l+1;omega,hset _ _ ⟨hz.kind,hz.area,hz.grown⟩,h.m,tk1,by show S.q+1<=S.l+1;omega⟩
    rw [if_neg k4]
    by_cases k5:a.kind=5
    · rw [if_pos k5]
      split
      · exact h
      split
      · exact h
      split
      · exact h
      · exact⟨h.r,by show S.n<=S.l+1;omega,hset _ _ ⟨hz.kind,hz.area,hz.grown⟩,h.m,tk1,by show S.q<=S.l+1;omega⟩
    rw [if_neg k5]
    split
    · exact h
    · exact⟨h.r,by show S.n<=S.l+1;omega,hset _ _ ⟨hz.kind,hz.area,hz.grown⟩,h.m,tk1,by show S.q<=S.l+1;omega⟩
  · rw [if_pos c1];exact h
def Jf(p:Pl):V:= .fset false fun k=>match k with | .i n=>p.fl n | .s _=>false
def Gg(S:Sh):V:= .ptr (cS S.r (.sl 1 S.n fun i=>[.ptr ((S.pl i).c++[Jf (S.pl i)])]) (.sl 4 S.m fun i=>(S.tk i).c) (.sl 2 S.q (b8 S.g)) (.sl 13 S.l cX))
theorem EU{S:Sh}{σ:Nat->Option Ob}(h:dD S fe σ):Fz σ (.ref 500 0) (Gg S):=by
 refine Fz.refs (t:=62) (cs:=cS S.r (.own 501) (.own 502) (.own 503) (.own 504)) h.s ?_;refine gw.append (gw.bX (l:= .b true::S.r.c) rfl) ⟨Fz.rows (e:=67) (sz:=1) (r:=fun i=>[.ref (fe.pl i) 0]) h.p fun i hi=>⟨?_,trivial⟩,Fz.rows (e:=70) (sz:=4) (r:=fun i=>(S.tk i).c) h.t fun i _=>gw.bX rfl,Fz.rows (e:=100) (sz:=2) (r:=b8 S.g) h.f fun i _=>gw.bX rfl,Fz.rows (e:=42) (sz:=13) (r:=cX) h.a fun i _=>gw.bX rfl,trivial⟩;refine Fz.refs (t:=75) (cs:=(S.pl i).c++[V.own (fe.mp i)]) (h.pl i hi) (gw.append (gw.bX (l:=(S.pl i).c) rfl) ⟨?_,trivial⟩);exact .mp _ _ false (bB (S.pl i).fl) _ (h.mp i hi) fun k hk=>by
  cases k with
  |s b=>cases hk
  |i n=>exact⟨fX _ _,fun u hu=> .inr (by rw [dx]at hu;split at hu <;> simp at hu;exact hu.symm)⟩
def Act.bC(a:Act)(s:Int):Act:={a with sec:=s}
def tZ(r:Rc)(z:Pl)(y:Int)(a:Act):Int:=(r.n1*z.area+999).tdiv 1000- aE y a
def dh(y need cur:Int):Int:=(((1000*need+y- 1).tdiv y)+cur- 1).tdiv cur
def t6(r:Rc)(z:Pl)(y:Int)(a:Act):Int:=if 0< tZ r z y a then dh y (tZ r z y a) a.cur else 0
def d6(r:Rc)(n:Nat)(z:Pl)(t:an)(a:Act):Int×Int:=
 if bK r n z a≠0 then(0,bK r n z a) else if 0< tZ r z t.yield a/\a.cur=0 then(0,15) else if 1048576< t6 r z t.yield a then(0,15) else if bV r z t (a.bC (t6 r z t.yield a))≠0 then(0,15) else(t6 r z t.yield a,0)
theorem Dv{y need cur:Int}(hy:1<=y/\y<=1000)(hn:0< need/\need<=1125899906845000)(hc:1<=cur/\cur<=1048576):(0<=(1000*need+y- 1).tdiv y/\(1000*need+y- 1).tdiv y<=1125899906845001000)/\0<=dh y need cur/\dh y need cur<=1125899907893577000:=by have h1:=jj (x:=1000*need+y- 1) (p:=y) oM hy.1;have h2:=jj (x:=(1000*need+y- 1).tdiv y+cur- 1) (p:=cur) oM hc.1;unfold dh;refine⟨⟨h1.1,by omega⟩,h2.1,by omega⟩
theorem uC(r:Rc)(hr:r.ok)(n:Nat)(x:Nat->Value)(z:Pl)(hz:z.ok)(h0:z.kind=0)(m:Nat)(tk:Nat->an)(a:Act)(ha:a.wE)(h3:a.kind=3)(k:Nat)(hk:a.plate=k)(hkn:k< n)(hn:n<=1000)(hb:0<=a.bath/\a.bath< m)(hm:m<=8)(ht:(tk a.bath.toNat).ok) : AC Tryz.prog 9 [jS r n (aK k (.ptr (z.c++[.any])) x) m tk .any .any,a.v] (.tup [.i (d6 r n z (tk a.bath.toNat) a).1,.i (d6 r n z (tk a.bath.toNat) a).2]) []:=by
 obtain⟨hb1,hb2⟩:=hb;have hy:=ht.yield;have hv:cI a=true:=by
  rw [cI,if_neg oM,if_neg oM,if_pos h3];have q1:=ha.s0;have q2:=ha.s1;have q3:=ha.cur;have q4:=ha.sec
  simp [aq];omega
 obtain⟨kd,par,cut,area,aj,gr,ret,cnt,fs⟩:=z;have h0':kd=0:=h0;subst h0';have hp1:1<=area/\area<=1048576:=hz.area;have hth:=kn hr.a1.1 (show r.n1<=1073741824 by have:=hr.a1;omega) (show(0:Int)<=area by omega) hp1.2;obtain⟨g3,g4,g5,g6⟩:=tg ha hy;have hcur:=ha.cur;have htd:=jj (x:=r.n1*area+999) (p:=1000) oM (by decide);have ha0:(a.bC 0).wE:=⟨ha.s0,ha.s1,ha.cur,by simp [Act.bC]⟩;refine bu az d9 (fn:=Tryz.f9) (N:=_) ⟨Tryz.func9,rfl,Tryz.ntmps9,kR⟩ (by simp) fun C hC hF=> ?_;have eq:(⟨0,par,cut,area,aj,gr,ret,cnt,fs⟩:Pl).c=[.i 0,.i par,.i cut,.i area,.i aj,.i gr,.b ret]:=rfl;obtain⟨z,hzz⟩:∃z:Pl,z=⟨0,par,cut,area,aj,gr,ret,cnt,fs⟩:=⟨_,rfl⟩;refine aa fun K hK=> ?_;refine ah (n':=2) kR kR ?_;refine ai az (M:=[3]) (n:=3) [pn (3:Nat) (V.ref (100003:Nat) (0:Nat)) (100003:Nat) (Ob.box (42:Nat) [V.i (Act.kind a),V.i (Act.cut a),V.i (Act.area a),V.i (Act.stock a),V.i (Act.yield a),V.i (Act.plate a),V.i (Act.bath a),V.i (Act.s0 a),V.i (Act.s1 a),V.i (Act.cur a),V.i (Act.sec a),V.i (Act.place a),V.i (Act.flaw a)]),pv (4:Nat) (V.i (0:Int)),pv (5:Nat) (V.i (0:Int))] kR kR tI ?_;refine ag ?_;refine au ?_;refine hK _ ?_;clear hK K;refine aa fun K hK=> ?_;refine aa fun K hK=> ?_;refine ah (n':=3) kR kR ?_;refine ai az (M:=[3]) (n:=1) [pv (13:Nat) (V.ptr [V.b true,V.i (Rc.n0 r),V.i (Rc.n1 r),V.i (Rc.n2 r),V.i (Rc.n3 r),V.i (Rc.k0 r),V.i (Rc.k1 r),V.i (Rc.k2 r),V.i (Rc.k3 r),V.i (Rc.seed r),V.i (Rc.soft r),V.i (Rc.hard r),V.i (Rc.mo r),V.i (Rc.st r),V.sl (1:Nat) n (aK k (V.ptr [V.i (0:Int),V.i par,V.i cut,V.i area,V.i aj,V.i gr,V.b ret,V.any]) x),V.sl (4:Nat) m fun(i:Nat)=>an.c (tk i),V.any,V.any])] kR kR tI ?_;refine aV (first:=[]) (caps:=[]) (iW r (.sl 1 n (aK k (.ptr ([.i 0,.i par,.i cut,.i area,.i aj,.i gr,.b ret]++[.any])) x)) (.sl 4 m fun i=>(tk i).c) .any .any) kR kR kR kR kR ?_;refine ag ?_;refine au ?_;refine hK _ ?_;clear hK K;refine aY (t:=false) kR rfl ?_;refine aC ?_;refine au ?_;refine hK _ ?_;clear hK K;refine aa fun K hK=> ?_;refine aa fun K hK=> ?_;refine ah (n':=4) kR kR ?_;refine ai az (M:=[3]) (n:=5) [pv (15:Nat) (V.ref (100003:Nat) (0:Nat)),pc (16:Nat) ((0:Nat)<=(13:Nat)) (V.i (Act.kind a)),pv (17:Nat) (V.b !decide (Act.kind a=3)),pv (18:Nat) (V.b !decide (Act.kind a=3)),pc (19:Nat) ((True/\True)/\(((!decide (Act.kind a=3)) == false)=true->(0:Nat)<=(13:Nat))) (V.gd ((!decide (Act.kind a=3)) == false) (V.agg [V.i (Act.kind a),V.i (Act.cut a),V.i (Act.area a),V.i (Act.stock a),V.i (Act.yield a),V.i (Act.plate a),V.i (Act.bath a),V.i (Act.s0 a),V.i (Act.s1 a),V.i (Act.cur a),V.i (Act.sec a),V.i (Act.place a),V.i (Act.flaw a)]))] kR kR ⟨oM,⟨⟨tI,tI⟩,(by(intro _;simp;done))⟩,tI⟩ ?_;refine d8 1 (g:=(!decide (Act.kind a=3)) == false) (first:=[]) (caps:=[]) kR (fun h=>eU a) kR kR kR kR kR kR ?_;rw [hv];refine ai az (M:=[3]) (n:=2) [pc (21:Nat) (((((!decide (Act.kind a=3)) == false)=true->((!decide (Act.kind a=3)) == false)=true)/\True)/\(((!decide (Act.kind a=3)) == false)=true->True)) (V.gd ((!decide (Act.kind a=3)) == false) (V.b false)),pc (22:Nat) (True/\((!decide (Act.kind a=3))=false->((!decide (Act.kind a=3)) == false)=true)) (V.b (!decide (Act.kind a=3) && true))] kR kR ⟨⟨⟨(by(exact fun h=>h)),tI⟩,(fun _=>tI)⟩,⟨tI,(by(intro h;rw [h];rfl))⟩,tI⟩ ?_;refine ag ?_;refine au ?_;refine hK _ ?_;clear hK K;refine aN (t:= !decide (Act.kind a=3) && true) kR (fun c0=> ?_) (fun c0=> ?_);·simp [h3]at c0
 refine aC ?_;refine au ?_;refine hK _ ?_;clear hK K;refine aa fun K hK=> ?_;refine aa fun K hK=> ?_;refine ah (n':=5) kR kR ?_;refine ai az (M:=[3]) (n:=2) [pv (23:Nat) (V.ptr [V.b true,V.i (Rc.n0 r),V.i (Rc.n1 r),V.i (Rc.n2 r),V.i (Rc.n3 r),V.i (Rc.k0 r),V.i (Rc.k1 r),V.i (Rc.k2 r),V.i (Rc.k3 r),V.i (Rc.seed r),V.i (Rc.soft r),V.i (Rc.hard r),V.i (Rc.mo r),V.i (Rc.st r),V.sl (1:Nat) n (aK k (V.ptr [V.i (0:Int),V.i par,V.i cut,V.i area,V.i aj,V.i gr,V.b ret,V.any]) x),V.sl (4:Nat) m fun(i:Nat)=>an.c (tk i),V.any,V.any]),pc (24:Nat) ((0:Nat)<=(13:Nat)) (V.agg [V.i (Act.kind a),V.i (Act.cut a),V.i (Act.area a),V.i (Act.stock a),V.i (Act.yield a),V.i (Act.plate a),V.i (Act.bath a),V.i (Act.s0 a),V.i (Act.s1 a),V.i (Act.cur a),V.i (Act.sec a),V.i (Act.place a),V.i (Act.flaw a)])] kR kR ⟨oM,tI⟩ ?_;refine aV (first:=[]) (caps:=[]) (nr r hr n x ⟨0,par,cut,area,aj,gr,ret,cnt,fs⟩ hz .any rfl m tk .any .any a ha k hk hkn oM ⟨hb1,hb2⟩ oM) kR kR kR kR kR ?_;refine ai az (M:=[3]) (n:=1) [pv (6:Nat) (V.i (bK r n (Pl.mk (0:Nat) par cut area aj gr ret cnt fs) a))] kR kR tI ?_;refine ag ?_;refine au ?_;refine hK _ ?_;clear hK K;refine aa fun K hK=> ?_;refine ah (n':=6) kR kR ?_;refine ai az (M:=[3]) (n:=2) [pv (26:Nat) (V.i (bK r n (Pl.mk (0:Nat) par cut area aj gr ret cnt fs) a)),pv (27:Nat) (V.b !decide (bK r n (Pl.mk (0:Nat) par cut area aj gr ret cnt fs) a=0))] kR kR tI ?_;refine ag ?_;refine au ?_;refine hK _ ?_;clear hK K;refine aN (t:= !decide (bK r n (Pl.mk (0:Nat) par cut area aj gr ret cnt fs) a=0)) kR (fun c1=> ?_) (fun c1=> ?_)
 ·have e:d6 r n ⟨0,par,cut,area,aj,gr,ret,cnt,fs⟩ (tk a.bath.toNat) a=(0,bK r n ⟨0,par,cut,area,aj,gr,ret,cnt,fs⟩ a):=by rw [d6,if_pos (by simpa using c1)]
  refine aa fun K hK=> ?_;refine ah (n':=7) kR kR ?_;refine ai az (M:=[3]) (n:=3) [pv (28:Nat) (V.i (bK r n (Pl.mk (0:Nat) par cut area aj gr ret cnt fs) a)),pv (4:Nat) (V.i (0:Int)),pv (5:Nat) (V.i (bK r n (Pl.mk (0:Nat) par cut area aj gr ret cnt fs) a))] kR kR tI ?_;refine ag ?_;refine au ?_;refine hK _ ?_;clear hK K;refine aG ?_;refine cm ?_;rw [e];refine aD (v':=V.tup [V.i (0:Int),V.i (bK r n (Pl.mk (0:Nat) par cut area aj gr ret cnt fs) a)]) (.inr rfl) kR kR kR
 have c1':bK r n ⟨0,par,cut,area,aj,gr,ret,cnt,fs⟩ a=0:=by simpa using c1
 refine aC ?_;refine au ?_;refine hK _ ?_;clear hK K;refine aa fun K hK=> ?_;refine aB (n':=7) kR kR ?_;refine ai az (M:=[3]) (n:=3) [pv (29:Nat) (V.ptr [V.b true,V.i (Rc.n0 r),V.i (Rc.n1 r),V.i (Rc.n2 r),V.i (Rc.n3 r),V.i (Rc.k0 r),V.i (Rc.k1 r),V.i (Rc.k2 r),V.i (Rc.k3 r),V.i (Rc.seed r),V.i (Rc.soft r),V.i (Rc.hard r),V.i (Rc.mo r),V.i (Rc.st r),V.sl (1:Nat) n (aK k (V.ptr [V.i (0:Int),V.i par,V.i cut,V.i area,V.i aj,V.i gr,V.b ret,V.any]) x),V.sl (4:Nat) m fun(i:Nat)=>an.c (tk i),V.any,V.any]),pv (30:Nat) (V.ref (100003:Nat) (5:Nat)),pc (31:Nat) ((5:Nat)<=(13:Nat)) (V.i (Act.plate a))] kR kR ⟨oM,tI⟩ ?_;refine aV (first:=[]) (caps:=[]) (AC.conv (jw r n x (.sl 4 m fun i=>(tk i).c) .any .any ([.i 0,.i par,.i cut,.i area,.i aj,.i gr,.b ret]++[.any]) (by simp [V.aZ,V.bX]) k hkn oM) (args':=[V.ptr [V.b true,V.i (Rc.n0 r),V.i (Rc.n1 r),V.i (Rc.n2 r),V.i (Rc.n3 r),V.i (Rc.k0 r),V.i (Rc.k1 r),V.i (Rc.k2 r),V.i (Rc.k3 r),V.i (Rc.seed r),V.i (Rc.soft r),V.i (Rc.hard r),V.i (Rc.mo r),V.i (Rc.st r),V.sl (1:Nat) n (aK k (V.ptr [V.i (0:Int),V.i par,V.i cut,V.i area,V.i aj,V.i gr,V.b ret,V.any]) x),V.sl (4:Nat) m fun(i:Nat)=>an.c (tk i),V.any,V.any],V.i (Act.plate a)]) ⟨bL.refl _,?_,trivial⟩) kR kR kR kR kR ?_;·exact bL.nat hk
 refine ai az (M:=[3]) (n:=11) [pv (33:Nat) (V.ptr [V.b true,V.i (Rc.n0 r),V.i (Rc.n1 r),V.i (Rc.n2 r),V.i (Rc.n3 r),V.i (Rc.k0 r),V.i (Rc.k1 r),V.i (Rc.k2 r),V.i (Rc.k3 r),V.i (Rc.seed r),V.i (Rc.soft r),V.i (Rc.hard r),V.i (Rc.mo r),V.i (Rc.st r),V.sl (1:Nat) n (aK k (V.ptr [V.i (0:Int),V.i par,V.i cut,V.i area,V.i aj,V.i gr,V.b ret,V.any]) x),V.sl (4:Nat) m fun(i:Nat)=>an.c (tk i),V.any,V.any]),pv (34:Nat) (V.ptr [V.b true,V.i (Rc.n0 r),V.i (Rc.n1 r),V.i (Rc.n2 r),V.i (Rc.n3 r),V.i (Rc.k0 r),V.i (Rc.k1 r),V.i (Rc.k2 r),V.i (Rc.k3 r),V.i (Rc.seed r),V.i (Rc.soft r),V.i (Rc.hard r),V.i (Rc.mo r),V.i (Rc.st r),V.sl (1:Nat) n (aK k (V.ptr [V.i (0:Int),V.i par,V.i cut,V.i area,V.i aj,V.i gr,V.b ret,V.any]) x),V.sl (4:Nat) m fun(i:Nat)=>an.c (tk i),V.any,V.any]),pv (35:Nat) (V.ptr [V.sl (4:Nat) m fun(i:Nat)=>an.c (tk i),V.any,V.any]),pv (36:Nat) (V.sl (4:Nat) m fun(i:Nat)=>an.c (tk i)),pv (37:Nat) (V.ref (100003:Nat) (6:Nat)),pc (38:Nat) ((6:Nat)<=(13:Nat)) (V.i (Act.bath a)),pc (39:Nat) ((0:Int)<=Act.bath a/\Act.bath a< (↑m:Int)) (V.ptr [V.i (an.stock (tk (Int.toNat (Act.bath a)))),V.i (an.yield (tk (Int.toNat (Act.bath a)))),V.i (an.charge (tk (Int.toNat (Act.bath a)))),V.i (an.laid (tk (Int.toNat (Act.bath a))))]),pv (40:Nat) (V.agg [V.i (an.stock (tk (Int.toNat (Act.bath a)))),V.i (an.yield (tk (Int.toNat (Act.bath a)))),V.i (an.charge (tk (Int.toNat (Act.bath a)))),V.i (an.laid (tk (Int.toNat (Act.bath a))))]),pn (8:Nat) (V.ref (600008:Nat) (0:Nat)) (600008:Nat) (Ob.box (70:Nat) [V.i (0:Int),V.i (0:Int),V.i (0:Int),V.i (0:Int)]),pv (7:Nat) (V.ptr [V.i (0:Int),V.i par,V.i cut,V.i area,V.i aj,V.i gr,V.b ret,V.any]),pw ((0:Nat)+(4:Nat)<=(4:Nat)) (600008:Nat) (Ob.box (70:Nat) [V.i (an.stock (tk (Int.toNat (Act.bath a)))),V.i (an.yield (tk (Int.toNat (Act.bath a)))),V.i (an.charge (tk (Int.toNat (Act.bath a)))),V.i (an.laid (tk (Int.toNat (Act.bath a))))])] kR kR ⟨oM,oM,oM,tI⟩ ?_;refine ag ⟨kR,?_⟩;refine au ?_;refine hK _ ?_;clear hK K;refine aa fun K hK=> ?_;refine ah (n':=8) kR kR ?_;refine ai az (M:=[3]) (n:=2) [pv (41:Nat) (V.ref (100003:Nat) (10:Nat)),pw ((10:Nat)+(1:Nat)<=(13:Nat)) (100003:Nat) (Ob.box (42:Nat) [V.i (Act.kind a),V.i (Act.cut a),V.i (Act.area a),V.i (Act.stock a),V.i (Act.yield a),V.i (Act.plate a),V.i (Act.bath a),V.i (Act.s0 a),V.i (Act.s1 a),V.i (Act.cur a),V.i (0:Int),V.i (Act.place a),V.i (Act.flaw a)])] kR kR ⟨oM,tI⟩ ?_;refine ag ?_;refine au ?_;refine hK _ ?_;clear hK K;refine aa fun K hK=> ?_;refine aB (n':=9) kR kR ?_;refine ai az (M:=[3]) (n:=22) [pv (42:Nat) (V.ptr [V.b true,V.i (Rc.n0 r),V.i (Rc.n1 r),V.i (Rc.n2 r),V.i (Rc.n3 r),V.i (Rc.k0 r),V.i (Rc.k1 r),V.i (Rc.k2 r),V.i (Rc.k3 r),V.i (Rc.seed r),V.i (Rc.soft r),V.i (Rc.hard r),V.i (Rc.mo r),V.i (Rc.st r),V.sl (1:Nat) n (aK k (V.ptr [V.i (0:Int),V.i par,V.i cut,V.i area,V.i aj,V.i gr,V.b ret,V.any]) x),V.sl (4:Nat) m fun(i:Nat)=>an.c (tk i),V.any,V.any]),pv (43:Nat) (V.ptr [V.i (0:Int),V.i par,V.i cut,V.i area,V.i aj,V.i gr,V.b ret,V.any]),pv (44:Nat) (V.ptr [V.i (0:Int),V.i par,V.i cut,V.i area,V.i aj,V.i gr,V.b ret,V.any]),pv (45:Nat) (V.ptr [V.i (0:Int),V.i par,V.i cut,V.i area,V.i aj,V.i gr,V.b ret,V.any]),pv (46:Nat) (V.ptr [V.i (0:Int),V.i par,V.i cut,V.i area,V.i aj,V.i gr,V.b ret,V.any]),pv (47:Nat) (V.i (0:Int)),pc (48:Nat) ((-9223372036854775808:Int)<=(0:Int)+(1:Int)/\(0:Int)+(1:Int)<=(9223372036854775807:Int)) (V.i (1:Int)),pv (49:Nat) (V.ptr [V.b true,V.i (Rc.n0 r),V.i (Rc.n1 r),V.i (Rc.n2 r),V.i (Rc.n3 r),V.i (Rc.k0 r),V.i (Rc.k1 r),V.i (Rc.k2 r),V.i (Rc.k3 r),V.i (Rc.seed r),V.i (Rc.soft r),V.i (Rc.hard r),V.i (Rc.mo r),V.i (Rc.st r),V.sl (1:Nat) n (aK k (V.ptr [V.i (0:Int),V.i par,V.i cut,V.i area,V.i aj,V.i gr,V.b ret,V.any]) x),V.sl (4:Nat) m fun(i:Nat)=>an.c (tk i),V.any,V.any]),pv (50:Nat) (V.ptr [V.i (Rc.n0 r),V.i (Rc.n1 r),V.i (Rc.n2 r),V.i (Rc.n3 r),V.i (Rc.k0 r),V.i (Rc.k1 r),V.i (Rc.k2 r),V.i (Rc.k3 r),V.i (Rc.seed r),V.i (Rc.soft r),V.i (Rc.hard r),V.i (Rc.mo r),V.i (Rc.st r),V.sl (1:Nat) n (aK k (V.ptr [V.i (0:Int),V.i par,V.i cut,V.i area,V.i aj,V.i gr,V.b ret,V.any]) x),V.sl (4:Nat) m fun(i:Nat)=>an.c (tk i),V.any,V.any]),pv (51:Nat) (V.ptr [V.i (Rc.n0 r),V.i (Rc.n1 r),V.i (Rc.n2 r),V.i (Rc.n3 r),V.i (Rc.k0 r),V.i (Rc.k1 r),V.i (Rc.k2 r),V.i (Rc.k3 r),V.i (Rc.seed r),V.i (Rc.soft r),V.i (Rc.hard r),V.i (Rc.mo r),V.i (Rc.st r),V.sl (1:Nat) n (aK k (V.ptr [V.i (0:Int),V.i par,V.i cut,V.i area,V.i aj,V.i gr,V.b ret,V.any]) x),V.sl (4:Nat) m fun(i:Nat)=>an.c (tk i),V.any,V.any]),pc (52:Nat) ((0:Int)<=(1:Int)/\(1:Int)< (↑(4:Nat):Int)) (V.ptr [V.i (Rc.n1 r),V.i (Rc.n2 r),V.i (Rc.n3 r),V.i (Rc.k0 r),V.i (Rc.k1 r),V.i (Rc.k2 r),V.i (Rc.k3 r),V.i (Rc.seed r),V.i (Rc.soft r),V.i (Rc.hard r),V.i (Rc.mo r),V.i (Rc.st r),V.sl (1:Nat) n (aK k (V.ptr [V.i (0:Int),V.i par,V.i cut,V.i area,V.i aj,V.i gr,V.b ret,V.any]) x),V.sl (4:Nat) m fun(i:Nat)=>an.c (tk i),V.any,V.any]),pv (53:Nat) (V.i (Rc.n1 r)),pv (54:Nat) (V.ptr [V.i (0:Int),V.i par,V.i cut,V.i area,V.i aj,V.i gr,V.b ret,V.any]),pv (55:Nat) (V.ptr [V.i (0:Int),V.i par,V.i cut,V.i area,V.i aj,V.i gr,V.b ret,V.any]),pv (56:Nat) (V.ptr [V.i (0:Int),V.i par,V.i cut,V.i area,V.i aj,V.i gr,V.b ret,V.any]),pv (57:Nat) (V.ptr [V.i area,V.i aj,V.i gr,V.b ret,V.any]),pv (58:Nat) (V.i area),pc (59:Nat) ((-9223372036854775808:Int)<=Rc.n1 r*area/\Rc.n1 r*area<=9223372036854775807) (V.i (Rc.n1 r*area)),pc (60:Nat) ((-9223372036854775808:Int)<=Rc.n1 r*area+999/\Rc.n1 r*area+999<=(9223372036854775807:Int)) (V.i (Rc.n1 r*area+999)),pc (61:Nat) ((0:Int)< (1000:Int)/\(-9223372036854775808:Int)<=Rc.n1 r*area+999/\Rc.n1 r*area+999<=(9223372036854775807:Int)) (V.i (Int.tdiv (Rc.n1 r*area+999) (1000:Int))),pv (62:Nat) (V.ptr [V.b true,V.i (Rc.n0 r),V.i (Rc.n1 r),V.i (Rc.n2 r),V.i (Rc.n3 r),V.i (Rc.k0 r),V.i (Rc.k1 r),V.i (Rc.k2 r),V.i (Rc.k3 r),V.i (Rc.seed r),V.i (Rc.soft r),V.i (Rc.hard r),V.i (Rc.mo r),V.i (Rc.st r),V.sl (1:Nat) n (aK k (V.ptr [V.i (0:Int),V.i par,V.i cut,V.i area,V.i aj,V.i gr,V.b ret,V.any]) x),V.sl (4:Nat) m fun(i:Nat)=>an.c (tk i),V.any,V.any]),pc (63:Nat) ((0:Nat)<=(13:Nat)) (V.agg [V.i (Act.kind a),V.i (Act.cut a),V.i (Act.area a),V.i (Act.stock a),V.i (Act.yield a),V.i (Act.plate a),V.i (Act.bath a),V.i (Act.s0 a),V.i (Act.s1 a),V.i (Act.cur a),V.i (0:Int),V.i (Act.place a),V.i (Act.flaw a)])] kR kR ⟨oM,oM,oM,oM,⟨oM,oM⟩,oM,tI⟩ ?_;refine aV (first:=[]) (caps:=[]) (gF r n (aK k (.ptr ([.i 0,.i par,.i cut,.i area,.i aj,.i gr,.b ret]++[.any])) x) m tk .any .any (a.bC 0) ha0 ⟨hb1,hb2⟩ oM ht) kR kR kR kR kR ?_;skip
 refine pW rfl (xF 77 0 (.tmp 64) (off:=0) (cs:=[.i (aE (tk a.bath.toNat).yield (a.bC 0)),.i (cj (tk a.bath.toNat).yield (a.bC 0)),.i (qd (a.bC 0))]) (v:= .i (aE (tk a.bath.toNat).yield a)) kR ?hx kR) ?_;case hx=>kernel_rfl
 refine ai az (M:=[3]) (n:=2) [pc (66:Nat) ((-9223372036854775808:Int)<=Int.tdiv (Rc.n1 r*area+999) (1000:Int)- aE (an.yield (tk (Int.toNat (Act.bath a)))) a/\Int.tdiv (Rc.n1 r*area+999) (1000:Int)- aE (an.yield (tk (Int.toNat (Act.bath a)))) a<=9223372036854775807) (V.i (Int.tdiv (Rc.n1 r*area+999) (1000:Int)- aE (an.yield (tk (Int.toNat (Act.bath a)))) a)),pv (9:Nat) (V.i (Int.tdiv (Rc.n1 r*area+999) (1000:Int)- aE (an.yield (tk (Int.toNat (Act.bath a)))) a))] kR kR ⟨oM,tI⟩ ?_;refine ag ⟨kR,?_⟩;refine au ?_;refine hK _ ?_;clear hK K;refine aa fun K hK=> ?_;refine aa fun K hK=> ?_;refine ah (n':=10) kR kR ?_;refine ai az (M:=[3]) (n:=2) [pv (67:Nat) (V.i (Int.tdiv (Rc.n1 r*area+999) (1000:Int)- aE (an.yield (tk (Int.toNat (Act.bath a)))) a)),pv (68:Nat) (V.b (decide ((0:Int)< Int.tdiv (Rc.n1 r*area+999) (1000:Int)- aE (an.yield (tk (Int.toNat (Act.bath a)))) a)))] kR kR tI ?_;refine ag ?_;refine au ?_;refine hK _ ?_;clear hK K;refine aN (t:=decide ((0:Int)< Int.tdiv (Rc.n1 r*area+999) (1000:Int)- aE (an.yield (tk (Int.toNat (Act.bath a)))) a)) kR (fun c2=> ?_) (fun c2=> ?_)
 ·have n0:0< (r.n1*area+999).tdiv 1000- aE (tk a.bath.toNat).yield a:=by simpa using c2
  by_cases c3:a.cur=0
  ·have e:d6 r n ⟨0,par,cut,area,aj,gr,ret,cnt,fs⟩ (tk a.bath.toNat) a=(0,15):=by rw [d6,if_neg (not_not_intro c1'),if_pos ⟨n0,c3⟩]
   rw [e];have y1:0<=(1000*((r.n1*area+999).tdiv 1000- aE (tk a.bath.toNat).yield a)+(tk a.bath.toNat).yield- 1):=by omega
   refine aa fun K hK=> ?_;refine ah (n':=11) kR kR ?_;refine ai az (M:=[3]) (n:=10) [pv (69:Nat) (V.i (Int.tdiv (Rc.n1 r*area+999) (1000:Int)- aE (an.yield (tk (Int.toNat (Act.bath a)))) a)),pc (70:Nat) ((-9223372036854775808:Int)<=(1000:Int)*(Int.tdiv (Rc.n1 r*area+999) (1000:Int)- aE (an.yield (tk (Int.toNat (Act.bath a)))) a)/\(1000:Int)*(Int.tdiv (Rc.n1 r*area+999) (1000:Int)- aE (an.yield (tk (Int.toNat (Act.bath a)))) a)<=9223372036854775807) (V.i ((1000:Int)*(Int.tdiv (Rc.n1 r*area+999) (1000:Int)- aE (an.yield (tk (Int.toNat (Act.bath a)))) a))),pv (71:Nat) (V.ref (600008:Nat) (1:Nat)),pc (72:Nat) ((1:Nat)<=(4:Nat)) (V.i (an.yield (tk (Int.toNat (Act.bath a))))),pc (73:Nat) ((-9223372036854775808:Int)<=(1000:Int)*(Int.tdiv (Rc.n1 r*area+999) (1000:Int)- aE (an.yield (tk (Int.toNat (Act.bath a)))) a)+an.yield (tk (Int.toNat (Act.bath a)))/\(1000:Int)*(Int.tdiv (Rc.n1 r*area+999) (1000:Int)- aE (an.yield (tk (Int.toNat (Act.bath a)))) a)+an.yield (tk (Int.toNat (Act.bath a)))<=9223372036854775807) (V.i ((1000:Int)*(Int.tdiv (Rc.n1 r*area+999) (1000:Int)- aE (an.yield (tk (Int.toNat (Act.bath a)))) a)+an.yield (tk (Int.toNat (Act.bath a))))),pc (74:Nat) ((-9223372036854775808:Int)<=(1000:Int)*(Int.tdiv (Rc.n1 r*area+999) (1000:Int)- aE (an.yield (tk (Int.toNat (Act.bath a)))) a)+an.yield (tk (Int.toNat (Act.bath a)))- 1/\(1000:Int)*(Int.tdiv (Rc.n1 r*area+999) (1000:Int)- aE (an.yield (tk (Int.toNat (Act.bath a)))) a)+an.yield (tk (Int.toNat (Act.bath a)))- 1<=(9223372036854775807:Int)) (V.i ((1000:Int)*(Int.tdiv (Rc.n1 r*area+999) (1000:Int)- aE (an.yield (tk (Int.toNat (Act.bath a)))) a)+an.yield (tk (Int.toNat (Act.bath a)))- 1)),pv (75:Nat) (V.ref (600008:Nat) (1:Nat)),pc (76:Nat) ((1:Nat)<=(4:Nat)) (V.i (an.yield (tk (Int.toNat (Act.bath a))))),pc (77:Nat) ((0:Int)< an.yield (tk (Int.toNat (Act.bath a)))/\(-9223372036854775808:Int)<=(1000:Int)*(Int.tdiv (Rc.n1 r*area+999) (1000:Int)- aE (an.yield (tk (Int.toNat (Act.bath a)))) a)+an.yield (tk (Int.toNat (Act.bath a)))- 1/\(1000:Int)*(Int.tdiv (Rc.n1 r*area+999) (1000:Int)- aE (an.yield (tk (Int.toNat (Act.bath a)))) a)+an.yield (tk (Int.toNat (Act.bath a)))- 1<=(9223372036854775807:Int)) (V.i (Int.tdiv ((1000:Int)*(Int.tdiv (Rc.n1 r*area+999) (1000:Int)- aE (an.yield (tk (Int.toNat (Act.bath a)))) a)+an.yield (tk (Int.toNat (Act.bath a)))- 1) (an.yield (tk (Int.toNat (Act.bath a)))))),pv (10:Nat) (V.i (Int.tdiv ((1000:Int)*(Int.tdiv (Rc.n1 r*area+999) (1000:Int)- aE (an.yield (tk (Int.toNat (Act.bath a)))) a)+an.yield (tk (Int.toNat (Act.bath a)))- 1) (an.yield (tk (Int.toNat (Act.bath a))))))] kR kR ⟨oM,oM,oM,oM,oM,⟨oM,oM⟩,tI⟩ ?_;refine ag ?_;refine au ?_;refine hK _ ?_;clear hK K;refine aa fun K hK=> ?_;refine aa fun K hK=> ?_;refine ah (n':=12) kR kR ?_;refine ai az (M:=[3]) (n:=3) [pv (78:Nat) (V.ref (100003:Nat) (9:Nat)),pc (79:Nat) ((9:Nat)<=(13:Nat)) (V.i (Act.cur a)),pv (80:Nat) (V.b (decide (Act.cur a=0)))] kR kR ⟨oM,tI⟩ ?_;refine ag ?_;refine au ?_;refine hK _ ?_;clear hK K;refine aN (t:=decide (Act.cur a=0)) kR (fun c4=> ?_) (fun c4=> ?_);·refine aa fun K hK=> ?_;refine ah (n':=13) kR kR ?_;refine ai az (M:=[3]) (n:=2) [pv (4:Nat) (V.i (0:Int)),pv (5:Nat) (V.i (15:Int))] kR kR tI ?_;refine ag ?_;refine au ?_;refine hK _ ?_;clear hK K;refine aG ?_;refine cm ?_;refine cm ?_;refine aD (v':=V.tup [V.i (0:Int),V.i (15:Int)]) (.inr rfl) kR kR kR
   ·simp [c3]at c4
  ·obtain⟨⟨y1,y2⟩,y3,y4⟩:=Dv hy ⟨n0,by omega⟩ (show 1<=a.cur/\a.cur<=1048576 by omega);unfold dh at y3 y4;refine aa fun K hK=> ?_;refine ah (n':=11) kR kR ?_;refine ai az (M:=[3]) (n:=10) [pv (69:Nat) (V.i (Int.tdiv (Rc.n1 r*area+999) (1000:Int)- aE (an.yield (tk (Int.toNat (Act.bath a)))) a)),pc (70:Nat) ((-9223372036854775808:Int)<=(1000:Int)*(Int.tdiv (Rc.n1 r*area+999) (1000:Int)- aE (an.yield (tk (Int.toNat (Act.bath a)))) a)/\(1000:Int)*(Int.tdiv (Rc.n1 r*area+999) (1000:Int)- aE (an.yield (tk (Int.toNat (Act.bath a)))) a)<=9223372036854775807) (V.i ((1000:Int)*(Int.tdiv (Rc.n1 r*area+999) (1000:Int)- aE (an.yield (tk (Int.toNat (Act.bath a)))) a))),pv (71:Nat) (V.ref (600008:Nat) (1:Nat)),pc (72:Nat) ((1:Nat)<=(4:Nat)) (V.i (an.yield (tk (Int.toNat (Act.bath a))))),pc (73:Nat) ((-9223372036854775808:Int)<=(1000:Int)*(Int.tdiv (Rc.n1 r*area+999) (1000:Int)- aE (an.yield (tk (Int.toNat (Act.bath a)))) a)+an.yield (tk (Int.toNat (Act.bath a)))/\(1000:Int)*(Int.tdiv (Rc.n1 r*area+999) (1000:Int)- aE (an.yield (tk (Int.toNat (Act.bath a)))) a)+an.yield (tk (Int.toNat (Act.bath a)))<=9223372036854775807) (V.i ((1000:Int)*(Int.tdiv (Rc.n1 r*area+999) (1000:Int)- aE (an.yield (tk (Int.toNat (Act.bath a)))) a)+an.yield (tk (Int.toNat (Act.bath a))))),pc (74:Nat) ((-9223372036854775808:Int)<=(1000:Int)*(Int.tdiv (Rc.n1 r*area+999) (1000:Int)- aE (an.yield (tk (Int.toNat (Act.bath a)))) a)+an.yield (tk (Int.toNat (Act.bath a)))- 1/\(1000:Int)*(Int.tdiv (Rc.n1 r*area+999) (1000:Int)- aE (an.yield (tk (Int.toNat (Act.bath a)))) a)+an.yield (tk (Int.toNat (Act.bath a)))- 1<=(9223372036854775807:Int)) (V.i ((1000:Int)*(Int.tdiv (Rc.n1 r*area+999) (1000:Int)- aE (an.yield (tk (Int.toNat (Act.bath a)))) a)+an.yield (tk (Int.toNat (Act.bath a)))- 1)),pv (75:Nat) (V.ref (600008:Nat) (1:Nat)),pc (76:Nat) ((1:Nat)<=(4:Nat)) (V.i (an.yield (tk (Int.toNat (Act.bath a))))),pc (77:Nat) ((0:Int)< an.yield (tk (Int.toNat (Act.bath a)))/\(-9223372036854775808:Int)<=(1000:Int)*(Int.tdiv (Rc.n1 r*area+999) (1000:Int)- aE (an.yield (tk (Int.toNat (Act.bath a)))) a)+an.yield (tk (Int.toNat (Act.bath a)))- 1/\(1000:Int)*(Int.tdiv (Rc.n1 r*area+999) (1000:Int)- aE (an.yield (tk (Int.toNat (Act.bath a)))) a)+an.yield (tk (Int.toNat (Act.bath a)))- 1<=(9223372036854775807:Int)) (V.i (Int.tdiv ((1000:Int)*(Int.tdiv (Rc.n1 r*area+999) (1000:Int)- aE (an.yield (tk (Int.toNat (Act.bath a)))) a)+an.yield (tk (Int.toNat (Act.bath a)))- 1) (an.yield (tk (Int.toNat (Act.bath a)))))),pv (10:Nat) (V.i (Int.tdiv ((1000:Int)*(Int.tdiv (Rc.n1 r*area+999) (1000:Int)- aE (an.yield (tk (Int.toNat (Act.bath a)))) a)+an.yield (tk (Int.toNat (Act.bath a)))- 1) (an.yield (tk (Int.toNat (Act.bath a))))))] kR kR ⟨oM,oM,oM,oM,oM,⟨oM,oM⟩,tI⟩ ?_;refine ag ?_;refine au ?_;refine hK _ ?_;clear hK K;refine aa fun K hK=> ?_;refine aa fun K hK=> ?_;refine ah (n':=12) kR kR ?_;refine ai az (M:=[3]) (n:=3) [pv (78:Nat) (V.ref (100003:Nat) (9:Nat)),pc (79:Nat) ((9:Nat)<=(13:Nat)) (V.i (Act.cur a)),pv (80:Nat) (V.b (decide (Act.cur a=0)))] kR kR ⟨oM,tI⟩ ?_;refine ag ?_;refine au ?_;refine hK _ ?_;clear hK K;refine aN (t:=decide (Act.cur a=0)) kR (fun c4=> ?_) (fun c4=> ?_);·simp [c3]at c4
   refine aC ?_;refine au ?_;refine hK _ ?_;clear hK K;refine ah (n':=13) kR kR ?_;refine ai az (M:=[3]) (n:=10) [pv (81:Nat) (V.i (Int.tdiv ((1000:Int)*(Int.tdiv (Rc.n1 r*area+999) (1000:Int)- aE (an.yield (tk (Int.toNat (Act.bath a)))) a)+an.yield (tk (Int.toNat (Act.bath a)))- 1) (an.yield (tk (Int.toNat (Act.bath a)))))),pv (82:Nat) (V.ref (100003:Nat) (9:Nat)),pc (83:Nat) ((9:Nat)<=(13:Nat)) (V.i (Act.cur a)),pc (84:Nat) ((-9223372036854775808:Int)<=Int.tdiv ((1000:Int)*(Int.tdiv (Rc.n1 r*area+999) (1000:Int)- aE (an.yield (tk (Int.toNat (Act.bath a)))) a)+an.yield (tk (Int.toNat (Act.bath a)))- 1) (an.yield (tk (Int.toNat (Act.bath a))))+Act.cur a/\Int.tdiv ((1000:Int)*(Int.tdiv (Rc.n1 r*area+999) (1000:Int)- aE (an.yield (tk (Int.toNat (Act.bath a)))) a)+an.yield (tk (Int.toNat (Act.bath a)))- 1) (an.yield (tk (Int.toNat (Act.bath a))))+Act.cur a<=9223372036854775807) (V.i (Int.tdiv ((1000:Int)*(Int.tdiv (Rc.n1 r*area+999) (1000:Int)- aE (an.yield (tk (Int.toNat (Act.bath a)))) a)+an.yield (tk (Int.toNat (Act.bath a)))- 1) (an.yield (tk (Int.toNat (Act.bath a))))+Act.cur a)),pc (85:Nat) ((-9223372036854775808:Int)<=Int.tdiv ((1000:Int)*(Int.tdiv (Rc.n1 r*area+999) (1000:Int)- aE (an.yield (tk (Int.toNat (Act.bath a)))) a)+an.yield (tk (Int.toNat (Act.bath a)))- 1) (an.yield (tk (Int.toNat (Act.bath a))))+Act.cur a- 1/\Int.tdiv ((1000:Int)*(Int.tdiv (Rc.n1 r*area+999) (1000:Int)- aE (an.yield (tk (Int.toNat (Act.bath a)))) a)+an.yield (tk (Int.toNat (Act.bath a)))- 1) (an.yield (tk (Int.toNat (Act.bath a))))+Act.cur a- 1<=(9223372036854775807:Int)) (V.i (Int.tdiv ((1000:Int)*(Int.tdiv (Rc.n1 r*area+999) (1000:Int)- aE (an.yield (tk (Int.toNat (Act.bath a)))) a)+an.yield (tk (Int.toNat (Act.bath a)))- 1) (an.yield (tk (Int.toNat (Act.bath a))))+Act.cur a- 1)),pv (86:Nat) (V.ref (100003:Nat) (9:Nat)),pc (87:Nat) ((9:Nat)<=(13:Nat)) (V.i (Act.cur a)),pc (88:Nat) ((0:Int)< Act.cur a/\(-9223372036854775808:Int)<=Int.tdiv ((1000:Int)*(Int.tdiv (Rc.n1 r*area+999) (1000:Int)- aE (an.yield (tk (Int.toNat (Act.bath a)))) a)+an.yield (tk (Int.toNat (Act.bath a)))- 1) (an.yield (tk (Int.toNat (Act.bath a))))+Act.cur a- 1/\Int.tdiv ((1000:Int)*(Int.tdiv (Rc.n1 r*area+999) (1000:Int)- aE (an.yield (tk (Int.toNat (Act.bath a)))) a)+an.yield (tk (Int.toNat (Act.bath a)))- 1) (an.yield (tk (Int.toNat (Act.bath a))))+Act.cur a- 1<=(9223372036854775807:Int)) (V.i (Int.tdiv (Int.tdiv ((1000:Int)*(Int.tdiv (Rc.n1 r*area+999) (1000:Int)- aE (an.yield (tk (Int.toNat (Act.bath a)))) a)+an.yield (tk (Int.toNat (Act.bath a)))- 1) (an.yield (tk (Int.toNat (Act.bath a))))+Act.cur a- 1) (Act.cur a))),pv (89:Nat) (V.ref (100003:Nat) (10:Nat)),pw ((10:Nat)+(1:Nat)<=(13:Nat)) (100003:Nat) (Ob.box (42:Nat) [V.i (Act.kind a),V.i (Act.cut a),V.i (Act.area a),V.i (Act.stock a),V.i (Act.yield a),V.i (Act.plate a),V.i (Act.bath a),V.i (Act.s0 a),V.i (Act.s1 a),V.i (Act.cur a),V.i (Int.tdiv (Int.tdiv ((1000:Int)*(Int.tdiv (Rc.n1 r*area+999) (1000:Int)- aE (an.yield (tk (Int.toNat (Act.bath a)))) a)+an.yield (tk (Int.toNat (Act.bath a)))- 1) (an.yield (tk (Int.toNat (Act.bath a))))+Act.cur a- 1) (Act.cur a)),V.i (Act.place a),V.i (Act.flaw a)])] kR kR ⟨oM,oM,oM,oM,⟨oM,oM⟩,oM,tI⟩ ?_;refine ag ?_;refine au ?_;refine hK _ ?_;clear hK K;refine aa fun K hK=> ?_;refine aa fun K hK=> ?_;refine ah (n':=14) kR kR ?_;refine ai az (M:=[3]) (n:=3) [pv (90:Nat) (V.ref (100003:Nat) (10:Nat)),pc (91:Nat) ((10:Nat)<=(13:Nat)) (V.i (Int.tdiv (Int.tdiv ((1000:Int)*(Int.tdiv (Rc.n1 r*area+999) (1000:Int)- aE (an.yield (tk (Int.toNat (Act.bath a)))) a)+an.yield (tk (Int.toNat (Act.bath a)))- 1) (an.yield (tk (Int.toNat (Act.bath a))))+Act.cur a- 1) (Act.cur a))),pv (92:Nat) (V.b (decide ((1048576:Int)< Int.tdiv (Int.tdiv ((1000:Int)*(Int.tdiv (Rc.n1 r*area+999) (1000:Int)- aE (an.yield (tk (Int.toNat (Act.bath a)))) a)+an.yield (tk (Int.toNat (Act.bath a)))- 1) (an.yield (tk (Int.toNat (Act.bath a))))+Act.cur a- 1) (Act.cur a))))] kR kR ⟨oM,tI⟩ ?_;refine ag ?_;refine au ?_;refine hK _ ?_;clear hK K;have hS:t6 r ⟨0,par,cut,area,aj,gr,ret,cnt,fs⟩ (tk a.bath.toNat).yield a=dh (tk a.bath.toNat).yield ((r.n1*area+999).tdiv 1000- aE (tk a.bath.toNat).yield a) a.cur:=if_pos n0;refine aN (t:=decide ((1048576:Int)< Int.tdiv (Int.tdiv ((1000:Int)*(Int.tdiv (Rc.n1 r*area+999) (1000:Int)- aE (an.yield (tk (Int.toNat (Act.bath a)))) a)+an.yield (tk (Int.toNat (Act.bath a)))- 1) (an.yield (tk (Int.toNat (Act.bath a))))+Act.cur a- 1) (Act.cur a))) kR (fun c5=> ?_) (fun c5=> ?_)
   ·have e:d6 r n ⟨0,par,cut,area,aj,gr,ret,cnt,fs⟩ (tk a.bath.toNat) a=(0,15):=by rw [d6,if_neg (not_not_intro c1'),if_neg (fun h=>c3 h.2),if_pos (by rw [hS];have h5:=c5;simp at h5;exact h5)]
    refine aa fun K hK=> ?_;refine ah (n':=15) kR kR ?_;refine ai az (M:=[3]) (n:=2) [pv (4:Nat) (V.i (0:Int)),pv (5:Nat) (V.i (15:Int))] kR kR tI ?_;refine ag ?_;refine au ?_;refine hK _ ?_;clear hK K;refine aG ?_;refine cm ?_;rw [e];refine aD (v':=V.tup [V.i (0:Int),V.i (15:Int)]) (.inr rfl) kR kR kR
   have c5':dh (tk a.bath.toNat).yield ((r.n1*area+999).tdiv 1000- aE (tk a.bath.toNat).yield a) a.cur<=1048576:=by have h5:=c5;simp at h5;exact h5
   have hgk:(a.bC (dh (tk a.bath.toNat).yield ((r.n1*area+999).tdiv 1000- aE (tk a.bath.toNat).yield a) a.cur)).wE:=⟨ha.s0,ha.s1,ha.cur,⟨y3,c5'⟩⟩;refine aC ?_;refine au ?_;refine hK _ ?_;clear hK K;refine aa fun K hK=> ?_;refine aa fun K hK=> ?_;refine ah (n':=15) kR kR ?_;refine ai az (M:=[3]) (n:=2) [pv (94:Nat) (V.ptr [V.b true,V.i (Rc.n0 r),V.i (Rc.n1 r),V.i (Rc.n2 r),V.i (Rc.n3 r),V.i (Rc.k0 r),V.i (Rc.k1 r),V.i (Rc.k2 r),V.i (Rc.k3 r),V.i (Rc.seed r),V.i (Rc.soft r),V.i (Rc.hard r),V.i (Rc.mo r),V.i (Rc.st r),V.sl (1:Nat) n (aK k (V.ptr [V.i (0:Int),V.i par,V.i cut,V.i area,V.i aj,V.i gr,V.b ret,V.any]) x),V.sl (4:Nat) m fun(i:Nat)=>an.c (tk i),V.any,V.any]),pc (95:Nat) ((0:Nat)<=(13:Nat)) (V.agg [V.i (Act.kind a),V.i (Act.cut a),V.i (Act.area a),V.i (Act.stock a),V.i (Act.yield a),V.i (Act.plate a),V.i (Act.bath a),V.i (Act.s0 a),V.i (Act.s1 a),V.i (Act.cur a),V.i (Int.tdiv (Int.tdiv ((1000:Int)*(Int.tdiv (Rc.n1 r*area+999) (1000:Int)- aE (an.yield (tk (Int.toNat (Act.bath a)))) a)+an.yield (tk (Int.toNat (Act.bath a)))- 1) (an.yield (tk (Int.toNat (Act.bath a))))+Act.cur a- 1) (Act.cur a)),V.i (Act.place a),V.i (Act.flaw a)])] kR kR ⟨oM,tI⟩ ?_;refine aV (first:=[]) (caps:=[]) (ry r hr n x ⟨0,par,cut,area,aj,gr,ret,cnt,fs⟩ hz (Nat.zero_le _) .any rfl m tk .any .any (a.bC (dh (tk a.bath.toNat).yield ((r.n1*area+999).tdiv 1000- aE (tk a.bath.toNat).yield a) a.cur)) hgk k hk hkn oM ⟨hb1,hb2⟩ oM ht) kR kR kR kR kR ?_;refine ai az (M:=[3]) (n:=5) [pv (93:Nat) (V.tup [V.i (dA r (Pl.mk (0:Nat) par cut area aj gr ret cnt fs) (tk (Int.toNat (Act.bath (Act.bC a (dh (an.yield (tk (Int.toNat (Act.bath a)))) (Int.tdiv (Rc.n1 r*area+999) (1000:Int)- aE (an.yield (tk (Int.toNat (Act.bath a)))) a) (Act.cur a)))))) (Act.bC a (dh (an.yield (tk (Int.toNat (Act.bath a)))) (Int.tdiv (Rc.n1 r*area+999) (1000:Int)- aE (an.yield (tk (Int.toNat (Act.bath a)))) a) (Act.cur a)))),V.i (bV r (Pl.mk (0:Nat) par cut area aj gr ret cnt fs) (tk (Int.toNat (Act.bath (Act.bC a (dh (an.yield (tk (Int.toNat (Act.bath a)))) (Int.tdiv (Rc.n1 r*area+999) (1000:Int)- aE (an.yield (tk (Int.toNat (Act.bath a)))) a) (Act.cur a)))))) (Act.bC a (dh (an.yield (tk (Int.toNat (Act.bath a)))) (Int.tdiv (Rc.n1 r*area+999) (1000:Int)- aE (an.yield (tk (Int.toNat (Act.bath a)))) a) (Act.cur a))))]),pv (97:Nat) (V.i (dA r (Pl.mk (0:Nat) par cut area aj gr ret cnt fs) (tk (Int.toNat (Act.bath (Act.bC a (dh (an.yield (tk (Int.toNat (Act.bath a)))) (Int.tdiv (Rc.n1 r*area+999) (1000:Int)- aE (an.yield (tk (Int.toNat (Act.bath a)))) a) (Act.cur a)))))) (Act.bC a (dh (an.yield (tk (Int.toNat (Act.bath a)))) (Int.tdiv (Rc.n1 r*area+999) (1000:Int)- aE (an.yield (tk (Int.toNat (Act.bath a)))) a) (Act.cur a))))),pv (98:Nat) (V.i (bV r (Pl.mk (0:Nat) par cut area aj gr ret cnt fs) (tk (Int.toNat (Act.bath (Act.bC a (dh (an.yield (tk (Int.toNat (Act.bath a)))) (Int.tdiv (Rc.n1 r*area+999) (1000:Int)- aE (an.yield (tk (Int.toNat (Act.bath a)))) a) (Act.cur a)))))) (Act.bC a (dh (an.yield (tk (Int.toNat (Act.bath a)))) (Int.tdiv (Rc.n1 r*area+999) (1000:Int)- aE (an.yield (tk (Int.toNat (Act.bath a)))) a) (Act.cur a))))),pv (11:Nat) (V.i (dA r (Pl.mk (0:Nat) par cut area aj gr ret cnt fs) (tk (Int.toNat (Act.bath (Act.bC a (dh (an.yield (tk (Int.toNat (Act.bath a)))) (Int.tdiv (Rc.n1 r*area+999) (1000:Int)- aE (an.yield (tk (Int.toNat (Act.bath a)))) a) (Act.cur a)))))) (Act.bC a (dh (an.yield (tk (Int.toNat (Act.bath a)))) (Int.tdiv (Rc.n1 r*area+999) (1000:Int)- aE (an.yield (tk (Int.toNat (Act.bath a)))) a) (Act.cur a))))),pv (12:Nat) (V.i (bV r (Pl.mk (0:Nat) par cut area aj gr ret cnt fs) (tk (Int.toNat (Act.bath (Act.bC a (dh (an.yield (tk (Int.toNat (Act.bath a)))) (Int.tdiv (Rc.n1 r*area+999) (1000:Int)- aE (an.yield (tk (Int.toNat (Act.bath a)))) a) (Act.cur a)))))) (Act.bC a (dh (an.yield (tk (Int.toNat (Act.bath a)))) (Int.tdiv (Rc.n1 r*area+999) (1000:Int)- aE (an.yield (tk (Int.toNat (Act.bath a)))) a) (Act.cur a)))))] kR kR tI ?_;refine ag ?_;refine au ?_;refine hK _ ?_;clear hK K;refine aa fun K hK=> ?_;refine ah (n':=16) kR kR ?_;refine ai az (M:=[3]) (n:=2) [pv (99:Nat) (V.i (bV r (Pl.mk (0:Nat) par cut area aj gr ret cnt fs) (tk (Int.toNat (Act.bath (Act.bC a (dh (an.yield (tk (Int.toNat (Act.bath a)))) (Int.tdiv (Rc.n1 r*area+999) (1000:Int)- aE (an.yield (tk (Int.toNat (Act.bath a)))) a) (Act.cur a)))))) (Act.bC a (dh (an.yield (tk (Int.toNat (Act.bath a)))) (Int.tdiv (Rc.n1 r*area+999) (1000:Int)- aE (an.yield (tk (Int.toNat (Act.bath a)))) a) (Act.cur a))))),pv (100:Nat) (V.b !decide (bV r (Pl.mk (0:Nat) par cut area aj gr ret cnt fs) (tk (Int.toNat (Act.bath (Act.bC a (dh (an.yield (tk (Int.toNat (Act.bath a)))) (Int.tdiv (Rc.n1 r*area+999) (1000:Int)- aE (an.yield (tk (Int.toNat (Act.bath a)))) a) (Act.cur a)))))) (Act.bC a (dh (an.yield (tk (Int.toNat (Act.bath a)))) (Int.tdiv (Rc.n1 r*area+999) (1000:Int)- aE (an.yield (tk (Int.toNat (Act.bath a)))) a) (Act.cur a)))=0))] kR kR tI ?_;refine ag ?_;refine au ?_;refine hK _ ?_;clear hK K;refine aN (t:= !decide (bV r (Pl.mk (0:Nat) par cut area aj gr ret cnt fs) (tk (Int.toNat (Act.bath (Act.bC a (dh (an.yield (tk (Int.toNat (Act.bath a)))) (Int.tdiv (Rc.n1 r*area+999) (1000:Int)- aE (an.yield (tk (Int.toNat (Act.bath a)))) a) (Act.cur a)))))) (Act.bC a (dh (an.yield (tk (Int.toNat (Act.bath a)))) (Int.tdiv (Rc.n1 r*area+999) (1000:Int)- aE (an.yield (tk (Int.toNat (Act.bath a)))) a) (Act.cur a)))=0)) kR (fun c6=> ?_) (fun c6=> ?_)
   ·have e:d6 r n ⟨0,par,cut,area,aj,gr,ret,cnt,fs⟩ (tk a.bath.toNat) a=(0,15):=by rw [d6,if_neg (not_not_intro c1'),if_neg (fun h=>c3 h.2),if_neg (by rw [hS];exact Int.not_lt.2 c5'),if_pos (by rw [hS];have h6:=c6;simp at h6;exact h6)]
    refine aa fun K hK=> ?_;refine ah (n':=17) kR kR ?_;refine ai az (M:=[3]) (n:=2) [pv (4:Nat) (V.i (0:Int)),pv (5:Nat) (V.i (15:Int))] kR kR tI ?_;refine ag ?_;refine au ?_;refine hK _ ?_;clear hK K;refine aG ?_;refine cm ?_;rw [e];refine aD (v':=V.tup [V.i (0:Int),V.i (15:Int)]) (.inr rfl) kR kR kR
   ·have e:d6 r n ⟨0,par,cut,area,aj,gr,ret,cnt,fs⟩ (tk a.bath.toNat) a=(dh (tk a.bath.toNat).yield ((r.n1*area+999).tdiv 1000- aE (tk a.bath.toNat).yield a) a.cur,0):=by rw [d6,if_neg (not_not_intro c1'),if_neg (fun h=>c3 h.2),if_neg (by rw [hS];exact Int.not_lt.2 c5'),if_neg (by rw [hS];have h6:=c6;simp at h6;exact not_not_intro h6),hS]
    refine aC ?_;refine au ?_;refine hK _ ?_;clear hK K;refine aa fun K hK=> ?_;refine ah (n':=17) kR kR ?_;refine ai az (M:=[3]) (n:=4) [pv (101:Nat) (V.ref (100003:Nat) (10:Nat)),pc (102:Nat) ((10:Nat)<=(13:Nat)) (V.i (Int.tdiv (Int.tdiv ((1000:Int)*(Int.tdiv (Rc.n1 r*area+999) (1000:Int)- aE (an.yield (tk (Int.toNat (Act.bath a)))) a)+an.yield (tk (Int.toNat (Act.bath a)))- 1) (an.yield (tk (Int.toNat (Act.bath a))))+Act.cur a- 1) (Act.cur a))),pv (4:Nat) (V.i (Int.tdiv (Int.tdiv ((1000:Int)*(Int.tdiv (Rc.n1 r*area+999) (1000:Int)- aE (an.yield (tk (Int.toNat (Act.bath a)))) a)+an.yield (tk (Int.toNat (Act.bath a)))- 1) (an.yield (tk (Int.toNat (Act.bath a))))+Act.cur a- 1) (Act.cur a))),pv (5:Nat) (V.i (0:Int))] kR kR ⟨oM,tI⟩ ?_;refine ag ?_;refine au ?_;refine hK _ ?_;clear hK K;refine aG ?_;rw [e];refine aD (v':=V.tup [V.i (Int.tdiv (Int.tdiv ((1000:Int)*(Int.tdiv (Rc.n1 r*area+999) (1000:Int)- aE (an.yield (tk (Int.toNat (Act.bath a)))) a)+an.yield (tk (Int.toNat (Act.bath a)))- 1) (an.yield (tk (Int.toNat (Act.bath a))))+Act.cur a- 1) (Act.cur a)),V.i (0:Int)]) (.inr rfl) kR kR kR
 ·have n0:¬0< (r.n1*area+999).tdiv 1000- aE (tk a.bath.toNat).yield a:=by simpa using c2
  have hS:t6 r ⟨0,par,cut,area,aj,gr,ret,cnt,fs⟩ (tk a.bath.toNat).yield a=0:=if_neg n0;refine aC ?_;refine au ?_;refine hK _ ?_;clear hK K;refine aa fun K hK=> ?_;refine aa fun K hK=> ?_;refine ah (n':=11) kR kR ?_;refine ai az (M:=[3]) (n:=3) [pv (90:Nat) (V.ref (100003:Nat) (10:Nat)),pc (91:Nat) ((10:Nat)<=(13:Nat)) (V.i (0:Int)),pv (92:Nat) (V.b false)] kR kR ⟨oM,tI⟩ ?_;refine ag ?_;refine au ?_;refine hK _ ?_;clear hK K;refine aY (t:=false) kR rfl ?_;refine aC ?_;refine au ?_;refine hK _ ?_;clear hK K;refine aa fun K hK=> ?_;refine aa fun K hK=> ?_;refine ah (n':=12) kR kR ?_;refine ai az (M:=[3]) (n:=2) [pv (94:Nat) (V.ptr [V.b true,V.i (Rc.n0 r),V.i (Rc.n1 r),V.i (Rc.n2 r),V.i (Rc.n3 r),V.i (Rc.k0 r),V.i (Rc.k1 r),V.i (Rc.k2 r),V.i (Rc.k3 r),V.i (Rc.seed r),V.i (Rc.soft r),V.i (Rc.hard r),V.i (Rc.mo r),V.i (Rc.st r),V.sl (1:Nat) n (aK k (V.ptr [V.i (0:Int),V.i par,V.i cut,V.i area,V.i aj,V.i gr,V.b ret,V.any]) x),V.sl (4:Nat) m fun(i:Nat)=>an.c (tk i),V.any,V.any]),pc (95:Nat) ((0:Nat)<=(13:Nat)) (V.agg [V.i (Act.kind a),V.i (Act.cut a),V.i (Act.area a),V.i (Act.stock a),V.i (Act.yield a),V.i (Act.plate a),V.i (Act.bath a),V.i (Act.s0 a),V.i (Act.s1 a),V.i (Act.cur a),V.i (0:Int),V.i (Act.place a),V.i (Act.flaw a)])] kR kR ⟨oM,tI⟩ ?_;have e:d6 r n ⟨0,par,cut,area,aj,gr,ret,cnt,fs⟩ (tk a.bath.toNat) a=if bV r ⟨0,par,cut,area,aj,gr,ret,cnt,fs⟩ (tk a.bath.toNat) (a.bC 0)≠0 then(0,15)else(0,0):=by rw [d6,if_neg (not_not_intro c1'),if_neg (fun h=>n0 h.1),hS,if_neg (by decide)]
  refine aV (first:=[]) (caps:=[]) (ry r hr n x ⟨0,par,cut,area,aj,gr,ret,cnt,fs⟩ hz (Nat.zero_le _) .any rfl m tk .any .any (a.bC 0) ha0 k hk hkn oM ⟨hb1,hb2⟩ oM ht) kR kR kR kR kR ?_;refine ai az (M:=[3]) (n:=5) [pv (93:Nat) (V.tup [V.i (dA r (Pl.mk (0:Nat) par cut area aj gr ret cnt fs) (tk (Int.toNat (Act.bath (Act.bC a (0:Int))))) (Act.bC a (0:Int))),V.i (bV r (Pl.mk (0:Nat) par cut area aj gr ret cnt fs) (tk (Int.toNat (Act.bath (Act.bC a (0:Int))))) (Act.bC a (0:Int)))]),pv (97:Nat) (V.i (dA r (Pl.mk (0:Nat) par cut area aj gr ret cnt fs) (tk (Int.toNat (Act.bath (Act.bC a (0:Int))))) (Act.bC a (0:Int)))),pv (98:Nat) (V.i (bV r (Pl.mk (0:Nat) par cut area aj gr ret cnt fs) (tk (Int.toNat (Act.bath (Act.bC a (0:Int))))) (Act.bC a (0:Int)))),pv (11:Nat) (V.i (dA r (Pl.mk (0:Nat) par cut area aj gr ret cnt fs) (tk (Int.toNat (Act.bath (Act.bC a (0:Int))))) (Act.bC a (0:Int)))),pv (12:Nat) (V.i (bV r (Pl.mk (0:Nat) par cut area aj gr ret cnt fs) (tk (Int.toNat (Act.bath (Act.bC a (0:Int))))) (Act.bC a (0:Int))))] kR kR tI ?_;refine ag ?_;refine au ?_;refine hK _ ?_;clear hK K;refine aa fun K hK=> ?_;refine ah (n':=13) kR kR ?_;refine ai az (M:=[3]) (n:=2) [pv (99:Nat) (V.i (bV r (Pl.mk (0:Nat) par cut area aj gr ret cnt fs) (tk (Int.toNat (Act.bath (Act.bC a (0:Int))))) (Act.bC a (0:Int)))),pv (100:Nat) (V.b !decide (bV r (Pl.mk (0:Nat) par cut area aj gr ret cnt fs) (tk (Int.toNat (Act.bath (Act.bC a (0:Int))))) (Act.bC a (0:Int))=0))] kR kR tI ?_;refine ag ?_;refine au ?_;refine hK _ ?_;clear hK K;refine aN (t:= !decide (bV r (Pl.mk (0:Nat) par cut area aj gr ret cnt fs) (tk (Int.toNat (Act.bath (Act.bC a (0:Int))))) (Act.bC a (0:Int))=0)) kR (fun c6=> ?_) (fun c6=> ?_);·refine aa fun K hK=> ?_;refine ah (n':=14) kR kR ?_;refine ai az (M:=[3]) (n:=2) [pv (4:Nat) (V.i (0:Int)),pv (5:Nat) (V.i (15:Int))] kR kR tI ?_;refine ag ?_;refine au ?_;refine hK _ ?_;clear hK K;refine aG ?_;refine cm ?_;rw [e,if_pos (by have h6:=c6;simp at h6;first |exact h6 |exact not_not_intro h6)];refine aD (v':=V.tup [V.i (0:Int),V.i (15:Int)]) (.inr rfl) kR kR kR
  ·refine aC ?_;refine au ?_;refine hK _ ?_;clear hK K;refine aa fun K hK=> ?_;refine ah (n':=14) kR kR ?_;refine ai az (M:=[3]) (n:=4) [pv (101:Nat) (V.ref (100003:Nat) (10:Nat)),pc (102:Nat) ((10:Nat)<=(13:Nat)) (V.i (0:Int)),pv (4:Nat) (V.i (0:Int)),pv (5:Nat) (V.i (0:Int))] kR kR ⟨oM,tI⟩ ?_;refine ag ?_;refine au ?_;refine hK _ ?_;clear hK K;refine aG ?_;rw [e,if_neg (by have h6:=c6;simp at h6;first |exact h6 |exact not_not_intro h6)];refine aD (v':=V.tup [V.i (0:Int),V.i (0:Int)]) (.inr rfl) kR kR kR
theorem wK{tm:Nat->V}{σ:Nat->Option Ob}{nx nxc:Nat}{S S':Sh}{δ:List (Nat×Option Ob)}{tl:List (Nat×V)}(hn:S.n<=200)(hn':S'.n<=200)(hD:jZ S S' nxc δ)(hσ:σ=bA (gW S fun _=>none) δ) (htm:∀h:Nat->Nat,h 500=500->lu (fun p=>tm p.1=p.2.bg h) tl):B6 ⟨tm,σ,nx⟩ ⟨jz tl,gW S' fun _=>none,1⟩:=by
 subst hσ;obtain⟨N,h,h1,h2,h3,h4⟩:=hD _ (gX hn _);obtain⟨h',hh⟩:∃h':Nat->Nat,∀id,h' id=if 500<=id/\id< 1000 then h id else nx*100000+id:=⟨_,fun _=>rfl⟩
 have hr:∀id,500<=id->id< 1000->h' id=h id:=fun id a b=>by rw [hh,if_pos ⟨a,b⟩]
 refine Fg h' hn' h1 ⟨fun i j hi hi2 hj hj2 he=>h2.inj i j hi hi2 hj hj2 (by rwa [hr i hi oM,hr j hj oM]at he),?_,?_,?_,?_,?_,fun i hi=> ?_,fun i hi=> ?_⟩ (fun id o _ ho=>by cases ho) (fun i j _ hi=>absurd rfl hi) (fun id hid=> ?_) (htm h' (by rw [hr 500 oM oM];exact h2.s));·rw [hr 500 oM oM];exact h2.s
 ·rw [hr 501 oM oM];exact h2.p
 ·rw [hr 502 oM oM];exact h2.t
 ·rw [hr 503 oM oM];exact h2.f
 ·rw [hr 504 oM oM];exact h2.a
 ·rw [hr _ oM oM];exact h2.pl i hi
 ·rw [hr _ oM oM];exact h2.mp i hi
 ·rw [hh,if_neg oM];omega
theorem Fh{tm:Nat->V}{σ:Nat->Option Ob}{nx s p t f a:Nat}{r:Rc}{tl:List (Nat×V)}(hne:(decide ([s,p,t,f,a].Nodup))=true)(h0:σ s=some (.box 62 (cS r (.own p) (.own t) (.own f) (.own a))))(h1:∃g,σ p=some (.row 67 1 0 g))(h2:∃g,σ t=some (.row 70 4 0 g))(h3:∃g,σ f=some (.row 100 2 0 g))(h4:∃g,σ a=some (.row 42 13 0 g)) (htm:∀h:Nat->Nat,h 500=s->lu (fun p=>tm p.1=p.2.bg h) tl):B6 ⟨tm,σ,nx⟩ ⟨jz tl,gW (pG r) fun _=>none,1⟩:=by
 have hne:=of_decide_eq_true hne;simp at hne;obtain⟨g1,h1⟩:=h1;obtain⟨g2,h2⟩:=h2;obtain⟨g3,h3⟩:=h3;obtain⟨g4,h4⟩:=h4;obtain⟨h',hh⟩:∃h':Nat->Nat,∀id,h' id=if id=500 then s else if id=501 then p else if id=502 then t else if id=503 then f else if id=504 then a else nx*100000+id:=⟨_,fun _=>rfl⟩
 have hc:∀id o,gW (pG r) (fun _=>none) id=some o->id=500\/id=501\/id=502\/id=503\/id=504:=by
  intro id o ho;have hz:¬(id- 505) / 2< (pG r).n:=Nat.not_lt_zero _;unfold gW at ho;simp only [if_neg hz]at ho;repeat' split at ho
  all_goals first |omega |cases ho
 have q0:h' 500=s:=by rw [hh];rfl
 have q1:h' 501=p:=by rw [hh];rfl
 have q2:h' 502=t:=by rw [hh];rfl
 have q3:h' 503=f:=by rw [hh];rfl
 have q4:h' 504=a:=by rw [hh];rfl
 refine wL h' (fun id o ho=> ?_) (fun i j hi hj he=> ?_) (fun id hid=> ?_) (htm h' q0)
 ·have hA:=gX (S:=pG r) (Nat.zero_le _) fun _=>none;rcases hc id o ho with rfl |rfl |rfl |rfl |rfl
  ·have:=hA.s;rw [ho]at this;injection this with this;subst this
   refine⟨_,by rw [q0];exact h0,?_⟩;show dQ (.box _ _) (.box _ (V.aP h' (cS r (.own 501) (.own 502) (.own 503) (.own 504))));rw [show V.aP h' (cS r (.own 501) (.own 502) (.own 503) (.own 504))=cS r (.own (h' 501)) (.own (h' 502)) (.own (h' 503)) (.own (h' 504))from rfl,q1,q2,q3,q4];exact⟨rfl,rfl⟩
  ·have:=hA.p;rw [show fe.p=501 from rfl,ho]at this;injection this with this;subst this
   refine⟨_,by rw [q1];exact h1,?_⟩;exact⟨rfl,rfl,rfl,fun i hi=>absurd hi (Nat.not_lt_zero _)⟩
  ·have:=hA.t;rw [show fe.t=502 from rfl,ho]at this;injection this with this;subst this
   refine⟨_,by rw [q2];exact h2,?_⟩;exact⟨rfl,rfl,rfl,fun i hi=>absurd hi (Nat.not_lt_zero _)⟩
  ·have:=hA.f;rw [show fe.f=503 from rfl,ho]at this;injection this with this;subst this
   refine⟨_,by rw [q3];exact h3,?_⟩;exact⟨rfl,rfl,rfl,fun i hi=>absurd hi (Nat.not_lt_zero _)⟩
  ·have:=hA.a;rw [show fe.a=504 from rfl,ho]at this;injection this with this;subst this
   refine⟨_,by rw [q4];exact h4,?_⟩;exact⟨rfl,rfl,rfl,fun i hi=>absurd hi (Nat.not_lt_zero _)⟩
 ·have e:∀i,gW (pG r) (fun _=>none) i≠none->i=500\/i=501\/i=502\/i=503\/i=504:=fun i hi=>by
   cases ho:gW (pG r) (fun _=>none) i with
   |none=>exact absurd ho hi
   |some o=>exact hc i o ho
  rcases e i hi with rfl |rfl |rfl |rfl |rfl <;> rcases e j hj with rfl |rfl |rfl |rfl |rfl <;> first |rfl | (simp only [q0,q1,q2,q3,q4]at he;omega)
 ·rw [hh,if_neg oM,if_neg oM,if_neg oM,if_neg oM,if_neg oM];omega
theorem pV{P:Program}{N:Nat}{C:Cx P N}{ops:Array Oper}{nx d:Nat}{o:Oper}{os:List Oper}{tm:Nat->V}{σ:Nat->Option Ob}{ks:List (List Nat×List Nat)}{K:(Nat->V)->(Nat->Option Ob)->List (List Nat×List Nat)->Prop}{S S':Sh}{v:V} (h:ux P C.W C.LB o (ev tm) nx d S S' v) (hg:o.guard=none) (ho:o.dst=some d) (hF:dD S fe σ) (hk:∀δ ks',jZ S S' nx δ->bq C ops nx os (bU tm d v) (bA σ δ) ks' K):bq C ops nx (o::os) tm σ ks K:=by obtain⟨pre,nw,δ,hA,hnw,hpre,hD⟩:=h;refine dR hg hA (hpre σ hF) (by rw [ho];exact hnw) ?_;rw [ho];exact hk δ _ hD
section
variable {P:Program}{N:Nat}{C:Cx P N}{ops:Array Oper}{nx:Nat}{os:List Oper}{tm:Nat->V}{σ:Nat->Option Ob}{ks:List (List Nat×List Nat)}{K:(Nat->V)->(Nat->Option Ob)->List (List Nat×List Nat)->Prop}{ty:TypeId}{pos:String}{af:Array Edge}
theorem uI{d:Nat}{fo:Operand}{ar:Array Operand}{ats:Array TypeId}{f:FuncId}{first caps args args':List V}{v v':V}{obs:List Ob}{δ:List (Nat×Option Ob)}(pre:List (Nat×Ob))(hc:AC P f args' v obs)(hf:ev tm fo= .fn (.func f) first caps) (hargs:first++ar.toList.map (ev tm)++caps=args) (hfz:gw (lY pre) args args') (hd:decide (d< 1000)=true) (hv:v.lM (List.range obs.length)=true) (hC:∀o∈obs,o.vm) (hob:decide (obs.length<=90)=true) (hvr:v.bg (ay nx (some d))=v') (hδ:ck (ay nx (some d)) 0 obs=δ) (hp:∀p∈pre,σ p.1=some p.2) (hk:bq C ops nx os (bU tm d v') (bA σ δ) (ks++[(aR δ,cU pre++aR δ)]) K):bq C ops nx (⟨some d,.call {callee:= .value fo,args:=ar,argTypes:=ats},ty,pos,af,none⟩::os) tm σ ks K:=by obtain⟨hl,hfz⟩:=hfz.get;subst hvr hδ;have hd1:=of_decide_eq_true hd;exact dR rfl (sC (P:=P) (W:=C.W) (LB:=C.LB) (d:=some d) (ty:=ty) (pos:=pos) (af:=af) (gd:=none) (ats:=ats) hc hf hargs pre hl hfz hv hC nx (by simpa using hd) (of_decide_eq_true hob)) hp (dX hd1 (of_decide_eq_true hob)) hk
end
theorem iq{pre:List (Nat×Ob)}{F:Nat->Option Ob}(hF:∀p∈pre,F p.1=some p.2){id:Nat}{o:Ob}(h:(id,o)∈pre):lY pre id=some o:=by
 unfold lY;cases hf:pre.find? (·.1 == id)with
 |none=>rw [List.find?_eq_none]at hf;have:=hf _ h;simp at this
 |some p=>have h1:=List.find?_some hf;have h2:=hF p (List.mem_of_find?_eq_some hf);have h3:=hF _ h;simp only [beq_iff_eq]at h1;rw [h1]at h2;simp only at h3;rw [h3]at h2;injection h2 with h2;rw [h2];rfl
def lK(S:Sh):List (Nat×Ob):=[(500,gL S fe),(501,vK S fe),(502,fZ S),(503,dm S),(504,kF S)]++(List.range S.n).flatMap fun i=>[(505+2*i,uw S fe i),(506+2*i,hM S i)]
theorem s6{S:Sh}{σ:Nat->Option Ob}(h:dD S fe σ):∀p∈lK S,σ p.1=some p.2:=by
 intro p hp;unfold lK at hp;rcases List.mem_append.1 hp with hp |hp
 ·simp at hp;rcases hp with h' |h' |h' |h' |h' <;> subst h'
  ·exact h.s
  ·exact h.p
  ·exact h.t
  ·exact h.f
  ·exact h.a
 ·rw [List.mem_flatMap]at hp;obtain⟨i,hi,hp⟩:=hp;have hi:i< S.n:=by simpa using hi
  simp at hp;rcases hp with h' |h' <;> subst h'
  ·exact h.pl i hi
  ·exact h.mp i hi
theorem CM{S:Sh}(hn:S.n<=200):dD S fe (lY (lK S)):=by
 have hF:=s6 (gX hn fun _=>none);have hb:∀i,i< S.n->(505+2*i,uw S fe i)∈lK S/\(506+2*i,hM S i)∈lK S:=fun i hi=>by have:∀p,p∈[(505+2*i,uw S fe i),(506+2*i,hM S i)]->p∈lK S:=fun p hp=>List.mem_append_right _ (List.mem_flatMap.2 ⟨i,by simpa using hi,hp⟩);exact⟨this _ (by simp),this _ (by simp)⟩
 exact⟨iq hF (by simp [lK]),iq (id:=501) hF (by simp [lK]),iq (id:=502) hF (by simp [lK]),iq (id:=503) hF (by simp [lK]),iq (id:=504) hF (by simp [lK]),fun i hi=>iq hF (hb i hi).1,fun i hi=>iq hF (hb i hi).2⟩
theorem CV{S:Sh}(hn:S.n<=200):Fz (lY (lK S)) (.ref 500 0) (Gg S):=EU (CM hn)
theorem dD.bU{S:Sh}{σ:Nat->Option Ob}(h:dD S fe σ)(hn:S.n<=200){k:Nat}(hk:k< 500\/1000<=k)(o:Option Ob):dD S fe (Ab.bU σ k o):=by
 refine⟨?_,?_,?_,?_,?_,fun i hi=> ?_,fun i hi=> ?_⟩;·rw [ak _ _ oM];exact h.s
 ·rw [ak _ _ (by show(501:Nat)≠k;omega)];exact h.p
 ·rw [ak _ _ (by show(502:Nat)≠k;omega)];exact h.t
 ·rw [ak _ _ (by show(503:Nat)≠k;omega)];exact h.f
 ·rw [ak _ _ (by show(504:Nat)≠k;omega)];exact h.a
 ·rw [ak _ _ (by show 505+2*i≠k;omega)];exact h.pl i hi
 ·rw [ak _ _ (by show 506+2*i≠k;omega)];exact h.mp i hi
theorem dD.bA{S:Sh}(hn:S.n<=200):∀ {δ:List (Nat×Option Ob)}{σ:Nat->Option Ob},dD S fe σ->(∀p∈δ,p.1< 500\/1000<=p.1)->dD S fe (Ab.bA σ δ)
 | [],_,h,_=>h
 | (k,o)::δ,σ,h,hk=>dD.bA hn (δ:=δ) (h.bU hn (hk (k,o) (by simp)) o) fun p hp=>hk p (by simp [hp])
def fN(k ar:Int):Act:=⟨1,k,ar,0,0,0,0,0,0,0,0,0,0⟩
def dL(st y:Int):Act:=⟨2,0,0,st,y,0,0,0,0,0,0,0,0⟩
theorem ju{x lo hi:Int}(h:lo<=x/\x<=hi):aq x lo hi=true:=by simp [aq,h.1,h.2]
theorem oG(S:Sh){k ar:Int}(hk:0<=k/\k<=1099511627776)(ha:1<=ar/\ar<=1048576):bZ S (fN k ar)=({S with n:=S.n+1,pl:=fy S.pl S.n (fc (fN k ar)),l:=S.l+1},(S.n:Int),0):=by
 have hB:cI (fN k ar)=true:=by show(if(1:Int)=1 then aq k 0 1099511627776 && aq ar 1 1048576 else _)=true;rw [if_pos rfl,ju hk,ju ha];rfl
 unfold bZ;rw [if_neg (by rw [hB];simp),if_pos (show(fN k ar).kind=1 from rfl)]
theorem mR(S:Sh)(hm:S.m< 8){st y:Int}(hs:0<=st/\st<=1099511627776)(hy:1<=y/\y<=1000):bZ S (dL st y)=({S with m:=S.m+1,tk:=jL S.m S.tk (dL st y),l:=S.l+1},(S.m:Int),0):=by
 have hB:cI (dL st y)=true:=by show(if(2:Int)=1 then _ else if(2:Int)=2 then aq st 0 1099511627776 && aq y 1 1000 else _)=true;rw [if_neg (by decide),if_pos rfl,ju hs,ju hy];rfl
 unfold bZ;rw [if_neg (by rw [hB];simp),if_neg (show ¬(dL st y).kind=1 by show ¬(2:Int)=1;decide),if_pos (show(dL st y).kind=2 from rfl),if_pos hm]
theorem mc{a b p:Int}(ha:0<=a)(h:a<=b)(hp:0< p):a.tdiv p<=b.tdiv p:=by rw [Int.tdiv_eq_ediv_of_nonneg ha,Int.tdiv_eq_ediv_of_nonneg oM];exact Int.ediv_le_ediv hp h
theorem yY{r:Rc}{z z':Pl}{y:Int}{a:Act}(hr:0<=r.n1)(h0:0<=z.area)(h:z.area<=z'.area):tZ r z y a<=tZ r z' y a:=by have h1:=Int.mul_nonneg hr h0;have h2:=Int.mul_le_mul_of_nonneg_left h hr;have h3:=mc (a:=r.n1*z.area+999) (b:=r.n1*z'.area+999) (p:=1000) oM oM (by decide);unfold tZ;omega
theorem yZ{y n n' c:Int}(hy:1<=y)(hn:0< n)(h:n<=n')(hc:1<=c):dh y n c<=dh y n' c:=by have h1:=mc (a:=1000*n+y- 1) (b:=1000*n'+y- 1) (p:=y) oM oM oM;have h2:0<=(1000*n+y- 1).tdiv y:=Int.tdiv_nonneg oM oM;exact mc oM oM oM
theorem rJ{y n c:Int}(hy:1<=y)(hn:0< n)(hc:1<=c):0<=dh y n c:=by have h2:0<=(1000*n+y- 1).tdiv y:=Int.tdiv_nonneg oM oM;exact Int.tdiv_nonneg oM oM
theorem rI{r:Rc}{n:Nat}{z:Pl}{t:an}{a:Act}(hc:0<=a.cur)(h:(d6 r n z t a).2=0):(d6 r n z t a).1=t6 r z t.yield a/\(0< tZ r z t.yield a->1<=a.cur):=by
 unfold d6 at h ⊢;split at h;·rename_i h1;exact absurd h h1
 ·rename_i h1;split at h;·cases h
  ·rename_i h2;split at h;·cases h
   ·rename_i h3;split at h;·cases h
    ·rename_i h4;rw [if_neg h1,if_neg h2,if_neg h3,if_neg h4];refine⟨rfl,fun h5=> ?_⟩;have:a.cur≠0:=fun h6=>h2 ⟨h5,h6⟩;omega
theorem BA{r:Rc}{n n':Nat}{z z':Pl}{t t':an}{a:Act}(hr:0<=r.n1)(hy:1<=t.yield)(ht:t'.yield=t.yield)(hc:0<=a.cur)(h0:0<=z.area)(h:z.area<=z'.area) (h1:(d6 r n z t a).2=0) (h2:(d6 r n' z' t' a).2=0):0<=(d6 r n z t a).1/\(d6 r n z t a).1<=(d6 r n' z' t' a).1:=by
 obtain⟨e1,c1⟩:=rI hc h1;obtain⟨e2,c2⟩:=rI hc h2;rw [e1,e2,ht];rw [ht]at c2;have hm:=yY (y:=t.yield) (a:=a) hr h0 h;unfold t6;by_cases h3:0< tZ r z t.yield a;·have h4:=c1 h3;rw [if_pos h3,if_pos oM];exact⟨rJ hy h3 h4,yZ hy h3 hm h4⟩
 ·rw [if_neg h3];refine⟨Int.le_refl _,?_⟩;split;·rename_i h5;exact rJ hy h5 (c2 h5)
  ·exact Int.le_refl _
def IV(k:Nat):Int:=match k with |0=>1344000 |1=>1929600 |_=>2336000
def IU(k:Nat):Int:=match k with |0=>864000 |1=>768000 |_=>960000
def rV(k:Nat):Int:=match k with |0=>66240 |1=>195460 |_=>283456
theorem FE(k:Nat):(IV k).tdiv 4000*(IV k).tdiv 4000- (IU k).tdiv 4000*(IU k).tdiv 4000=rV k:=by
 match k with
 |0=>rfl
 |1=>rfl
 |n+2=>rfl
theorem rW(k:Nat):1<=rV k/\rV k<=1048576/\rV k<=rV (k+1):=by
 match k with
 |0=>decide
 |1=>decide
 |n+2=>exact⟨by show(1:Int)<=283456;decide,by show(283456:Int)<=1048576;decide,by show(283456:Int)<=283456;decide⟩
def rX(s0 s1 cu:Int):Act:=⟨3,0,0,0,0,0,0,s0,s1,cu,0,0,0⟩
def DE(r:Rc)(ar y:Int):Sh:=(bZ (bZ (pG r) (fN 0 ar)).1 (dL 1099511627776 y)).1
theorem rZ(r:Rc){ar y:Int}(ha:1<=ar/\ar<=1048576)(hy:1<=y/\y<=1000):(DE r ar y).r=r/\(DE r ar y).n=1/\(DE r ar y).m=1/\(DE r ar y).l=2/\(DE r ar y).pl 0=fc (fN 0 ar)/\((DE r ar y).tk 0).yield=y:=by unfold DE;rw [oG (pG r) (by decide) ha,mR _ (by show(0:Nat)< 8;decide) (by decide) hy];exact⟨rfl,rfl,rfl,rfl,rfl,rfl⟩
def BX(r:Rc)(y s0 s1 cu:Int)(k:Nat):Int×Int:=d6 r 1 (fc (fN 0 (rV k))) ((DE r (rV k) y).tk 0) (rX s0 s1 cu)
def rY(R:Nat->Int×Int):Nat->Int×Bool
 |0=>(0,true)
 |k+1=>if(R k).2=0/\(rY R k).2=true then((R k).1,true)else((rY R k).1,false)
theorem FF{r:Rc}{y s0 s1 cu:Int}(hr:0<=r.n1)(hy:1<=y/\y<=1000)(hc:0<=cu)(k:Nat)(h1:(BX r y s0 s1 cu k).2=0)(h2:(rY (BX r y s0 s1 cu) k).2=true):(rY (BX r y s0 s1 cu) k).1<=(BX r y s0 s1 cu k).1:=by
 have key:∀j,(BX r y s0 s1 cu j).2=0->(BX r y s0 s1 cu (j+1)).2=0->0<=(BX r y s0 s1 cu j).1/\(BX r y s0 s1 cu j).1<=(BX r y s0 s1 cu (j+1)).1:=fun j e1 e2=>by obtain⟨b1,b2,b3⟩:=rW j;obtain⟨c1,c2,_⟩:=rW (j+1);obtain⟨_,_,_,_,_,y1⟩:=rZ r ⟨b1,b2⟩ hy;obtain⟨_,_,_,_,_,y2⟩:=rZ r ⟨c1,c2⟩ hy;exact BA hr (by rw [y1];exact hy.1) (by rw [y1,y2]) hc (by show(0:Int)<=rV j;omega) b3 e1 e2
 cases k with
 |zero=>
  show(0:Int)<=_;obtain⟨e1,c1⟩:=rI (show 0<=(rX s0 s1 cu).cur from hc) h1;obtain⟨b1,b2,_⟩:=rW 0;obtain⟨_,_,_,_,_,y1⟩:=rZ r ⟨b1,b2⟩ hy;show(0:Int)<=(d6 _ _ _ _ _).1;rw [e1];unfold t6;split;·rename_i h5;exact rJ (by rw [y1];exact hy.1) h5 (c1 h5)
  ·exact Int.le_refl _
 |succ j=>
  unfold rY at h2 ⊢;split at h2;·rename_i h3;rw [if_pos h3];exact(key j h3.1 h1).2
  ·cases h2
theorem yq:AC Tryz.prog 6 [.c (.string ⟨⟨[115,101,118,101,110]⟩⟩)] (.tup [.agg [.c (.string ⟨⟨[115,101,118,101,110]⟩⟩),.i 1344000,.i 864000,.i 12000,.i 16000,.i 8000,.i 24000,.i 40],.i 0]) []:=AM.ac (qS az d9 [] [] kR kR) (by decide)
theorem yt:AC Tryz.prog 6 [.c (.string ⟨⟨[116,101,110]⟩⟩)] (.tup [.agg [.c (.string ⟨⟨[116,101,110]⟩⟩),.i 1929600,.i 768000,.i 6923,.i 16000,.i 16000,.i 32000,.i 70],.i 0]) []:=AM.ac (qS az d9 [] [] kR kR) (by decide)
theorem yu:AC Tryz.prog 6 [.c (.string ⟨⟨[116,119,101,108,118,101]⟩⟩)] (.tup [.agg [.c (.string ⟨⟨[116,119,101,108,118,101]⟩⟩),.i 2336000,.i 960000,.i 16200,.i 24000,.i 16000,.i 48000,.i 100],.i 0]) []:=AM.ac (qS az d9 [] [] kR kR) (by decide)
end Go.Proofs.YtdgkdpgjnilmjaaGreatDoor
