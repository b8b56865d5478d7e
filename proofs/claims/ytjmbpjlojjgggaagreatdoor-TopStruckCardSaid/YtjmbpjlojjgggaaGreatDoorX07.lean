/-
  Several texts in one: Plating shops: one plate of a shop that is written; flaws, mends, retirements. Walks. Conditions: told in each theorem. .. Plating shops of many plates: acts at a shop among other objects. Conditions: told in each theorem.
-/
import Derived.Test.YtjmbpjlojjgggaaGreatDoorX00
import Derived.Test.YtjmbpjlojjgggaaGreatDoorX06
import Derived.Test.YtjmbpjlojjgggaaGreatDoorX02
import Derived.Test.YtjmbpjlojjgggaaGreatDoorAbs42
namespace Go.Proofs.YtjmbpjlojjgggaaGreatDoor
open Go.Ab Go.RowKit Go.Dw Go.Shelf
abbrev flC(g:Nat→Int×Int)(i:Nat):List V:=[.i (g i).1,.i (g i).2]
abbrev out7(r:Rc)(n k:Nat)(x:Nat→Value)(m:Nat)(tk:Nat→Tk4)(q:Nat)(fl:Nat→List V)(l:Nat)(z:Pl):List (Option Ob):=(ins7 r n k x m tk q fl l z).map some
set_option maxRecDepth 100000 in
theorem getX_am(r:Rc)(n k:Nat)(x:Nat→Value)(m:Nat)(tk:Nat→Tk4)(q:Nat)(g:Nat→Int×Int)(l:Nat)(z:Pl)(a:Int)(ha:a=k)(hk:k< n)(hn:n≤1000) :
  AM Tryz.prog 71 [.ref 500 0,.i a] (ins7 r n k x m tk q (flC g) l z) (.ref 505 0) (out7 r n k x m tk q (flC g) l z) []:=by
 subst ha
 refine AM.res (v:= .alt (decide (k=k)) (.ref 505 0) (.c (x k))) ?_ fun _ _ _ _ h=>h.alt_t (decide_eq_true rfl)
 refine am_intro hTT hMX (fn:=Tryz.f71) (N:=_) ⟨Tryz.func71,rfl,Tryz.ntmps71,kR⟩ (by simp) rfl (by simp) (by simp) fun C hF=> ?_
 refine sK fun K hK=>wR 2 ?_;refine aY hTT 1 [] ?_;refine nK hK ?_;clear hK K;refine sK fun K hK=>sK fun K hK=>wR 3 ?_;refine aY hTT 11 [(7,.g (decide ((↑k:Int)< 0) == false) ((14:Nat)≤(18:Nat)) (by(intro _;simp;done)))] ?_;refine nK hK ?_;clear hK K
 refine w_cond (t:=decide ((↑k:Int)< 0) || decide ((↑n:Int)≤(↑k:Int))) kR (fun c1=> ?_) (fun c1=> ?_)
 ·
  simp at c1;omega
 refine aw_skip ?_
 refine xt_n (hK _ ?_);clear hK K;refine sK fun K hK=>wR 4 ?_;refine aY hTT 8 [(3,.c ((14:Nat)≤(18:Nat)) oM),(1,.c ((0:Int)≤(↑k:Int)∧(↑k:Int)< (↑n:Int)) oM),(0,.c (k< n∧(0:Nat)≤(1:Nat)) oM)] ?_;refine nK hK ?_;clear hK K
 refine aw_ret ?_
 refine retM (v':=V.alt (decide (k=k)) (V.ref 505 0) (V.c (x k))) [] [(4,V.alt (decide (k=k)) (V.ref 505 0) (V.c (x k)))] (.inr rfl) (.cons kR .nil) (.cons ⟨Ob.box 123 [V.b true,V.i (Rc.n0 r),V.i (Rc.n1 r),V.i (Rc.n2 r),V.i (Rc.n3 r),V.i (Rc.k0 r),V.i (Rc.k1 r),V.i (Rc.k2 r),V.i (Rc.k3 r),V.i (Rc.seed r),V.i (Rc.soft r),V.i (Rc.hard r),V.i (Rc.mo r),V.i (Rc.st r),V.own 501,V.own 502,V.own 503,V.own 504],kR,.box kR⟩ (.cons ⟨Ob.row 131 1 n (rowX (505:Nat) k x),kR,.row kR (fun _ _=>rfl)⟩ (.cons ⟨Ob.row 55 4 m fun(i:Nat)=>Tk4.c (tk i),kR,.row kR (fun _ _=>rfl)⟩ (.cons ⟨Ob.row 149 2 q (flC g),kR,.row kR (fun _ _=>rfl)⟩ (.cons ⟨Ob.row 40 13 l fun(x:Nat)=>List.replicate (13:Nat) V.any,kR,.row kR (fun _ _=>rfl)⟩ (.cons ⟨Ob.box 134 [V.i (↑(Pl.kind z):Int),V.i (Pl.par z),V.i (Pl.cut z),V.i (Pl.area z),V.i (Pl.thick z),V.i (Pl.grown z),V.b (Pl.ret z),V.own 506],kR,.box kR⟩ (.cons ⟨Ob.mp (false,Pl.cnt z)   (MF.mk [] fun(k:MK)=>     match k with     |MK.i n=>if Pl.fl z n=true then some (Value.agg #[])else none     |MK.s b=>none),kR,.mp (fun _=>rfl)⟩ .nil))))))) kR kR kR kR kR kR kR
set_option maxRecDepth 100000 in
theorem getN_am(r:Rc)(n:Nat)(x:Nat→Value)(m:Nat)(tk:Nat→Tk4)(q:Nat)(g:Nat→Int×Int)(l:Nat)(a:Int)(ha:¬(0≤a∧a< n))(hn:n≤1000) :
  AM Tryz.prog 71 [.ref 500 0,.i a] (ins5 r n (rowC x) m tk q (flC g) l) (.c (.pointer none)) ((ins5 r n (rowC x) m tk q (flC g) l).map some) []:=by
 refine am_intro hTT hMX (fn:=Tryz.f71) (N:=_) ⟨Tryz.func71,rfl,Tryz.ntmps71,kR⟩ (by simp) rfl (by simp) (by simp) fun C hF=> ?_
 refine sK fun K hK=>wR 2 ?_;refine aY hTT 1 [] ?_;refine nK hK ?_;clear hK K;refine sK fun K hK=>sK fun K hK=>wR 3 ?_;refine aY hTT 11 [(7,.g (decide (a< 0) == false) ((14:Nat)≤(18:Nat)) (by(intro _;simp;done)))] ?_;refine nK hK ?_;clear hK K
 refine w_cond (t:=decide (a< 0) || decide ((↑n:Int)≤a)) kR (fun c1=> ?_) (fun c1=> ?_)
 ·
  refine sK fun K hK=> ?_
  refine wR 4 ?_;refine aY hTT 1 [] ?_;refine nK hK ?_;clear hK K
  refine aw_ret ?_
  refine xt_r ?_
  refine retM (v':=V.c (Value.pointer none)) [] [(4,V.c (Value.pointer none))] (.inr rfl) (.cons kR .nil) (.cons ⟨Ob.box 123 [V.b true,V.i (Rc.n0 r),V.i (Rc.n1 r),V.i (Rc.n2 r),V.i (Rc.n3 r),V.i (Rc.k0 r),V.i (Rc.k1 r),V.i (Rc.k2 r),V.i (Rc.k3 r),V.i (Rc.seed r),V.i (Rc.soft r),V.i (Rc.hard r),V.i (Rc.mo r),V.i (Rc.st r),V.own 501,V.own 502,V.own 503,V.own 504],kR,.box kR⟩ (.cons ⟨Ob.row 131 1 n (rowC x),kR,.row kR (fun _ _=>rfl)⟩ (.cons ⟨Ob.row 55 4 m fun(i:Nat)=>Tk4.c (tk i),kR,.row kR (fun _ _=>rfl)⟩ (.cons ⟨Ob.row 149 2 q (flC g),kR,.row kR (fun _ _=>rfl)⟩ (.cons ⟨Ob.row 40 13 l fun(x:Nat)=>List.replicate (13:Nat) V.any,kR,.row kR (fun _ _=>rfl)⟩ .nil))))) kR kR kR kR kR kR kR
 ·
  simp at c1;omega
def Pl.addF(z:Pl)(q:Int):Pl:={z with cnt:=mcnt (setF z.fl) (.i q) z.cnt,fl:=fun i=>z.fl i || decide (i=q)}
set_option maxRecDepth 100000 in
theorem flaw_am(r:Rc)(n k:Nat)(x:Nat→Value)(m:Nat)(tk:Nat→Tk4)(q:Nat)(g:Nat→Int×Int)(l:Nat)(z:Pl)(a:Act)(ha:a.plate=k)(hk:k< n)(hn:n≤1000)(hq:q< 64)(hz:z.ret=false) :
  AM Tryz.prog 54 [.ref 500 0,a.v] (ins7 r n k x m tk q (flC g) l z) (.tup [.i q,.i 0])
   [some (.box 123 (shC r (.own 501) (.own 502) (.own 0) (.own 504))),some (.row 131 1 n (rowX 505 k x)),some (.row 55 4 m (fun i=>(tk i).c)),none,some (.row 40 13 l (fun _=>List.replicate 13 .any)),some (.box 134 (z.c++[.own 506])),some (.mp (false,(z.addF q).cnt) (setF (z.addF q).fl))]
   [.row 149 2 (q+1) (flC fun i=>if i< q then g i else(a.plate,a.place))]:=by
 refine am_intro hTT hMX (fn:=Tryz.f54) (N:=_) ⟨Tryz.func54,rfl,Tryz.ntmps54,kR⟩ (by simp) rfl (by simp) (by simp) fun C hF=> ?_
 refine sK fun K hK=>wR 2 ?_;refine aY hTT 3 [] ?_;refine nK hK ?_;clear hK K;refine sK fun K hK=>wR 3 ?_;refine aY hTT 3 [] ?_
 refine aops_callR [500,501,502,503,504,505,506] (first:=[]) (caps:=[]) (ins':=[Ob.box 123 [V.b true,V.i (Rc.n0 r),V.i (Rc.n1 r),V.i (Rc.n2 r),V.i (Rc.n3 r),V.i (Rc.k0 r),V.i (Rc.k1 r),V.i (Rc.k2 r),V.i (Rc.k3 r),V.i (Rc.seed r),V.i (Rc.soft r),V.i (Rc.hard r),V.i (Rc.mo r),V.i (Rc.st r),V.own 501,V.own 502,V.own 503,V.own 504],Ob.row 131 1 n (rowX (505:Nat) k x),Ob.row 55 4 m fun(i:Nat)=>Tk4.c (tk i),Ob.row 149 2 q (flC g),Ob.row 40 13 l fun(x:Nat)=>List.replicate (13:Nat) V.any,Ob.box 134 [V.i (↑(Pl.kind z):Int),V.i (Pl.par z),V.i (Pl.cut z),V.i (Pl.area z),V.i (Pl.thick z),V.i (Pl.grown z),V.b (Pl.ret z),V.own 506],Ob.mp (false,Pl.cnt z)   (MF.mk [] fun(k:MK)=>     match k with     |MK.i n=>if Pl.fl z n=true then some (Value.agg #[])else none     |MK.s b=>none)]) (v':=V.ref 505 0) (δ:=[]) (kp:=[500,501,502,503,504,505,506]) (getX_am r n k x m tk q g l z a.plate ha hk hn) kR kR kR kR kR kR kR rfl kR kR ⟨kR,⟨(fun _ _=>rfl),⟨(fun _ _=>rfl),⟨(fun _ _=>rfl),⟨(fun _ _=>rfl),⟨kR,⟨?_,tI⟩⟩⟩⟩⟩⟩⟩ kR kR kR ?_
 ·
  exact setF_inN
 refine aY hTT 1 [] ?_;refine nK hK ?_;clear hK K;refine sK fun K hK=> ?_
 refine aw_block ?_
 refine sK fun K hK=>wR 4 ?_;refine aY hTT 3 [] ?_;refine nK hK ?_;clear hK K;refine w_false (t:=false) kR rfl (sK fun K hK=>wR 5 ?_);refine aY hTT 6 [(4,.c ((6:Nat)≤(8:Nat)) oM)] ?_;refine nK hK ?_;clear hK K
 refine w_cond (t:=Pl.ret z) kR (fun c1=> ?_) (fun c1=> ?_)
 ·
  rw [hz]at c1;cases c1
 refine sK fun K hK=>wR 6 ?_;refine aY hTT 7 [(3,.c ((16:Nat)≤(18:Nat)) oM)] ?_;refine nK hK ?_;clear hK K
 refine w_cond (t:=decide ((64:Int)≤(↑q:Int))) kR (fun c2=> ?_) (fun c2=> ?_)
 ·
  simp at c2;omega
 refine aw_skip ?_
 refine xb_n (xt_n (hK _ ?_));clear hK K;refine sK fun K hK=>wR 7 ?_;refine aY hTT 6 [(3,.c ((16:Nat)≤(18:Nat)) oM)] ?_;refine nK hK ?_;clear hK K;refine sK fun K hK=>wD 8 (aX hTT 15 [(4,.c ((16:Nat)≤(18:Nat))),(11,.r (PR.mk (some (44:Nat)) (some (q+1≤(1099511627776:Nat))) (V.own 700044) [((503:Nat),none),((700044:Nat),some (Ob.row 149 2 (q+1) (appRow q (flC g) fun(i:Nat)=>List.take (2:Nat) (List.drop (i*2) [V.i (Act.plate a),V.i (Act.place a)]))))] false)),(14,.r (pw ((16:Nat)+(1:Nat)≤(18:Nat)) (500:Nat) (Ob.box 123 [V.b true,V.i (Rc.n0 r),V.i (Rc.n1 r),V.i (Rc.n2 r),V.i (Rc.n3 r),V.i (Rc.k0 r),V.i (Rc.k1 r),V.i (Rc.k2 r),V.i (Rc.k3 r),V.i (Rc.seed r),V.i (Rc.soft r),V.i (Rc.hard r),V.i (Rc.mo r),V.i (Rc.st r),V.own 501,V.own 502,V.own 700044,V.own 504])))] ⟨oM,oM,oM,tI⟩ (aops_nil ⟨kR,(xt_n (hK _ ?_))⟩));clear hK K;refine sX hTT 9 7 [(3,.c ((7:Nat)≤(8:Nat))),(6,.r (PR.mk none none V.any [((506:Nat),some (Ob.mp (false,mcnt (setF (Pl.fl z)) (MK.i (↑q:Int)) (Pl.cnt z)) (MF.mk [(MK.i (↑q:Int),V.agg [])] (MF.rest (setF (Pl.fl z))))))] false))] ⟨oM,tI⟩ (sK fun K hK=>wR 10 ?_);refine aY hTT 3 [] ?_;refine nK hK ?_;clear hK K
 refine aw_ret ?_
 refine retM_of_le (le_setF 506 (n:=(z.addF q).cnt) (f:=⟨[(.i q,.agg [])],(setF z.fl).rest⟩) (has:=(z.addF q).fl) kR setF_put setF_put_u) ?_
 refine retM (v':=V.tup [V.i (↑q:Int),V.i 0]) [(0,700044)] [(4,V.i (↑q:Int)),(5,V.i 0)] (.inr rfl) (.cons kR (.cons kR .nil)) (.cons ⟨Ob.row 149 2 (q+1) (appRow q (flC g) fun(i:Nat)=>List.take (2:Nat) (List.drop (i*2) [V.i (Act.plate a),V.i (Act.place a)])),kR,.row kR ?_⟩ (.cons ⟨Ob.box 123 [V.b true,V.i (Rc.n0 r),V.i (Rc.n1 r),V.i (Rc.n2 r),V.i (Rc.n3 r),V.i (Rc.k0 r),V.i (Rc.k1 r),V.i (Rc.k2 r),V.i (Rc.k3 r),V.i (Rc.seed r),V.i (Rc.soft r),V.i (Rc.hard r),V.i (Rc.mo r),V.i (Rc.st r),V.own 501,V.own 502,V.own 700044,V.own 504],kR,.box kR⟩ (.cons ⟨Ob.row 131 1 n (rowX (505:Nat) k x),kR,.row kR (fun _ _=>rfl)⟩ (.cons ⟨Ob.row 55 4 m fun(i:Nat)=>Tk4.c (tk i),kR,.row kR (fun _ _=>rfl)⟩ (.cons ⟨Ob.row 40 13 l fun(x:Nat)=>List.replicate (13:Nat) V.any,kR,.row kR (fun _ _=>rfl)⟩ (.cons ⟨Ob.box 134 [V.i (↑(Pl.kind z):Int),V.i (Pl.par z),V.i (Pl.cut z),V.i (Pl.area z),V.i (Pl.thick z),V.i (Pl.grown z),V.b (Pl.ret z),V.own 506],kR,.box kR⟩ (.cons ⟨Ob.mp (false,Pl.cnt (Pl.addF z (↑q:Int)))   (MF.mk [] fun(k:MK)=>     match k with     |MK.i n=>if Pl.fl (Pl.addF z (↑q:Int)) n=true then some (Value.agg #[])else none     |MK.s b=>none),kR,.mp (fun _=>rfl)⟩ .nil))))))) kR kR kR kR kR kR kR
 ·
  intro i hi
  by_cases h:i< q
  ·
   simp only [appRow,if_pos h,flC];rfl
  ·
   simp only [appRow,if_neg h,flC]
   rw [show i- q=0 by omega];rfl
def Pl.delF(z:Pl)(q:Int):Pl:={z with cnt:=if z.fl q then z.cnt- 1 else z.cnt,fl:=setDel z.fl q}
set_option maxHeartbeats 4000000 in
set_option maxRecDepth 100000 in
theorem mend_am(r:Rc)(n k:Nat)(x:Nat→Value)(m:Nat)(tk:Nat→Tk4)(q:Nat)(g:Nat→Int×Int)(l:Nat)(z:Pl)(a:Act)(ha:a.plate=k)(hk:k< n)(hn:n≤1000)(hq:q≤64)(hz:z.ret=false)(hf:0≤a.flaw∧a.flaw< q)(hb:z.fl a.flaw=true) :
  AM Tryz.prog 55 [.ref 500 0,a.v] (ins7 r n k x m tk q (flC g) l z) (.tup [.i 0,.i 0])
   [some (.box 123 (shC r (.own 501) (.own 502) (.own 503) (.own 504))),some (.row 131 1 n (rowX 505 k x)),some (.row 55 4 m (fun i=>(tk i).c)),some (.row 149 2 q (flC g)),some (.row 40 13 l (fun _=>List.replicate 13 .any)),some (.box 134 (z.c++[.own 506])),some (.mp (false,(z.delF a.flaw).cnt) (setF (z.delF a.flaw).fl))] []:=by
 refine am_intro hTT hMX (fn:=Tryz.f55) (N:=_) ⟨Tryz.func55,rfl,Tryz.ntmps55,kR⟩ (by simp) rfl (by simp) (by simp) fun C hF=> ?_
 refine sX hTT 2 3 [] tI (sK fun K hK=>wR 3 (aX hTT 3 [] tI ?_))
 refine aops_callR [500,501,502,503,504,505,506] (first:=[]) (caps:=[]) (ins':=[Ob.box 123 [V.b true,V.i (Rc.n0 r),V.i (Rc.n1 r),V.i (Rc.n2 r),V.i (Rc.n3 r),V.i (Rc.k0 r),V.i (Rc.k1 r),V.i (Rc.k2 r),V.i (Rc.k3 r),V.i (Rc.seed r),V.i (Rc.soft r),V.i (Rc.hard r),V.i (Rc.mo r),V.i (Rc.st r),V.own 501,V.own 502,V.own 503,V.own 504],Ob.row 131 1 n (rowX (505:Nat) k x),Ob.row 55 4 m fun(i:Nat)=>Tk4.c (tk i),Ob.row 149 2 q (flC g),Ob.row 40 13 l fun(x:Nat)=>List.replicate (13:Nat) V.any,Ob.box 134 [V.i (↑(Pl.kind z):Int),V.i (Pl.par z),V.i (Pl.cut z),V.i (Pl.area z),V.i (Pl.thick z),V.i (Pl.grown z),V.b (Pl.ret z),V.own 506],Ob.mp (false,Pl.cnt z)   (MF.mk [] fun(k:MK)=>     match k with     |MK.i n=>if Pl.fl z n=true then some (Value.agg #[])else none     |MK.s b=>none)]) (v':=V.ref 505 0) (δ:=[]) (kp:=[500,501,502,503,504,505,506]) (getX_am r n k x m tk q g l z a.plate ha hk hn) kR kR kR kR kR kR kR rfl kR kR ⟨kR,⟨(fun _ _=>rfl),⟨(fun _ _=>rfl),⟨(fun _ _=>rfl),⟨(fun _ _=>rfl),⟨kR,⟨?_,tI⟩⟩⟩⟩⟩⟩⟩ kR kR kR ?_
 ·
  exact setF_inN
 refine aX hTT 1 [] tI (nK hK ?_);clear hK K;refine sK fun K hK=>sK fun K hK=>wD 4 ?_;refine aX hTT 17 [(3,.c (gA (false == false) True)),(4,.c (gB (false == false) True)),(5,.c (gD (false == false) True)),(6,.c (True∧(false=false→(false == false)=true))),(8,.c (gA (decide (Act.flaw a< 0) == false) True)),(9,.c (gB (decide (Act.flaw a< 0) == false) True)),(10,.c (gA (decide (Act.flaw a< 0) == false) True)),(11,.c (gB (decide (Act.flaw a< 0) == false) True)),(12,.c (gB (decide (Act.flaw a< 0) == false) True)),(13,.c (gB (decide (Act.flaw a< 0) == false) ((16:Nat)≤(18:Nat)))),(14,.c (gB (decide (Act.flaw a< 0) == false) True)),(15,.c (gC (decide (Act.flaw a< 0) == false) True)),(16,.c (True∧(decide (Act.flaw a< 0)=false→(decide (Act.flaw a< 0) == false)=true)))] ⟨⟨⟨tI,tI⟩,(fun _=>tI)⟩,⟨⟨(by(exact fun h=>h)),tI⟩,(fun _=>tI)⟩,⟨⟨(by(exact fun h=>h)),⟨tI,tI⟩⟩,(fun _=>tI)⟩,⟨tI,(by(intro h;rw [h];rfl))⟩,⟨⟨tI,tI⟩,(fun _=>tI)⟩,⟨⟨(by(exact fun h=>h)),tI⟩,(fun _=>tI)⟩,⟨⟨tI,tI⟩,(fun _=>tI)⟩,⟨⟨(by(exact fun h=>h)),tI⟩,(fun _=>tI)⟩,⟨⟨(by(exact fun h=>h)),tI⟩,(fun _=>tI)⟩,⟨⟨(by(exact fun h=>h)),tI⟩,(by(intro _;simp;done))⟩,⟨⟨(by(exact fun h=>h)),tI⟩,(fun _=>tI)⟩,⟨⟨(by(exact fun h=>h)),⟨(by(exact fun h=>h)),tI⟩⟩,(fun _=>tI)⟩,⟨tI,(by(intro h;rw [h];rfl))⟩,tI⟩ ?_;refine aops_nil ⟨kR,(xt_n (hK _ ?_))⟩;clear hK K
 refine w_cond (t:=decide (Act.flaw a< 0) || decide ((↑q:Int)≤Act.flaw a)) kR (fun c1=> ?_) (fun c1=> ?_)
 ·
  simp at c1;omega
 refine aw_skip ?_
 refine xt_n (hK _ ?_);clear hK K;refine sK fun K hK=>sX hTT 5 5 [(4,.c ((6:Nat)≤(8:Nat)))] ⟨oM,tI⟩ ?_
 refine w_cond (t:=Pl.ret z) kR (fun c2=> ?_) (fun c2=> ?_)
 ·
  rw [hz]at c2;cases c2
 refine aw_skip ?_
 refine xt_n (hK _ ?_);clear hK K;refine sK fun K hK=>sK fun K hK=>wD 6 ?_
 refine aops_n hTT (M:=[]) (n:=11) [pv 36 (V.ref 505 0),pv 37 (V.ref 505 0),pv 38 (V.ref 505 7),pc 39 ((7:Nat)≤(8:Nat)) (V.own 506),pv 40 (V.ptr [V.i (Act.flaw a)]),pv 41 (V.i (Act.flaw a)),pv 42 (V.tup [mget (setF (Pl.fl z)) (MK.i (Act.flaw a)) (V.agg []),V.b (mhas (setF (Pl.fl z)) (MK.i (Act.flaw a)))]),pv 35 (V.tup [mget (setF (Pl.fl z)) (MK.i (Act.flaw a)) (V.agg []),V.b (mhas (setF (Pl.fl z)) (MK.i (Act.flaw a)))]),pv 43 (mget (setF (Pl.fl z)) (MK.i (Act.flaw a)) (V.agg [])),pv 44 (V.b (mhas (setF (Pl.fl z)) (MK.i (Act.flaw a)))),pn 7 (V.ref 500007 0) (500007:Nat) (Ob.box 157 [])] kR kR ⟨oM,tI⟩ ?_
 refine aops_step rfl (as_storeE 157 (.tmp 7) (.tmp 43) (id:=500007) (o:=0) (t':=157) (cs:=[]) ?hx ?hy (hTT.size rfl) (Nat.le_refl _)) ?hp ?hn ?_
 case hx=>kernel_rfl
 case hy=>exact mget_setF z.fl a.flaw
 case hp=>intro p hp;cases List.mem_singleton.1 hp;kernel_rfl
 case hn=>intro _ h;cases h
 rw [mhas_setF,hb]
 refine aX hTT 1 [] tI (aops_nil ⟨kR,(xt_n (hK _ ?_))⟩);clear hK K;refine sX hTT 7 2 [] tI (w_false (t:=false) kR rfl ?_)
 refine aw_skip ?_
 refine xt_n (hK _ ?_);clear hK K;refine sK fun K hK=>wD 8 (aX hTT 6 [(3,.c ((7:Nat)≤(8:Nat)))] ⟨oM,tI⟩ ?_)
 refine aops_step rfl (as_delete 132 3 (.tmp 50) (.tmp 52) (id:=506) (n:=z.cnt) (has:=z.fl) (key:=a.flaw) (et:=157) ?hm ?hk ?ht) ?hp ?hn ?_
 case hm=>kernel_rfl
 case hk=>kernel_rfl
 case ht=>exact(mcode_spec hTT kR).1
 case hp=>intro p hp;cases List.mem_singleton.1 hp;kernel_rfl
 case hn=>intro _ h;cases h
 refine aops_nil ⟨kR,(xt_n (hK _ ?_))⟩;clear hK K;refine sX hTT 9 2 [] tI ?_
 refine aw_ret ?_
 refine retM (v':=V.tup [V.i 0,V.i 0]) [] [(4,V.i 0),(5,V.i 0)] (.inr rfl) (.cons kR (.cons kR .nil)) (.cons ⟨Ob.box 123 [V.b true,V.i (Rc.n0 r),V.i (Rc.n1 r),V.i (Rc.n2 r),V.i (Rc.n3 r),V.i (Rc.k0 r),V.i (Rc.k1 r),V.i (Rc.k2 r),V.i (Rc.k3 r),V.i (Rc.seed r),V.i (Rc.soft r),V.i (Rc.hard r),V.i (Rc.mo r),V.i (Rc.st r),V.own 501,V.own 502,V.own 503,V.own 504],kR,.box kR⟩ (.cons ⟨Ob.row 131 1 n (rowX (505:Nat) k x),kR,.row kR (fun _ _=>rfl)⟩ (.cons ⟨Ob.row 55 4 m fun(i:Nat)=>Tk4.c (tk i),kR,.row kR (fun _ _=>rfl)⟩ (.cons ⟨Ob.row 149 2 q (flC g),kR,.row kR (fun _ _=>rfl)⟩ (.cons ⟨Ob.row 40 13 l fun(x:Nat)=>List.replicate (13:Nat) V.any,kR,.row kR (fun _ _=>rfl)⟩ (.cons ⟨Ob.box 134 [V.i (↑(Pl.kind z):Int),V.i (Pl.par z),V.i (Pl.cut z),V.i (Pl.area z),V.i (Pl.thick z),V.i (Pl.grown z),V.b (Pl.ret z),V.own 506],kR,.box kR⟩ (.cons ⟨Ob.mp (false,if Pl.fl z (Act.flaw a)=true then Pl.cnt z- 1 else Pl.cnt z)   (MF.mk [] fun(k:MK)=>     match k with     |MK.i n=>if setDel (Pl.fl z) (Act.flaw a) n=true then some (Value.agg #[])else none     |MK.s b=>none),kR,.mp (fun _=>rfl)⟩ .nil))))))) kR kR kR kR kR kR kR
set_option maxRecDepth 100000 in
theorem retire_am(r:Rc)(n k:Nat)(x:Nat→Value)(m:Nat)(tk:Nat→Tk4)(q:Nat)(g:Nat→Int×Int)(l:Nat)(z:Pl)(a:Act)(ha:a.plate=k)(hk:k< n)(hn:n≤1000)(hz:z.ret=false) :
  AM Tryz.prog 56 [.ref 500 0,a.v] (ins7 r n k x m tk q (flC g) l z) (.tup [.i 0,.i 0]) (out7 r n k x m tk q (flC g) l {z with ret:=true}) []:=by
 refine am_intro hTT hMX (fn:=Tryz.f56) (N:=_) ⟨Tryz.func56,rfl,Tryz.ntmps56,kR⟩ (by simp) rfl (by simp) (by simp) fun C hF=> ?_
 refine sK fun K hK=>wR 2 ?_;refine aY hTT 3 [] ?_;refine nK hK ?_;clear hK K;refine sK fun K hK=>wR 3 ?_;refine aY hTT 3 [] ?_
 refine aops_callR [500,501,502,503,504,505,506] (first:=[]) (caps:=[]) (ins':=[Ob.box 123 [V.b true,V.i (Rc.n0 r),V.i (Rc.n1 r),V.i (Rc.n2 r),V.i (Rc.n3 r),V.i (Rc.k0 r),V.i (Rc.k1 r),V.i (Rc.k2 r),V.i (Rc.k3 r),V.i (Rc.seed r),V.i (Rc.soft r),V.i (Rc.hard r),V.i (Rc.mo r),V.i (Rc.st r),V.own 501,V.own 502,V.own 503,V.own 504],Ob.row 131 1 n (rowX (505:Nat) k x),Ob.row 55 4 m fun(i:Nat)=>Tk4.c (tk i),Ob.row 149 2 q (flC g),Ob.row 40 13 l fun(x:Nat)=>List.replicate (13:Nat) V.any,Ob.box 134 [V.i (↑(Pl.kind z):Int),V.i (Pl.par z),V.i (Pl.cut z),V.i (Pl.area z),V.i (Pl.thick z),V.i (Pl.grown z),V.b (Pl.ret z),V.own 506],Ob.mp (false,Pl.cnt z)   (MF.mk [] fun(k:MK)=>     match k with     |MK.i n=>if Pl.fl z n=true then some (Value.agg #[])else none     |MK.s b=>none)]) (v':=V.ref 505 0) (δ:=[]) (kp:=[500,501,502,503,504,505,506]) (getX_am r n k x m tk q g l z a.plate ha hk hn) kR kR kR kR kR kR kR rfl kR kR ⟨kR,⟨(fun _ _=>rfl),⟨(fun _ _=>rfl),⟨(fun _ _=>rfl),⟨(fun _ _=>rfl),⟨kR,⟨?_,tI⟩⟩⟩⟩⟩⟩⟩ kR kR kR ?_
 ·
  exact setF_inN
 refine aY hTT 1 [] ?_;refine nK hK ?_;clear hK K;refine sK fun K hK=>sK fun K hK=>wR 4 ?_;refine aY hTT 2 [] ?_;refine nK hK ?_;clear hK K;refine w_false (t:=false) kR rfl ?_
 refine aw_skip ?_
 refine xt_n (hK _ ?_);clear hK K;refine sK fun K hK=>sK fun K hK=>wR 5 ?_;refine aY hTT 5 [(4,.c ((6:Nat)≤(8:Nat)) oM)] ?_;refine nK hK ?_;clear hK K
 refine w_cond (t:=Pl.ret z) kR (fun c2=> ?_) (fun c2=> ?_)
 ·
  rw [hz]at c2;cases c2
 refine aw_skip ?_
 refine xt_n (hK _ ?_);clear hK K;refine sK fun K hK=>wR 6 ?_;refine aY hTT 5 [(4,.c ((6:Nat)+(1:Nat)≤(8:Nat)) oM)] ?_;refine nK hK ?_;clear hK K;refine sK fun K hK=>wR 7 ?_;refine aY hTT 2 [] ?_;refine nK hK ?_;clear hK K
 refine aw_ret ?_
 refine retM (v':=V.tup [V.i 0,V.i 0]) [] [(4,V.i 0),(5,V.i 0)] (.inr rfl) (.cons kR (.cons kR .nil)) (.cons ⟨Ob.box 123 [V.b true,V.i (Rc.n0 r),V.i (Rc.n1 r),V.i (Rc.n2 r),V.i (Rc.n3 r),V.i (Rc.k0 r),V.i (Rc.k1 r),V.i (Rc.k2 r),V.i (Rc.k3 r),V.i (Rc.seed r),V.i (Rc.soft r),V.i (Rc.hard r),V.i (Rc.mo r),V.i (Rc.st r),V.own 501,V.own 502,V.own 503,V.own 504],kR,.box kR⟩ (.cons ⟨Ob.row 131 1 n (rowX (505:Nat) k x),kR,.row kR (fun _ _=>rfl)⟩ (.cons ⟨Ob.row 55 4 m fun(i:Nat)=>Tk4.c (tk i),kR,.row kR (fun _ _=>rfl)⟩ (.cons ⟨Ob.row 149 2 q (flC g),kR,.row kR (fun _ _=>rfl)⟩ (.cons ⟨Ob.row 40 13 l fun(x:Nat)=>List.replicate (13:Nat) V.any,kR,.row kR (fun _ _=>rfl)⟩ (.cons ⟨Ob.box 134 [V.i (↑(Pl.kind z):Int),V.i (Pl.par z),V.i (Pl.cut z),V.i (Pl.area z),V.i (Pl.thick z),V.i (Pl.grown z),V.b true,V.own 506],kR,.box kR⟩ (.cons ⟨Ob.mp (false,Pl.cnt z)   (MF.mk [] fun(k:MK)=>     match k with     |MK.i n=>if Pl.fl z n=true then some (Value.agg #[])else none     |MK.s b=>none),kR,.mp (fun _=>rfl)⟩ .nil))))))) kR kR kR kR kR kR kR
end Go.Proofs.YtjmbpjlojjgggaaGreatDoor

namespace Go.Proofs.YtjmbpjlojjgggaaGreatDoor
open Go.Ab Go.RowKit Go.Dw Go.Shelf
set_option maxRecDepth 100000 in
theorem flawN_am(r:Rc)(n:Nat)(x:Nat→Value)(m:Nat)(tk:Nat→Tk4)(q:Nat)(g:Nat→Int×Int)(l:Nat)(a:Act)(ha:¬(0≤a.plate∧a.plate< n))(hn:n≤1000):AM Tryz.prog 54 [.ref 500 0,a.v] (ins5 r n (rowC x) m tk q (flC g) l) (.tup [.i 0,.i 5]) ((ins5 r n (rowC x) m tk q (flC g) l).map some) []:=by
 refine am_intro hTT hMX (fn:=Tryz.f54) (N:=_) ⟨Tryz.func54,rfl,Tryz.ntmps54,kR⟩ (by simp) rfl (by simp) (by simp) fun C hF=> ?_
 refine sK fun K hK=>wR 2 ?_;refine aY hTT 3 [] ?_;refine nK hK ?_;clear hK K;refine sK fun K hK=>wR 3 ?_;refine aY hTT 3 [] ?_
 refine aops_callR [500,501,502,503,504] (first:=[]) (caps:=[]) (ins':=[Ob.box 123 [V.b true,V.i (Rc.n0 r),V.i (Rc.n1 r),V.i (Rc.n2 r),V.i (Rc.n3 r),V.i (Rc.k0 r),V.i (Rc.k1 r),V.i (Rc.k2 r),V.i (Rc.k3 r),V.i (Rc.seed r),V.i (Rc.soft r),V.i (Rc.hard r),V.i (Rc.mo r),V.i (Rc.st r),V.own 501,V.own 502,V.own 503,V.own 504],Ob.row 131 1 n (rowC x),Ob.row 55 4 m fun(i:Nat)=>Tk4.c (tk i),Ob.row 149 2 q (flC g),Ob.row 40 13 l fun(x:Nat)=>List.replicate (13:Nat) V.any]) (v':=V.c (Value.pointer none)) (δ:=[]) (kp:=[500,501,502,503,504]) (getN_am r n x m tk q g l a.plate ha hn) kR kR kR kR kR kR kR rfl kR kR ⟨kR,⟨(fun _ _=>rfl),⟨(fun _ _=>rfl),⟨(fun _ _=>rfl),⟨(fun _ _=>rfl),tI⟩⟩⟩⟩⟩ kR kR kR ?_
 refine aY hTT 1 [] ?_;refine nK hK ?_;clear hK K;refine sK fun K hK=> ?_
 refine aw_block ?_
 refine sK fun K hK=>wR 4 ?_;refine aY hTT 3 [] ?_;refine nK hK ?_;clear hK K;refine w_true (t:=true) kR rfl (sK fun K hK=>wR 5 ?_);refine aY hTT 2 [] ?_;refine nK hK ?_;clear hK K
 refine aw_ret ?_
 refine xb_r ?_
 refine xt_r ?_
 refine retM (v':=V.tup [V.i 0,V.i 5]) [] [(4,V.i 0),(5,V.i 5)] (.inr rfl) (.cons kR (.cons kR .nil)) (.cons ⟨Ob.box 123 [V.b true,V.i (Rc.n0 r),V.i (Rc.n1 r),V.i (Rc.n2 r),V.i (Rc.n3 r),V.i (Rc.k0 r),V.i (Rc.k1 r),V.i (Rc.k2 r),V.i (Rc.k3 r),V.i (Rc.seed r),V.i (Rc.soft r),V.i (Rc.hard r),V.i (Rc.mo r),V.i (Rc.st r),V.own 501,V.own 502,V.own 503,V.own 504],kR,.box kR⟩ (.cons ⟨Ob.row 131 1 n (rowC x),kR,.row kR (fun _ _=>rfl)⟩ (.cons ⟨Ob.row 55 4 m fun(i:Nat)=>Tk4.c (tk i),kR,.row kR (fun _ _=>rfl)⟩ (.cons ⟨Ob.row 149 2 q (flC g),kR,.row kR (fun _ _=>rfl)⟩ (.cons ⟨Ob.row 40 13 l fun(x:Nat)=>List.replicate (13:Nat) V.any,kR,.row kR (fun _ _=>rfl)⟩ .nil))))) kR kR kR kR kR kR kR
set_option maxRecDepth 100000 in
theorem mendN_am(r:Rc)(n:Nat)(x:Nat→Value)(m:Nat)(tk:Nat→Tk4)(q:Nat)(g:Nat→Int×Int)(l:Nat)(a:Act)(ha:¬(0≤a.plate∧a.plate< n))(hn:n≤1000):AM Tryz.prog 55 [.ref 500 0,a.v] (ins5 r n (rowC x) m tk q (flC g) l) (.tup [.i 0,.i 5]) ((ins5 r n (rowC x) m tk q (flC g) l).map some) []:=by
 refine am_intro hTT hMX (fn:=Tryz.f55) (N:=_) ⟨Tryz.func55,rfl,Tryz.ntmps55,kR⟩ (by simp) rfl (by simp) (by simp) fun C hF=> ?_
 refine sK fun K hK=>wR 2 ?_;refine aY hTT 3 [] ?_;refine nK hK ?_;clear hK K;refine sK fun K hK=>wR 3 ?_;refine aY hTT 3 [] ?_
 refine aops_callR [500,501,502,503,504] (first:=[]) (caps:=[]) (ins':=[Ob.box 123 [V.b true,V.i (Rc.n0 r),V.i (Rc.n1 r),V.i (Rc.n2 r),V.i (Rc.n3 r),V.i (Rc.k0 r),V.i (Rc.k1 r),V.i (Rc.k2 r),V.i (Rc.k3 r),V.i (Rc.seed r),V.i (Rc.soft r),V.i (Rc.hard r),V.i (Rc.mo r),V.i (Rc.st r),V.own 501,V.own 502,V.own 503,V.own 504],Ob.row 131 1 n (rowC x),Ob.row 55 4 m fun(i:Nat)=>Tk4.c (tk i),Ob.row 149 2 q (flC g),Ob.row 40 13 l fun(x:Nat)=>List.replicate (13:Nat) V.any]) (v':=V.c (Value.pointer none)) (δ:=[]) (kp:=[500,501,502,503,504]) (getN_am r n x m tk q g l a.plate ha hn) kR kR kR kR kR kR kR rfl kR kR ⟨kR,⟨(fun _ _=>rfl),⟨(fun _ _=>rfl),⟨(fun _ _=>rfl),⟨(fun _ _=>rfl),tI⟩⟩⟩⟩⟩ kR kR kR ?_
 refine aY hTT 1 [] ?_;refine nK hK ?_;clear hK K;refine sK fun K hK=>sK fun K hK=>wD 4 ?_;refine aX hTT 17 [(3,.c (gA (true == false) True)),(4,.c (gB (true == false) True)),(5,.c (gD (true == false) True)),(6,.c (True∧(true=false→(true == false)=true))),(8,.c (gA (true == false) True)),(9,.c (gB (true == false) True)),(10,.c (gA (true == false) True)),(11,.c (gB (true == false) True)),(12,.c (gB (true == false) True)),(13,.c (gB (true == false) ((16:Nat)≤(18:Nat)))),(14,.c (gB (true == false) True)),(15,.c (gC (true == false) True)),(16,.c (True∧(true=false→(true == false)=true)))] ⟨⟨⟨tI,tI⟩,(fun _=>tI)⟩,⟨⟨(by(exact fun h=>h)),tI⟩,(fun _=>tI)⟩,⟨⟨(by(exact fun h=>h)),⟨tI,tI⟩⟩,(fun _=>tI)⟩,⟨tI,(by(intro h;simp at h;done))⟩,⟨⟨tI,tI⟩,(fun _=>tI)⟩,⟨⟨(by(exact fun h=>h)),tI⟩,(fun _=>tI)⟩,⟨⟨tI,tI⟩,(fun _=>tI)⟩,⟨⟨(by(exact fun h=>h)),tI⟩,(fun _=>tI)⟩,⟨⟨(by(exact fun h=>h)),tI⟩,(fun _=>tI)⟩,⟨⟨(by(exact fun h=>h)),tI⟩,(by(intro _;simp;done))⟩,⟨⟨(by(exact fun h=>h)),tI⟩,(fun _=>tI)⟩,⟨⟨(by(exact fun h=>h)),⟨(by(exact fun h=>h)),tI⟩⟩,(fun _=>tI)⟩,⟨tI,(by(intro h;simp at h;done))⟩,tI⟩ ?_;refine aops_nil ⟨kR,(xt_n (hK _ ?_))⟩;clear hK K;refine w_true (t:=true) kR rfl (sK fun K hK=>wR 5 ?_);refine aY hTT 2 [] ?_;refine nK hK ?_;clear hK K
 refine aw_ret ?_
 refine xt_r ?_
 refine retM (v':=V.tup [V.i 0,V.i 5]) [] [(4,V.i 0),(5,V.i 5)] (.inr rfl) (.cons kR (.cons kR .nil)) (.cons ⟨Ob.box 123 [V.b true,V.i (Rc.n0 r),V.i (Rc.n1 r),V.i (Rc.n2 r),V.i (Rc.n3 r),V.i (Rc.k0 r),V.i (Rc.k1 r),V.i (Rc.k2 r),V.i (Rc.k3 r),V.i (Rc.seed r),V.i (Rc.soft r),V.i (Rc.hard r),V.i (Rc.mo r),V.i (Rc.st r),V.own 501,V.own 502,V.own 503,V.own 504],kR,.box kR⟩ (.cons ⟨Ob.row 131 1 n (rowC x),kR,.row kR (fun _ _=>rfl)⟩ (.cons ⟨Ob.row 55 4 m fun(i:Nat)=>Tk4.c (tk i),kR,.row kR (fun _ _=>rfl)⟩ (.cons ⟨Ob.row 149 2 q (flC g),kR,.row kR (fun _ _=>rfl)⟩ (.cons ⟨Ob.row 40 13 l fun(x:Nat)=>List.replicate (13:Nat) V.any,kR,.row kR (fun _ _=>rfl)⟩ .nil))))) kR kR kR kR kR kR kR
set_option maxRecDepth 100000 in
theorem retireN_am(r:Rc)(n:Nat)(x:Nat→Value)(m:Nat)(tk:Nat→Tk4)(q:Nat)(g:Nat→Int×Int)(l:Nat)(a:Act)(ha:¬(0≤a.plate∧a.plate< n))(hn:n≤1000):AM Tryz.prog 56 [.ref 500 0,a.v] (ins5 r n (rowC x) m tk q (flC g) l) (.tup [.i 0,.i 5]) ((ins5 r n (rowC x) m tk q (flC g) l).map some) []:=by
 refine am_intro hTT hMX (fn:=Tryz.f56) (N:=_) ⟨Tryz.func56,rfl,Tryz.ntmps56,kR⟩ (by simp) rfl (by simp) (by simp) fun C hF=> ?_
 refine sK fun K hK=>wR 2 ?_;refine aY hTT 3 [] ?_;refine nK hK ?_;clear hK K;refine sK fun K hK=>wR 3 ?_;refine aY hTT 3 [] ?_
 refine aops_callR [500,501,502,503,504] (first:=[]) (caps:=[]) (ins':=[Ob.box 123 [V.b true,V.i (Rc.n0 r),V.i (Rc.n1 r),V.i (Rc.n2 r),V.i (Rc.n3 r),V.i (Rc.k0 r),V.i (Rc.k1 r),V.i (Rc.k2 r),V.i (Rc.k3 r),V.i (Rc.seed r),V.i (Rc.soft r),V.i (Rc.hard r),V.i (Rc.mo r),V.i (Rc.st r),V.own 501,V.own 502,V.own 503,V.own 504],Ob.row 131 1 n (rowC x),Ob.row 55 4 m fun(i:Nat)=>Tk4.c (tk i),Ob.row 149 2 q (flC g),Ob.row 40 13 l fun(x:Nat)=>List.replicate (13:Nat) V.any]) (v':=V.c (Value.pointer none)) (δ:=[]) (kp:=[500,501,502,503,504]) (getN_am r n x m tk q g l a.plate ha hn) kR kR kR kR kR kR kR rfl kR kR ⟨kR,⟨(fun _ _=>rfl),⟨(fun _ _=>rfl),⟨(fun _ _=>rfl),⟨(fun _ _=>rfl),tI⟩⟩⟩⟩⟩ kR kR kR ?_
 refine aY hTT 1 [] ?_;refine nK hK ?_;clear hK K;refine sK fun K hK=>sK fun K hK=>wR 4 ?_;refine aY hTT 2 [] ?_;refine nK hK ?_;clear hK K;refine w_true (t:=true) kR rfl (sK fun K hK=>wR 5 ?_);refine aY hTT 2 [] ?_;refine nK hK ?_;clear hK K
 refine aw_ret ?_
 refine xt_r ?_
 refine retM (v':=V.tup [V.i 0,V.i 5]) [] [(4,V.i 0),(5,V.i 5)] (.inr rfl) (.cons kR (.cons kR .nil)) (.cons ⟨Ob.box 123 [V.b true,V.i (Rc.n0 r),V.i (Rc.n1 r),V.i (Rc.n2 r),V.i (Rc.n3 r),V.i (Rc.k0 r),V.i (Rc.k1 r),V.i (Rc.k2 r),V.i (Rc.k3 r),V.i (Rc.seed r),V.i (Rc.soft r),V.i (Rc.hard r),V.i (Rc.mo r),V.i (Rc.st r),V.own 501,V.own 502,V.own 503,V.own 504],kR,.box kR⟩ (.cons ⟨Ob.row 131 1 n (rowC x),kR,.row kR (fun _ _=>rfl)⟩ (.cons ⟨Ob.row 55 4 m fun(i:Nat)=>Tk4.c (tk i),kR,.row kR (fun _ _=>rfl)⟩ (.cons ⟨Ob.row 149 2 q (flC g),kR,.row kR (fun _ _=>rfl)⟩ (.cons ⟨Ob.row 40 13 l fun(x:Nat)=>List.replicate (13:Nat) V.any,kR,.row kR (fun _ _=>rfl)⟩ .nil))))) kR kR kR kR kR kR kR
set_option maxRecDepth 100000 in
theorem flawR_am(r:Rc)(n k:Nat)(x:Nat→Value)(m:Nat)(tk:Nat→Tk4)(q:Nat)(g:Nat→Int×Int)(l:Nat)(z:Pl)(a:Act)(ha:a.plate=k)(hk:k< n)(hz:z.ret=true)(hn:n≤1000):AM Tryz.prog 54 [.ref 500 0,a.v] (ins7 r n k x m tk q (flC g) l z) (.tup [.i 0,.i 10]) (out7 r n k x m tk q (flC g) l z) []:=by
 refine am_intro hTT hMX (fn:=Tryz.f54) (N:=_) ⟨Tryz.func54,rfl,Tryz.ntmps54,kR⟩ (by simp) rfl (by simp) (by simp) fun C hF=> ?_
 refine sK fun K hK=>wR 2 ?_;refine aY hTT 3 [] ?_;refine nK hK ?_;clear hK K;refine sK fun K hK=>wR 3 ?_;refine aY hTT 3 [] ?_
 refine aops_callR [500,501,502,503,504,505,506] (first:=[]) (caps:=[]) (ins':=[Ob.box 123 [V.b true,V.i (Rc.n0 r),V.i (Rc.n1 r),V.i (Rc.n2 r),V.i (Rc.n3 r),V.i (Rc.k0 r),V.i (Rc.k1 r),V.i (Rc.k2 r),V.i (Rc.k3 r),V.i (Rc.seed r),V.i (Rc.soft r),V.i (Rc.hard r),V.i (Rc.mo r),V.i (Rc.st r),V.own 501,V.own 502,V.own 503,V.own 504],Ob.row 131 1 n (rowX (505:Nat) k x),Ob.row 55 4 m fun(i:Nat)=>Tk4.c (tk i),Ob.row 149 2 q (flC g),Ob.row 40 13 l fun(x:Nat)=>List.replicate (13:Nat) V.any,Ob.box 134 [V.i (↑(Pl.kind z):Int),V.i (Pl.par z),V.i (Pl.cut z),V.i (Pl.area z),V.i (Pl.thick z),V.i (Pl.grown z),V.b (Pl.ret z),V.own 506],Ob.mp (false,Pl.cnt z)   (MF.mk [] fun(k:MK)=>     match k with     |MK.i n=>if Pl.fl z n=true then some (Value.agg #[])else none     |MK.s b=>none)]) (v':=V.ref 505 0) (δ:=[]) (kp:=[500,501,502,503,504,505,506]) (getX_am r n k x m tk q g l z a.plate ha hk hn) kR kR kR kR kR kR kR rfl kR kR ⟨kR,⟨(fun _ _=>rfl),⟨(fun _ _=>rfl),⟨(fun _ _=>rfl),⟨(fun _ _=>rfl),⟨kR,⟨?_,tI⟩⟩⟩⟩⟩⟩⟩ kR kR kR ?_
 ·
  exact setF_inN
 refine aY hTT 1 [] ?_;refine nK hK ?_;clear hK K;refine sK fun K hK=> ?_
 refine aw_block ?_
 refine sK fun K hK=>wR 4 ?_;refine aY hTT 3 [] ?_;refine nK hK ?_;clear hK K;refine w_false (t:=false) kR rfl (sK fun K hK=>wR 5 ?_);refine aY hTT 6 [(4,.c ((6:Nat)≤(8:Nat)) oM)] ?_;refine nK hK ?_;clear hK K
 refine w_cond (t:=Pl.ret z) kR (fun c2=> ?_) (fun c2=> ?_)
 ·
  refine sK fun K hK=> ?_
  refine wR 6 ?_;refine aY hTT 2 [] ?_;refine nK hK ?_;clear hK K
  refine aw_ret ?_
  refine xb_r ?_
  refine xt_r ?_
  refine retM (v':=V.tup [V.i 0,V.i 10]) [] [(4,V.i 0),(5,V.i 10)] (.inr rfl) (.cons kR (.cons kR .nil)) (.cons ⟨Ob.box 123 [V.b true,V.i (Rc.n0 r),V.i (Rc.n1 r),V.i (Rc.n2 r),V.i (Rc.n3 r),V.i (Rc.k0 r),V.i (Rc.k1 r),V.i (Rc.k2 r),V.i (Rc.k3 r),V.i (Rc.seed r),V.i (Rc.soft r),V.i (Rc.hard r),V.i (Rc.mo r),V.i (Rc.st r),V.own 501,V.own 502,V.own 503,V.own 504],kR,.box kR⟩ (.cons ⟨Ob.row 131 1 n (rowX (505:Nat) k x),kR,.row kR (fun _ _=>rfl)⟩ (.cons ⟨Ob.row 55 4 m fun(i:Nat)=>Tk4.c (tk i),kR,.row kR (fun _ _=>rfl)⟩ (.cons ⟨Ob.row 149 2 q (flC g),kR,.row kR (fun _ _=>rfl)⟩ (.cons ⟨Ob.row 40 13 l fun(x:Nat)=>List.replicate (13:Nat) V.any,kR,.row kR (fun _ _=>rfl)⟩ (.cons ⟨Ob.box 134 [V.i (↑(Pl.kind z):Int),V.i (Pl.par z),V.i (Pl.cut z),V.i (Pl.area z),V.i (Pl.thick z),V.i (Pl.grown z),V.b (Pl.ret z),V.own 506],kR,.box kR⟩ (.cons ⟨Ob.mp (false,Pl.cnt z)   (MF.mk [] fun(k:MK)=>     match k with     |MK.i n=>if Pl.fl z n=true then some (Value.agg #[])else none     |MK.s b=>none),kR,.mp (fun _=>rfl)⟩ .nil))))))) kR kR kR kR kR kR kR
 ·
  rw [hz]at c2;cases c2
set_option maxRecDepth 100000 in
theorem retireR_am(r:Rc)(n k:Nat)(x:Nat→Value)(m:Nat)(tk:Nat→Tk4)(q:Nat)(g:Nat→Int×Int)(l:Nat)(z:Pl)(a:Act)(ha:a.plate=k)(hk:k< n)(hz:z.ret=true)(hn:n≤1000):AM Tryz.prog 56 [.ref 500 0,a.v] (ins7 r n k x m tk q (flC g) l z) (.tup [.i 0,.i 10]) (out7 r n k x m tk q (flC g) l z) []:=by
 refine am_intro hTT hMX (fn:=Tryz.f56) (N:=_) ⟨Tryz.func56,rfl,Tryz.ntmps56,kR⟩ (by simp) rfl (by simp) (by simp) fun C hF=> ?_
 refine sK fun K hK=>wR 2 ?_;refine aY hTT 3 [] ?_;refine nK hK ?_;clear hK K;refine sK fun K hK=>wR 3 ?_;refine aY hTT 3 [] ?_
 refine aops_callR [500,501,502,503,504,505,506] (first:=[]) (caps:=[]) (ins':=[Ob.box 123 [V.b true,V.i (Rc.n0 r),V.i (Rc.n1 r),V.i (Rc.n2 r),V.i (Rc.n3 r),V.i (Rc.k0 r),V.i (Rc.k1 r),V.i (Rc.k2 r),V.i (Rc.k3 r),V.i (Rc.seed r),V.i (Rc.soft r),V.i (Rc.hard r),V.i (Rc.mo r),V.i (Rc.st r),V.own 501,V.own 502,V.own 503,V.own 504],Ob.row 131 1 n (rowX (505:Nat) k x),Ob.row 55 4 m fun(i:Nat)=>Tk4.c (tk i),Ob.row 149 2 q (flC g),Ob.row 40 13 l fun(x:Nat)=>List.replicate (13:Nat) V.any,Ob.box 134 [V.i (↑(Pl.kind z):Int),V.i (Pl.par z),V.i (Pl.cut z),V.i (Pl.area z),V.i (Pl.thick z),V.i (Pl.grown z),V.b (Pl.ret z),V.own 506],Ob.mp (false,Pl.cnt z)   (MF.mk [] fun(k:MK)=>     match k with     |MK.i n=>if Pl.fl z n=true then some (Value.agg #[])else none     |MK.s b=>none)]) (v':=V.ref 505 0) (δ:=[]) (kp:=[500,501,502,503,504,505,506]) (getX_am r n k x m tk q g l z a.plate ha hk hn) kR kR kR kR kR kR kR rfl kR kR ⟨kR,⟨(fun _ _=>rfl),⟨(fun _ _=>rfl),⟨(fun _ _=>rfl),⟨(fun _ _=>rfl),⟨kR,⟨?_,tI⟩⟩⟩⟩⟩⟩⟩ kR kR kR ?_
 ·
  exact setF_inN
 refine aY hTT 1 [] ?_;refine nK hK ?_;clear hK K;refine sK fun K hK=>sK fun K hK=>wR 4 ?_;refine aY hTT 2 [] ?_;refine nK hK ?_;clear hK K;refine w_false (t:=false) kR rfl ?_
 refine aw_skip ?_
 refine xt_n (hK _ ?_);clear hK K;refine sK fun K hK=>sK fun K hK=>wR 5 ?_;refine aY hTT 5 [(4,.c ((6:Nat)≤(8:Nat)) oM)] ?_;refine nK hK ?_;clear hK K
 refine w_cond (t:=Pl.ret z) kR (fun c2=> ?_) (fun c2=> ?_)
 ·
  refine sK fun K hK=> ?_
  refine wR 6 ?_;refine aY hTT 2 [] ?_;refine nK hK ?_;clear hK K
  refine aw_ret ?_
  refine xt_r ?_
  refine retM (v':=V.tup [V.i 0,V.i 10]) [] [(4,V.i 0),(5,V.i 10)] (.inr rfl) (.cons kR (.cons kR .nil)) (.cons ⟨Ob.box 123 [V.b true,V.i (Rc.n0 r),V.i (Rc.n1 r),V.i (Rc.n2 r),V.i (Rc.n3 r),V.i (Rc.k0 r),V.i (Rc.k1 r),V.i (Rc.k2 r),V.i (Rc.k3 r),V.i (Rc.seed r),V.i (Rc.soft r),V.i (Rc.hard r),V.i (Rc.mo r),V.i (Rc.st r),V.own 501,V.own 502,V.own 503,V.own 504],kR,.box kR⟩ (.cons ⟨Ob.row 131 1 n (rowX (505:Nat) k x),kR,.row kR (fun _ _=>rfl)⟩ (.cons ⟨Ob.row 55 4 m fun(i:Nat)=>Tk4.c (tk i),kR,.row kR (fun _ _=>rfl)⟩ (.cons ⟨Ob.row 149 2 q (flC g),kR,.row kR (fun _ _=>rfl)⟩ (.cons ⟨Ob.row 40 13 l fun(x:Nat)=>List.replicate (13:Nat) V.any,kR,.row kR (fun _ _=>rfl)⟩ (.cons ⟨Ob.box 134 [V.i (↑(Pl.kind z):Int),V.i (Pl.par z),V.i (Pl.cut z),V.i (Pl.area z),V.i (Pl.thick z),V.i (Pl.grown z),V.b (Pl.ret z),V.own 506],kR,.box kR⟩ (.cons ⟨Ob.mp (false,Pl.cnt z)   (MF.mk [] fun(k:MK)=>     match k with     |MK.i n=>if Pl.fl z n=true then some (Value.agg #[])else none     |MK.s b=>none),kR,.mp (fun _=>rfl)⟩ .nil))))))) kR kR kR kR kR kR kR
 ·
  rw [hz]at c2;cases c2
set_option maxRecDepth 100000 in
theorem mendF_am(r:Rc)(n k:Nat)(x:Nat→Value)(m:Nat)(tk:Nat→Tk4)(q:Nat)(g:Nat→Int×Int)(l:Nat)(z:Pl)(a:Act)(ha:a.plate=k)(hk:k< n)(hq:q≤64)(hf:¬(0≤a.flaw∧a.flaw< q))(hn:n≤1000):AM Tryz.prog 55 [.ref 500 0,a.v] (ins7 r n k x m tk q (flC g) l z) (.tup [.i 0,.i 5]) (out7 r n k x m tk q (flC g) l z) []:=by
 refine am_intro hTT hMX (fn:=Tryz.f55) (N:=_) ⟨Tryz.func55,rfl,Tryz.ntmps55,kR⟩ (by simp) rfl (by simp) (by simp) fun C hF=> ?_
 refine sK fun K hK=>wR 2 ?_;refine aY hTT 3 [] ?_;refine nK hK ?_;clear hK K;refine sK fun K hK=>wR 3 ?_;refine aY hTT 3 [] ?_
 refine aops_callR [500,501,502,503,504,505,506] (first:=[]) (caps:=[]) (ins':=[Ob.box 123 [V.b true,V.i (Rc.n0 r),V.i (Rc.n1 r),V.i (Rc.n2 r),V.i (Rc.n3 r),V.i (Rc.k0 r),V.i (Rc.k1 r),V.i (Rc.k2 r),V.i (Rc.k3 r),V.i (Rc.seed r),V.i (Rc.soft r),V.i (Rc.hard r),V.i (Rc.mo r),V.i (Rc.st r),V.own 501,V.own 502,V.own 503,V.own 504],Ob.row 131 1 n (rowX (505:Nat) k x),Ob.row 55 4 m fun(i:Nat)=>Tk4.c (tk i),Ob.row 149 2 q (flC g),Ob.row 40 13 l fun(x:Nat)=>List.replicate (13:Nat) V.any,Ob.box 134 [V.i (↑(Pl.kind z):Int),V.i (Pl.par z),V.i (Pl.cut z),V.i (Pl.area z),V.i (Pl.thick z),V.i (Pl.grown z),V.b (Pl.ret z),V.own 506],Ob.mp (false,Pl.cnt z)   (MF.mk [] fun(k:MK)=>     match k with     |MK.i n=>if Pl.fl z n=true then some (Value.agg #[])else none     |MK.s b=>none)]) (v':=V.ref 505 0) (δ:=[]) (kp:=[500,501,502,503,504,505,506]) (getX_am r n k x m tk q g l z a.plate ha hk hn) kR kR kR kR kR kR kR rfl kR kR ⟨kR,⟨(fun _ _=>rfl),⟨(fun _ _=>rfl),⟨(fun _ _=>rfl),⟨(fun _ _=>rfl),⟨kR,⟨?_,tI⟩⟩⟩⟩⟩⟩⟩ kR kR kR ?_
 ·
  exact setF_inN
 refine aY hTT 1 [] ?_;refine nK hK ?_;clear hK K;refine sK fun K hK=>sK fun K hK=>wD 4 ?_;refine aY hTT 17 [(13,.g (decide (Act.flaw a< 0) == false) ((16:Nat)≤(18:Nat)) (by(intro _;simp;done)))] ?_;refine aops_nil ⟨kR,(xt_n (hK _ ?_))⟩;clear hK K
 refine w_cond (t:=decide (Act.flaw a< 0) || decide ((↑q:Int)≤Act.flaw a)) kR (fun c1=> ?_) (fun c1=> ?_)
 ·
  refine sK fun K hK=> ?_
  refine wR 5 ?_;refine aY hTT 2 [] ?_;refine nK hK ?_;clear hK K
  refine aw_ret ?_
  refine xt_r ?_
  refine retM (v':=V.tup [V.i 0,V.i 5]) [] [(4,V.i 0),(5,V.i 5)] (.inr rfl) (.cons kR (.cons kR .nil)) (.cons ⟨Ob.box 123 [V.b true,V.i (Rc.n0 r),V.i (Rc.n1 r),V.i (Rc.n2 r),V.i (Rc.n3 r),V.i (Rc.k0 r),V.i (Rc.k1 r),V.i (Rc.k2 r),V.i (Rc.k3 r),V.i (Rc.seed r),V.i (Rc.soft r),V.i (Rc.hard r),V.i (Rc.mo r),V.i (Rc.st r),V.own 501,V.own 502,V.own 503,V.own 504],kR,.box kR⟩ (.cons ⟨Ob.row 131 1 n (rowX (505:Nat) k x),kR,.row kR (fun _ _=>rfl)⟩ (.cons ⟨Ob.row 55 4 m fun(i:Nat)=>Tk4.c (tk i),kR,.row kR (fun _ _=>rfl)⟩ (.cons ⟨Ob.row 149 2 q (flC g),kR,.row kR (fun _ _=>rfl)⟩ (.cons ⟨Ob.row 40 13 l fun(x:Nat)=>List.replicate (13:Nat) V.any,kR,.row kR (fun _ _=>rfl)⟩ (.cons ⟨Ob.box 134 [V.i (↑(Pl.kind z):Int),V.i (Pl.par z),V.i (Pl.cut z),V.i (Pl.area z),V.i (Pl.thick z),V.i (Pl.grown z),V.b (Pl.ret z),V.own 506],kR,.box kR⟩ (.cons ⟨Ob.mp (false,Pl.cnt z)   (MF.mk [] fun(k:MK)=>     match k with     |MK.i n=>if Pl.fl z n=true then some (Value.agg #[])else none     |MK.s b=>none),kR,.mp (fun _=>rfl)⟩ .nil))))))) kR kR kR kR kR kR kR
 ·
  simp at c1;omega
set_option maxRecDepth 100000 in
theorem mendR_am(r:Rc)(n k:Nat)(x:Nat→Value)(m:Nat)(tk:Nat→Tk4)(q:Nat)(g:Nat→Int×Int)(l:Nat)(z:Pl)(a:Act)(ha:a.plate=k)(hk:k< n)(hq:q≤64)(hf:0≤a.flaw∧a.flaw< q)(hz:z.ret=true)(hn:n≤1000):AM Tryz.prog 55 [.ref 500 0,a.v] (ins7 r n k x m tk q (flC g) l z) (.tup [.i 0,.i 10]) (out7 r n k x m tk q (flC g) l z) []:=by
 refine am_intro hTT hMX (fn:=Tryz.f55) (N:=_) ⟨Tryz.func55,rfl,Tryz.ntmps55,kR⟩ (by simp) rfl (by simp) (by simp) fun C hF=> ?_
 refine sK fun K hK=>wR 2 ?_;refine aY hTT 3 [] ?_;refine nK hK ?_;clear hK K;refine sK fun K hK=>wR 3 ?_;refine aY hTT 3 [] ?_
 refine aops_callR [500,501,502,503,504,505,506] (first:=[]) (caps:=[]) (ins':=[Ob.box 123 [V.b true,V.i (Rc.n0 r),V.i (Rc.n1 r),V.i (Rc.n2 r),V.i (Rc.n3 r),V.i (Rc.k0 r),V.i (Rc.k1 r),V.i (Rc.k2 r),V.i (Rc.k3 r),V.i (Rc.seed r),V.i (Rc.soft r),V.i (Rc.hard r),V.i (Rc.mo r),V.i (Rc.st r),V.own 501,V.own 502,V.own 503,V.own 504],Ob.row 131 1 n (rowX (505:Nat) k x),Ob.row 55 4 m fun(i:Nat)=>Tk4.c (tk i),Ob.row 149 2 q (flC g),Ob.row 40 13 l fun(x:Nat)=>List.replicate (13:Nat) V.any,Ob.box 134 [V.i (↑(Pl.kind z):Int),V.i (Pl.par z),V.i (Pl.cut z),V.i (Pl.area z),V.i (Pl.thick z),V.i (Pl.grown z),V.b (Pl.ret z),V.own 506],Ob.mp (false,Pl.cnt z)   (MF.mk [] fun(k:MK)=>     match k with     |MK.i n=>if Pl.fl z n=true then some (Value.agg #[])else none     |MK.s b=>none)]) (v':=V.ref 505 0) (δ:=[]) (kp:=[500,501,502,503,504,505,506]) (getX_am r n k x m tk q g l z a.plate ha hk hn) kR kR kR kR kR kR kR rfl kR kR ⟨kR,⟨(fun _ _=>rfl),⟨(fun _ _=>rfl),⟨(fun _ _=>rfl),⟨(fun _ _=>rfl),⟨kR,⟨?_,tI⟩⟩⟩⟩⟩⟩⟩ kR kR kR ?_
 ·
  exact setF_inN
 refine aY hTT 1 [] ?_;refine nK hK ?_;clear hK K;refine sK fun K hK=>sK fun K hK=>wD 4 ?_;refine aY hTT 17 [(13,.g (decide (Act.flaw a< 0) == false) ((16:Nat)≤(18:Nat)) (by(intro _;simp;done)))] ?_;refine aops_nil ⟨kR,(xt_n (hK _ ?_))⟩;clear hK K
 refine w_cond (t:=decide (Act.flaw a< 0) || decide ((↑q:Int)≤Act.flaw a)) kR (fun c1=> ?_) (fun c1=> ?_)
 ·
  simp at c1;omega
 refine aw_skip ?_
 refine xt_n (hK _ ?_);clear hK K;refine sK fun K hK=>sK fun K hK=>wR 5 ?_;refine aY hTT 5 [(4,.c ((6:Nat)≤(8:Nat)) oM)] ?_;refine nK hK ?_;clear hK K
 refine w_cond (t:=Pl.ret z) kR (fun c2=> ?_) (fun c2=> ?_)
 ·
  refine sK fun K hK=> ?_
  refine wR 6 ?_;refine aY hTT 2 [] ?_;refine nK hK ?_;clear hK K
  refine aw_ret ?_
  refine xt_r ?_
  refine retM (v':=V.tup [V.i 0,V.i 10]) [] [(4,V.i 0),(5,V.i 10)] (.inr rfl) (.cons kR (.cons kR .nil)) (.cons ⟨Ob.box 123 [V.b true,V.i (Rc.n0 r),V.i (Rc.n1 r),V.i (Rc.n2 r),V.i (Rc.n3 r),V.i (Rc.k0 r),V.i (Rc.k1 r),V.i (Rc.k2 r),V.i (Rc.k3 r),V.i (Rc.seed r),V.i (Rc.soft r),V.i (Rc.hard r),V.i (Rc.mo r),V.i (Rc.st r),V.own 501,V.own 502,V.own 503,V.own 504],kR,.box kR⟩ (.cons ⟨Ob.row 131 1 n (rowX (505:Nat) k x),kR,.row kR (fun _ _=>rfl)⟩ (.cons ⟨Ob.row 55 4 m fun(i:Nat)=>Tk4.c (tk i),kR,.row kR (fun _ _=>rfl)⟩ (.cons ⟨Ob.row 149 2 q (flC g),kR,.row kR (fun _ _=>rfl)⟩ (.cons ⟨Ob.row 40 13 l fun(x:Nat)=>List.replicate (13:Nat) V.any,kR,.row kR (fun _ _=>rfl)⟩ (.cons ⟨Ob.box 134 [V.i (↑(Pl.kind z):Int),V.i (Pl.par z),V.i (Pl.cut z),V.i (Pl.area z),V.i (Pl.thick z),V.i (Pl.grown z),V.b (Pl.ret z),V.own 506],kR,.box kR⟩ (.cons ⟨Ob.mp (false,Pl.cnt z)   (MF.mk [] fun(k:MK)=>     match k with     |MK.i n=>if Pl.fl z n=true then some (Value.agg #[])else none     |MK.s b=>none),kR,.mp (fun _=>rfl)⟩ .nil))))))) kR kR kR kR kR kR kR
 ·
  rw [hz]at c2;cases c2
abbrev qSH60:Prop:=(6:Nat)≤(8:Nat)
theorem qSH60_:qSH60:=oM
set_option maxHeartbeats 4000000 in
set_option maxRecDepth 100000 in
theorem mendL_am(r:Rc)(n k:Nat)(x:Nat→Value)(m:Nat)(tk:Nat→Tk4)(q:Nat)(g:Nat→Int×Int)(l:Nat)(z:Pl)(a:Act)(ha:a.plate=k)(hk:k< n)(hq:q≤64)(hf:0≤a.flaw∧a.flaw< q)(hz:z.ret=false)(hb:z.fl a.flaw=false)(hn:n≤1000):AM Tryz.prog 55 [.ref 500 0,a.v] (ins7 r n k x m tk q (flC g) l z) (.tup [.i 0,.i 19]) (out7 r n k x m tk q (flC g) l z) []:=by
 refine am_intro hTT hMX (fn:=Tryz.f55) (N:=_) ⟨Tryz.func55,rfl,Tryz.ntmps55,kR⟩ (by simp) rfl (by simp) (by simp) fun C hF=> ?_
 refine sX hTT 2 3 [] tI (sK fun K hK=>wR 3 (aX hTT 3 [] tI ?_))
 refine aops_callR [500,501,502,503,504,505,506] (first:=[]) (caps:=[]) (ins':=[Ob.box 123 [V.b true,V.i (Rc.n0 r),V.i (Rc.n1 r),V.i (Rc.n2 r),V.i (Rc.n3 r),V.i (Rc.k0 r),V.i (Rc.k1 r),V.i (Rc.k2 r),V.i (Rc.k3 r),V.i (Rc.seed r),V.i (Rc.soft r),V.i (Rc.hard r),V.i (Rc.mo r),V.i (Rc.st r),V.own 501,V.own 502,V.own 503,V.own 504],Ob.row 131 1 n (rowX (505:Nat) k x),Ob.row 55 4 m fun(i:Nat)=>Tk4.c (tk i),Ob.row 149 2 q (flC g),Ob.row 40 13 l fun(x:Nat)=>List.replicate (13:Nat) V.any,Ob.box 134 [V.i (↑(Pl.kind z):Int),V.i (Pl.par z),V.i (Pl.cut z),V.i (Pl.area z),V.i (Pl.thick z),V.i (Pl.grown z),V.b (Pl.ret z),V.own 506],Ob.mp (false,Pl.cnt z)   (MF.mk [] fun(k:MK)=>     match k with     |MK.i n=>if Pl.fl z n=true then some (Value.agg #[])else none     |MK.s b=>none)]) (v':=V.ref 505 0) (δ:=[]) (kp:=[500,501,502,503,504,505,506]) (getX_am r n k x m tk q g l z a.plate ha hk hn) kR kR kR kR kR kR kR rfl kR kR ⟨kR,⟨(fun _ _=>rfl),⟨(fun _ _=>rfl),⟨(fun _ _=>rfl),⟨(fun _ _=>rfl),⟨kR,⟨?_,tI⟩⟩⟩⟩⟩⟩⟩ kR kR kR ?_
 ·
  exact setF_inN
 refine aX hTT 1 [] tI (nK hK ?_);clear hK K;refine sK fun K hK=>sK fun K hK=>wD 4 ?_;refine aX hTT 17 [(3,.c (gA (false == false) True)),(4,.c (gB (false == false) True)),(5,.c (gD (false == false) True)),(6,.c (True∧(false=false→(false == false)=true))),(8,.c (gA (decide (Act.flaw a< 0) == false) True)),(9,.c (gB (decide (Act.flaw a< 0) == false) True)),(10,.c (gA (decide (Act.flaw a< 0) == false) True)),(11,.c (gB (decide (Act.flaw a< 0) == false) True)),(12,.c (gB (decide (Act.flaw a< 0) == false) True)),(13,.c (gB (decide (Act.flaw a< 0) == false) ((16:Nat)≤(18:Nat)))),(14,.c (gB (decide (Act.flaw a< 0) == false) True)),(15,.c (gC (decide (Act.flaw a< 0) == false) True)),(16,.c (True∧(decide (Act.flaw a< 0)=false→(decide (Act.flaw a< 0) == false)=true)))] ⟨⟨⟨tI,tI⟩,(fun _=>tI)⟩,⟨⟨(by(exact fun h=>h)),tI⟩,(fun _=>tI)⟩,⟨⟨(by(exact fun h=>h)),⟨tI,tI⟩⟩,(fun _=>tI)⟩,⟨tI,(by(intro h;rw [h];rfl))⟩,⟨⟨tI,tI⟩,(fun _=>tI)⟩,⟨⟨(by(exact fun h=>h)),tI⟩,(fun _=>tI)⟩,⟨⟨tI,tI⟩,(fun _=>tI)⟩,⟨⟨(by(exact fun h=>h)),tI⟩,(fun _=>tI)⟩,⟨⟨(by(exact fun h=>h)),tI⟩,(fun _=>tI)⟩,⟨⟨(by(exact fun h=>h)),tI⟩,(by(intro _;simp;done))⟩,⟨⟨(by(exact fun h=>h)),tI⟩,(fun _=>tI)⟩,⟨⟨(by(exact fun h=>h)),⟨(by(exact fun h=>h)),tI⟩⟩,(fun _=>tI)⟩,⟨tI,(by(intro h;rw [h];rfl))⟩,tI⟩ ?_;refine aops_nil ⟨kR,(xt_n (hK _ ?_))⟩;clear hK K
 refine w_cond (t:=decide (Act.flaw a< 0) || decide ((↑q:Int)≤Act.flaw a)) kR (fun c1=> ?_) (fun c1=> ?_)
 ·
  simp at c1;omega
 refine aw_skip ?_
 refine xt_n (hK _ ?_);clear hK K;refine sK fun K hK=>sX hTT 5 5 [(4,.c qSH60)] ⟨qSH60_,tI⟩ ?_
 refine w_cond (t:=Pl.ret z) kR (fun c2=> ?_) (fun c2=> ?_)
 ·
  rw [hz]at c2;cases c2
 refine aw_skip ?_
 refine xt_n (hK _ ?_);clear hK K;refine sK fun K hK=>sK fun K hK=>wD 6 ?_
 refine aops_n hTT (M:=[]) (n:=11) [pv 36 (V.ref 505 0),pv 37 (V.ref 505 0),pv 38 (V.ref 505 7),pc 39 ((7:Nat)≤(8:Nat)) (V.own 506),pv 40 (V.ptr [V.i (Act.flaw a)]),pv 41 (V.i (Act.flaw a)),pv 42 (V.tup [mget (setF (Pl.fl z)) (MK.i (Act.flaw a)) (V.agg []),V.b (mhas (setF (Pl.fl z)) (MK.i (Act.flaw a)))]),pv 35 (V.tup [mget (setF (Pl.fl z)) (MK.i (Act.flaw a)) (V.agg []),V.b (mhas (setF (Pl.fl z)) (MK.i (Act.flaw a)))]),pv 43 (mget (setF (Pl.fl z)) (MK.i (Act.flaw a)) (V.agg [])),pv 44 (V.b (mhas (setF (Pl.fl z)) (MK.i (Act.flaw a)))),pn 7 (V.ref 500007 0) (500007:Nat) (Ob.box 157 [])] kR kR ⟨oM,tI⟩ ?_
 refine aops_step rfl (as_storeE 157 (.tmp 7) (.tmp 43) (id:=500007) (o:=0) (t':=157) (cs:=[]) ?hx ?hy (hTT.size rfl) (Nat.le_refl _)) ?hp ?hn ?_
 case hx=>kernel_rfl
 case hy=>exact mget_setF z.fl a.flaw
 case hp=>intro p hp;cases List.mem_singleton.1 hp;kernel_rfl
 case hn=>intro _ h;cases h
 rw [mhas_setF,hb]
 refine aX hTT 1 [] tI (aops_nil ⟨kR,(xt_n (hK _ ?_))⟩);clear hK K;refine sX hTT 7 2 [] tI (w_true (t:=true) kR rfl (sX hTT 8 2 [] tI ?_))
 refine aw_ret ?_
 refine xt_r ?_
 refine retM (v':=V.tup [V.i 0,V.i 19]) [] [(4,V.i 0),(5,V.i 19)] (.inr rfl) (.cons kR (.cons kR .nil)) (.cons ⟨Ob.box 123 [V.b true,V.i (Rc.n0 r),V.i (Rc.n1 r),V.i (Rc.n2 r),V.i (Rc.n3 r),V.i (Rc.k0 r),V.i (Rc.k1 r),V.i (Rc.k2 r),V.i (Rc.k3 r),V.i (Rc.seed r),V.i (Rc.soft r),V.i (Rc.hard r),V.i (Rc.mo r),V.i (Rc.st r),V.own 501,V.own 502,V.own 503,V.own 504],kR,.box kR⟩ (.cons ⟨Ob.row 131 1 n (rowX (505:Nat) k x),kR,.row kR (fun _ _=>rfl)⟩ (.cons ⟨Ob.row 55 4 m fun(i:Nat)=>Tk4.c (tk i),kR,.row kR (fun _ _=>rfl)⟩ (.cons ⟨Ob.row 149 2 q (flC g),kR,.row kR (fun _ _=>rfl)⟩ (.cons ⟨Ob.row 40 13 l fun(x:Nat)=>List.replicate (13:Nat) V.any,kR,.row kR (fun _ _=>rfl)⟩ (.cons ⟨Ob.box 134 [V.i (↑(Pl.kind z):Int),V.i (Pl.par z),V.i (Pl.cut z),V.i (Pl.area z),V.i (Pl.thick z),V.i (Pl.grown z),V.b (Pl.ret z),V.own 506],kR,.box kR⟩ (.cons ⟨Ob.mp (false,Pl.cnt z)   (MF.mk [] fun(k:MK)=>     match k with     |MK.i n=>if Pl.fl z n=true then some (Value.agg #[])else none     |MK.s b=>none),kR,.mp (fun _=>rfl)⟩ .nil))))))) kR kR kR kR kR kR kR
end Go.Proofs.YtjmbpjlojjgggaaGreatDoor

namespace Go.Proofs.YtjmbpjlojjgggaaGreatDoor
open Go.Ab Go.RowKit Go.Dw Go.Shelf
abbrev pre7(r:Rc)(n k:Nat)(x:Nat→Value)(m:Nat)(tk:Nat→Tk4)(q:Nat)(g:Nat→Int×Int)(l:Nat)(z:Pl):List (Nat×Ob):=
 [(500,.box 123 (shC r (.own 501) (.own 502) (.own 503) (.own 504))),(501,.row 131 1 n (rowX 505 k x)),(502,.row 55 4 m (fun i=>(tk i).c)),(505,.box 134 (z.c++[.own 506]))]
theorem fz7{r:Rc}{n k:Nat}{x:Nat→Value}{m:Nat}{tk:Nat→Tk4}{q:Nat}{g:Nat→Int×Int}{l:Nat}{z:Pl} :
  Fz (preF (pre7 r n k x m tk q g l z)) (.ref 500 0) (fshop r n (frow k (.ptr (z.c++[.any])) x) m tk .any .any):=by
 refine Fz.refs (t:=123) (cs:=shC r (.own 501) (.own 502) (.own 503) (.own 504)) rfl ?_
 refine FzL.append (FzL.idf (l:= .b true::r.c) rfl) ⟨Fz.rows (e:=131) (sz:=1) (r:=rowX 505 k x) rfl fun i _=>⟨.alt _ _ _ _ _ ?_ (.any _),trivial⟩,Fz.rows (e:=55) (sz:=4) (r:=fun i=>(tk i).c) rfl fun i _=>FzL.idf rfl,.any _,.any _,trivial⟩
 exact Fz.refs (t:=134) (cs:=z.c++[.own 506]) rfl (FzL.append (FzL.idf (l:=z.c) rfl) ⟨.any _,trivial⟩)
abbrev pre5(r:Rc)(n:Nat)(x:Nat→Value)(m:Nat)(tk:Nat→Tk4):List (Nat×Ob):=
 [(500,.box 123 (shC r (.own 501) (.own 502) (.own 503) (.own 504))),(501,.row 131 1 n (rowC x)),(502,.row 55 4 m (fun i=>(tk i).c))]
theorem fz5{r:Rc}{n:Nat}{x:Nat→Value}{m:Nat}{tk:Nat→Tk4} :
  Fz (preF (pre5 r n x m tk)) (.ref 500 0) (fshop r n (rowC x) m tk .any .any):=by
 refine Fz.refs (t:=123) (cs:=shC r (.own 501) (.own 502) (.own 503) (.own 504)) rfl ?_
 exact FzL.append (FzL.idf (l:= .b true::r.c) rfl) ⟨Fz.rows (e:=131) (sz:=1) (r:=rowC x) rfl fun i _=>FzL.idf rfl,Fz.rows (e:=55) (sz:=4) (r:=fun i=>(tk i).c) rfl fun i _=>FzL.idf rfl,.any _,.any _,trivial⟩
set_option maxRecDepth 100000 in
theorem hereN_ac(r:Rc)(n:Nat)(c:Nat→List V)(m:Nat)(tk:Nat→Tk4)(fl ac:V)(a:Act)(ha:¬(0≤a.plate∧a.plate< n))(hn:n≤1000000)(hm:m≤1000000) :
  AC Tryz.prog 105 [fshop r n c m tk fl ac,a.v] (.i 5) []:=by
 refine acI hTT hMX Tryz.func105 Tryz.ntmps105 fun C hC hF=> ?_
 refine sK fun K hK=>wR 2 ?_;refine aY hTT 2 [] ?_;refine nK hK ?_;clear hK K;refine sK fun K hK=>wR 3 ?_;refine aY hTT 3 [] ?_
 refine eC (getN_ac r n c (.sl 4 m fun i=>(tk i).c) fl ac a.plate ha hn) ?_
 refine aY hTT 1 [] ?_;refine nK hK ?_;clear hK K;refine sK fun K hK=> ?_
 refine aw_block ?_
 refine sK fun K hK=>wD 4 ?_;refine aX hTT 18 [(3,.c (gA (true == false) True)),(4,.c (gB (true == false) True)),(5,.c (gD (true == false) True)),(6,.c (True∧(true=false→(true == false)=true))),(8,.c (gA (true == false) True)),(9,.c (gB (true == false) True)),(10,.c (gA (true == false) True)),(11,.c (gB (true == false) True)),(12,.c (gB (true == false) True)),(13,.c (gB (true == false) True)),(14,.c (gB (true == false) True)),(15,.c (gC (true == false) True)),(16,.c (True∧(true=false→(true == false)=true)))] ⟨⟨⟨tI,tI⟩,(fun _=>tI)⟩,⟨⟨(by(exact fun h=>h)),tI⟩,(fun _=>tI)⟩,⟨⟨(by(exact fun h=>h)),⟨tI,tI⟩⟩,(fun _=>tI)⟩,⟨tI,(by(intro h;simp at h;done))⟩,⟨⟨tI,tI⟩,(fun _=>tI)⟩,⟨⟨(by(exact fun h=>h)),tI⟩,(fun _=>tI)⟩,⟨⟨tI,tI⟩,(fun _=>tI)⟩,⟨⟨(by(exact fun h=>h)),tI⟩,(fun _=>tI)⟩,⟨⟨(by(exact fun h=>h)),tI⟩,(fun _=>tI)⟩,⟨⟨(by(exact fun h=>h)),tI⟩,(fun _=>tI)⟩,⟨⟨(by(exact fun h=>h)),tI⟩,(fun _=>tI)⟩,⟨⟨(by(exact fun h=>h)),⟨(by(exact fun h=>h)),tI⟩⟩,(fun _=>tI)⟩,⟨tI,(by(intro h;simp at h;done))⟩,tI⟩ ?_;refine aops_nil ⟨kR,(xt_n (hK _ ?_))⟩;clear hK K;refine w_true (t:=true) kR rfl (sK fun K hK=>wR 5 ?_);refine aY hTT 1 [] ?_;refine nK hK ?_;clear hK K
 refine aw_ret ?_
 refine xb_r ?_
 refine xt_r ?_
 refine rP (V.i 5)
set_option maxRecDepth 100000 in
theorem hereB_ac(r:Rc)(n:Nat)(x:Nat→Value)(p:Pl)(pf:V)(hf:pf.idf=true)(m:Nat)(tk:Nat→Tk4)(fl ac:V)(a:Act)(k:Nat)(hk:a.plate=k)(hkn:k< n)(hn:n≤1000000)(hb:¬(0≤a.bath∧a.bath< m))(hm:m≤1000000) :
  AC Tryz.prog 105 [fshop r n (frow k (.ptr (p.c++[pf])) x) m tk fl ac,a.v] (.i 5) []:=by
 refine acI hTT hMX Tryz.func105 Tryz.ntmps105 fun C hC hF=> ?_
 refine sK fun K hK=>wR 2 ?_;refine aY hTT 2 [] ?_;refine nK hK ?_;clear hK K;refine sK fun K hK=>wR 3 ?_;refine aY hTT 3 [] ?_
 refine eC (AC.conv (getF_ac r n x (.sl 4 m fun i=>(tk i).c) fl ac (p.c++[pf]) (by simp [Pl.c,V.idfL,V.idf,hf]) k hkn hn) (args':=[V.ptr [V.b true,V.i (Rc.n0 r),V.i (Rc.n1 r),V.i (Rc.n2 r),V.i (Rc.n3 r),V.i (Rc.k0 r),V.i (Rc.k1 r),V.i (Rc.k2 r),V.i (Rc.k3 r),V.i (Rc.seed r),V.i (Rc.soft r),V.i (Rc.hard r),V.i (Rc.mo r),V.i (Rc.st r),V.sl 1 n (frow k (V.ptr [V.i (↑(Pl.kind p):Int),V.i (Pl.par p),V.i (Pl.cut p),V.i (Pl.area p),V.i (Pl.thick p),V.i (Pl.grown p),V.b (Pl.ret p),pf]) x),V.sl 4 m fun(i:Nat)=>Tk4.c (tk i),fl,ac],V.i (Act.plate a)]) ⟨RImp.refl _,?_,trivial⟩) ?_
 ·
  exact RImp.nat hk
 refine aY hTT 1 [] ?_;refine nK hK ?_;clear hK K;refine sK fun K hK=> ?_
 refine aw_block ?_
 refine sK fun K hK=>wD 4 ?_;refine aY hTT 18 [] ?_;refine aops_nil ⟨kR,(xt_n (hK _ ?_))⟩;clear hK K
 refine w_cond (t:=decide (Act.bath a< 0) || decide ((↑m:Int)≤Act.bath a)) kR (fun c1=> ?_) (fun c1=> ?_)
 ·
  refine sK fun K hK=> ?_
  refine wR 5 ?_;refine aY hTT 1 [] ?_;refine nK hK ?_;clear hK K
  refine aw_ret ?_
  refine xb_r ?_
  refine xt_r ?_
  refine rP (V.i 5)
 ·
  simp at c1;omega
set_option maxRecDepth 100000 in
theorem growN_am(r:Rc)(n:Nat)(x:Nat→Value)(m:Nat)(tk:Nat→Tk4)(q:Nat)(g:Nat→Int×Int)(l:Nat)(a:Act)(ha:¬(0≤a.plate∧a.plate< n))(hn:n≤1000)(hm:m≤8) :
  AM Tryz.prog 53 [.ref 500 0,a.v] (ins5 r n (rowC x) m tk q (flC g) l) (.tup [.i 0,.i 5]) ((ins5 r n (rowC x) m tk q (flC g) l).map some) []:=by
 refine am_intro hTT hMX (fn:=Tryz.f53) (N:=_) ⟨Tryz.func53,rfl,Tryz.ntmps53,kR⟩ (by simp) rfl (by simp) (by simp) fun C hF=> ?_
 refine sK fun K hK=>wR 2 ?_;refine aY hTT 3 [] ?_;refine nK hK ?_;clear hK K;refine sK fun K hK=>sK fun K hK=>wR 3 ?_;refine aY hTT 2 [] ?_
 refine aops_readF (pre5 r n x m tk) (hereN_ac r n (rowC x) m tk .any .any a ha oM oM) rfl rfl ⟨fz5,FzL.idf rfl⟩ rfl rfl rfl ?_ ?_
 ·
  exact⟨rfl,rfl,rfl,trivial⟩
 refine aY hTT 1 [] ?_;refine nK hK ?_;clear hK K;refine sK fun K hK=>wR 4 ?_;refine aY hTT 2 [] ?_;refine nK hK ?_;clear hK K;refine w_true (t:=true) kR rfl (sK fun K hK=>wR 5 ?_);refine aY hTT 3 [] ?_;refine nK hK ?_;clear hK K
 refine aw_ret ?_
 refine xt_r ?_
 refine retM (v':=V.tup [V.i 0,V.i 5]) [] [(4,V.i 0),(5,V.i 5)] (.inr rfl) (.cons kR (.cons kR .nil)) (.cons ⟨Ob.box 123 [V.b true,V.i (Rc.n0 r),V.i (Rc.n1 r),V.i (Rc.n2 r),V.i (Rc.n3 r),V.i (Rc.k0 r),V.i (Rc.k1 r),V.i (Rc.k2 r),V.i (Rc.k3 r),V.i (Rc.seed r),V.i (Rc.soft r),V.i (Rc.hard r),V.i (Rc.mo r),V.i (Rc.st r),V.own 501,V.own 502,V.own 503,V.own 504],kR,.box kR⟩ (.cons ⟨Ob.row 131 1 n (rowC x),kR,.row kR (fun _ _=>rfl)⟩ (.cons ⟨Ob.row 55 4 m fun(i:Nat)=>Tk4.c (tk i),kR,.row kR (fun _ _=>rfl)⟩ (.cons ⟨Ob.row 149 2 q (flC g),kR,.row kR (fun _ _=>rfl)⟩ (.cons ⟨Ob.row 40 13 l fun(x:Nat)=>List.replicate (13:Nat) V.any,kR,.row kR (fun _ _=>rfl)⟩ .nil))))) kR kR kR kR kR kR kR
set_option maxRecDepth 100000 in
theorem growE_am(r:Rc)(hr:r.ok)(n k:Nat)(x:Nat→Value)(m:Nat)(tk:Nat→Tk4)(q:Nat)(g:Nat→Int×Int)(l:Nat)(z:Pl)(hz:z.ok)(a:Act)(hg:a.gok)(ha:a.plate=k)(hk:k< n)(hn:n≤1000)(hb:0≤a.bath∧a.bath< m)(hm:m≤8)(he:hereE r n z a≠0) :
  AM Tryz.prog 53 [.ref 500 0,a.v] (ins7 r n k x m tk q (flC g) l z) (.tup [.i 0,.i (hereE r n z a)]) (out7 r n k x m tk q (flC g) l z) []:=by
 refine am_intro hTT hMX (fn:=Tryz.f53) (N:=_) ⟨Tryz.func53,rfl,Tryz.ntmps53,kR⟩ (by simp) rfl (by simp) (by simp) fun C hF=> ?_
 refine sK fun K hK=>wR 2 ?_;refine aY hTT 3 [] ?_;refine nK hK ?_;clear hK K;refine sK fun K hK=>sK fun K hK=>wR 3 ?_;refine aY hTT 2 [] ?_
 refine aops_readF (pre7 r n k x m tk q g l z) (here_ac r hr n x z hz .any rfl m tk .any .any a hg k ha hk oM hb oM) rfl rfl ⟨fz7,FzL.idf rfl⟩ rfl rfl rfl ?_ ?_
 ·
  exact⟨rfl,rfl,rfl,rfl,trivial⟩
 refine aY hTT 1 [] ?_;refine nK hK ?_;clear hK K;refine sK fun K hK=>wR 4 ?_;refine aY hTT 2 [] ?_;refine nK hK ?_;clear hK K
 refine w_cond (t:= !decide (hereE r n z a=0)) kR (fun c1=> ?_) (fun c1=> ?_)
 ·
  refine sK fun K hK=> ?_
  refine wR 5 ?_;refine aY hTT 3 [] ?_;refine nK hK ?_;clear hK K
  refine aw_ret ?_
  refine xt_r ?_
  refine retM (v':=V.tup [V.i 0,V.i (hereE r n z a)]) [] [(4,V.i 0),(5,V.i (hereE r n z a))] (.inr rfl) (.cons kR (.cons kR .nil)) (.cons ⟨Ob.box 123 [V.b true,V.i (Rc.n0 r),V.i (Rc.n1 r),V.i (Rc.n2 r),V.i (Rc.n3 r),V.i (Rc.k0 r),V.i (Rc.k1 r),V.i (Rc.k2 r),V.i (Rc.k3 r),V.i (Rc.seed r),V.i (Rc.soft r),V.i (Rc.hard r),V.i (Rc.mo r),V.i (Rc.st r),V.own 501,V.own 502,V.own 503,V.own 504],kR,.box kR⟩ (.cons ⟨Ob.row 131 1 n (rowX (505:Nat) k x),kR,.row kR (fun _ _=>rfl)⟩ (.cons ⟨Ob.row 55 4 m fun(i:Nat)=>Tk4.c (tk i),kR,.row kR (fun _ _=>rfl)⟩ (.cons ⟨Ob.row 149 2 q (flC g),kR,.row kR (fun _ _=>rfl)⟩ (.cons ⟨Ob.row 40 13 l fun(x:Nat)=>List.replicate (13:Nat) V.any,kR,.row kR (fun _ _=>rfl)⟩ (.cons ⟨Ob.box 134 [V.i (↑(Pl.kind z):Int),V.i (Pl.par z),V.i (Pl.cut z),V.i (Pl.area z),V.i (Pl.thick z),V.i (Pl.grown z),V.b (Pl.ret z),V.own 506],kR,.box kR⟩ (.cons ⟨Ob.mp (false,Pl.cnt z)   (MF.mk [] fun(k:MK)=>     match k with     |MK.i n=>if Pl.fl z n=true then some (Value.agg #[])else none     |MK.s b=>none),kR,.mp (fun _=>rfl)⟩ .nil))))))) kR kR kR kR kR kR kR
 ·
  simp at c1;exact absurd c1 he
set_option maxRecDepth 100000 in
theorem growB_am(r:Rc)(n k:Nat)(x:Nat→Value)(m:Nat)(tk:Nat→Tk4)(q:Nat)(g:Nat→Int×Int)(l:Nat)(z:Pl)(a:Act)(ha:a.plate=k)(hk:k< n)(hn:n≤1000)(hb:¬(0≤a.bath∧a.bath< m))(hm:m≤8) :
  AM Tryz.prog 53 [.ref 500 0,a.v] (ins7 r n k x m tk q (flC g) l z) (.tup [.i 0,.i 5]) (out7 r n k x m tk q (flC g) l z) []:=by
 refine am_intro hTT hMX (fn:=Tryz.f53) (N:=_) ⟨Tryz.func53,rfl,Tryz.ntmps53,kR⟩ (by simp) rfl (by simp) (by simp) fun C hF=> ?_
 refine sK fun K hK=>wR 2 ?_;refine aY hTT 3 [] ?_;refine nK hK ?_;clear hK K;refine sK fun K hK=>sK fun K hK=>wR 3 ?_;refine aY hTT 2 [] ?_
 refine aops_readF (pre7 r n k x m tk q g l z) (hereB_ac r n x z .any rfl m tk .any .any a k ha hk oM hb oM) rfl rfl ⟨fz7,FzL.idf rfl⟩ rfl rfl rfl ?_ ?_
 ·
  exact⟨rfl,rfl,rfl,rfl,trivial⟩
 refine aY hTT 1 [] ?_;refine nK hK ?_;clear hK K;refine sK fun K hK=>wR 4 ?_;refine aY hTT 2 [] ?_;refine nK hK ?_;clear hK K;refine w_true (t:=true) kR rfl (sK fun K hK=>wR 5 ?_);refine aY hTT 3 [] ?_;refine nK hK ?_;clear hK K
 refine aw_ret ?_
 refine xt_r ?_
 refine retM (v':=V.tup [V.i 0,V.i 5]) [] [(4,V.i 0),(5,V.i 5)] (.inr rfl) (.cons kR (.cons kR .nil)) (.cons ⟨Ob.box 123 [V.b true,V.i (Rc.n0 r),V.i (Rc.n1 r),V.i (Rc.n2 r),V.i (Rc.n3 r),V.i (Rc.k0 r),V.i (Rc.k1 r),V.i (Rc.k2 r),V.i (Rc.k3 r),V.i (Rc.seed r),V.i (Rc.soft r),V.i (Rc.hard r),V.i (Rc.mo r),V.i (Rc.st r),V.own 501,V.own 502,V.own 503,V.own 504],kR,.box kR⟩ (.cons ⟨Ob.row 131 1 n (rowX (505:Nat) k x),kR,.row kR (fun _ _=>rfl)⟩ (.cons ⟨Ob.row 55 4 m fun(i:Nat)=>Tk4.c (tk i),kR,.row kR (fun _ _=>rfl)⟩ (.cons ⟨Ob.row 149 2 q (flC g),kR,.row kR (fun _ _=>rfl)⟩ (.cons ⟨Ob.row 40 13 l fun(x:Nat)=>List.replicate (13:Nat) V.any,kR,.row kR (fun _ _=>rfl)⟩ (.cons ⟨Ob.box 134 [V.i (↑(Pl.kind z):Int),V.i (Pl.par z),V.i (Pl.cut z),V.i (Pl.area z),V.i (Pl.thick z),V.i (Pl.grown z),V.b (Pl.ret z),V.own 506],kR,.box kR⟩ (.cons ⟨Ob.mp (false,Pl.cnt z)   (MF.mk [] fun(k:MK)=>     match k with     |MK.i n=>if Pl.fl z n=true then some (Value.agg #[])else none     |MK.s b=>none),kR,.mp (fun _=>rfl)⟩ .nil))))))) kR kR kR kR kR kR kR
set_option maxRecDepth 100000 in
theorem growL_am(r:Rc)(hr:r.ok)(n k:Nat)(x:Nat→Value)(m:Nat)(tk:Nat→Tk4)(q:Nat)(g:Nat→Int×Int)(l:Nat)(z:Pl)(hz:z.ok)(h3:z.kind≤2)(a:Act)(hg:a.gok)(ha:a.plate=k)(hk:k< n)(hn:n≤1000)(hb:0≤a.bath∧a.bath< m)(hm:m≤8)(ht:(tk a.bath.toNat).ok)(he:hereE r n z a=0)(hl:layE r z (tk a.bath.toNat) a≠0) :
  AM Tryz.prog 53 [.ref 500 0,a.v] (ins7 r n k x m tk q (flC g) l z) (.tup [.i 0,.i (layE r z (tk a.bath.toNat) a)]) (out7 r n k x m tk q (flC g) l z) []:=by
 refine am_intro hTT hMX (fn:=Tryz.f53) (N:=_) ⟨Tryz.func53,rfl,Tryz.ntmps53,kR⟩ (by simp) rfl (by simp) (by simp) fun C hF=> ?_
 refine sK fun K hK=>wR 2 ?_;refine aY hTT 3 [] ?_;refine nK hK ?_;clear hK K;refine sK fun K hK=>sK fun K hK=>wR 3 ?_;refine aY hTT 2 [] ?_
 refine aops_readF (pre7 r n k x m tk q g l z) (here_ac r hr n x z hz .any rfl m tk .any .any a hg k ha hk oM hb oM) rfl rfl ⟨fz7,FzL.idf rfl⟩ rfl rfl rfl ?_ ?_
 ·
  exact⟨rfl,rfl,rfl,rfl,trivial⟩
 rw [he]
 refine aY hTT 1 [] ?_;refine nK hK ?_;clear hK K;refine sK fun K hK=>wR 4 ?_;refine aY hTT 2 [] ?_;refine nK hK ?_;clear hK K;refine w_false (t:=false) kR rfl ?_
 refine aw_skip ?_
 refine xt_n (hK _ ?_);clear hK K;refine sK fun K hK=>wR 5 ?_;refine aY hTT 2 [] ?_
 refine aops_readF (pre7 r n k x m tk q g l z) (lay_ac r hr n x z hz h3 .any rfl m tk .any .any a hg k ha hk oM hb oM ht) rfl rfl ⟨fz7,FzL.idf rfl⟩ rfl rfl rfl ?_ ?_
 ·
  exact⟨rfl,rfl,rfl,rfl,trivial⟩
 refine aY hTT 5 [] ?_;refine nK hK ?_;clear hK K;refine sK fun K hK=>sK fun K hK=>wR 6 ?_;refine aY hTT 2 [] ?_;refine nK hK ?_;clear hK K
 refine w_cond (t:= !decide (layE r z (tk (Int.toNat (Act.bath a))) a=0)) kR (fun c1=> ?_) (fun c1=> ?_)
 ·
  refine sK fun K hK=> ?_
  refine wR 7 ?_;refine aY hTT 3 [] ?_;refine nK hK ?_;clear hK K
  refine aw_ret ?_
  refine xt_r ?_
  refine retM (v':=V.tup [V.i 0,V.i (layE r z (tk (Int.toNat (Act.bath a))) a)]) [] [(4,V.i 0),(5,V.i (layE r z (tk (Int.toNat (Act.bath a))) a))] (.inr rfl) (.cons kR (.cons kR .nil)) (.cons ⟨Ob.box 123 [V.b true,V.i (Rc.n0 r),V.i (Rc.n1 r),V.i (Rc.n2 r),V.i (Rc.n3 r),V.i (Rc.k0 r),V.i (Rc.k1 r),V.i (Rc.k2 r),V.i (Rc.k3 r),V.i (Rc.seed r),V.i (Rc.soft r),V.i (Rc.hard r),V.i (Rc.mo r),V.i (Rc.st r),V.own 501,V.own 502,V.own 503,V.own 504],kR,.box kR⟩ (.cons ⟨Ob.row 131 1 n (rowX (505:Nat) k x),kR,.row kR (fun _ _=>rfl)⟩ (.cons ⟨Ob.row 55 4 m fun(i:Nat)=>Tk4.c (tk i),kR,.row kR (fun _ _=>rfl)⟩ (.cons ⟨Ob.row 149 2 q (flC g),kR,.row kR (fun _ _=>rfl)⟩ (.cons ⟨Ob.row 40 13 l fun(x:Nat)=>List.replicate (13:Nat) V.any,kR,.row kR (fun _ _=>rfl)⟩ (.cons ⟨Ob.box 134 [V.i (↑(Pl.kind z):Int),V.i (Pl.par z),V.i (Pl.cut z),V.i (Pl.area z),V.i (Pl.thick z),V.i (Pl.grown z),V.b (Pl.ret z),V.own 506],kR,.box kR⟩ (.cons ⟨Ob.mp (false,Pl.cnt z)   (MF.mk [] fun(k:MK)=>     match k with     |MK.i n=>if Pl.fl z n=true then some (Value.agg #[])else none     |MK.s b=>none),kR,.mp (fun _=>rfl)⟩ .nil))))))) kR kR kR kR kR kR kR
 ·
  simp at c1;exact absurd c1 hl
end Go.Proofs.YtjmbpjlojjgggaaGreatDoor

namespace Go.Proofs.YtjmbpjlojjgggaaGreatDoor
open Go.Ab Go.RowKit Go.Dw Go.Shelf
def Pl.under(z:Pl):Pl:={z with grown:=z.grown+1,ret:=if z.kind=0 then true else z.ret}
def Pl.over(z:Pl)(par:Int)(th:Int):Pl:=⟨z.kind+1,par,z.cut,z.area,th,0,false,z.cnt,z.fl⟩
def Tk4.used(t:Tk4)(a:Act):Tk4:=⟨t.stock- gMe t.yield a,t.yield,t.charge+gCh a,t.laid+gMe t.yield a⟩
def tkSet(tk:Nat→Tk4)(b:Nat)(t:Tk4)(i:Nat):Tk4:=if i=b then t else tk i
abbrev yySH81(l:Nat):Ob:=Ob.row 40 13 l fun(x:Nat)=>List.replicate (13:Nat) V.any
abbrev yySH80(l:Nat):=(504,(yySH81 l))
set_option maxHeartbeats 4000000 in
set_option maxRecDepth 100000 in
theorem grow_am(r:Rc)(hr:r.ok)(n k:Nat)(x:Nat→Value)(m:Nat)(tk:Nat→Tk4)(q:Nat)(g:Nat→Int×Int)(l:Nat)(z:Pl)(hz:z.ok)(h3:z.kind≤2)(a:Act)(hg:a.gok)(ha:a.plate=k)(hk:k< n)(hn:n≤200)(hb:0≤a.bath∧a.bath< m)(hm:m≤8)(ht:(tk a.bath.toNat).ok)(hc:0≤(tk a.bath.toNat).charge∧(tk a.bath.toNat).charge≤1000000000000000)(he:hereE r n z a=0)(hl:layE r z (tk a.bath.toNat) a=0) :
  AM Tryz.prog 53 [.ref 500 0,a.v] (ins7 r n k x m tk q (flC g) l z) (.tup [.i n,.i 0])
   [some (.box 123 (shC r (.own 0) (.own 502) (.own 503) (.own 504))),none,some (.row 55 4 m (fun i=>(tkSet tk a.bath.toNat ((tk a.bath.toNat).used a) i).c)),some (.row 149 2 q (flC g)),some (.row 40 13 l (fun _=>List.replicate 13 .any)),some (.box 134 (z.under.c++[.own 506])),some (.mp (false,z.cnt) (setF z.fl))]
   [.row 131 1 (n+1) (rowY 505 k n 1 x),.box 134 ((z.over a.plate (layT z (tk a.bath.toNat) a)).c++[.own 2]),.mp (false,z.cnt) (setF z.fl)]:=by
 have hv:layV r z (tk a.bath.toNat) a=layT z (tk a.bath.toNat) a:=by rw [layV,if_pos hl]
 obtain⟨hb1,hb2⟩:=hb
 obtain⟨g3,g4,g5,g6⟩:=gm_bd hg ht.yield
 obtain⟨g7,g8⟩:=gr_bd hg
 have hst:=ht.stock
 have hla:=ht.laid
 have hsu:=ht.sum
 have hms:gMe (tk a.bath.toNat).yield a≤(tk a.bath.toNat).stock:=by
  unfold layE at hl
  split at hl
  ·
   cases hl
  ·
   split at hl
   ·
    cases hl
   ·
    omega
 have hch:0≤gCh a∧gCh a≤2199023255552:=by unfold gCh;omega
 have hgr:=hz.grown
 refine am_intro hTT hMX (fn:=Tryz.f53) (N:=_) ⟨Tryz.func53,rfl,Tryz.ntmps53,kR⟩ (by simp) rfl (by simp) (by simp) fun C hF=> ?_
 refine sK fun K hK=>wR 2 ?_;refine aY hTT 3 [] ?_;refine nK hK ?_;clear hK K;refine sK fun K hK=>sK fun K hK=>wR 3 ?_;refine aY hTT 2 [] ?_
 refine aops_readF (pre7 r n k x m tk q g l z) (here_ac r hr n x z hz .any rfl m tk .any .any a hg k ha hk oM ⟨hb1,hb2⟩ oM) rfl rfl ⟨fz7,FzL.idf rfl⟩ rfl rfl rfl ?_ ?_
 ·
  exact⟨rfl,rfl,rfl,rfl,trivial⟩
 rw [he]
 refine aY hTT 1 [] ?_;refine nK hK ?_;clear hK K;refine sK fun K hK=>wR 4 ?_;refine aY hTT 2 [] ?_;refine nK hK ?_;clear hK K;refine w_false (t:=false) kR rfl ?_
 refine aw_skip ?_
 refine xt_n (hK _ ?_);clear hK K;refine sK fun K hK=>wR 5 ?_;refine aY hTT 2 [] ?_
 refine aops_readF (pre7 r n k x m tk q g l z) (lay_ac r hr n x z hz h3 .any rfl m tk .any .any a hg k ha hk oM ⟨hb1,hb2⟩ oM ht) rfl rfl ⟨fz7,FzL.idf rfl⟩ rfl rfl rfl ?_ ?_
 ·
  exact⟨rfl,rfl,rfl,rfl,trivial⟩
 rw [hl,hv]
 refine aY hTT 5 [] ?_;refine nK hK ?_;clear hK K;refine sK fun K hK=>sK fun K hK=>wR 6 ?_;refine aY hTT 2 [] ?_;refine nK hK ?_;clear hK K;refine w_false (t:=false) kR rfl ?_
 refine aw_skip ?_
 refine xt_n (hK _ ?_);clear hK K;refine sK fun K hK=>wD 7 ?_;refine aY hTT 2 [] ?_
 refine aops_readF (pre7 r n k x m tk q g l z) (growth_ac r n (frow k (.ptr (z.c++[.any])) x) m tk .any .any a hg ⟨hb1,hb2⟩ oM ht) rfl rfl ⟨fz7,FzL.idf rfl⟩ rfl rfl rfl ?_ ?_
 ·
  exact⟨rfl,rfl,rfl,rfl,trivial⟩
 refine aY hTT 10 [(3,.c ((15:Nat)≤(18:Nat)) oM),(2,.c ((0:Int)≤Act.bath a∧Act.bath a< (↑m:Int)) oM)] ?_
 refine aops_callR [500,501,502,503,504,505,506] (first:=[]) (caps:=[]) (ins':=[Ob.box 123 [V.b true,V.i (Rc.n0 r),V.i (Rc.n1 r),V.i (Rc.n2 r),V.i (Rc.n3 r),V.i (Rc.k0 r),V.i (Rc.k1 r),V.i (Rc.k2 r),V.i (Rc.k3 r),V.i (Rc.seed r),V.i (Rc.soft r),V.i (Rc.hard r),V.i (Rc.mo r),V.i (Rc.st r),V.own 501,V.own 502,V.own 503,V.own 504],Ob.row 131 1 n (rowX (505:Nat) k x),Ob.row 55 4 m fun(i:Nat)=>Tk4.c (tk i),Ob.row 149 2 q (flC g),(yySH81 l),Ob.box 134 [V.i (↑(Pl.kind z):Int),V.i (Pl.par z),V.i (Pl.cut z),V.i (Pl.area z),V.i (Pl.thick z),V.i (Pl.grown z),V.b (Pl.ret z),V.own 506],Ob.mp (false,Pl.cnt z)   (MF.mk [] fun(k:MK)=>     match k with     |MK.i n=>if Pl.fl z n=true then some (Value.agg #[])else none     |MK.s b=>none)]) (v':=V.ref 505 0) (δ:=[]) (kp:=[500,501,502,503,504,505,506]) (getX_am r n k x m tk q g l z a.plate ha hk oM) kR kR kR kR kR kR kR rfl kR kR ⟨kR,⟨(fun _ _=>rfl),⟨(fun _ _=>rfl),⟨(fun _ _=>rfl),⟨(fun _ _=>rfl),⟨kR,⟨?_,tI⟩⟩⟩⟩⟩⟩⟩ kR kR kR ?_
 ·
  exact setF_inN
 refine aY hTT 4 [(1,.c ((0:Nat)+(3:Nat)≤(3:Nat)) oM)] ?_;refine aops_nil ⟨kR,(xt_n (hK _ ?_))⟩;clear hK K;refine sK fun K hK=>wD 8 ?_;refine aY hTT 33 [(6,.c (Int.toNat (Act.bath a)< m∧(0:Nat)≤(4:Nat)) oM),(1,.c ((1:Nat)≤(3:Nat)) oM),(0,.c (iR (Tk4.stock (tk (Int.toNat (Act.bath a)))- gMe (Tk4.yield (tk (Int.toNat (Act.bath a)))) a)) oM),(3,.c (Int.toNat (Act.bath a)< m∧(3:Nat)≤(4:Nat)) oM),(1,.c ((1:Nat)≤(3:Nat)) oM),(0,.c (iR (Tk4.laid (tk (Int.toNat (Act.bath a)))+gMe (Tk4.yield (tk (Int.toNat (Act.bath a)))) a)) oM),(3,.c (Int.toNat (Act.bath a)< m∧(2:Nat)≤(4:Nat)) oM),(1,.c ((2:Nat)≤(3:Nat)) oM),(0,.c (iR (Tk4.charge (tk (Int.toNat (Act.bath a)))+gCh a)) oM),(2,.c (Int.toNat (Act.bath a)< m∧(0:Nat)+(1:Nat)≤(4:Nat)) oM),(2,.c (Int.toNat (Act.bath a)< m∧(3:Nat)+(1:Nat)≤List.length (if Int.toNat (Act.bath a)=Int.toNat (Act.bath a)then [V.i (Tk4.stock (tk (Int.toNat (Act.bath a)))- gMe (Tk4.yield (tk (Int.toNat (Act.bath a)))) a),V.i (Tk4.yield (tk (Int.toNat (Act.bath a)))),V.i (Tk4.charge (tk (Int.toNat (Act.bath a)))),V.i (Tk4.laid (tk (Int.toNat (Act.bath a))))]else Tk4.c (tk (Int.toNat (Act.bath a))))) ⟨oM,?_⟩),(2,.c (Int.toNat (Act.bath a)< m∧(2:Nat)+(1:Nat)≤List.length (if Int.toNat (Act.bath a)=Int.toNat (Act.bath a)then setCells (if Int.toNat (Act.bath a)=Int.toNat (Act.bath a)then [V.i (Tk4.stock (tk (Int.toNat (Act.bath a)))- gMe (Tk4.yield (tk (Int.toNat (Act.bath a)))) a),V.i (Tk4.yield (tk (Int.toNat (Act.bath a)))),V.i (Tk4.charge (tk (Int.toNat (Act.bath a)))),V.i (Tk4.laid (tk (Int.toNat (Act.bath a))))]else Tk4.c (tk (Int.toNat (Act.bath a)))) (3:Nat) [V.c (Value.int IntKind.i64 (Tk4.laid (tk (Int.toNat (Act.bath a)))+gMe (Tk4.yield (tk (Int.toNat (Act.bath a)))) a))]else if Int.toNat (Act.bath a)=Int.toNat (Act.bath a)then [V.i (Tk4.stock (tk (Int.toNat (Act.bath a)))- gMe (Tk4.yield (tk (Int.toNat (Act.bath a)))) a),V.i (Tk4.yield (tk (Int.toNat (Act.bath a)))),V.i (Tk4.charge (tk (Int.toNat (Act.bath a)))),V.i (Tk4.laid (tk (Int.toNat (Act.bath a))))]else Tk4.c (tk (Int.toNat (Act.bath a))))) ⟨oM,?_⟩)] ?_
 ·
  simp
 ·
  simp
  exact Nat.le_of_ble_eq_true rfl
 refine aops_nil ⟨kR,(xt_n (hK _ ?_))⟩;clear hK K;refine sK fun K hK=> ?_
 obtain⟨tk',htk⟩:∃tk',tk'=tkSet tk a.bath.toNat ((tk a.bath.toNat).used a):=⟨_,rfl⟩
 rw [←htk]
 refine w_le (s':=⟨mkT [(0,.ref 500 0),(3,.ptr a.c),(7,.i (layT z (tk a.bath.toNat) a)),(11,.ref 505 0)],mkS [(500,.box 123 (shC r (.own 501) (.own 502) (.own 503) (.own 504))),(501,.row 131 1 n (rowX 505 k x)),(502,.row 55 4 m (fun i=>(tk' i).c)),(503,.row 149 2 q (flC g)),(504,.row 40 13 l (fun _=>List.replicate 13 .any)),(505,.box 134 (z.c++[.own 506])),(506,.mp (false,z.cnt) (setF z.fl))],1⟩) ?_ ?_
 ·
  refine le_ren (tl:=[(0,V.ref 500 0),(3,V.ptr [V.i (Act.kind a),V.i (Act.cut a),V.i (Act.area a),V.i (Act.stock a),V.i (Act.yield a),V.i (Act.plate a),V.i (Act.bath a),V.i (Act.s0 a),V.i (Act.s1 a),V.i (Act.cur a),V.i (Act.sec a),V.i (Act.place a),V.i (Act.flaw a)]),(7,V.i (layT z (tk (Int.toNat (Act.bath a))) a)),(11,V.ref 505 0)]) (sl:=[(500,Ob.box 123 [V.b true,V.i (Rc.n0 r),V.i (Rc.n1 r),V.i (Rc.n2 r),V.i (Rc.n3 r),V.i (Rc.k0 r),V.i (Rc.k1 r),V.i (Rc.k2 r),V.i (Rc.k3 r),V.i (Rc.seed r),V.i (Rc.soft r),V.i (Rc.hard r),V.i (Rc.mo r),V.i (Rc.st r),V.own 501,V.own 502,V.own 503,V.own 504]),(501,Ob.row 131 1 n (rowX (505:Nat) k x)),(502,Ob.row 55 4 m fun(i:Nat)=>Tk4.c (tk' i)),(503,Ob.row 149 2 q (flC g)),(yySH80 l),(505,Ob.box 134 [V.i (↑(Pl.kind z):Int),V.i (Pl.par z),V.i (Pl.cut z),V.i (Pl.area z),V.i (Pl.thick z),V.i (Pl.grown z),V.b (Pl.ret z),V.own 506]),(506,Ob.mp (false,Pl.cnt z)   (MF.mk [] fun(k:MK)=>     match k with     |MK.i n=>if Pl.fl z n=true then some (Value.agg #[])else none     |MK.s b=>none))]) [] (.cons kR (.cons kR (.cons kR (.cons kR .nil)))) (.cons oS (.cons oS (.cons ⟨Ob.row 55 4 m fun(j:Nat)=>if j=Int.toNat (Act.bath a)then setCells (if Int.toNat (Act.bath a)=Int.toNat (Act.bath a)then setCells (if Int.toNat (Act.bath a)=Int.toNat (Act.bath a)then [V.i (Tk4.stock (tk (Int.toNat (Act.bath a)))- gMe (Tk4.yield (tk (Int.toNat (Act.bath a)))) a),V.i (Tk4.yield (tk (Int.toNat (Act.bath a)))),V.i (Tk4.charge (tk (Int.toNat (Act.bath a)))),V.i (Tk4.laid (tk (Int.toNat (Act.bath a))))]else Tk4.c (tk (Int.toNat (Act.bath a)))) (3:Nat) [V.c (Value.int IntKind.i64 (Tk4.laid (tk (Int.toNat (Act.bath a)))+gMe (Tk4.yield (tk (Int.toNat (Act.bath a)))) a))]else if Int.toNat (Act.bath a)=Int.toNat (Act.bath a)then [V.i (Tk4.stock (tk (Int.toNat (Act.bath a)))- gMe (Tk4.yield (tk (Int.toNat (Act.bath a)))) a),V.i (Tk4.yield (tk (Int.toNat (Act.bath a)))),V.i (Tk4.charge (tk (Int.toNat (Act.bath a)))),V.i (Tk4.laid (tk (Int.toNat (Act.bath a))))]else Tk4.c (tk (Int.toNat (Act.bath a)))) (2:Nat) [V.c (Value.int IntKind.i64 (Tk4.charge (tk (Int.toNat (Act.bath a)))+gCh a))]else if j=Int.toNat (Act.bath a)then setCells (if Int.toNat (Act.bath a)=Int.toNat (Act.bath a)then [V.i (Tk4.stock (tk (Int.toNat (Act.bath a)))- gMe (Tk4.yield (tk (Int.toNat (Act.bath a)))) a),V.i (Tk4.yield (tk (Int.toNat (Act.bath a)))),V.i (Tk4.charge (tk (Int.toNat (Act.bath a)))),V.i (Tk4.laid (tk (Int.toNat (Act.bath a))))]else Tk4.c (tk (Int.toNat (Act.bath a)))) (3:Nat) [V.c (Value.int IntKind.i64 (Tk4.laid (tk (Int.toNat (Act.bath a)))+gMe (Tk4.yield (tk (Int.toNat (Act.bath a)))) a))]else if j=Int.toNat (Act.bath a)then [V.i (Tk4.stock (tk (Int.toNat (Act.bath a)))- gMe (Tk4.yield (tk (Int.toNat (Act.bath a)))) a),V.i (Tk4.yield (tk (Int.toNat (Act.bath a)))),V.i (Tk4.charge (tk (Int.toNat (Act.bath a)))),V.i (Tk4.laid (tk (Int.toNat (Act.bath a))))]else Tk4.c (tk j),kR,.row kR ?_⟩ (.cons oS (.cons oS (.cons oS (.cons oS .nil))))))) kR kR
  ·
   intro i hi
   rw [htk]
   unfold tkSet
   by_cases h:i=a.bath.toNat
   ·
    subst h;simp only [if_pos];rfl
   ·
    simp only [if_neg h];rfl
 refine wD 2 ?_;refine aY hTT 21 [(5,.c ((0:Nat)≤(8:Nat)) oM),(0,.c (iR ((↑(Pl.kind z):Int)+1)) oM),(6,.c ((2:Nat)≤(8:Nat)) oM),(4,.c ((3:Nat)≤(8:Nat)) oM)] ?_
 refine aops_callM [500,501,502,503,504,505,506] (first:=[]) (caps:=[]) (ins':=[Ob.box 123 [V.b true,V.i (Rc.n0 r),V.i (Rc.n1 r),V.i (Rc.n2 r),V.i (Rc.n3 r),V.i (Rc.k0 r),V.i (Rc.k1 r),V.i (Rc.k2 r),V.i (Rc.k3 r),V.i (Rc.seed r),V.i (Rc.soft r),V.i (Rc.hard r),V.i (Rc.mo r),V.i (Rc.st r),V.own 501,V.own 502,V.own 503,V.own 504],Ob.row 131 1 n (rowX (505:Nat) k x),Ob.row 55 4 m fun(i:Nat)=>Tk4.c (tk' i),Ob.row 149 2 q (flC g),(yySH81 l),Ob.box 134 [V.i (↑(Pl.kind z):Int),V.i (Pl.par z),V.i (Pl.cut z),V.i (Pl.area z),V.i (Pl.thick z),V.i (Pl.grown z),V.b (Pl.ret z),V.own 506],Ob.mp (false,Pl.cnt z)   (MF.mk [] fun(k:MK)=>     match k with     |MK.i n=>if Pl.fl z n=true then some (Value.agg #[])else none     |MK.s b=>none)]) (v':=V.ref 101094 0) (δ:=[(500,Option.some (Ob.box 123 [V.b true,V.i (Rc.n0 r),V.i (Rc.n1 r),V.i (Rc.n2 r),V.i (Rc.n3 r),V.i (Rc.k0 r),V.i (Rc.k1 r),V.i (Rc.k2 r),V.i (Rc.k3 r),V.i (Rc.seed r),V.i (Rc.soft r),V.i (Rc.hard r),V.i (Rc.mo r),V.i (Rc.st r),V.own 100094,V.own 502,V.own 503,V.own 504])),(501,Option.none),(502,Option.some (Ob.row 55 4 m fun(i:Nat)=>V.renL (nameG (1:Nat) (some 94) [(500:Nat),(501:Nat),(502:Nat),(503:Nat),(504:Nat),(505:Nat),(506:Nat)]) (Tk4.c (tk' i)))),(503,Option.some (Ob.row 149 2 q fun(i:Nat)=>V.renL (nameG (1:Nat) (some 94) [(500:Nat),(501:Nat),(502:Nat),(503:Nat),(504:Nat),(505:Nat),(506:Nat)]) [V.i (Prod.fst (g i)),V.i (Prod.snd (g i))])),(504,Option.some (Ob.row 40 13 l fun(i:Nat)=>V.renL (nameG (1:Nat) (some 94) [(500:Nat),(501:Nat),(502:Nat),(503:Nat),(504:Nat),(505:Nat),(506:Nat)]) (List.replicate (13:Nat) V.any))),(505,Option.some (Ob.box 134 [V.i (↑(Pl.kind z):Int),V.i (Pl.par z),V.i (Pl.cut z),V.i (Pl.area z),V.i (Pl.thick z),V.i (Pl.grown z),V.b (Pl.ret z),V.own 506])),(506,Option.some (Ob.mp (false,Pl.cnt z) (MF.mk [] (MF.rest (setF (Pl.fl z)))))),(100094,Option.some (Ob.row 131 1 (n+1) fun(i:Nat)=>V.renL (nameG (1:Nat) (some 94) [(500:Nat),(501:Nat),(502:Nat),(503:Nat),(504:Nat),(505:Nat),(506:Nat)]) (rowY (505:Nat) k n (1:Nat) x i))),(101094,Option.some (Ob.box 134 [V.i (↑(Pl.kind (Pl.over z (Act.plate a) (layT z (tk (Int.toNat (Act.bath a))) a))):Int),V.i (Pl.par (Pl.over z (Act.plate a) (layT z (tk (Int.toNat (Act.bath a))) a))),V.i (Pl.cut (Pl.over z (Act.plate a) (layT z (tk (Int.toNat (Act.bath a))) a))),V.i (Pl.area (Pl.over z (Act.plate a) (layT z (tk (Int.toNat (Act.bath a))) a))),V.i (Pl.thick (Pl.over z (Act.plate a) (layT z (tk (Int.toNat (Act.bath a))) a))),V.i (Pl.grown (Pl.over z (Act.plate a) (layT z (tk (Int.toNat (Act.bath a))) a))),V.b (Pl.ret (Pl.over z (Act.plate a) (layT z (tk (Int.toNat (Act.bath a))) a))),V.own 102094])),(102094,Option.some (Ob.mp (false,(0:Nat)) (MF.mk [] (MF.rest (setF fun(x:Int)=>false)))))]) (kp:=[500,501,502,503,504,505,506]) (addX_am r n k x m tk' q g l z (z.over a.plate (layT z (tk a.bath.toNat) a)) oM) kR kR kR kR kR kR rfl rfl kR (.box kR kR (.row kR (fun _ _=>rfl) (fun _ _=>rfl) (.row kR (fun _ _=>rfl) (fun _ _=>rfl) (.row kR (fun _ _=>rfl) (fun _ _=>rfl) (.row kR (fun _ _=>rfl) (fun _ _=>rfl) (.box kR kR (.mp (fun _=>rfl) ?_ .nil))))))) kR kR kR ?_
 ·
  exact setF_inN
 refine aY hTT 1 [] ?_;refine aops_nil ⟨kR,(xt_n (hK _ ?_))⟩;clear hK K;refine sK fun K hK=> ?_
 have tmt:Program.underlying Tryz.prog 132=some (.map 3 157):=by kernel_rfl
 refine aw_rangeMap (id:=506) (n:=z.cnt) (has:=z.fl) (fun d=>[(0,.ref 500 0),(11,.ref 505 0),(12,.ref 1 0)]) (fun d=>[(500,.box 123 (shC r (.own 0) (.own 502) (.own 503) (.own 504))),(502,.row 55 4 m (fun i=>(tk' i).c)),(503,.row 149 2 q (flC g)),(504,.row 40 13 l (fun _=>List.replicate 13 .any)),(505,.box 134 (z.c++[.own 506])),(0,.row 131 1 (n+1) (rowY 505 k n 1 x)),(1,.box 134 ((z.over a.plate (layT z (tk a.bath.toNat) a)).c++[.own 2])),(2,.mp (false,d.length) (setF fun z=>decide (z∈d)))]) tmt (by decide) 4 rfl rfl rfl rfl rfl ?_ ?_ ?_
 ·
  refine aY hTT 4 [(3,.c ((7:Nat)≤(8:Nat)) oM)] ?_
  refine aops_nil ?_
  refine⟨kR,kR,fun rb=> ?_⟩
  unfold itS
  refine le_ren (sl:=[(500,Ob.box 123 [V.b true,V.i (Rc.n0 r),V.i (Rc.n1 r),V.i (Rc.n2 r),V.i (Rc.n3 r),V.i (Rc.k0 r),V.i (Rc.k1 r),V.i (Rc.k2 r),V.i (Rc.k3 r),V.i (Rc.seed r),V.i (Rc.soft r),V.i (Rc.hard r),V.i (Rc.mo r),V.i (Rc.st r),V.own 0,V.own 502,V.own 503,V.own 504]),(502,Ob.row 55 4 m fun(i:Nat)=>Tk4.c (tk' i)),(503,Ob.row 149 2 q (flC g)),(yySH80 l),(505,Ob.box 134 [V.i (↑(Pl.kind z):Int),V.i (Pl.par z),V.i (Pl.cut z),V.i (Pl.area z),V.i (Pl.thick z),V.i (Pl.grown z),V.b (Pl.ret z),V.own 506]),(0,Ob.row 131 1 (n+1) (rowY (505:Nat) k n (1:Nat) x)),(1,Ob.box 134 [V.i (↑(Pl.kind (Pl.over z (Act.plate a) (layT z (tk (Int.toNat (Act.bath a))) a))):Int),V.i (Pl.par (Pl.over z (Act.plate a) (layT z (tk (Int.toNat (Act.bath a))) a))),V.i (Pl.cut (Pl.over z (Act.plate a) (layT z (tk (Int.toNat (Act.bath a))) a))),V.i (Pl.area (Pl.over z (Act.plate a) (layT z (tk (Int.toNat (Act.bath a))) a))),V.i (Pl.thick (Pl.over z (Act.plate a) (layT z (tk (Int.toNat (Act.bath a))) a))),V.i (Pl.grown (Pl.over z (Act.plate a) (layT z (tk (Int.toNat (Act.bath a))) a))),V.b (Pl.ret (Pl.over z (Act.plate a) (layT z (tk (Int.toNat (Act.bath a))) a))),V.own 2]),(2,Ob.mp (false,(0:Nat))   (MF.mk [] fun(k:MK)=>     match k with     |MK.i n=>if decide (n∈[])=true then some (Value.agg #[])else none     |MK.s b=>none))]) [(1,101094),(0,100094),(2,102094)] (.cons kR (.cons kR (.cons kR (.cons kR .nil)))) (.cons oS (.cons oS (.cons oS (.cons oS (.cons oS (.cons oS (.cons oS (.cons oS .nil)))))))) kR kR
 ·
  intro C' hC' rb d f hf hfd
  unfold itS
  refine wR 2 (aX hTT 7 [(3,.c ((7:Nat)≤(8:Nat))),(6,.r (PR.mk none none V.any [((2:Nat),some (Ob.mp (false,mcnt (setF fun(z:Int)=>decide (z∈d)) (MK.i f) (List.length d)) (MF.mk [(MK.i f,V.agg [])] (MF.rest (setF fun(z:Int)=>decide (z∈d))))))] false))] ⟨oM,tI⟩ (aops_nil ?_))
  refine⟨rfl,?_⟩
  refine Le.trans (le_setF 2 (n:=d.length+1) (f:=⟨[(.i f,.agg [])],(setF fun z=>decide (z∈d)).rest⟩) (has:=fun z=>decide (z∈f::d)) ?hs ?hh ?hu) ?_
  case hs=>
   show some _=some _
   rw [mcnt,setF_isSome,decide_eq_false hfd]
   rfl
  case hh=>intro k;rw [setF_put];simp [List.mem_cons,Bool.or_comm]
  case hu=>exact setF_put_u
  refine le_ren (sl:=[(500,Ob.box 123 [V.b true,V.i (Rc.n0 r),V.i (Rc.n1 r),V.i (Rc.n2 r),V.i (Rc.n3 r),V.i (Rc.k0 r),V.i (Rc.k1 r),V.i (Rc.k2 r),V.i (Rc.k3 r),V.i (Rc.seed r),V.i (Rc.soft r),V.i (Rc.hard r),V.i (Rc.mo r),V.i (Rc.st r),V.own 0,V.own 502,V.own 503,V.own 504]),(502,Ob.row 55 4 m fun(i:Nat)=>Tk4.c (tk' i)),(503,Ob.row 149 2 q (flC g)),(yySH80 l),(505,Ob.box 134 [V.i (↑(Pl.kind z):Int),V.i (Pl.par z),V.i (Pl.cut z),V.i (Pl.area z),V.i (Pl.thick z),V.i (Pl.grown z),V.b (Pl.ret z),V.own 506]),(0,Ob.row 131 1 (n+1) (rowY (505:Nat) k n (1:Nat) x)),(1,Ob.box 134 [V.i (↑(Pl.kind (Pl.over z (Act.plate a) (layT z (tk (Int.toNat (Act.bath a))) a))):Int),V.i (Pl.par (Pl.over z (Act.plate a) (layT z (tk (Int.toNat (Act.bath a))) a))),V.i (Pl.cut (Pl.over z (Act.plate a) (layT z (tk (Int.toNat (Act.bath a))) a))),V.i (Pl.area (Pl.over z (Act.plate a) (layT z (tk (Int.toNat (Act.bath a))) a))),V.i (Pl.thick (Pl.over z (Act.plate a) (layT z (tk (Int.toNat (Act.bath a))) a))),V.i (Pl.grown (Pl.over z (Act.plate a) (layT z (tk (Int.toNat (Act.bath a))) a))),V.b (Pl.ret (Pl.over z (Act.plate a) (layT z (tk (Int.toNat (Act.bath a))) a))),V.own 2]),(2,Ob.mp (false,List.length (f::d))   (MF.mk [] fun(k:MK)=>     match k with     |MK.i n=>if decide (n∈f::d)=true then some (Value.agg #[])else none     |MK.s b=>none))]) [(1,1),(0,0),(2,2)] (.cons kR (.cons kR (.cons kR (.cons kR .nil)))) (.cons oS (.cons oS (.cons oS (.cons oS (.cons oS (.cons oS (.cons oS (.cons oS .nil)))))))) kR kR
 ·
  intro d hdn hd hdl
  have e:(fun z=>decide (z∈d))=z.fl:=funext fun y=>by
   cases hy:z.fl y with
   |true=>exact decide_eq_true ((hd y).2 hy)
   |false=>exact decide_eq_false fun h=>by rw [(hd y).1 h]at hy;cases hy
  rw [e,hdl]
  refine xt_n (hK _ ?_);clear hK K;refine sK fun K hK=>wR 2 ?_;refine aY hTT 10 [(4,.c ((5:Nat)≤(8:Nat)) oM),(0,.c (iR (Pl.grown z+1)) oM),(3,.c ((5:Nat)+(1:Nat)≤(8:Nat)) oM)] ?_;refine nK hK ?_;clear hK K;refine sK fun K hK=>sK fun K hK=>wR 3 ?_;refine aY hTT 6 [(4,.c ((0:Nat)≤(8:Nat)) oM)] ?_;refine nK hK ?_;clear hK K
  refine w_cond (t:=decide ((↑(Pl.kind z):Int)=0)) kR (fun c5=> ?_) (fun c5=> ?_)
  ·
   have eu:z.under={z with grown:=z.grown+1,ret:=true}:=by unfold Pl.under;rw [if_pos (by simpa using c5)]
   refine wR 4 ?_;refine aY hTT 5 [(4,.c ((6:Nat)+(1:Nat)≤(8:Nat)) oM)] ?_;refine nK hK ?_;clear hK K;refine sK fun K hK=>wR 5 ?_;refine aY hTT 8 [(3,.c ((14:Nat)≤(18:Nat)) oM),(1,.c (iR ((↑(n+1):Int)- 1)) oM)] ?_;refine nK hK ?_;clear hK K
   refine aw_ret ?_
   rw [eu,←htk]
   refine retM (v':=V.tup [V.i ((↑(n+1):Int)- 1),V.i 0]) [(0,0),(1,1),(2,2)] [(4,V.i ((↑(n+1):Int)- 1)),(5,V.i 0)] (.inr rfl) (.cons kR (.cons kR .nil)) (.cons oS (.cons oS (.cons oS (.cons oS (.cons oS (.cons oS (.cons oS (.cons oS (.cons oS .nil))))))))) kR kR kR kR ?_ kR kR
   ·
    rw [show((n+1:Nat):Int)- 1=n by omega]
  ·
   have eu:z.under={z with grown:=z.grown+1}:=by unfold Pl.under;rw [if_neg (by simpa using c5)]
   refine aw_skip ?_
   refine xt_n (hK _ ?_);clear hK K;refine sK fun K hK=>wR 4 ?_;refine aY hTT 8 [(3,.c ((14:Nat)≤(18:Nat)) oM),(1,.c (iR ((↑(n+1):Int)- 1)) oM)] ?_;refine nK hK ?_;clear hK K
   refine aw_ret ?_
   rw [eu,←htk]
   refine retM (v':=V.tup [V.i ((↑(n+1):Int)- 1),V.i 0]) [(0,0),(1,1),(2,2)] [(4,V.i ((↑(n+1):Int)- 1)),(5,V.i 0)] (.inr rfl) (.cons kR (.cons kR .nil)) (.cons oS (.cons oS (.cons oS (.cons oS (.cons oS (.cons oS (.cons oS (.cons oS (.cons oS .nil))))))))) kR kR kR kR ?_ kR kR
   ·
    rw [show((n+1:Nat):Int)- 1=n by omega]
end Go.Proofs.YtjmbpjlojjgggaaGreatDoor

namespace Go.Proofs.YtjmbpjlojjgggaaGreatDoor
open Go.Ab Go.RowKit Go.Dw Go.Shelf
abbrev anyR:Nat→List V:=fun _=>List.replicate 13 .any
abbrev preB(r:Rc):List (Nat×Ob):=[(500,.box 123 (shC r (.own 501) (.own 502) (.own 503) (.own 504)))]
theorem fzB{r:Rc}:Fz (preF (preB r)) (.ref 500 0) (.ptr (shC r .any .any .any .any)):=by
 refine Fz.refs (t:=123) (cs:=shC r (.own 501) (.own 502) (.own 503) (.own 504)) rfl ?_
 exact FzL.append (FzL.idf (l:= .b true::r.c) rfl) ⟨.any _,.any _,.any _,.any _,trivial⟩
set_option maxRecDepth 100000 in
theorem doV_am(r:Rc)(n:Nat)(x:Nat→Value)(m:Nat)(tk:Nat→Tk4)(q:Nat)(g:Nat→Int×Int)(l:Nat)(a:Act)(hl:l< 1000)(hv:actB a=false) :
  AM Tryz.prog 13 [.ref 500 0,a.v] (ins5 r n (rowC x) m tk q (flC g) l) (.tup [.i 0,.i 2]) ((ins5 r n (rowC x) m tk q (flC g) l).map some) []:=by
 refine am_intro hTT hMX (fn:=Tryz.f13) (N:=_) ⟨Tryz.func13,rfl,Tryz.ntmps13,kR⟩ (by simp) rfl (by simp) (by simp) fun C hF=> ?_
 refine sK fun K hK=>wR 2 ?_;refine aY hTT 3 [] ?_;refine nK hK ?_;clear hK K;refine sK fun K hK=> ?_
 refine aw_block ?_
 refine sK fun K hK=>wR 3 ?_;refine aY hTT 1 [] ?_
 refine aops_readF (preB r) (bad_ac r .any .any .any .any) rfl rfl ⟨fzB,trivial⟩ rfl rfl rfl ⟨rfl,trivial⟩ ?_
 refine aY hTT 1 [] ?_;refine nK hK ?_;clear hK K;refine w_false (t:=false) kR rfl (sK fun K hK=>wR 4 ?_);refine aY hTT 7 [(3,.c ((17:Nat)≤(18:Nat)) oM)] ?_;refine nK hK ?_;clear hK K
 refine w_cond (t:=decide ((1000:Int)≤(↑l:Int))) kR (fun c1=> ?_) (fun c1=> ?_)
 ·
  simp at c1;omega
 refine sK fun K hK=>wR 5 ?_;refine aY hTT 1 [] ?_
 refine eC (valid_ac a) ?_
 rw [hv]
 refine aY hTT 2 [] ?_;refine nK hK ?_;clear hK K;refine w_true (t:=true) kR rfl (sK fun K hK=>wR 6 ?_);refine aY hTT 2 [] ?_;refine nK hK ?_;clear hK K
 refine aw_ret ?_
 refine xb_r ?_
 refine xt_r ?_
 refine retM (v':=V.tup [V.i 0,V.i 2]) [] [(4,V.i 0),(5,V.i 2)] (.inr rfl) (.cons kR (.cons kR .nil)) (.cons oS (.cons oS (.cons oS (.cons oS (.cons oS .nil))))) kR kR kR kR kR kR kR
set_option maxRecDepth 100000 in
theorem do_bath_e5(r:Rc)(n:Nat)(x:Nat→Value)(m:Nat)(tk:Nat→Tk4)(q:Nat)(g:Nat→Int×Int)(l:Nat){cut area stock yield plate bath s0 s1 cur sec place flaw:Int}{e:Int}(he:e≠0)(hl:l< 1000)(hv:actB (⟨2,cut,area,stock,yield,plate,bath,s0,s1,cur,sec,place,flaw⟩:Act)=true)(h:AM Tryz.prog 52 [.ref 500 0,Act.v (⟨2,cut,area,stock,yield,plate,bath,s0,s1,cur,sec,place,flaw⟩:Act)] (ins5 r n (rowC x) m tk q (flC g) l) (.tup [.i 0,.i e]) ((ins5 r n (rowC x) m tk q (flC g) l).map some) []) :
  AM Tryz.prog 13 [.ref 500 0,Act.v (⟨2,cut,area,stock,yield,plate,bath,s0,s1,cur,sec,place,flaw⟩:Act)] (ins5 r n (rowC x) m tk q (flC g) l) (.tup [.i 0,.i e]) ((ins5 r n (rowC x) m tk q (flC g) l).map some) []:=by
 refine am_intro hTT hMX (fn:=Tryz.f13) (N:=_) ⟨Tryz.func13,rfl,Tryz.ntmps13,kR⟩ (by simp) rfl (by simp) (by simp) fun C hF=> ?_
 refine sK fun K hK=>wR 2 ?_;refine aY hTT 3 [] ?_;refine nK hK ?_;clear hK K;refine sK fun K hK=> ?_
 refine aw_block ?_
 refine sK fun K hK=>wR 3 ?_;refine aY hTT 1 [] ?_
 refine aops_readF (preB r) (bad_ac r .any .any .any .any) rfl rfl ⟨fzB,trivial⟩ rfl rfl rfl ⟨rfl,trivial⟩ ?_
 refine aY hTT 1 [] ?_;refine nK hK ?_;clear hK K;refine w_false (t:=false) kR rfl (sK fun K hK=>wR 4 ?_);refine aY hTT 7 [(3,.c ((17:Nat)≤(18:Nat)) oM)] ?_;refine nK hK ?_;clear hK K
 refine w_cond (t:=decide ((1000:Int)≤(↑l:Int))) kR (fun c1=> ?_) (fun c1=> ?_)
 ·
  simp at c1;omega
 refine sK fun K hK=>wR 5 ?_;refine aY hTT 1 [] ?_
 refine eC (valid_ac (⟨2,cut,area,stock,yield,plate,bath,s0,s1,cur,sec,place,flaw⟩:Act)) ?_
 rw [hv]
 refine aY hTT 2 [] ?_;refine nK hK ?_;clear hK K;refine w_false (t:=false) kR rfl ?_
 refine aw_skip ?_
 refine xb_n (xt_n (hK _ ?_));clear hK K;refine sK fun K hK=>wR 6 ?_;refine aY hTT 3 [(2,.c ((0:Nat)+(7:Nat)≤(7:Nat)) oM)] ?_;refine nK hK ?_;clear hK K;refine sK fun K hK=>wD 7 ?_;refine aY hTT 6 [(2,.d),(0,.c ((2:Nat)≤(7:Nat)) oM)] ?_
 refine aops_callR [500,501,502,503,504] (first:=[]) (caps:=[]) (ins':=[Ob.box 123 [V.b true,V.i (Rc.n0 r),V.i (Rc.n1 r),V.i (Rc.n2 r),V.i (Rc.n3 r),V.i (Rc.k0 r),V.i (Rc.k1 r),V.i (Rc.k2 r),V.i (Rc.k3 r),V.i (Rc.seed r),V.i (Rc.soft r),V.i (Rc.hard r),V.i (Rc.mo r),V.i (Rc.st r),V.own 501,V.own 502,V.own 503,V.own 504],Ob.row 131 1 n (rowC x),Ob.row 55 4 m fun(i:Nat)=>Tk4.c (tk i),Ob.row 149 2 q (flC g),Ob.row 40 13 l fun(x:Nat)=>List.replicate (13:Nat) V.any]) (v':=V.tup [V.i 0,V.i e]) (δ:=[]) (kp:=[500,501,502,503,504]) (h) kR kR kR kR kR kR kR rfl kR kR ⟨kR,⟨(fun _ _=>rfl),⟨(fun _ _=>rfl),⟨(fun _ _=>rfl),⟨(fun _ _=>rfl),tI⟩⟩⟩⟩⟩ kR kR kR ?_
 refine aY hTT 5 [] ?_;refine aops_nil ⟨kR,(xt_n (hK _ ?_))⟩;clear hK K;refine sK fun K hK=>sK fun K hK=>wR 8 ?_;refine aY hTT 2 [] ?_;refine nK hK ?_;clear hK K
 refine w_cond (t:=decide (e=0)) kR (fun c3=> ?_) (fun c3=> ?_)
 ·
  simp at c3;exact absurd c3 he
 ·
  refine aw_skip ?_
  refine xt_n (hK _ ?_);clear hK K;refine sK fun K hK=>wR 9 ?_;refine aY hTT 4 [] ?_;refine nK hK ?_;clear hK K
  refine aw_ret ?_
  refine retM (v':=V.tup [V.i 0,V.i e]) [] [(4,V.i 0),(5,V.i e)] (.inr rfl) (.cons kR (.cons kR .nil)) (.cons oS (.cons oS (.cons oS (.cons oS (.cons oS .nil))))) kR kR kR kR kR kR kR
set_option maxRecDepth 100000 in
theorem do_grow_e5(r:Rc)(n:Nat)(x:Nat→Value)(m:Nat)(tk:Nat→Tk4)(q:Nat)(g:Nat→Int×Int)(l:Nat){cut area stock yield plate bath s0 s1 cur sec place flaw:Int}{e:Int}(he:e≠0)(hl:l< 1000)(hv:actB (⟨3,cut,area,stock,yield,plate,bath,s0,s1,cur,sec,place,flaw⟩:Act)=true)(h:AM Tryz.prog 53 [.ref 500 0,Act.v (⟨3,cut,area,stock,yield,plate,bath,s0,s1,cur,sec,place,flaw⟩:Act)] (ins5 r n (rowC x) m tk q (flC g) l) (.tup [.i 0,.i e]) ((ins5 r n (rowC x) m tk q (flC g) l).map some) []) :
  AM Tryz.prog 13 [.ref 500 0,Act.v (⟨3,cut,area,stock,yield,plate,bath,s0,s1,cur,sec,place,flaw⟩:Act)] (ins5 r n (rowC x) m tk q (flC g) l) (.tup [.i 0,.i e]) ((ins5 r n (rowC x) m tk q (flC g) l).map some) []:=by
 refine am_intro hTT hMX (fn:=Tryz.f13) (N:=_) ⟨Tryz.func13,rfl,Tryz.ntmps13,kR⟩ (by simp) rfl (by simp) (by simp) fun C hF=> ?_
 refine sK fun K hK=>wR 2 ?_;refine aY hTT 3 [] ?_;refine nK hK ?_;clear hK K;refine sK fun K hK=> ?_
 refine aw_block ?_
 refine sK fun K hK=>wR 3 ?_;refine aY hTT 1 [] ?_
 refine aops_readF (preB r) (bad_ac r .any .any .any .any) rfl rfl ⟨fzB,trivial⟩ rfl rfl rfl ⟨rfl,trivial⟩ ?_
 refine aY hTT 1 [] ?_;refine nK hK ?_;clear hK K;refine w_false (t:=false) kR rfl (sK fun K hK=>wR 4 ?_);refine aY hTT 7 [(3,.c ((17:Nat)≤(18:Nat)) oM)] ?_;refine nK hK ?_;clear hK K
 refine w_cond (t:=decide ((1000:Int)≤(↑l:Int))) kR (fun c1=> ?_) (fun c1=> ?_)
 ·
  simp at c1;omega
 refine sK fun K hK=>wR 5 ?_;refine aY hTT 1 [] ?_
 refine eC (valid_ac (⟨3,cut,area,stock,yield,plate,bath,s0,s1,cur,sec,place,flaw⟩:Act)) ?_
 rw [hv]
 refine aY hTT 2 [] ?_;refine nK hK ?_;clear hK K;refine w_false (t:=false) kR rfl ?_
 refine aw_skip ?_
 refine xb_n (xt_n (hK _ ?_));clear hK K;refine sK fun K hK=>wR 6 ?_;refine aY hTT 3 [(2,.c ((0:Nat)+(7:Nat)≤(7:Nat)) oM)] ?_;refine nK hK ?_;clear hK K;refine sK fun K hK=>wD 7 ?_;refine aY hTT 6 [(2,.d),(0,.c ((3:Nat)≤(7:Nat)) oM)] ?_
 refine aops_callR [500,501,502,503,504] (first:=[]) (caps:=[]) (ins':=[Ob.box 123 [V.b true,V.i (Rc.n0 r),V.i (Rc.n1 r),V.i (Rc.n2 r),V.i (Rc.n3 r),V.i (Rc.k0 r),V.i (Rc.k1 r),V.i (Rc.k2 r),V.i (Rc.k3 r),V.i (Rc.seed r),V.i (Rc.soft r),V.i (Rc.hard r),V.i (Rc.mo r),V.i (Rc.st r),V.own 501,V.own 502,V.own 503,V.own 504],Ob.row 131 1 n (rowC x),Ob.row 55 4 m fun(i:Nat)=>Tk4.c (tk i),Ob.row 149 2 q (flC g),Ob.row 40 13 l fun(x:Nat)=>List.replicate (13:Nat) V.any]) (v':=V.tup [V.i 0,V.i e]) (δ:=[]) (kp:=[500,501,502,503,504]) (h) kR kR kR kR kR kR kR rfl kR kR ⟨kR,⟨(fun _ _=>rfl),⟨(fun _ _=>rfl),⟨(fun _ _=>rfl),⟨(fun _ _=>rfl),tI⟩⟩⟩⟩⟩ kR kR kR ?_
 refine aY hTT 5 [] ?_;refine aops_nil ⟨kR,(xt_n (hK _ ?_))⟩;clear hK K;refine sK fun K hK=>sK fun K hK=>wR 8 ?_;refine aY hTT 2 [] ?_;refine nK hK ?_;clear hK K
 refine w_cond (t:=decide (e=0)) kR (fun c3=> ?_) (fun c3=> ?_)
 ·
  simp at c3;exact absurd c3 he
 ·
  refine aw_skip ?_
  refine xt_n (hK _ ?_);clear hK K;refine sK fun K hK=>wR 9 ?_;refine aY hTT 4 [] ?_;refine nK hK ?_;clear hK K
  refine aw_ret ?_
  refine retM (v':=V.tup [V.i 0,V.i e]) [] [(4,V.i 0),(5,V.i e)] (.inr rfl) (.cons kR (.cons kR .nil)) (.cons oS (.cons oS (.cons oS (.cons oS (.cons oS .nil))))) kR kR kR kR kR kR kR
set_option maxRecDepth 100000 in
theorem do_flaw_e5(r:Rc)(n:Nat)(x:Nat→Value)(m:Nat)(tk:Nat→Tk4)(q:Nat)(g:Nat→Int×Int)(l:Nat){cut area stock yield plate bath s0 s1 cur sec place flaw:Int}{e:Int}(he:e≠0)(hl:l< 1000)(hv:actB (⟨4,cut,area,stock,yield,plate,bath,s0,s1,cur,sec,place,flaw⟩:Act)=true)(h:AM Tryz.prog 54 [.ref 500 0,Act.v (⟨4,cut,area,stock,yield,plate,bath,s0,s1,cur,sec,place,flaw⟩:Act)] (ins5 r n (rowC x) m tk q (flC g) l) (.tup [.i 0,.i e]) ((ins5 r n (rowC x) m tk q (flC g) l).map some) []) :
  AM Tryz.prog 13 [.ref 500 0,Act.v (⟨4,cut,area,stock,yield,plate,bath,s0,s1,cur,sec,place,flaw⟩:Act)] (ins5 r n (rowC x) m tk q (flC g) l) (.tup [.i 0,.i e]) ((ins5 r n (rowC x) m tk q (flC g) l).map some) []:=by
 refine am_intro hTT hMX (fn:=Tryz.f13) (N:=_) ⟨Tryz.func13,rfl,Tryz.ntmps13,kR⟩ (by simp) rfl (by simp) (by simp) fun C hF=> ?_
 refine sK fun K hK=>wR 2 ?_;refine aY hTT 3 [] ?_;refine nK hK ?_;clear hK K;refine sK fun K hK=> ?_
 refine aw_block ?_
 refine sK fun K hK=>wR 3 ?_;refine aY hTT 1 [] ?_
 refine aops_readF (preB r) (bad_ac r .any .any .any .any) rfl rfl ⟨fzB,trivial⟩ rfl rfl rfl ⟨rfl,trivial⟩ ?_
 refine aY hTT 1 [] ?_;refine nK hK ?_;clear hK K;refine w_false (t:=false) kR rfl (sK fun K hK=>wR 4 ?_);refine aY hTT 7 [(3,.c ((17:Nat)≤(18:Nat)) oM)] ?_;refine nK hK ?_;clear hK K
 refine w_cond (t:=decide ((1000:Int)≤(↑l:Int))) kR (fun c1=> ?_) (fun c1=> ?_)
 ·
  simp at c1;omega
 refine sK fun K hK=>wR 5 ?_;refine aY hTT 1 [] ?_
 refine eC (valid_ac (⟨4,cut,area,stock,yield,plate,bath,s0,s1,cur,sec,place,flaw⟩:Act)) ?_
 rw [hv]
 refine aY hTT 2 [] ?_;refine nK hK ?_;clear hK K;refine w_false (t:=false) kR rfl ?_
 refine aw_skip ?_
 refine xb_n (xt_n (hK _ ?_));clear hK K;refine sK fun K hK=>wR 6 ?_;refine aY hTT 3 [(2,.c ((0:Nat)+(7:Nat)≤(7:Nat)) oM)] ?_;refine nK hK ?_;clear hK K;refine sK fun K hK=>wD 7 ?_;refine aY hTT 6 [(2,.d),(0,.c ((4:Nat)≤(7:Nat)) oM)] ?_
 refine aops_callR [500,501,502,503,504] (first:=[]) (caps:=[]) (ins':=[Ob.box 123 [V.b true,V.i (Rc.n0 r),V.i (Rc.n1 r),V.i (Rc.n2 r),V.i (Rc.n3 r),V.i (Rc.k0 r),V.i (Rc.k1 r),V.i (Rc.k2 r),V.i (Rc.k3 r),V.i (Rc.seed r),V.i (Rc.soft r),V.i (Rc.hard r),V.i (Rc.mo r),V.i (Rc.st r),V.own 501,V.own 502,V.own 503,V.own 504],Ob.row 131 1 n (rowC x),Ob.row 55 4 m fun(i:Nat)=>Tk4.c (tk i),Ob.row 149 2 q (flC g),Ob.row 40 13 l fun(x:Nat)=>List.replicate (13:Nat) V.any]) (v':=V.tup [V.i 0,V.i e]) (δ:=[]) (kp:=[500,501,502,503,504]) (h) kR kR kR kR kR kR kR rfl kR kR ⟨kR,⟨(fun _ _=>rfl),⟨(fun _ _=>rfl),⟨(fun _ _=>rfl),⟨(fun _ _=>rfl),tI⟩⟩⟩⟩⟩ kR kR kR ?_
 refine aY hTT 5 [] ?_;refine aops_nil ⟨kR,(xt_n (hK _ ?_))⟩;clear hK K;refine sK fun K hK=>sK fun K hK=>wR 8 ?_;refine aY hTT 2 [] ?_;refine nK hK ?_;clear hK K
 refine w_cond (t:=decide (e=0)) kR (fun c3=> ?_) (fun c3=> ?_)
 ·
  simp at c3;exact absurd c3 he
 ·
  refine aw_skip ?_
  refine xt_n (hK _ ?_);clear hK K;refine sK fun K hK=>wR 9 ?_;refine aY hTT 4 [] ?_;refine nK hK ?_;clear hK K
  refine aw_ret ?_
  refine retM (v':=V.tup [V.i 0,V.i e]) [] [(4,V.i 0),(5,V.i e)] (.inr rfl) (.cons kR (.cons kR .nil)) (.cons oS (.cons oS (.cons oS (.cons oS (.cons oS .nil))))) kR kR kR kR kR kR kR
set_option maxRecDepth 100000 in
theorem do_mend_e5(r:Rc)(n:Nat)(x:Nat→Value)(m:Nat)(tk:Nat→Tk4)(q:Nat)(g:Nat→Int×Int)(l:Nat){cut area stock yield plate bath s0 s1 cur sec place flaw:Int}{e:Int}(he:e≠0)(hl:l< 1000)(hv:actB (⟨5,cut,area,stock,yield,plate,bath,s0,s1,cur,sec,place,flaw⟩:Act)=true)(h:AM Tryz.prog 55 [.ref 500 0,Act.v (⟨5,cut,area,stock,yield,plate,bath,s0,s1,cur,sec,place,flaw⟩:Act)] (ins5 r n (rowC x) m tk q (flC g) l) (.tup [.i 0,.i e]) ((ins5 r n (rowC x) m tk q (flC g) l).map some) []) :
  AM Tryz.prog 13 [.ref 500 0,Act.v (⟨5,cut,area,stock,yield,plate,bath,s0,s1,cur,sec,place,flaw⟩:Act)] (ins5 r n (rowC x) m tk q (flC g) l) (.tup [.i 0,.i e]) ((ins5 r n (rowC x) m tk q (flC g) l).map some) []:=by
 refine am_intro hTT hMX (fn:=Tryz.f13) (N:=_) ⟨Tryz.func13,rfl,Tryz.ntmps13,kR⟩ (by simp) rfl (by simp) (by simp) fun C hF=> ?_
 refine sK fun K hK=>wR 2 ?_;refine aY hTT 3 [] ?_;refine nK hK ?_;clear hK K;refine sK fun K hK=> ?_
 refine aw_block ?_
 refine sK fun K hK=>wR 3 ?_;refine aY hTT 1 [] ?_
 refine aops_readF (preB r) (bad_ac r .any .any .any .any) rfl rfl ⟨fzB,trivial⟩ rfl rfl rfl ⟨rfl,trivial⟩ ?_
 refine aY hTT 1 [] ?_;refine nK hK ?_;clear hK K;refine w_false (t:=false) kR rfl (sK fun K hK=>wR 4 ?_);refine aY hTT 7 [(3,.c ((17:Nat)≤(18:Nat)) oM)] ?_;refine nK hK ?_;clear hK K
 refine w_cond (t:=decide ((1000:Int)≤(↑l:Int))) kR (fun c1=> ?_) (fun c1=> ?_)
 ·
  simp at c1;omega
 refine sK fun K hK=>wR 5 ?_;refine aY hTT 1 [] ?_
 refine eC (valid_ac (⟨5,cut,area,stock,yield,plate,bath,s0,s1,cur,sec,place,flaw⟩:Act)) ?_
 rw [hv]
 refine aY hTT 2 [] ?_;refine nK hK ?_;clear hK K;refine w_false (t:=false) kR rfl ?_
 refine aw_skip ?_
 refine xb_n (xt_n (hK _ ?_));clear hK K;refine sK fun K hK=>wR 6 ?_;refine aY hTT 3 [(2,.c ((0:Nat)+(7:Nat)≤(7:Nat)) oM)] ?_;refine nK hK ?_;clear hK K;refine sK fun K hK=>wD 7 ?_;refine aY hTT 6 [(2,.d),(0,.c ((5:Nat)≤(7:Nat)) oM)] ?_
 refine aops_callR [500,501,502,503,504] (first:=[]) (caps:=[]) (ins':=[Ob.box 123 [V.b true,V.i (Rc.n0 r),V.i (Rc.n1 r),V.i (Rc.n2 r),V.i (Rc.n3 r),V.i (Rc.k0 r),V.i (Rc.k1 r),V.i (Rc.k2 r),V.i (Rc.k3 r),V.i (Rc.seed r),V.i (Rc.soft r),V.i (Rc.hard r),V.i (Rc.mo r),V.i (Rc.st r),V.own 501,V.own 502,V.own 503,V.own 504],Ob.row 131 1 n (rowC x),Ob.row 55 4 m fun(i:Nat)=>Tk4.c (tk i),Ob.row 149 2 q (flC g),Ob.row 40 13 l fun(x:Nat)=>List.replicate (13:Nat) V.any]) (v':=V.tup [V.i 0,V.i e]) (δ:=[]) (kp:=[500,501,502,503,504]) (h) kR kR kR kR kR kR kR rfl kR kR ⟨kR,⟨(fun _ _=>rfl),⟨(fun _ _=>rfl),⟨(fun _ _=>rfl),⟨(fun _ _=>rfl),tI⟩⟩⟩⟩⟩ kR kR kR ?_
 refine aY hTT 5 [] ?_;refine aops_nil ⟨kR,(xt_n (hK _ ?_))⟩;clear hK K;refine sK fun K hK=>sK fun K hK=>wR 8 ?_;refine aY hTT 2 [] ?_;refine nK hK ?_;clear hK K
 refine w_cond (t:=decide (e=0)) kR (fun c3=> ?_) (fun c3=> ?_)
 ·
  simp at c3;exact absurd c3 he
 ·
  refine aw_skip ?_
  refine xt_n (hK _ ?_);clear hK K;refine sK fun K hK=>wR 9 ?_;refine aY hTT 4 [] ?_;refine nK hK ?_;clear hK K
  refine aw_ret ?_
  refine retM (v':=V.tup [V.i 0,V.i e]) [] [(4,V.i 0),(5,V.i e)] (.inr rfl) (.cons kR (.cons kR .nil)) (.cons oS (.cons oS (.cons oS (.cons oS (.cons oS .nil))))) kR kR kR kR kR kR kR
set_option maxRecDepth 100000 in
theorem do_retire_e5(r:Rc)(n:Nat)(x:Nat→Value)(m:Nat)(tk:Nat→Tk4)(q:Nat)(g:Nat→Int×Int)(l:Nat){cut area stock yield plate bath s0 s1 cur sec place flaw:Int}{e:Int}(he:e≠0)(hl:l< 1000)(hv:actB (⟨6,cut,area,stock,yield,plate,bath,s0,s1,cur,sec,place,flaw⟩:Act)=true)(h:AM Tryz.prog 56 [.ref 500 0,Act.v (⟨6,cut,area,stock,yield,plate,bath,s0,s1,cur,sec,place,flaw⟩:Act)] (ins5 r n (rowC x) m tk q (flC g) l) (.tup [.i 0,.i e]) ((ins5 r n (rowC x) m tk q (flC g) l).map some) []) :
  AM Tryz.prog 13 [.ref 500 0,Act.v (⟨6,cut,area,stock,yield,plate,bath,s0,s1,cur,sec,place,flaw⟩:Act)] (ins5 r n (rowC x) m tk q (flC g) l) (.tup [.i 0,.i e]) ((ins5 r n (rowC x) m tk q (flC g) l).map some) []:=by
 refine am_intro hTT hMX (fn:=Tryz.f13) (N:=_) ⟨Tryz.func13,rfl,Tryz.ntmps13,kR⟩ (by simp) rfl (by simp) (by simp) fun C hF=> ?_
 refine sK fun K hK=>wR 2 ?_;refine aY hTT 3 [] ?_;refine nK hK ?_;clear hK K;refine sK fun K hK=> ?_
 refine aw_block ?_
 refine sK fun K hK=>wR 3 ?_;refine aY hTT 1 [] ?_
 refine aops_readF (preB r) (bad_ac r .any .any .any .any) rfl rfl ⟨fzB,trivial⟩ rfl rfl rfl ⟨rfl,trivial⟩ ?_
 refine aY hTT 1 [] ?_;refine nK hK ?_;clear hK K;refine w_false (t:=false) kR rfl (sK fun K hK=>wR 4 ?_);refine aY hTT 7 [(3,.c ((17:Nat)≤(18:Nat)) oM)] ?_;refine nK hK ?_;clear hK K
 refine w_cond (t:=decide ((1000:Int)≤(↑l:Int))) kR (fun c1=> ?_) (fun c1=> ?_)
 ·
  simp at c1;omega
 refine sK fun K hK=>wR 5 ?_;refine aY hTT 1 [] ?_
 refine eC (valid_ac (⟨6,cut,area,stock,yield,plate,bath,s0,s1,cur,sec,place,flaw⟩:Act)) ?_
 rw [hv]
 refine aY hTT 2 [] ?_;refine nK hK ?_;clear hK K;refine w_false (t:=false) kR rfl ?_
 refine aw_skip ?_
 refine xb_n (xt_n (hK _ ?_));clear hK K;refine sK fun K hK=>wR 6 ?_;refine aY hTT 3 [(2,.c ((0:Nat)+(7:Nat)≤(7:Nat)) oM)] ?_;refine nK hK ?_;clear hK K;refine sK fun K hK=>wD 7 ?_;refine aY hTT 6 [(2,.d),(0,.c ((6:Nat)≤(7:Nat)) oM)] ?_
 refine aops_callR [500,501,502,503,504] (first:=[]) (caps:=[]) (ins':=[Ob.box 123 [V.b true,V.i (Rc.n0 r),V.i (Rc.n1 r),V.i (Rc.n2 r),V.i (Rc.n3 r),V.i (Rc.k0 r),V.i (Rc.k1 r),V.i (Rc.k2 r),V.i (Rc.k3 r),V.i (Rc.seed r),V.i (Rc.soft r),V.i (Rc.hard r),V.i (Rc.mo r),V.i (Rc.st r),V.own 501,V.own 502,V.own 503,V.own 504],Ob.row 131 1 n (rowC x),Ob.row 55 4 m fun(i:Nat)=>Tk4.c (tk i),Ob.row 149 2 q (flC g),Ob.row 40 13 l fun(x:Nat)=>List.replicate (13:Nat) V.any]) (v':=V.tup [V.i 0,V.i e]) (δ:=[]) (kp:=[500,501,502,503,504]) (h) kR kR kR kR kR kR kR rfl kR kR ⟨kR,⟨(fun _ _=>rfl),⟨(fun _ _=>rfl),⟨(fun _ _=>rfl),⟨(fun _ _=>rfl),tI⟩⟩⟩⟩⟩ kR kR kR ?_
 refine aY hTT 5 [] ?_;refine aops_nil ⟨kR,(xt_n (hK _ ?_))⟩;clear hK K;refine sK fun K hK=>sK fun K hK=>wR 8 ?_;refine aY hTT 2 [] ?_;refine nK hK ?_;clear hK K
 refine w_cond (t:=decide (e=0)) kR (fun c3=> ?_) (fun c3=> ?_)
 ·
  simp at c3;exact absurd c3 he
 ·
  refine aw_skip ?_
  refine xt_n (hK _ ?_);clear hK K;refine sK fun K hK=>wR 9 ?_;refine aY hTT 4 [] ?_;refine nK hK ?_;clear hK K
  refine aw_ret ?_
  refine retM (v':=V.tup [V.i 0,V.i e]) [] [(4,V.i 0),(5,V.i e)] (.inr rfl) (.cons kR (.cons kR .nil)) (.cons oS (.cons oS (.cons oS (.cons oS (.cons oS .nil))))) kR kR kR kR kR kR kR
set_option maxRecDepth 100000 in
theorem do_grow_e7(r:Rc)(n k:Nat)(x:Nat→Value)(m:Nat)(tk:Nat→Tk4)(q:Nat)(g:Nat→Int×Int)(l:Nat)(z:Pl){cut area stock yield plate bath s0 s1 cur sec place flaw:Int}{e:Int}(he:e≠0)(hl:l< 1000)(hv:actB (⟨3,cut,area,stock,yield,plate,bath,s0,s1,cur,sec,place,flaw⟩:Act)=true)(h:AM Tryz.prog 53 [.ref 500 0,Act.v (⟨3,cut,area,stock,yield,plate,bath,s0,s1,cur,sec,place,flaw⟩:Act)] (ins7 r n k x m tk q (flC g) l z) (.tup [.i 0,.i e]) ((ins7 r n k x m tk q (flC g) l z).map some) []) :
  AM Tryz.prog 13 [.ref 500 0,Act.v (⟨3,cut,area,stock,yield,plate,bath,s0,s1,cur,sec,place,flaw⟩:Act)] (ins7 r n k x m tk q (flC g) l z) (.tup [.i 0,.i e]) ((ins7 r n k x m tk q (flC g) l z).map some) []:=by
 refine am_intro hTT hMX (fn:=Tryz.f13) (N:=_) ⟨Tryz.func13,rfl,Tryz.ntmps13,kR⟩ (by simp) rfl (by simp) (by simp) fun C hF=> ?_
 refine sK fun K hK=>wR 2 ?_;refine aY hTT 3 [] ?_;refine nK hK ?_;clear hK K;refine sK fun K hK=> ?_
 refine aw_block ?_
 refine sK fun K hK=>wR 3 ?_;refine aY hTT 1 [] ?_
 refine aops_readF (preB r) (bad_ac r .any .any .any .any) rfl rfl ⟨fzB,trivial⟩ rfl rfl rfl ⟨rfl,trivial⟩ ?_
 refine aY hTT 1 [] ?_;refine nK hK ?_;clear hK K;refine w_false (t:=false) kR rfl (sK fun K hK=>wR 4 ?_);refine aY hTT 7 [(3,.c ((17:Nat)≤(18:Nat)) oM)] ?_;refine nK hK ?_;clear hK K
 refine w_cond (t:=decide ((1000:Int)≤(↑l:Int))) kR (fun c1=> ?_) (fun c1=> ?_)
 ·
  simp at c1;omega
 refine sK fun K hK=>wR 5 ?_;refine aY hTT 1 [] ?_
 refine eC (valid_ac (⟨3,cut,area,stock,yield,plate,bath,s0,s1,cur,sec,place,flaw⟩:Act)) ?_
 rw [hv]
 refine aY hTT 2 [] ?_;refine nK hK ?_;clear hK K;refine w_false (t:=false) kR rfl ?_
 refine aw_skip ?_
 refine xb_n (xt_n (hK _ ?_));clear hK K;refine sK fun K hK=>wR 6 ?_;refine aY hTT 3 [(2,.c ((0:Nat)+(7:Nat)≤(7:Nat)) oM)] ?_;refine nK hK ?_;clear hK K;refine sK fun K hK=>wD 7 ?_;refine aY hTT 6 [(2,.d),(0,.c ((3:Nat)≤(7:Nat)) oM)] ?_
 refine aops_callR [500,501,502,503,504,505,506] (first:=[]) (caps:=[]) (ins':=[Ob.box 123 [V.b true,V.i (Rc.n0 r),V.i (Rc.n1 r),V.i (Rc.n2 r),V.i (Rc.n3 r),V.i (Rc.k0 r),V.i (Rc.k1 r),V.i (Rc.k2 r),V.i (Rc.k3 r),V.i (Rc.seed r),V.i (Rc.soft r),V.i (Rc.hard r),V.i (Rc.mo r),V.i (Rc.st r),V.own 501,V.own 502,V.own 503,V.own 504],Ob.row 131 1 n (rowX (505:Nat) k x),Ob.row 55 4 m fun(i:Nat)=>Tk4.c (tk i),Ob.row 149 2 q (flC g),Ob.row 40 13 l fun(x:Nat)=>List.replicate (13:Nat) V.any,Ob.box 134 [V.i (↑(Pl.kind z):Int),V.i (Pl.par z),V.i (Pl.cut z),V.i (Pl.area z),V.i (Pl.thick z),V.i (Pl.grown z),V.b (Pl.ret z),V.own 506],Ob.mp (false,Pl.cnt z)   (MF.mk [] fun(k:MK)=>     match k with     |MK.i n=>if Pl.fl z n=true then some (Value.agg #[])else none     |MK.s b=>none)]) (v':=V.tup [V.i 0,V.i e]) (δ:=[]) (kp:=[500,501,502,503,504,505,506]) (h) kR kR kR kR kR kR kR rfl kR kR ⟨kR,⟨(fun _ _=>rfl),⟨(fun _ _=>rfl),⟨(fun _ _=>rfl),⟨(fun _ _=>rfl),⟨kR,⟨?_,tI⟩⟩⟩⟩⟩⟩⟩ kR kR kR ?_
 ·
  exact setF_inN
 refine aY hTT 5 [] ?_;refine aops_nil ⟨kR,(xt_n (hK _ ?_))⟩;clear hK K;refine sK fun K hK=>sK fun K hK=>wR 8 ?_;refine aY hTT 2 [] ?_;refine nK hK ?_;clear hK K
 refine w_cond (t:=decide (e=0)) kR (fun c3=> ?_) (fun c3=> ?_)
 ·
  simp at c3;exact absurd c3 he
 ·
  refine aw_skip ?_
  refine xt_n (hK _ ?_);clear hK K;refine sK fun K hK=>wR 9 ?_;refine aY hTT 4 [] ?_;refine nK hK ?_;clear hK K
  refine aw_ret ?_
  refine retM (v':=V.tup [V.i 0,V.i e]) [] [(4,V.i 0),(5,V.i e)] (.inr rfl) (.cons kR (.cons kR .nil)) (.cons oS (.cons oS (.cons oS (.cons oS (.cons oS (.cons oS (.cons oS .nil))))))) kR kR kR kR kR kR kR
set_option maxRecDepth 100000 in
theorem do_flaw_e7(r:Rc)(n k:Nat)(x:Nat→Value)(m:Nat)(tk:Nat→Tk4)(q:Nat)(g:Nat→Int×Int)(l:Nat)(z:Pl){cut area stock yield plate bath s0 s1 cur sec place flaw:Int}{e:Int}(he:e≠0)(hl:l< 1000)(hv:actB (⟨4,cut,area,stock,yield,plate,bath,s0,s1,cur,sec,place,flaw⟩:Act)=true)(h:AM Tryz.prog 54 [.ref 500 0,Act.v (⟨4,cut,area,stock,yield,plate,bath,s0,s1,cur,sec,place,flaw⟩:Act)] (ins7 r n k x m tk q (flC g) l z) (.tup [.i 0,.i e]) ((ins7 r n k x m tk q (flC g) l z).map some) []) :
  AM Tryz.prog 13 [.ref 500 0,Act.v (⟨4,cut,area,stock,yield,plate,bath,s0,s1,cur,sec,place,flaw⟩:Act)] (ins7 r n k x m tk q (flC g) l z) (.tup [.i 0,.i e]) ((ins7 r n k x m tk q (flC g) l z).map some) []:=by
 refine am_intro hTT hMX (fn:=Tryz.f13) (N:=_) ⟨Tryz.func13,rfl,Tryz.ntmps13,kR⟩ (by simp) rfl (by simp) (by simp) fun C hF=> ?_
 refine sK fun K hK=>wR 2 ?_;refine aY hTT 3 [] ?_;refine nK hK ?_;clear hK K;refine sK fun K hK=> ?_
 refine aw_block ?_
 refine sK fun K hK=>wR 3 ?_;refine aY hTT 1 [] ?_
 refine aops_readF (preB r) (bad_ac r .any .any .any .any) rfl rfl ⟨fzB,trivial⟩ rfl rfl rfl ⟨rfl,trivial⟩ ?_
 refine aY hTT 1 [] ?_;refine nK hK ?_;clear hK K;refine w_false (t:=false) kR rfl (sK fun K hK=>wR 4 ?_);refine aY hTT 7 [(3,.c ((17:Nat)≤(18:Nat)) oM)] ?_;refine nK hK ?_;clear hK K
 refine w_cond (t:=decide ((1000:Int)≤(↑l:Int))) kR (fun c1=> ?_) (fun c1=> ?_)
 ·
  simp at c1;omega
 refine sK fun K hK=>wR 5 ?_;refine aY hTT 1 [] ?_
 refine eC (valid_ac (⟨4,cut,area,stock,yield,plate,bath,s0,s1,cur,sec,place,flaw⟩:Act)) ?_
 rw [hv]
 refine aY hTT 2 [] ?_;refine nK hK ?_;clear hK K;refine w_false (t:=false) kR rfl ?_
 refine aw_skip ?_
 refine xb_n (xt_n (hK _ ?_));clear hK K;refine sK fun K hK=>wR 6 ?_;refine aY hTT 3 [(2,.c ((0:Nat)+(7:Nat)≤(7:Nat)) oM)] ?_;refine nK hK ?_;clear hK K;refine sK fun K hK=>wD 7 ?_;refine aY hTT 6 [(2,.d),(0,.c ((4:Nat)≤(7:Nat)) oM)] ?_
 refine aops_callR [500,501,502,503,504,505,506] (first:=[]) (caps:=[]) (ins':=[Ob.box 123 [V.b true,V.i (Rc.n0 r),V.i (Rc.n1 r),V.i (Rc.n2 r),V.i (Rc.n3 r),V.i (Rc.k0 r),V.i (Rc.k1 r),V.i (Rc.k2 r),V.i (Rc.k3 r),V.i (Rc.seed r),V.i (Rc.soft r),V.i (Rc.hard r),V.i (Rc.mo r),V.i (Rc.st r),V.own 501,V.own 502,V.own 503,V.own 504],Ob.row 131 1 n (rowX (505:Nat) k x),Ob.row 55 4 m fun(i:Nat)=>Tk4.c (tk i),Ob.row 149 2 q (flC g),Ob.row 40 13 l fun(x:Nat)=>List.replicate (13:Nat) V.any,Ob.box 134 [V.i (↑(Pl.kind z):Int),V.i (Pl.par z),V.i (Pl.cut z),V.i (Pl.area z),V.i (Pl.thick z),V.i (Pl.grown z),V.b (Pl.ret z),V.own 506],Ob.mp (false,Pl.cnt z)   (MF.mk [] fun(k:MK)=>     match k with     |MK.i n=>if Pl.fl z n=true then some (Value.agg #[])else none     |MK.s b=>none)]) (v':=V.tup [V.i 0,V.i e]) (δ:=[]) (kp:=[500,501,502,503,504,505,506]) (h) kR kR kR kR kR kR kR rfl kR kR ⟨kR,⟨(fun _ _=>rfl),⟨(fun _ _=>rfl),⟨(fun _ _=>rfl),⟨(fun _ _=>rfl),⟨kR,⟨?_,tI⟩⟩⟩⟩⟩⟩⟩ kR kR kR ?_
 ·
  exact setF_inN
 refine aY hTT 5 [] ?_;refine aops_nil ⟨kR,(xt_n (hK _ ?_))⟩;clear hK K;refine sK fun K hK=>sK fun K hK=>wR 8 ?_;refine aY hTT 2 [] ?_;refine nK hK ?_;clear hK K
 refine w_cond (t:=decide (e=0)) kR (fun c3=> ?_) (fun c3=> ?_)
 ·
  simp at c3;exact absurd c3 he
 ·
  refine aw_skip ?_
  refine xt_n (hK _ ?_);clear hK K;refine sK fun K hK=>wR 9 ?_;refine aY hTT 4 [] ?_;refine nK hK ?_;clear hK K
  refine aw_ret ?_
  refine retM (v':=V.tup [V.i 0,V.i e]) [] [(4,V.i 0),(5,V.i e)] (.inr rfl) (.cons kR (.cons kR .nil)) (.cons oS (.cons oS (.cons oS (.cons oS (.cons oS (.cons oS (.cons oS .nil))))))) kR kR kR kR kR kR kR
set_option maxRecDepth 100000 in
theorem do_mend_e7(r:Rc)(n k:Nat)(x:Nat→Value)(m:Nat)(tk:Nat→Tk4)(q:Nat)(g:Nat→Int×Int)(l:Nat)(z:Pl){cut area stock yield plate bath s0 s1 cur sec place flaw:Int}{e:Int}(he:e≠0)(hl:l< 1000)(hv:actB (⟨5,cut,area,stock,yield,plate,bath,s0,s1,cur,sec,place,flaw⟩:Act)=true)(h:AM Tryz.prog 55 [.ref 500 0,Act.v (⟨5,cut,area,stock,yield,plate,bath,s0,s1,cur,sec,place,flaw⟩:Act)] (ins7 r n k x m tk q (flC g) l z) (.tup [.i 0,.i e]) ((ins7 r n k x m tk q (flC g) l z).map some) []) :
  AM Tryz.prog 13 [.ref 500 0,Act.v (⟨5,cut,area,stock,yield,plate,bath,s0,s1,cur,sec,place,flaw⟩:Act)] (ins7 r n k x m tk q (flC g) l z) (.tup [.i 0,.i e]) ((ins7 r n k x m tk q (flC g) l z).map some) []:=by
 refine am_intro hTT hMX (fn:=Tryz.f13) (N:=_) ⟨Tryz.func13,rfl,Tryz.ntmps13,kR⟩ (by simp) rfl (by simp) (by simp) fun C hF=> ?_
 refine sK fun K hK=>wR 2 ?_;refine aY hTT 3 [] ?_;refine nK hK ?_;clear hK K;refine sK fun K hK=> ?_
 refine aw_block ?_
 refine sK fun K hK=>wR 3 ?_;refine aY hTT 1 [] ?_
 refine aops_readF (preB r) (bad_ac r .any .any .any .any) rfl rfl ⟨fzB,trivial⟩ rfl rfl rfl ⟨rfl,trivial⟩ ?_
 refine aY hTT 1 [] ?_;refine nK hK ?_;clear hK K;refine w_false (t:=false) kR rfl (sK fun K hK=>wR 4 ?_);refine aY hTT 7 [(3,.c ((17:Nat)≤(18:Nat)) oM)] ?_;refine nK hK ?_;clear hK K
 refine w_cond (t:=decide ((1000:Int)≤(↑l:Int))) kR (fun c1=> ?_) (fun c1=> ?_)
 ·
  simp at c1;omega
 refine sK fun K hK=>wR 5 ?_;refine aY hTT 1 [] ?_
 refine eC (valid_ac (⟨5,cut,area,stock,yield,plate,bath,s0,s1,cur,sec,place,flaw⟩:Act)) ?_
 rw [hv]
 refine aY hTT 2 [] ?_;refine nK hK ?_;clear hK K;refine w_false (t:=false) kR rfl ?_
 refine aw_skip ?_
 refine xb_n (xt_n (hK _ ?_));clear hK K;refine sK fun K hK=>wR 6 ?_;refine aY hTT 3 [(2,.c ((0:Nat)+(7:Nat)≤(7:Nat)) oM)] ?_;refine nK hK ?_;clear hK K;refine sK fun K hK=>wD 7 ?_;refine aY hTT 6 [(2,.d),(0,.c ((5:Nat)≤(7:Nat)) oM)] ?_
 refine aops_callR [500,501,502,503,504,505,506] (first:=[]) (caps:=[]) (ins':=[Ob.box 123 [V.b true,V.i (Rc.n0 r),V.i (Rc.n1 r),V.i (Rc.n2 r),V.i (Rc.n3 r),V.i (Rc.k0 r),V.i (Rc.k1 r),V.i (Rc.k2 r),V.i (Rc.k3 r),V.i (Rc.seed r),V.i (Rc.soft r),V.i (Rc.hard r),V.i (Rc.mo r),V.i (Rc.st r),V.own 501,V.own 502,V.own 503,V.own 504],Ob.row 131 1 n (rowX (505:Nat) k x),Ob.row 55 4 m fun(i:Nat)=>Tk4.c (tk i),Ob.row 149 2 q (flC g),Ob.row 40 13 l fun(x:Nat)=>List.replicate (13:Nat) V.any,Ob.box 134 [V.i (↑(Pl.kind z):Int),V.i (Pl.par z),V.i (Pl.cut z),V.i (Pl.area z),V.i (Pl.thick z),V.i (Pl.grown z),V.b (Pl.ret z),V.own 506],Ob.mp (false,Pl.cnt z)   (MF.mk [] fun(k:MK)=>     match k with     |MK.i n=>if Pl.fl z n=true then some (Value.agg #[])else none     |MK.s b=>none)]) (v':=V.tup [V.i 0,V.i e]) (δ:=[]) (kp:=[500,501,502,503,504,505,506]) (h) kR kR kR kR kR kR kR rfl kR kR ⟨kR,⟨(fun _ _=>rfl),⟨(fun _ _=>rfl),⟨(fun _ _=>rfl),⟨(fun _ _=>rfl),⟨kR,⟨?_,tI⟩⟩⟩⟩⟩⟩⟩ kR kR kR ?_
 ·
  exact setF_inN
 refine aY hTT 5 [] ?_;refine aops_nil ⟨kR,(xt_n (hK _ ?_))⟩;clear hK K;refine sK fun K hK=>sK fun K hK=>wR 8 ?_;refine aY hTT 2 [] ?_;refine nK hK ?_;clear hK K
 refine w_cond (t:=decide (e=0)) kR (fun c3=> ?_) (fun c3=> ?_)
 ·
  simp at c3;exact absurd c3 he
 ·
  refine aw_skip ?_
  refine xt_n (hK _ ?_);clear hK K;refine sK fun K hK=>wR 9 ?_;refine aY hTT 4 [] ?_;refine nK hK ?_;clear hK K
  refine aw_ret ?_
  refine retM (v':=V.tup [V.i 0,V.i e]) [] [(4,V.i 0),(5,V.i e)] (.inr rfl) (.cons kR (.cons kR .nil)) (.cons oS (.cons oS (.cons oS (.cons oS (.cons oS (.cons oS (.cons oS .nil))))))) kR kR kR kR kR kR kR
set_option maxRecDepth 100000 in
theorem do_retire_e7(r:Rc)(n k:Nat)(x:Nat→Value)(m:Nat)(tk:Nat→Tk4)(q:Nat)(g:Nat→Int×Int)(l:Nat)(z:Pl){cut area stock yield plate bath s0 s1 cur sec place flaw:Int}{e:Int}(he:e≠0)(hl:l< 1000)(hv:actB (⟨6,cut,area,stock,yield,plate,bath,s0,s1,cur,sec,place,flaw⟩:Act)=true)(h:AM Tryz.prog 56 [.ref 500 0,Act.v (⟨6,cut,area,stock,yield,plate,bath,s0,s1,cur,sec,place,flaw⟩:Act)] (ins7 r n k x m tk q (flC g) l z) (.tup [.i 0,.i e]) ((ins7 r n k x m tk q (flC g) l z).map some) []) :
  AM Tryz.prog 13 [.ref 500 0,Act.v (⟨6,cut,area,stock,yield,plate,bath,s0,s1,cur,sec,place,flaw⟩:Act)] (ins7 r n k x m tk q (flC g) l z) (.tup [.i 0,.i e]) ((ins7 r n k x m tk q (flC g) l z).map some) []:=by
 refine am_intro hTT hMX (fn:=Tryz.f13) (N:=_) ⟨Tryz.func13,rfl,Tryz.ntmps13,kR⟩ (by simp) rfl (by simp) (by simp) fun C hF=> ?_
 refine sK fun K hK=>wR 2 ?_;refine aY hTT 3 [] ?_;refine nK hK ?_;clear hK K;refine sK fun K hK=> ?_
 refine aw_block ?_
 refine sK fun K hK=>wR 3 ?_;refine aY hTT 1 [] ?_
 refine aops_readF (preB r) (bad_ac r .any .any .any .any) rfl rfl ⟨fzB,trivial⟩ rfl rfl rfl ⟨rfl,trivial⟩ ?_
 refine aY hTT 1 [] ?_;refine nK hK ?_;clear hK K;refine w_false (t:=false) kR rfl (sK fun K hK=>wR 4 ?_);refine aY hTT 7 [(3,.c ((17:Nat)≤(18:Nat)) oM)] ?_;refine nK hK ?_;clear hK K
 refine w_cond (t:=decide ((1000:Int)≤(↑l:Int))) kR (fun c1=> ?_) (fun c1=> ?_)
 ·
  simp at c1;omega
 refine sK fun K hK=>wR 5 ?_;refine aY hTT 1 [] ?_
 refine eC (valid_ac (⟨6,cut,area,stock,yield,plate,bath,s0,s1,cur,sec,place,flaw⟩:Act)) ?_
 rw [hv]
 refine aY hTT 2 [] ?_;refine nK hK ?_;clear hK K;refine w_false (t:=false) kR rfl ?_
 refine aw_skip ?_
 refine xb_n (xt_n (hK _ ?_));clear hK K;refine sK fun K hK=>wR 6 ?_;refine aY hTT 3 [(2,.c ((0:Nat)+(7:Nat)≤(7:Nat)) oM)] ?_;refine nK hK ?_;clear hK K;refine sK fun K hK=>wD 7 ?_;refine aY hTT 6 [(2,.d),(0,.c ((6:Nat)≤(7:Nat)) oM)] ?_
 refine aops_callR [500,501,502,503,504,505,506] (first:=[]) (caps:=[]) (ins':=[Ob.box 123 [V.b true,V.i (Rc.n0 r),V.i (Rc.n1 r),V.i (Rc.n2 r),V.i (Rc.n3 r),V.i (Rc.k0 r),V.i (Rc.k1 r),V.i (Rc.k2 r),V.i (Rc.k3 r),V.i (Rc.seed r),V.i (Rc.soft r),V.i (Rc.hard r),V.i (Rc.mo r),V.i (Rc.st r),V.own 501,V.own 502,V.own 503,V.own 504],Ob.row 131 1 n (rowX (505:Nat) k x),Ob.row 55 4 m fun(i:Nat)=>Tk4.c (tk i),Ob.row 149 2 q (flC g),Ob.row 40 13 l fun(x:Nat)=>List.replicate (13:Nat) V.any,Ob.box 134 [V.i (↑(Pl.kind z):Int),V.i (Pl.par z),V.i (Pl.cut z),V.i (Pl.area z),V.i (Pl.thick z),V.i (Pl.grown z),V.b (Pl.ret z),V.own 506],Ob.mp (false,Pl.cnt z)   (MF.mk [] fun(k:MK)=>     match k with     |MK.i n=>if Pl.fl z n=true then some (Value.agg #[])else none     |MK.s b=>none)]) (v':=V.tup [V.i 0,V.i e]) (δ:=[]) (kp:=[500,501,502,503,504,505,506]) (h) kR kR kR kR kR kR kR rfl kR kR ⟨kR,⟨(fun _ _=>rfl),⟨(fun _ _=>rfl),⟨(fun _ _=>rfl),⟨(fun _ _=>rfl),⟨kR,⟨?_,tI⟩⟩⟩⟩⟩⟩⟩ kR kR kR ?_
 ·
  exact setF_inN
 refine aY hTT 5 [] ?_;refine aops_nil ⟨kR,(xt_n (hK _ ?_))⟩;clear hK K;refine sK fun K hK=>sK fun K hK=>wR 8 ?_;refine aY hTT 2 [] ?_;refine nK hK ?_;clear hK K
 refine w_cond (t:=decide (e=0)) kR (fun c3=> ?_) (fun c3=> ?_)
 ·
  simp at c3;exact absurd c3 he
 ·
  refine aw_skip ?_
  refine xt_n (hK _ ?_);clear hK K;refine sK fun K hK=>wR 9 ?_;refine aY hTT 4 [] ?_;refine nK hK ?_;clear hK K
  refine aw_ret ?_
  refine retM (v':=V.tup [V.i 0,V.i e]) [] [(4,V.i 0),(5,V.i e)] (.inr rfl) (.cons kR (.cons kR .nil)) (.cons oS (.cons oS (.cons oS (.cons oS (.cons oS (.cons oS (.cons oS .nil))))))) kR kR kR kR kR kR kR
end Go.Proofs.YtjmbpjlojjgggaaGreatDoor

namespace Go.Proofs.YtjmbpjlojjgggaaGreatDoor
open Go.Ab Go.RowKit Go.Dw Go.Shelf
set_option maxRecDepth 100000 in
theorem do_lacquer_ok(r:Rc)(n:Nat)(x:Nat→Value)(m:Nat)(tk:Nat→Tk4)(q:Nat)(g:Nat→Int×Int)(l:Nat)(p:Pl){cut area stock yield plate bath s0 s1 cur sec place flaw:Int}(hl:l< 1000)(hv:actB (⟨1,cut,area,stock,yield,plate,bath,s0,s1,cur,sec,place,flaw⟩:Act)=true)(h:AM Tryz.prog 51 [.ref 500 0,Act.v (⟨1,cut,area,stock,yield,plate,bath,s0,s1,cur,sec,place,flaw⟩:Act)] (ins5 r n (rowC x) m tk q (flC g) l) (.tup [.i n,.i 0]) [some (.box 123 (shC r (.own 0) (.own 502) (.own 503) (.own 504))),none,some (.row 55 4 m (fun i=>(tk i).c)),some (.row 149 2 q (flC g)),some (.row 40 13 l anyR)] [.row 131 1 (n+1) (rowZ n 1 x),.box 134 (p.c++[.own 2]),.mp (false,p.cnt) (setF p.fl)]) :
  AM Tryz.prog 13 [.ref 500 0,Act.v (⟨1,cut,area,stock,yield,plate,bath,s0,s1,cur,sec,place,flaw⟩:Act)] (ins5 r n (rowC x) m tk q (flC g) l) (.tup [.i n,.i 0]) [some (.box 123 (shC r (.own 0) (.own 502) (.own 503) (.own 3))),none,some (.row 55 4 m (fun i=>(tk i).c)),some (.row 149 2 q (flC g)),none] [.row 131 1 (n+1) (rowZ n 1 x),.box 134 (p.c++[.own 2]),.mp (false,p.cnt) (setF p.fl),.row 40 13 (l+1) anyR]:=by
 refine am_intro hTT hMX (fn:=Tryz.f13) (N:=_) ⟨Tryz.func13,rfl,Tryz.ntmps13,kR⟩ (by simp) rfl (by simp) (by simp) fun C hF=> ?_
 refine sK fun K hK=>wR 2 ?_;refine aY hTT 3 [] ?_;refine nK hK ?_;clear hK K;refine sK fun K hK=> ?_
 refine aw_block ?_
 refine sK fun K hK=>wR 3 ?_;refine aY hTT 1 [] ?_
 refine aops_readF (preB r) (bad_ac r .any .any .any .any) rfl rfl ⟨fzB,trivial⟩ rfl rfl rfl ⟨rfl,trivial⟩ ?_
 refine aY hTT 1 [] ?_;refine nK hK ?_;clear hK K;refine w_false (t:=false) kR rfl (sK fun K hK=>wR 4 ?_);refine aY hTT 7 [(3,.c ((17:Nat)≤(18:Nat)) oM)] ?_;refine nK hK ?_;clear hK K
 refine w_cond (t:=decide ((1000:Int)≤(↑l:Int))) kR (fun c1=> ?_) (fun c1=> ?_)
 ·
  simp at c1;omega
 refine sK fun K hK=>wR 5 ?_;refine aY hTT 1 [] ?_
 refine eC (valid_ac (⟨1,cut,area,stock,yield,plate,bath,s0,s1,cur,sec,place,flaw⟩:Act)) ?_
 rw [hv]
 refine aY hTT 2 [] ?_;refine nK hK ?_;clear hK K;refine w_false (t:=false) kR rfl ?_
 refine aw_skip ?_
 refine xb_n (xt_n (hK _ ?_));clear hK K;refine sK fun K hK=>wR 6 ?_;refine aY hTT 3 [(2,.c ((0:Nat)+(7:Nat)≤(7:Nat)) oM)] ?_;refine nK hK ?_;clear hK K;refine sK fun K hK=>wD 7 ?_;refine aY hTT 6 [(2,.d),(0,.c ((1:Nat)≤(7:Nat)) oM)] ?_
 refine eM [500,501,502,503,504] (h) (iB (iW (iW (iW (iW .nil))))) ?_
 refine aY hTT 5 [] ?_;refine aops_nil ⟨kR,(xt_n (hK _ ?_))⟩;clear hK K;refine sK fun K hK=>sK fun K hK=>wR 8 ?_;refine aY hTT 2 [] ?_;refine nK hK ?_;clear hK K;refine w_true (t:=true) kR rfl (wD 9 (aX hTT 11 [(4,.c ((17:Nat)≤(18:Nat))),(7,.r (PR.mk (some (43:Nat)) (some (l+1≤(1099511627776:Nat))) (V.own 800043) [((504:Nat),none),((800043:Nat),some (Ob.row 40 13 (l+1) (appRow l (fun(i:Nat)=>V.renL (nameG (6:Nat) (some (31:Tmp)) [(500:Nat),(501:Nat),(502:Nat),(503:Nat),(504:Nat)]) (anyR i)) fun(i:Nat)=>List.take (13:Nat) (List.drop (i*13) [V.i 1,V.i cut,V.i area,V.i stock,V.i yield,V.i plate,V.i bath,V.i s0,V.i s1,V.i cur,V.i sec,V.i place,V.i flaw]))))] false)),(10,.r (pw ((17:Nat)+(1:Nat)≤(18:Nat)) (500:Nat) (Ob.box 123 [V.b true,V.i (Rc.n0 r),V.i (Rc.n1 r),V.i (Rc.n2 r),V.i (Rc.n3 r),V.i (Rc.k0 r),V.i (Rc.k1 r),V.i (Rc.k2 r),V.i (Rc.k3 r),V.i (Rc.seed r),V.i (Rc.soft r),V.i (Rc.hard r),V.i (Rc.mo r),V.i (Rc.st r),V.own 600031,V.own 502,V.own 503,V.own 800043])))] ⟨oM,oM,oM,tI⟩ (aops_nil ⟨kR,(xt_n (hK _ ?_))⟩)));clear hK K;refine sK fun K hK=>wR 10 ?_;refine aY hTT 4 [] ?_;refine nK hK ?_;clear hK K
 refine aw_ret ?_
 refine retM_of_le (le_rowAny 800043 (e:=40) (sz:=13) (n:=l+1) (r:=appRow l anyR fun i=>(((⟨1,cut,area,stock,yield,plate,bath,s0,s1,cur,sec,place,flaw⟩:Act)).c.drop (i*13)).take 13) kR) ?_
 refine retM (v':=V.tup [V.i (↑n:Int),V.i 0]) [(0,600031),(3,800043),(1,601031),(2,602031)] [(4,V.i (↑n:Int)),(5,V.i 0)] (.inr rfl) (.cons kR (.cons kR .nil)) (.cons oS (.cons oS (.cons oS (.cons oS (.cons oS (.cons oS (.cons oS .nil))))))) kR kR kR kR kR kR kR
set_option maxRecDepth 100000 in
theorem do_bath_ok(r:Rc)(n:Nat)(x:Nat→Value)(m:Nat)(tk:Nat→Tk4)(q:Nat)(g:Nat→Int×Int)(l:Nat)(tk':Nat→Tk4){cut area stock yield plate bath s0 s1 cur sec place flaw:Int}(hl:l< 1000)(hv:actB (⟨2,cut,area,stock,yield,plate,bath,s0,s1,cur,sec,place,flaw⟩:Act)=true)(h:AM Tryz.prog 52 [.ref 500 0,Act.v (⟨2,cut,area,stock,yield,plate,bath,s0,s1,cur,sec,place,flaw⟩:Act)] (ins5 r n (rowC x) m tk q (flC g) l) (.tup [.i m,.i 0]) [some (.box 123 (shC r (.own 501) (.own 0) (.own 503) (.own 504))),some (.row 131 1 n (rowC x)),none,some (.row 149 2 q (flC g)),some (.row 40 13 l anyR)] [.row 55 4 (m+1) (fun i=>(tk' i).c)]) :
  AM Tryz.prog 13 [.ref 500 0,Act.v (⟨2,cut,area,stock,yield,plate,bath,s0,s1,cur,sec,place,flaw⟩:Act)] (ins5 r n (rowC x) m tk q (flC g) l) (.tup [.i m,.i 0]) [some (.box 123 (shC r (.own 501) (.own 0) (.own 503) (.own 1))),some (.row 131 1 n (rowC x)),none,some (.row 149 2 q (flC g)),none] [.row 55 4 (m+1) (fun i=>(tk' i).c),.row 40 13 (l+1) anyR]:=by
 refine am_intro hTT hMX (fn:=Tryz.f13) (N:=_) ⟨Tryz.func13,rfl,Tryz.ntmps13,kR⟩ (by simp) rfl (by simp) (by simp) fun C hF=> ?_
 refine sK fun K hK=>wR 2 ?_;refine aY hTT 3 [] ?_;refine nK hK ?_;clear hK K;refine sK fun K hK=> ?_
 refine aw_block ?_
 refine sK fun K hK=>wR 3 ?_;refine aY hTT 1 [] ?_
 refine aops_readF (preB r) (bad_ac r .any .any .any .any) rfl rfl ⟨fzB,trivial⟩ rfl rfl rfl ⟨rfl,trivial⟩ ?_
 refine aY hTT 1 [] ?_;refine nK hK ?_;clear hK K;refine w_false (t:=false) kR rfl (sK fun K hK=>wR 4 ?_);refine aY hTT 7 [(3,.c ((17:Nat)≤(18:Nat)) oM)] ?_;refine nK hK ?_;clear hK K
 refine w_cond (t:=decide ((1000:Int)≤(↑l:Int))) kR (fun c1=> ?_) (fun c1=> ?_)
 ·
  simp at c1;omega
 refine sK fun K hK=>wR 5 ?_;refine aY hTT 1 [] ?_
 refine eC (valid_ac (⟨2,cut,area,stock,yield,plate,bath,s0,s1,cur,sec,place,flaw⟩:Act)) ?_
 rw [hv]
 refine aY hTT 2 [] ?_;refine nK hK ?_;clear hK K;refine w_false (t:=false) kR rfl ?_
 refine aw_skip ?_
 refine xb_n (xt_n (hK _ ?_));clear hK K;refine sK fun K hK=>wR 6 ?_;refine aY hTT 3 [(2,.c ((0:Nat)+(7:Nat)≤(7:Nat)) oM)] ?_;refine nK hK ?_;clear hK K;refine sK fun K hK=>wD 7 ?_;refine aY hTT 6 [(2,.d),(0,.c ((2:Nat)≤(7:Nat)) oM)] ?_
 refine eM [500,501,502,503,504] (h) (iB (iW (iW (iW (iW .nil))))) ?_
 refine aY hTT 5 [] ?_;refine aops_nil ⟨kR,(xt_n (hK _ ?_))⟩;clear hK K;refine sK fun K hK=>sK fun K hK=>wR 8 ?_;refine aY hTT 2 [] ?_;refine nK hK ?_;clear hK K;refine w_true (t:=true) kR rfl (wD 9 (aX hTT 11 [(4,.c ((17:Nat)≤(18:Nat))),(7,.r (PR.mk (some (43:Nat)) (some (l+1≤(1099511627776:Nat))) (V.own 800043) [((504:Nat),none),((800043:Nat),some (Ob.row 40 13 (l+1) (appRow l (fun(i:Nat)=>V.renL (nameG (6:Nat) (some (31:Tmp)) [(500:Nat),(501:Nat),(502:Nat),(503:Nat),(504:Nat)]) (anyR i)) fun(i:Nat)=>List.take (13:Nat) (List.drop (i*13) [V.i 2,V.i cut,V.i area,V.i stock,V.i yield,V.i plate,V.i bath,V.i s0,V.i s1,V.i cur,V.i sec,V.i place,V.i flaw]))))] false)),(10,.r (pw ((17:Nat)+(1:Nat)≤(18:Nat)) (500:Nat) (Ob.box 123 [V.b true,V.i (Rc.n0 r),V.i (Rc.n1 r),V.i (Rc.n2 r),V.i (Rc.n3 r),V.i (Rc.k0 r),V.i (Rc.k1 r),V.i (Rc.k2 r),V.i (Rc.k3 r),V.i (Rc.seed r),V.i (Rc.soft r),V.i (Rc.hard r),V.i (Rc.mo r),V.i (Rc.st r),V.own 501,V.own 600031,V.own 503,V.own 800043])))] ⟨oM,oM,oM,tI⟩ (aops_nil ⟨kR,(xt_n (hK _ ?_))⟩)));clear hK K;refine sK fun K hK=>wR 10 ?_;refine aY hTT 4 [] ?_;refine nK hK ?_;clear hK K
 refine aw_ret ?_
 refine retM_of_le (le_rowAny 800043 (e:=40) (sz:=13) (n:=l+1) (r:=appRow l anyR fun i=>(((⟨2,cut,area,stock,yield,plate,bath,s0,s1,cur,sec,place,flaw⟩:Act)).c.drop (i*13)).take 13) kR) ?_
 refine retM (v':=V.tup [V.i (↑m:Int),V.i 0]) [(0,600031),(1,800043)] [(4,V.i (↑m:Int)),(5,V.i 0)] (.inr rfl) (.cons kR (.cons kR .nil)) (.cons oS (.cons oS (.cons oS (.cons oS (.cons oS .nil))))) kR kR kR kR kR kR kR
set_option maxRecDepth 100000 in
theorem do_grow_ok(r:Rc)(n k:Nat)(x:Nat→Value)(m:Nat)(tk:Nat→Tk4)(q:Nat)(g:Nat→Int×Int)(l:Nat)(z:Pl)(p z':Pl)(tk':Nat→Tk4){cut area stock yield plate bath s0 s1 cur sec place flaw:Int}(hl:l< 1000)(hv:actB (⟨3,cut,area,stock,yield,plate,bath,s0,s1,cur,sec,place,flaw⟩:Act)=true)(h:AM Tryz.prog 53 [.ref 500 0,Act.v (⟨3,cut,area,stock,yield,plate,bath,s0,s1,cur,sec,place,flaw⟩:Act)] (ins7 r n k x m tk q (flC g) l z) (.tup [.i n,.i 0]) [some (.box 123 (shC r (.own 0) (.own 502) (.own 503) (.own 504))),none,some (.row 55 4 m (fun i=>(tk' i).c)),some (.row 149 2 q (flC g)),some (.row 40 13 l anyR),some ((.box 134 (z'.c++[.own 506]))),some (.mp (false,z.cnt) (setF z.fl))] [.row 131 1 (n+1) (rowY 505 k n 1 x),.box 134 (p.c++[.own 2]),.mp (false,p.cnt) (setF p.fl)]) :
  AM Tryz.prog 13 [.ref 500 0,Act.v (⟨3,cut,area,stock,yield,plate,bath,s0,s1,cur,sec,place,flaw⟩:Act)] (ins7 r n k x m tk q (flC g) l z) (.tup [.i n,.i 0]) [some (.box 123 (shC r (.own 0) (.own 502) (.own 503) (.own 3))),none,some (.row 55 4 m (fun i=>(tk' i).c)),some (.row 149 2 q (flC g)),none,some ((.box 134 (z'.c++[.own 506]))),some (.mp (false,z.cnt) (setF z.fl))] [.row 131 1 (n+1) (rowY 505 k n 1 x),.box 134 (p.c++[.own 2]),.mp (false,p.cnt) (setF p.fl),.row 40 13 (l+1) anyR]:=by
 refine am_intro hTT hMX (fn:=Tryz.f13) (N:=_) ⟨Tryz.func13,rfl,Tryz.ntmps13,kR⟩ (by simp) rfl (by simp) (by simp) fun C hF=> ?_
 refine sK fun K hK=>wR 2 ?_;refine aY hTT 3 [] ?_;refine nK hK ?_;clear hK K;refine sK fun K hK=> ?_
 refine aw_block ?_
 refine sK fun K hK=>wR 3 ?_;refine aY hTT 1 [] ?_
 refine aops_readF (preB r) (bad_ac r .any .any .any .any) rfl rfl ⟨fzB,trivial⟩ rfl rfl rfl ⟨rfl,trivial⟩ ?_
 refine aY hTT 1 [] ?_;refine nK hK ?_;clear hK K;refine w_false (t:=false) kR rfl (sK fun K hK=>wR 4 ?_);refine aY hTT 7 [(3,.c ((17:Nat)≤(18:Nat)) oM)] ?_;refine nK hK ?_;clear hK K
 refine w_cond (t:=decide ((1000:Int)≤(↑l:Int))) kR (fun c1=> ?_) (fun c1=> ?_)
 ·
  simp at c1;omega
 refine sK fun K hK=>wR 5 ?_;refine aY hTT 1 [] ?_
 refine eC (valid_ac (⟨3,cut,area,stock,yield,plate,bath,s0,s1,cur,sec,place,flaw⟩:Act)) ?_
 rw [hv]
 refine aY hTT 2 [] ?_;refine nK hK ?_;clear hK K;refine w_false (t:=false) kR rfl ?_
 refine aw_skip ?_
 refine xb_n (xt_n (hK _ ?_));clear hK K;refine sK fun K hK=>wR 6 ?_;refine aY hTT 3 [(2,.c ((0:Nat)+(7:Nat)≤(7:Nat)) oM)] ?_;refine nK hK ?_;clear hK K;refine sK fun K hK=>wD 7 ?_;refine aY hTT 6 [(2,.d),(0,.c ((3:Nat)≤(7:Nat)) oM)] ?_
 refine aops_callM [500,501,502,503,504,505,506] (first:=[]) (caps:=[]) (ins':=[Ob.box 123 [V.b true,V.i (Rc.n0 r),V.i (Rc.n1 r),V.i (Rc.n2 r),V.i (Rc.n3 r),V.i (Rc.k0 r),V.i (Rc.k1 r),V.i (Rc.k2 r),V.i (Rc.k3 r),V.i (Rc.seed r),V.i (Rc.soft r),V.i (Rc.hard r),V.i (Rc.mo r),V.i (Rc.st r),V.own 501,V.own 502,V.own 503,V.own 504],Ob.row 131 1 n (rowX (505:Nat) k x),Ob.row 55 4 m fun(i:Nat)=>Tk4.c (tk i),Ob.row 149 2 q (flC g),Ob.row 40 13 l fun(x:Nat)=>List.replicate (13:Nat) V.any,Ob.box 134 [V.i (↑(Pl.kind z):Int),V.i (Pl.par z),V.i (Pl.cut z),V.i (Pl.area z),V.i (Pl.thick z),V.i (Pl.grown z),V.b (Pl.ret z),V.own 506],Ob.mp (false,Pl.cnt z)   (MF.mk [] fun(k:MK)=>     match k with     |MK.i n=>if Pl.fl z n=true then some (Value.agg #[])else none     |MK.s b=>none)]) (v':=V.tup [V.i (↑n:Int),V.i 0]) (δ:=[(500,Option.some (Ob.box 123 [V.b true,V.i (Rc.n0 r),V.i (Rc.n1 r),V.i (Rc.n2 r),V.i (Rc.n3 r),V.i (Rc.k0 r),V.i (Rc.k1 r),V.i (Rc.k2 r),V.i (Rc.k3 r),V.i (Rc.seed r),V.i (Rc.soft r),V.i (Rc.hard r),V.i (Rc.mo r),V.i (Rc.st r),V.own 600031,V.own 502,V.own 503,V.own 504])),(501,Option.none),(502,Option.some (Ob.row 55 4 m fun(i:Nat)=>V.renL (nameG (6:Nat) (some 31) [(500:Nat),(501:Nat),(502:Nat),(503:Nat),(504:Nat),(505:Nat),(506:Nat)]) (Tk4.c (tk' i)))),(503,Option.some (Ob.row 149 2 q fun(i:Nat)=>V.renL (nameG (6:Nat) (some 31) [(500:Nat),(501:Nat),(502:Nat),(503:Nat),(504:Nat),(505:Nat),(506:Nat)]) (flC g i))),(504,Option.some (Ob.row 40 13 l fun(i:Nat)=>V.renL (nameG (6:Nat) (some 31) [(500:Nat),(501:Nat),(502:Nat),(503:Nat),(504:Nat),(505:Nat),(506:Nat)]) (anyR i))),(505,Option.some (Ob.box 134 [V.i (↑(Pl.kind z'):Int),V.i (Pl.par z'),V.i (Pl.cut z'),V.i (Pl.area z'),V.i (Pl.thick z'),V.i (Pl.grown z'),V.b (Pl.ret z'),V.own 506])),(506,Option.some (Ob.mp (false,Pl.cnt z) (MF.mk [] (MF.rest (setF (Pl.fl z)))))),(600031,Option.some (Ob.row 131 1 (n+1) fun(i:Nat)=>V.renL (nameG (6:Nat) (some 31) [(500:Nat),(501:Nat),(502:Nat),(503:Nat),(504:Nat),(505:Nat),(506:Nat)]) (rowY (505:Nat) k n (1:Nat) x i))),(601031,Option.some (Ob.box 134 [V.i (↑(Pl.kind p):Int),V.i (Pl.par p),V.i (Pl.cut p),V.i (Pl.area p),V.i (Pl.thick p),V.i (Pl.grown p),V.b (Pl.ret p),V.own 602031])),(602031,Option.some (Ob.mp (false,Pl.cnt p) (MF.mk [] (MF.rest (setF (Pl.fl p))))))]) (kp:=[500,501,502,503,504,505,506]) (h) kR kR kR kR kR kR rfl rfl kR (.box kR kR (.row kR (fun _ _=>rfl) (fun _ _=>rfl) (.row kR (fun _ _=>rfl) (fun _ _=>rfl) (.row kR (fun _ _=>rfl) (fun _ _=>rfl) (.row kR (fun _ _=>rfl) (fun _ _=>rfl) (.box kR kR (.mp (fun _=>rfl) ?_ .nil))))))) kR kR kR ?_
 ·
  exact setF_inN
 refine aY hTT 5 [] ?_;refine aops_nil ⟨kR,(xt_n (hK _ ?_))⟩;clear hK K;refine sK fun K hK=>sK fun K hK=>wR 8 ?_;refine aY hTT 2 [] ?_;refine nK hK ?_;clear hK K;refine w_true (t:=true) kR rfl (wD 9 (aX hTT 11 [(4,.c ((17:Nat)≤(18:Nat))),(7,.r (PR.mk (some (43:Nat)) (some (l+1≤(1099511627776:Nat))) (V.own 800043) [((504:Nat),none),((800043:Nat),some (Ob.row 40 13 (l+1) (appRow l (fun(i:Nat)=>V.renL (nameG (6:Nat) (some (31:Tmp)) [(500:Nat),(501:Nat),(502:Nat),(503:Nat),(504:Nat),(505:Nat),(506:Nat)]) (anyR i)) fun(i:Nat)=>List.take (13:Nat) (List.drop (i*13) [V.i 3,V.i cut,V.i area,V.i stock,V.i yield,V.i plate,V.i bath,V.i s0,V.i s1,V.i cur,V.i sec,V.i place,V.i flaw]))))] false)),(10,.r (pw ((17:Nat)+(1:Nat)≤(18:Nat)) (500:Nat) (Ob.box 123 [V.b true,V.i (Rc.n0 r),V.i (Rc.n1 r),V.i (Rc.n2 r),V.i (Rc.n3 r),V.i (Rc.k0 r),V.i (Rc.k1 r),V.i (Rc.k2 r),V.i (Rc.k3 r),V.i (Rc.seed r),V.i (Rc.soft r),V.i (Rc.hard r),V.i (Rc.mo r),V.i (Rc.st r),V.own 600031,V.own 502,V.own 503,V.own 800043])))] ⟨oM,oM,oM,tI⟩ (aops_nil ⟨kR,(xt_n (hK _ ?_))⟩)));clear hK K;refine sK fun K hK=>wR 10 ?_;refine aY hTT 4 [] ?_;refine nK hK ?_;clear hK K
 refine aw_ret ?_
 refine retM_of_le (le_rowAny 800043 (e:=40) (sz:=13) (n:=l+1) (r:=appRow l anyR fun i=>(((⟨3,cut,area,stock,yield,plate,bath,s0,s1,cur,sec,place,flaw⟩:Act)).c.drop (i*13)).take 13) kR) ?_
 refine retM (v':=V.tup [V.i (↑n:Int),V.i 0]) [(0,600031),(3,800043),(1,601031),(2,602031)] [(4,V.i (↑n:Int)),(5,V.i 0)] (.inr rfl) (.cons kR (.cons kR .nil)) (.cons oS (.cons oS (.cons oS (.cons oS (.cons oS (.cons oS (.cons oS (.cons oS (.cons oS .nil))))))))) kR kR kR kR kR kR kR
set_option maxRecDepth 100000 in
theorem do_flaw_ok(r:Rc)(n k:Nat)(x:Nat→Value)(m:Nat)(tk:Nat→Tk4)(q:Nat)(g:Nat→Int×Int)(l:Nat)(z:Pl)(z':Pl)(g':Nat→Int×Int){cut area stock yield plate bath s0 s1 cur sec place flaw:Int}(hl:l< 1000)(hv:actB (⟨4,cut,area,stock,yield,plate,bath,s0,s1,cur,sec,place,flaw⟩:Act)=true)(h:AM Tryz.prog 54 [.ref 500 0,Act.v (⟨4,cut,area,stock,yield,plate,bath,s0,s1,cur,sec,place,flaw⟩:Act)] (ins7 r n k x m tk q (flC g) l z) (.tup [.i q,.i 0]) [some (.box 123 (shC r (.own 501) (.own 502) (.own 0) (.own 504))),some (.row 131 1 n (rowX 505 k x)),some (.row 55 4 m (fun i=>(tk i).c)),none,some (.row 40 13 l anyR),some (.box 134 (z.c++[.own 506])),some ((.mp (false,z'.cnt) (setF z'.fl)))] [.row 149 2 (q+1) (flC g')]) :
  AM Tryz.prog 13 [.ref 500 0,Act.v (⟨4,cut,area,stock,yield,plate,bath,s0,s1,cur,sec,place,flaw⟩:Act)] (ins7 r n k x m tk q (flC g) l z) (.tup [.i q,.i 0]) [some (.box 123 (shC r (.own 501) (.own 502) (.own 0) (.own 1))),some (.row 131 1 n (rowX 505 k x)),some (.row 55 4 m (fun i=>(tk i).c)),none,none,some (.box 134 (z.c++[.own 506])),some ((.mp (false,z'.cnt) (setF z'.fl)))] [.row 149 2 (q+1) (flC g'),.row 40 13 (l+1) anyR]:=by
 refine am_intro hTT hMX (fn:=Tryz.f13) (N:=_) ⟨Tryz.func13,rfl,Tryz.ntmps13,kR⟩ (by simp) rfl (by simp) (by simp) fun C hF=> ?_
 refine sK fun K hK=>wR 2 ?_;refine aY hTT 3 [] ?_;refine nK hK ?_;clear hK K;refine sK fun K hK=> ?_
 refine aw_block ?_
 refine sK fun K hK=>wR 3 ?_;refine aY hTT 1 [] ?_
 refine aops_readF (preB r) (bad_ac r .any .any .any .any) rfl rfl ⟨fzB,trivial⟩ rfl rfl rfl ⟨rfl,trivial⟩ ?_
 refine aY hTT 1 [] ?_;refine nK hK ?_;clear hK K;refine w_false (t:=false) kR rfl (sK fun K hK=>wR 4 ?_);refine aY hTT 7 [(3,.c ((17:Nat)≤(18:Nat)) oM)] ?_;refine nK hK ?_;clear hK K
 refine w_cond (t:=decide ((1000:Int)≤(↑l:Int))) kR (fun c1=> ?_) (fun c1=> ?_)
 ·
  simp at c1;omega
 refine sK fun K hK=>wR 5 ?_;refine aY hTT 1 [] ?_
 refine eC (valid_ac (⟨4,cut,area,stock,yield,plate,bath,s0,s1,cur,sec,place,flaw⟩:Act)) ?_
 rw [hv]
 refine aY hTT 2 [] ?_;refine nK hK ?_;clear hK K;refine w_false (t:=false) kR rfl ?_
 refine aw_skip ?_
 refine xb_n (xt_n (hK _ ?_));clear hK K;refine sK fun K hK=>wR 6 ?_;refine aY hTT 3 [(2,.c ((0:Nat)+(7:Nat)≤(7:Nat)) oM)] ?_;refine nK hK ?_;clear hK K;refine sK fun K hK=>wD 7 ?_;refine aY hTT 6 [(2,.d),(0,.c ((4:Nat)≤(7:Nat)) oM)] ?_
 refine aops_callM [500,501,502,503,504,505,506] (first:=[]) (caps:=[]) (ins':=[Ob.box 123 [V.b true,V.i (Rc.n0 r),V.i (Rc.n1 r),V.i (Rc.n2 r),V.i (Rc.n3 r),V.i (Rc.k0 r),V.i (Rc.k1 r),V.i (Rc.k2 r),V.i (Rc.k3 r),V.i (Rc.seed r),V.i (Rc.soft r),V.i (Rc.hard r),V.i (Rc.mo r),V.i (Rc.st r),V.own 501,V.own 502,V.own 503,V.own 504],Ob.row 131 1 n (rowX (505:Nat) k x),Ob.row 55 4 m fun(i:Nat)=>Tk4.c (tk i),Ob.row 149 2 q (flC g),Ob.row 40 13 l fun(x:Nat)=>List.replicate (13:Nat) V.any,Ob.box 134 [V.i (↑(Pl.kind z):Int),V.i (Pl.par z),V.i (Pl.cut z),V.i (Pl.area z),V.i (Pl.thick z),V.i (Pl.grown z),V.b (Pl.ret z),V.own 506],Ob.mp (false,Pl.cnt z)   (MF.mk [] fun(k:MK)=>     match k with     |MK.i n=>if Pl.fl z n=true then some (Value.agg #[])else none     |MK.s b=>none)]) (v':=V.tup [V.i (↑q:Int),V.i 0]) (δ:=[(500,Option.some (Ob.box 123 [V.b true,V.i (Rc.n0 r),V.i (Rc.n1 r),V.i (Rc.n2 r),V.i (Rc.n3 r),V.i (Rc.k0 r),V.i (Rc.k1 r),V.i (Rc.k2 r),V.i (Rc.k3 r),V.i (Rc.seed r),V.i (Rc.soft r),V.i (Rc.hard r),V.i (Rc.mo r),V.i (Rc.st r),V.own 501,V.own 502,V.own 600031,V.own 504])),(501,Option.some (Ob.row 131 1 n fun(i:Nat)=>V.renL (nameG (6:Nat) (some 31) [(500:Nat),(501:Nat),(502:Nat),(503:Nat),(504:Nat),(505:Nat),(506:Nat)]) (rowX (505:Nat) k x i))),(502,Option.some (Ob.row 55 4 m fun(i:Nat)=>V.renL (nameG (6:Nat) (some 31) [(500:Nat),(501:Nat),(502:Nat),(503:Nat),(504:Nat),(505:Nat),(506:Nat)]) (Tk4.c (tk i)))),(503,Option.none),(504,Option.some (Ob.row 40 13 l fun(i:Nat)=>V.renL (nameG (6:Nat) (some 31) [(500:Nat),(501:Nat),(502:Nat),(503:Nat),(504:Nat),(505:Nat),(506:Nat)]) (anyR i))),(505,Option.some (Ob.box 134 [V.i (↑(Pl.kind z):Int),V.i (Pl.par z),V.i (Pl.cut z),V.i (Pl.area z),V.i (Pl.thick z),V.i (Pl.grown z),V.b (Pl.ret z),V.own 506])),(506,Option.some (Ob.mp (false,Pl.cnt z') (MF.mk [] (MF.rest (setF (Pl.fl z')))))),(600031,Option.some (Ob.row 149 2 (q+1) fun(i:Nat)=>V.renL (nameG (6:Nat) (some 31) [(500:Nat),(501:Nat),(502:Nat),(503:Nat),(504:Nat),(505:Nat),(506:Nat)]) (flC g' i)))]) (kp:=[500,501,502,503,504,505,506]) (h) kR kR kR kR kR kR rfl rfl kR (.box kR kR (.row kR (fun _ _=>rfl) (fun _ _=>rfl) (.row kR (fun _ _=>rfl) (fun _ _=>rfl) (.row kR (fun _ _=>rfl) (fun _ _=>rfl) (.row kR (fun _ _=>rfl) (fun _ _=>rfl) (.box kR kR (.mp (fun _=>rfl) ?_ .nil))))))) kR kR kR ?_
 ·
  exact setF_inN
 refine aY hTT 5 [] ?_;refine aops_nil ⟨kR,(xt_n (hK _ ?_))⟩;clear hK K;refine sK fun K hK=>sK fun K hK=>wR 8 ?_;refine aY hTT 2 [] ?_;refine nK hK ?_;clear hK K;refine w_true (t:=true) kR rfl (wD 9 (aX hTT 11 [(4,.c ((17:Nat)≤(18:Nat))),(7,.r (PR.mk (some (43:Nat)) (some (l+1≤(1099511627776:Nat))) (V.own 800043) [((504:Nat),none),((800043:Nat),some (Ob.row 40 13 (l+1) (appRow l (fun(i:Nat)=>V.renL (nameG (6:Nat) (some (31:Tmp)) [(500:Nat),(501:Nat),(502:Nat),(503:Nat),(504:Nat),(505:Nat),(506:Nat)]) (anyR i)) fun(i:Nat)=>List.take (13:Nat) (List.drop (i*13) [V.i 4,V.i cut,V.i area,V.i stock,V.i yield,V.i plate,V.i bath,V.i s0,V.i s1,V.i cur,V.i sec,V.i place,V.i flaw]))))] false)),(10,.r (pw ((17:Nat)+(1:Nat)≤(18:Nat)) (500:Nat) (Ob.box 123 [V.b true,V.i (Rc.n0 r),V.i (Rc.n1 r),V.i (Rc.n2 r),V.i (Rc.n3 r),V.i (Rc.k0 r),V.i (Rc.k1 r),V.i (Rc.k2 r),V.i (Rc.k3 r),V.i (Rc.seed r),V.i (Rc.soft r),V.i (Rc.hard r),V.i (Rc.mo r),V.i (Rc.st r),V.own 501,V.own 502,V.own 600031,V.own 800043])))] ⟨oM,oM,oM,tI⟩ (aops_nil ⟨kR,(xt_n (hK _ ?_))⟩)));clear hK K;refine sK fun K hK=>wR 10 ?_;refine aY hTT 4 [] ?_;refine nK hK ?_;clear hK K
 refine aw_ret ?_
 refine retM_of_le (le_rowAny 800043 (e:=40) (sz:=13) (n:=l+1) (r:=appRow l anyR fun i=>(((⟨4,cut,area,stock,yield,plate,bath,s0,s1,cur,sec,place,flaw⟩:Act)).c.drop (i*13)).take 13) kR) ?_
 refine retM (v':=V.tup [V.i (↑q:Int),V.i 0]) [(0,600031),(1,800043)] [(4,V.i (↑q:Int)),(5,V.i 0)] (.inr rfl) (.cons kR (.cons kR .nil)) (.cons oS (.cons oS (.cons oS (.cons oS (.cons oS (.cons oS (.cons oS .nil))))))) kR kR kR kR kR kR kR
set_option maxRecDepth 100000 in
theorem do_mend_ok(r:Rc)(n k:Nat)(x:Nat→Value)(m:Nat)(tk:Nat→Tk4)(q:Nat)(g:Nat→Int×Int)(l:Nat)(z:Pl)(z':Pl){cut area stock yield plate bath s0 s1 cur sec place flaw:Int}(hl:l< 1000)(hv:actB (⟨5,cut,area,stock,yield,plate,bath,s0,s1,cur,sec,place,flaw⟩:Act)=true)(h:AM Tryz.prog 55 [.ref 500 0,Act.v (⟨5,cut,area,stock,yield,plate,bath,s0,s1,cur,sec,place,flaw⟩:Act)] (ins7 r n k x m tk q (flC g) l z) (.tup [.i 0,.i 0]) [some (.box 123 (shC r (.own 501) (.own 502) (.own 503) (.own 504))),some (.row 131 1 n (rowX 505 k x)),some (.row 55 4 m (fun i=>(tk i).c)),some (.row 149 2 q (flC g)),some (.row 40 13 l anyR),some ((.box 134 (z'.c++[.own 506]))),some ((.mp (false,z'.cnt) (setF z'.fl)))] []) :
  AM Tryz.prog 13 [.ref 500 0,Act.v (⟨5,cut,area,stock,yield,plate,bath,s0,s1,cur,sec,place,flaw⟩:Act)] (ins7 r n k x m tk q (flC g) l z) (.tup [.i 0,.i 0]) [some (.box 123 (shC r (.own 501) (.own 502) (.own 503) (.own 0))),some (.row 131 1 n (rowX 505 k x)),some (.row 55 4 m (fun i=>(tk i).c)),some (.row 149 2 q (flC g)),none,some ((.box 134 (z'.c++[.own 506]))),some ((.mp (false,z'.cnt) (setF z'.fl)))] [.row 40 13 (l+1) anyR]:=by
 refine am_intro hTT hMX (fn:=Tryz.f13) (N:=_) ⟨Tryz.func13,rfl,Tryz.ntmps13,kR⟩ (by simp) rfl (by simp) (by simp) fun C hF=> ?_
 refine sK fun K hK=>wR 2 ?_;refine aY hTT 3 [] ?_;refine nK hK ?_;clear hK K;refine sK fun K hK=> ?_
 refine aw_block ?_
 refine sK fun K hK=>wR 3 ?_;refine aY hTT 1 [] ?_
 refine aops_readF (preB r) (bad_ac r .any .any .any .any) rfl rfl ⟨fzB,trivial⟩ rfl rfl rfl ⟨rfl,trivial⟩ ?_
 refine aY hTT 1 [] ?_;refine nK hK ?_;clear hK K;refine w_false (t:=false) kR rfl (sK fun K hK=>wR 4 ?_);refine aY hTT 7 [(3,.c ((17:Nat)≤(18:Nat)) oM)] ?_;refine nK hK ?_;clear hK K
 refine w_cond (t:=decide ((1000:Int)≤(↑l:Int))) kR (fun c1=> ?_) (fun c1=> ?_)
 ·
  simp at c1;omega
 refine sK fun K hK=>wR 5 ?_;refine aY hTT 1 [] ?_
 refine eC (valid_ac (⟨5,cut,area,stock,yield,plate,bath,s0,s1,cur,sec,place,flaw⟩:Act)) ?_
 rw [hv]
 refine aY hTT 2 [] ?_;refine nK hK ?_;clear hK K;refine w_false (t:=false) kR rfl ?_
 refine aw_skip ?_
 refine xb_n (xt_n (hK _ ?_));clear hK K;refine sK fun K hK=>wR 6 ?_;refine aY hTT 3 [(2,.c ((0:Nat)+(7:Nat)≤(7:Nat)) oM)] ?_;refine nK hK ?_;clear hK K;refine sK fun K hK=>wD 7 ?_;refine aY hTT 6 [(2,.d),(0,.c ((5:Nat)≤(7:Nat)) oM)] ?_
 refine aops_callM [500,501,502,503,504,505,506] (first:=[]) (caps:=[]) (ins':=[Ob.box 123 [V.b true,V.i (Rc.n0 r),V.i (Rc.n1 r),V.i (Rc.n2 r),V.i (Rc.n3 r),V.i (Rc.k0 r),V.i (Rc.k1 r),V.i (Rc.k2 r),V.i (Rc.k3 r),V.i (Rc.seed r),V.i (Rc.soft r),V.i (Rc.hard r),V.i (Rc.mo r),V.i (Rc.st r),V.own 501,V.own 502,V.own 503,V.own 504],Ob.row 131 1 n (rowX (505:Nat) k x),Ob.row 55 4 m fun(i:Nat)=>Tk4.c (tk i),Ob.row 149 2 q (flC g),Ob.row 40 13 l fun(x:Nat)=>List.replicate (13:Nat) V.any,Ob.box 134 [V.i (↑(Pl.kind z):Int),V.i (Pl.par z),V.i (Pl.cut z),V.i (Pl.area z),V.i (Pl.thick z),V.i (Pl.grown z),V.b (Pl.ret z),V.own 506],Ob.mp (false,Pl.cnt z)   (MF.mk [] fun(k:MK)=>     match k with     |MK.i n=>if Pl.fl z n=true then some (Value.agg #[])else none     |MK.s b=>none)]) (v':=V.tup [V.i 0,V.i 0]) (δ:=[(500,Option.some (Ob.box 123 [V.b true,V.i (Rc.n0 r),V.i (Rc.n1 r),V.i (Rc.n2 r),V.i (Rc.n3 r),V.i (Rc.k0 r),V.i (Rc.k1 r),V.i (Rc.k2 r),V.i (Rc.k3 r),V.i (Rc.seed r),V.i (Rc.soft r),V.i (Rc.hard r),V.i (Rc.mo r),V.i (Rc.st r),V.own 501,V.own 502,V.own 503,V.own 504])),(501,Option.some (Ob.row 131 1 n fun(i:Nat)=>V.renL (nameG (6:Nat) (some 31) [(500:Nat),(501:Nat),(502:Nat),(503:Nat),(504:Nat),(505:Nat),(506:Nat)]) (rowX (505:Nat) k x i))),(502,Option.some (Ob.row 55 4 m fun(i:Nat)=>V.renL (nameG (6:Nat) (some 31) [(500:Nat),(501:Nat),(502:Nat),(503:Nat),(504:Nat),(505:Nat),(506:Nat)]) (Tk4.c (tk i)))),(503,Option.some (Ob.row 149 2 q fun(i:Nat)=>V.renL (nameG (6:Nat) (some 31) [(500:Nat),(501:Nat),(502:Nat),(503:Nat),(504:Nat),(505:Nat),(506:Nat)]) (flC g i))),(504,Option.some (Ob.row 40 13 l fun(i:Nat)=>V.renL (nameG (6:Nat) (some 31) [(500:Nat),(501:Nat),(502:Nat),(503:Nat),(504:Nat),(505:Nat),(506:Nat)]) (anyR i))),(505,Option.some (Ob.box 134 [V.i (↑(Pl.kind z'):Int),V.i (Pl.par z'),V.i (Pl.cut z'),V.i (Pl.area z'),V.i (Pl.thick z'),V.i (Pl.grown z'),V.b (Pl.ret z'),V.own 506])),(506,Option.some (Ob.mp (false,Pl.cnt z') (MF.mk [] (MF.rest (setF (Pl.fl z'))))))]) (kp:=[500,501,502,503,504,505,506]) (h) kR kR kR kR kR kR rfl rfl kR (.box kR kR (.row kR (fun _ _=>rfl) (fun _ _=>rfl) (.row kR (fun _ _=>rfl) (fun _ _=>rfl) (.row kR (fun _ _=>rfl) (fun _ _=>rfl) (.row kR (fun _ _=>rfl) (fun _ _=>rfl) (.box kR kR (.mp (fun _=>rfl) ?_ .nil))))))) kR kR kR ?_
 ·
  exact setF_inN
 refine aY hTT 5 [] ?_;refine aops_nil ⟨kR,(xt_n (hK _ ?_))⟩;clear hK K;refine sK fun K hK=>sK fun K hK=>wR 8 ?_;refine aY hTT 2 [] ?_;refine nK hK ?_;clear hK K;refine w_true (t:=true) kR rfl (wD 9 (aX hTT 11 [(4,.c ((17:Nat)≤(18:Nat))),(7,.r (PR.mk (some (43:Nat)) (some (l+1≤(1099511627776:Nat))) (V.own 800043) [((504:Nat),none),((800043:Nat),some (Ob.row 40 13 (l+1) (appRow l (fun(i:Nat)=>V.renL (nameG (6:Nat) (some (31:Tmp)) [(500:Nat),(501:Nat),(502:Nat),(503:Nat),(504:Nat),(505:Nat),(506:Nat)]) (anyR i)) fun(i:Nat)=>List.take (13:Nat) (List.drop (i*13) [V.i 5,V.i cut,V.i area,V.i stock,V.i yield,V.i plate,V.i bath,V.i s0,V.i s1,V.i cur,V.i sec,V.i place,V.i flaw]))))] false)),(10,.r (pw ((17:Nat)+(1:Nat)≤(18:Nat)) (500:Nat) (Ob.box 123 [V.b true,V.i (Rc.n0 r),V.i (Rc.n1 r),V.i (Rc.n2 r),V.i (Rc.n3 r),V.i (Rc.k0 r),V.i (Rc.k1 r),V.i (Rc.k2 r),V.i (Rc.k3 r),V.i (Rc.seed r),V.i (Rc.soft r),V.i (Rc.hard r),V.i (Rc.mo r),V.i (Rc.st r),V.own 501,V.own 502,V.own 503,V.own 800043])))] ⟨oM,oM,oM,tI⟩ (aops_nil ⟨kR,(xt_n (hK _ ?_))⟩)));clear hK K;refine sK fun K hK=>wR 10 ?_;refine aY hTT 4 [] ?_;refine nK hK ?_;clear hK K
 refine aw_ret ?_
 refine retM_of_le (le_rowAny 800043 (e:=40) (sz:=13) (n:=l+1) (r:=appRow l anyR fun i=>(((⟨5,cut,area,stock,yield,plate,bath,s0,s1,cur,sec,place,flaw⟩:Act)).c.drop (i*13)).take 13) kR) ?_
 refine retM (v':=V.tup [V.i 0,V.i 0]) [(0,800043)] [(4,V.i 0),(5,V.i 0)] (.inr rfl) (.cons kR (.cons kR .nil)) (.cons oS (.cons oS (.cons oS (.cons oS (.cons oS (.cons oS (.cons oS .nil))))))) kR kR kR kR kR kR kR
set_option maxRecDepth 100000 in
theorem do_retire_ok(r:Rc)(n k:Nat)(x:Nat→Value)(m:Nat)(tk:Nat→Tk4)(q:Nat)(g:Nat→Int×Int)(l:Nat)(z:Pl)(z':Pl){cut area stock yield plate bath s0 s1 cur sec place flaw:Int}(hl:l< 1000)(hv:actB (⟨6,cut,area,stock,yield,plate,bath,s0,s1,cur,sec,place,flaw⟩:Act)=true)(h:AM Tryz.prog 56 [.ref 500 0,Act.v (⟨6,cut,area,stock,yield,plate,bath,s0,s1,cur,sec,place,flaw⟩:Act)] (ins7 r n k x m tk q (flC g) l z) (.tup [.i 0,.i 0]) [some (.box 123 (shC r (.own 501) (.own 502) (.own 503) (.own 504))),some (.row 131 1 n (rowX 505 k x)),some (.row 55 4 m (fun i=>(tk i).c)),some (.row 149 2 q (flC g)),some (.row 40 13 l anyR),some ((.box 134 (z'.c++[.own 506]))),some ((.mp (false,z'.cnt) (setF z'.fl)))] []) :
  AM Tryz.prog 13 [.ref 500 0,Act.v (⟨6,cut,area,stock,yield,plate,bath,s0,s1,cur,sec,place,flaw⟩:Act)] (ins7 r n k x m tk q (flC g) l z) (.tup [.i 0,.i 0]) [some (.box 123 (shC r (.own 501) (.own 502) (.own 503) (.own 0))),some (.row 131 1 n (rowX 505 k x)),some (.row 55 4 m (fun i=>(tk i).c)),some (.row 149 2 q (flC g)),none,some ((.box 134 (z'.c++[.own 506]))),some ((.mp (false,z'.cnt) (setF z'.fl)))] [.row 40 13 (l+1) anyR]:=by
 refine am_intro hTT hMX (fn:=Tryz.f13) (N:=_) ⟨Tryz.func13,rfl,Tryz.ntmps13,kR⟩ (by simp) rfl (by simp) (by simp) fun C hF=> ?_
 refine sK fun K hK=>wR 2 ?_;refine aY hTT 3 [] ?_;refine nK hK ?_;clear hK K;refine sK fun K hK=> ?_
 refine aw_block ?_
 refine sK fun K hK=>wR 3 ?_;refine aY hTT 1 [] ?_
 refine aops_readF (preB r) (bad_ac r .any .any .any .any) rfl rfl ⟨fzB,trivial⟩ rfl rfl rfl ⟨rfl,trivial⟩ ?_
 refine aY hTT 1 [] ?_;refine nK hK ?_;clear hK K;refine w_false (t:=false) kR rfl (sK fun K hK=>wR 4 ?_);refine aY hTT 7 [(3,.c ((17:Nat)≤(18:Nat)) oM)] ?_;refine nK hK ?_;clear hK K
 refine w_cond (t:=decide ((1000:Int)≤(↑l:Int))) kR (fun c1=> ?_) (fun c1=> ?_)
 ·
  simp at c1;omega
 refine sK fun K hK=>wR 5 ?_;refine aY hTT 1 [] ?_
 refine eC (valid_ac (⟨6,cut,area,stock,yield,plate,bath,s0,s1,cur,sec,place,flaw⟩:Act)) ?_
 rw [hv]
 refine aY hTT 2 [] ?_;refine nK hK ?_;clear hK K;refine w_false (t:=false) kR rfl ?_
 refine aw_skip ?_
 refine xb_n (xt_n (hK _ ?_));clear hK K;refine sK fun K hK=>wR 6 ?_;refine aY hTT 3 [(2,.c ((0:Nat)+(7:Nat)≤(7:Nat)) oM)] ?_;refine nK hK ?_;clear hK K;refine sK fun K hK=>wD 7 ?_;refine aY hTT 6 [(2,.d),(0,.c ((6:Nat)≤(7:Nat)) oM)] ?_
 refine aops_callM [500,501,502,503,504,505,506] (first:=[]) (caps:=[]) (ins':=[Ob.box 123 [V.b true,V.i (Rc.n0 r),V.i (Rc.n1 r),V.i (Rc.n2 r),V.i (Rc.n3 r),V.i (Rc.k0 r),V.i (Rc.k1 r),V.i (Rc.k2 r),V.i (Rc.k3 r),V.i (Rc.seed r),V.i (Rc.soft r),V.i (Rc.hard r),V.i (Rc.mo r),V.i (Rc.st r),V.own 501,V.own 502,V.own 503,V.own 504],Ob.row 131 1 n (rowX (505:Nat) k x),Ob.row 55 4 m fun(i:Nat)=>Tk4.c (tk i),Ob.row 149 2 q (flC g),Ob.row 40 13 l fun(x:Nat)=>List.replicate (13:Nat) V.any,Ob.box 134 [V.i (↑(Pl.kind z):Int),V.i (Pl.par z),V.i (Pl.cut z),V.i (Pl.area z),V.i (Pl.thick z),V.i (Pl.grown z),V.b (Pl.ret z),V.own 506],Ob.mp (false,Pl.cnt z)   (MF.mk [] fun(k:MK)=>     match k with     |MK.i n=>if Pl.fl z n=true then some (Value.agg #[])else none     |MK.s b=>none)]) (v':=V.tup [V.i 0,V.i 0]) (δ:=[(500,Option.some (Ob.box 123 [V.b true,V.i (Rc.n0 r),V.i (Rc.n1 r),V.i (Rc.n2 r),V.i (Rc.n3 r),V.i (Rc.k0 r),V.i (Rc.k1 r),V.i (Rc.k2 r),V.i (Rc.k3 r),V.i (Rc.seed r),V.i (Rc.soft r),V.i (Rc.hard r),V.i (Rc.mo r),V.i (Rc.st r),V.own 501,V.own 502,V.own 503,V.own 504])),(501,Option.some (Ob.row 131 1 n fun(i:Nat)=>V.renL (nameG (6:Nat) (some 31) [(500:Nat),(501:Nat),(502:Nat),(503:Nat),(504:Nat),(505:Nat),(506:Nat)]) (rowX (505:Nat) k x i))),(502,Option.some (Ob.row 55 4 m fun(i:Nat)=>V.renL (nameG (6:Nat) (some 31) [(500:Nat),(501:Nat),(502:Nat),(503:Nat),(504:Nat),(505:Nat),(506:Nat)]) (Tk4.c (tk i)))),(503,Option.some (Ob.row 149 2 q fun(i:Nat)=>V.renL (nameG (6:Nat) (some 31) [(500:Nat),(501:Nat),(502:Nat),(503:Nat),(504:Nat),(505:Nat),(506:Nat)]) (flC g i))),(504,Option.some (Ob.row 40 13 l fun(i:Nat)=>V.renL (nameG (6:Nat) (some 31) [(500:Nat),(501:Nat),(502:Nat),(503:Nat),(504:Nat),(505:Nat),(506:Nat)]) (anyR i))),(505,Option.some (Ob.box 134 [V.i (↑(Pl.kind z'):Int),V.i (Pl.par z'),V.i (Pl.cut z'),V.i (Pl.area z'),V.i (Pl.thick z'),V.i (Pl.grown z'),V.b (Pl.ret z'),V.own 506])),(506,Option.some (Ob.mp (false,Pl.cnt z') (MF.mk [] (MF.rest (setF (Pl.fl z'))))))]) (kp:=[500,501,502,503,504,505,506]) (h) kR kR kR kR kR kR rfl rfl kR (.box kR kR (.row kR (fun _ _=>rfl) (fun _ _=>rfl) (.row kR (fun _ _=>rfl) (fun _ _=>rfl) (.row kR (fun _ _=>rfl) (fun _ _=>rfl) (.row kR (fun _ _=>rfl) (fun _ _=>rfl) (.box kR kR (.mp (fun _=>rfl) ?_ .nil))))))) kR kR kR ?_
 ·
  exact setF_inN
 refine aY hTT 5 [] ?_;refine aops_nil ⟨kR,(xt_n (hK _ ?_))⟩;clear hK K;refine sK fun K hK=>sK fun K hK=>wR 8 ?_;refine aY hTT 2 [] ?_;refine nK hK ?_;clear hK K;refine w_true (t:=true) kR rfl (wD 9 (aX hTT 11 [(4,.c ((17:Nat)≤(18:Nat))),(7,.r (PR.mk (some (43:Nat)) (some (l+1≤(1099511627776:Nat))) (V.own 800043) [((504:Nat),none),((800043:Nat),some (Ob.row 40 13 (l+1) (appRow l (fun(i:Nat)=>V.renL (nameG (6:Nat) (some (31:Tmp)) [(500:Nat),(501:Nat),(502:Nat),(503:Nat),(504:Nat),(505:Nat),(506:Nat)]) (anyR i)) fun(i:Nat)=>List.take (13:Nat) (List.drop (i*13) [V.i 6,V.i cut,V.i area,V.i stock,V.i yield,V.i plate,V.i bath,V.i s0,V.i s1,V.i cur,V.i sec,V.i place,V.i flaw]))))] false)),(10,.r (pw ((17:Nat)+(1:Nat)≤(18:Nat)) (500:Nat) (Ob.box 123 [V.b true,V.i (Rc.n0 r),V.i (Rc.n1 r),V.i (Rc.n2 r),V.i (Rc.n3 r),V.i (Rc.k0 r),V.i (Rc.k1 r),V.i (Rc.k2 r),V.i (Rc.k3 r),V.i (Rc.seed r),V.i (Rc.soft r),V.i (Rc.hard r),V.i (Rc.mo r),V.i (Rc.st r),V.own 501,V.own 502,V.own 503,V.own 800043])))] ⟨oM,oM,oM,tI⟩ (aops_nil ⟨kR,(xt_n (hK _ ?_))⟩)));clear hK K;refine sK fun K hK=>wR 10 ?_;refine aY hTT 4 [] ?_;refine nK hK ?_;clear hK K
 refine aw_ret ?_
 refine retM_of_le (le_rowAny 800043 (e:=40) (sz:=13) (n:=l+1) (r:=appRow l anyR fun i=>(((⟨6,cut,area,stock,yield,plate,bath,s0,s1,cur,sec,place,flaw⟩:Act)).c.drop (i*13)).take 13) kR) ?_
 refine retM (v':=V.tup [V.i 0,V.i 0]) [(0,800043)] [(4,V.i 0),(5,V.i 0)] (.inr rfl) (.cons kR (.cons kR .nil)) (.cons oS (.cons oS (.cons oS (.cons oS (.cons oS (.cons oS (.cons oS .nil))))))) kR kR kR kR kR kR kR
end Go.Proofs.YtjmbpjlojjgggaaGreatDoor

namespace Go.Proofs.YtjmbpjlojjgggaaGreatDoor
open Go.Ab Go.RowKit Go.Dw Go.Shelf
structure Sh where
 r:Rc
 n:Nat
 pl:Nat→Pl
 m:Nat
 tk:Nat→Tk4
 q:Nat
 g:Nat→Int×Int
 l:Nat
structure Sh.ok(S:Sh):Prop where
 r:S.r.ok
 n:S.n≤S.l
 pl:∀i,i< S.n→(S.pl i).ok
 m:S.m≤8
 tk:∀i,i< S.m→(S.tk i).ok∧0≤(S.tk i).charge∧(S.tk i).charge≤2199023255552*S.l
 q:S.q≤S.l
def setP(f:Nat→Pl)(k:Nat)(p:Pl)(i:Nat):Pl:=if i=k then p else f i
def appP(f:Nat→Pl)(n:Nat)(p:Pl)(i:Nat):Pl:=if i< n then f i else p
def appG(f:Nat→Int×Int)(n:Nat)(p:Int×Int)(i:Nat):Int×Int:=if i< n then f i else p
def stepS(S:Sh)(a:Act):Sh×Int×Int:=
 if actB a=false then(S,0,2)
 else if a.kind=1 then({S with n:=S.n+1,pl:=appP S.pl S.n (lacP a),l:=S.l+1},S.n,0)
 else if a.kind=2 then if S.m< 8 then({S with m:=S.m+1,tk:=bathF S.m S.tk a,l:=S.l+1},S.m,0)else(S,0,11)
 else if a.kind=3 then
  if ¬(0≤a.plate∧a.plate< S.n)then(S,0,5)
  else if ¬(0≤a.bath∧a.bath< S.m)then(S,0,5)
  else if hereE S.r S.n (S.pl a.plate.toNat) a≠0 then(S,0,hereE S.r S.n (S.pl a.plate.toNat) a)
  else if layE S.r (S.pl a.plate.toNat) (S.tk a.bath.toNat) a≠0 then(S,0,layE S.r (S.pl a.plate.toNat) (S.tk a.bath.toNat) a)
  else({S with n:=S.n+1,pl:=appP (setP S.pl a.plate.toNat (S.pl a.plate.toNat).under) S.n ((S.pl a.plate.toNat).over a.plate (layT (S.pl a.plate.toNat) (S.tk a.bath.toNat) a)),tk:=tkSet S.tk a.bath.toNat ((S.tk a.bath.toNat).used a),l:=S.l+1},S.n,0)
 else if ¬(0≤a.plate∧a.plate< S.n)then(S,0,5)
 else if a.kind=4 then
  if(S.pl a.plate.toNat).ret then(S,0,10)
  else({S with q:=S.q+1,g:=appG S.g S.q (a.plate,a.place),pl:=setP S.pl a.plate.toNat ((S.pl a.plate.toNat).addF S.q),l:=S.l+1},S.q,0)
 else if a.kind=5 then
  if ¬(0≤a.flaw∧a.flaw< S.q)then(S,0,5)
  else if(S.pl a.plate.toNat).ret then(S,0,10)
  else if(S.pl a.plate.toNat).fl a.flaw=false then(S,0,19)
  else({S with pl:=setP S.pl a.plate.toNat ((S.pl a.plate.toNat).delF a.flaw),l:=S.l+1},0,0)
 else if(S.pl a.plate.toNat).ret then(S,0,10)
 else({S with pl:=setP S.pl a.plate.toNat {S.pl a.plate.toNat with ret:=true},l:=S.l+1},0,0)
structure Nm where
 p:Nat
 t:Nat
 f:Nat
 a:Nat
 pl:Nat→Nat
 mp:Nat→Nat
def nm0:Nm:=⟨501,502,503,504,fun i=>505+2*i,fun i=>506+2*i⟩
def shopO(S:Sh)(N:Nm):Ob:= .box 123 (shC S.r (.own N.p) (.own N.t) (.own N.f) (.own N.a))
def rowO(S:Sh)(N:Nm):Ob:= .row 131 1 S.n fun i=>[.ref (N.pl i) 0]
def tankO(S:Sh):Ob:= .row 55 4 S.m fun i=>(S.tk i).c
def flawO(S:Sh):Ob:= .row 149 2 S.q (flC S.g)
def actO(S:Sh):Ob:= .row 40 13 S.l anyR
def plO(S:Sh)(N:Nm)(i:Nat):Ob:= .box 134 ((S.pl i).c++[.own (N.mp i)])
def mapO(S:Sh)(i:Nat):Ob:= .mp (false,(S.pl i).cnt) (setF (S.pl i).fl)
structure FamAt(S:Sh)(N:Nm)(σ:Nat→Option Ob):Prop where
 s:σ 500=some (shopO S N)
 p:σ N.p=some (rowO S N)
 t:σ N.t=some (tankO S)
 f:σ N.f=some (flawO S)
 a:σ N.a=some (actO S)
 pl:∀i,i< S.n→σ (N.pl i)=some (plO S N i)
 mp:∀i,i< S.n→σ (N.mp i)=some (mapO S i)
structure NmOk(n:Nat)(N:Nm)(h:Nat→Nat):Prop where
 inj:∀i j,500≤i→i< 505+2*n→500≤j→j< 505+2*n→h i=h j→i=j
 s:h 500=500
 p:h 501=N.p
 t:h 502=N.t
 f:h 503=N.f
 a:h 504=N.a
 pl:∀i,i< n→h (505+2*i)=N.pl i
 mp:∀i,i< n→h (506+2*i)=N.mp i
def famF(S:Sh)(rest:Nat→Option Ob)(id:Nat):Option Ob:=
 if id< 500 then rest id else if 1000≤id then rest id else
 if id=500 then some (shopO S nm0)else if id=501 then some (rowO S nm0)else if id=502 then some (tankO S)else if id=503 then some (flawO S)else if id=504 then some (actO S)
 else if(id- 505) / 2< S.n then if(id- 505)% 2=0 then some (plO S nm0 ((id- 505) / 2))else some (mapO S ((id- 505) / 2))else none
theorem famF_at{S:Sh}(hn:S.n≤200)(rest:Nat→Option Ob):FamAt S nm0 (famF S rest):=by
 refine⟨rfl,rfl,rfl,rfl,rfl,fun i hi=> ?_,fun i hi=> ?_⟩
 ·
  show famF S rest (505+2*i)=_
  unfold famF
  rw [if_neg oM,if_neg oM,if_neg oM,if_neg oM,if_neg oM,if_neg oM,if_neg oM,show(505+2*i- 505) / 2=i by omega,if_pos hi,if_pos oM]
 ·
  show famF S rest (506+2*i)=_
  unfold famF
  rw [if_neg oM,if_neg oM,if_neg oM,if_neg oM,if_neg oM,if_neg oM,if_neg oM,show(506+2*i- 505) / 2=i by omega,if_pos hi,if_neg oM]
theorem le_fam{tm:Nat→V}{σ rest:Nat→Option Ob}{nx:Nat}{S:Sh}{N:Nm}{tl:List (Nat×V)}(h:Nat→Nat)(hn:S.n≤200)(hF:FamAt S N σ)(hN:NmOk S.n N h)
  (hr:∀id o,(id< 500∨1000≤id)→rest id=some o→∃ob,σ (h id)=some ob∧ObEq ob (o.ren h))
  (hinj:∀i j,(i< 500∨1000≤i)→rest i≠none→h i=h j→(rest j≠none∧(j< 500∨1000≤j))∨(500≤j∧j< 505+2*S.n)→i=j)
  (hfr:∀id,100000≤id→nx*100000≤h id) (htm:All (fun p=>tm p.1=p.2.ren h) tl):LeD ⟨tm,σ,nx⟩ ⟨mkT tl,famF S rest,1⟩:=by
 have hc:∀id,famF S rest id≠none→(id< 500∨1000≤id)∧rest id≠none∨(500≤id∧id< 505+2*S.n):=by
  intro id hne
  by_cases h1:id< 500
  ·
   exact .inl ⟨.inl h1,by unfold famF at hne;rwa [if_pos h1]at hne⟩
  by_cases h2:1000≤id
  ·
   exact .inl ⟨.inr h2,by unfold famF at hne;rwa [if_neg h1,if_pos h2]at hne⟩
  refine .inr ⟨by omega,?_⟩
  by_cases h3:id< 505
  ·
   omega
  ·
   unfold famF at hne
   rw [if_neg h1,if_neg h2,if_neg oM,if_neg oM,if_neg oM,if_neg oM,if_neg oM]at hne
   by_cases h4:(id- 505) / 2< S.n
   ·
    omega
   ·
    rw [if_neg h4]at hne;exact absurd rfl hne
 refine le_renF h (fun id o ho=> ?_) (fun i j hi hj he=> ?_) hfr htm
 ·
  rcases hc id (by rw [ho];simp)with⟨h1,h2⟩ | ⟨h1,h2⟩
  ·
   have:famF S rest id=rest id:=by
    unfold famF
    rcases h1 with h1 |h1
    ·
     rw [if_pos h1]
    ·
     rw [if_neg oM,if_pos h1]
   rw [this]at ho
   exact hr id o h1 ho
  ·
   have hA:=famF_at hn rest
   by_cases e0:id=500
   ·
    subst e0
    have:=hA.s;rw [ho]at this;injection this with this;subst this
    refine⟨_,by rw [hN.s];exact hF.s,?_⟩
    show ObEq (.box _ _) (.box _ (V.renL h (shC S.r (.own 501) (.own 502) (.own 503) (.own 504))))
    rw [show V.renL h (shC S.r (.own 501) (.own 502) (.own 503) (.own 504))=shC S.r (.own (h 501)) (.own (h 502)) (.own (h 503)) (.own (h 504))from rfl,hN.p,hN.t,hN.f,hN.a]
    exact⟨rfl,rfl⟩
   by_cases e1:id=501
   ·
    subst e1
    have:=hA.p;rw [show nm0.p=501 from rfl,ho]at this;injection this with this;subst this
    refine⟨rowO S N,by rw [hN.p];exact hF.p,?_⟩
    refine⟨rfl,rfl,rfl,fun i hi=> ?_⟩
    show [V.ref (N.pl i) 0]=[V.ref (h (505+2*i)) 0]
    rw [hN.pl i hi]
   by_cases e2:id=502
   ·
    subst e2
    have:=hA.t;rw [show nm0.t=502 from rfl,ho]at this;injection this with this;subst this
    refine⟨tankO S,by rw [hN.t];exact hF.t,?_⟩
    exact⟨rfl,rfl,rfl,fun i hi=>rfl⟩
   by_cases e3:id=503
   ·
    subst e3
    have:=hA.f;rw [show nm0.f=503 from rfl,ho]at this;injection this with this;subst this
    refine⟨flawO S,by rw [hN.f];exact hF.f,?_⟩
    exact⟨rfl,rfl,rfl,fun i hi=>rfl⟩
   by_cases e4:id=504
   ·
    subst e4
    have:=hA.a;rw [show nm0.a=504 from rfl,ho]at this;injection this with this;subst this
    refine⟨actO S,by rw [hN.a];exact hF.a,?_⟩
    exact⟨rfl,rfl,rfl,fun i hi=>rfl⟩
   obtain⟨i,hi,hid⟩:∃i,i< S.n∧(id=505+2*i∨id=506+2*i):=⟨(id- 505) / 2,by omega,by omega⟩
   rcases hid with rfl |rfl
   ·
    have:=hA.pl i hi;rw [show nm0.pl i=505+2*i from rfl,ho]at this;injection this with this;subst this
    refine⟨_,by rw [hN.pl i hi];exact hF.pl i hi,?_⟩
    show ObEq (.box _ _) (.box _ (V.renL h ((S.pl i).c++[.own (506+2*i)])))
    rw [show V.renL h ((S.pl i).c++[.own (506+2*i)])=(S.pl i).c++[.own (h (506+2*i))]from rfl,hN.mp i hi]
    exact⟨rfl,rfl⟩
   ·
    have:=hA.mp i hi;rw [show nm0.mp i=506+2*i from rfl,ho]at this;injection this with this;subst this
    refine⟨_,by rw [hN.mp i hi];exact hF.mp i hi,?_⟩
    refine⟨rfl,fun k=> ?_⟩
    cases k with
    |s b=>rfl
    |i z=>
     rw [MF.look_map (fun _=>rfl),setF_look]
     split <;> rfl
 ·
  rcases hc i hi with⟨h1,h2⟩ |h1
  ·
   exact hinj i j h1 h2 he ((hc j hj).imp (fun⟨a,b⟩=>⟨b,a⟩) id)
  ·
   rcases hc j hj with⟨h3,h4⟩ |h3
   ·
    exact(hinj j i h3 h4 he.symm (.inr h1)).symm
   ·
    exact hN.inj i j h1.1 h1.2 h3.1 h3.2 he
end Go.Proofs.YtjmbpjlojjgggaaGreatDoor

namespace Go.Proofs.YtjmbpjlojjgggaaGreatDoor
open Go.Ab Go.RowKit Go.Dw Go.Shelf
abbrev ns5:List Nat:=[500,501,502,503,504]
abbrev ns7(k:Nat):List Nat:=[500,501,502,503,504,505+2*k,506+2*k]
abbrev rx7(k:Nat)(x:Nat→Value)(i:Nat):V:= .alt (decide (i=k)) (.ref (505+2*k) 0) (.c (x i))
abbrev rx5(x:Nat→Value)(i:Nat):V:= .c (x i)
abbrev preA(S:Sh):List (Nat×Ob):=[(500,shopO S nm0),(502,tankO S),(503,flawO S),(504,actO S)]
section
variable {P:Program}{W LB:Nat→Prop}{d:Nat}{ty:TypeId}{pos:String}{af:Array Edge}{ev:Operand→V}{fo:Operand}{ar:Array Operand}{ats:Array TypeId}{nx:Nat}{S:Sh}{a:Act}
theorem as7{k:Nat}{x:Nat→Value}{f:FuncId}{v:V}{outs:List (Option Ob)}{obs:List Ob}(hwl:∀b,W b→LB b)(hc:AM P f [.ref 500 0,a.v] (ins7 S.r S.n k x S.m S.tk S.q (flC S.g) S.l (S.pl k)) v outs obs)(hv:v.idf=true)
  (hf:ev fo= .fn (.func f) [] []) (hargs:ar.toList.map ev=[.ref 500 0,a.v]) (hd:d< 1000) (hobs:obs.length≤90) (hol:outs.length=7) :
  AStep P W LB ⟨some d,.call {callee:= .value fo,args:=ar,argTypes:=ats},ty,pos,af,none⟩ ev v ((501,.row 131 1 S.n fun i=>[rx7 k x i])::(preA S++[(505+2*k,plO S nm0 k),(506+2*k,mapO S k)]))
   ((List.range obs.length).map (callG nx (some d))) (outD (nameG nx (some d) (ns7 k)) (ns7 k) outs++callD (nameG nx (some d) (ns7 k)) 0 obs):=by
 have hI:InsOk (nameG nx (some d) (ns7 k)) 7 ([.box 123 (shC S.r (.own 501) (.own 502) (.own 503) (.own 504)),.row 131 1 S.n (rowX 505 k x),.row 55 4 S.m (fun i=>(S.tk i).c),.row 149 2 S.q (flC S.g),.row 40 13 S.l (fun _=>List.replicate 13 .any),.box 134 ((S.pl k).c++[.own 506]),.mp (false,(S.pl k).cnt) (setF (S.pl k).fl)]) ([.box 123 (shC S.r (.own 501) (.own 502) (.own 503) (.own 504)),.row 131 1 S.n (fun i=>[rx7 k x i]),.row 55 4 S.m (fun i=>(S.tk i).c),.row 149 2 S.q (flC S.g),.row 40 13 S.l (fun _=>List.replicate 13 .any),.box 134 ((S.pl k).c++[.own (506+2*k)]),.mp (false,(S.pl k).cnt) (setF (S.pl k).fl)]):= .box kR kR (.row rfl (fun _ _=>by kernel_rfl) (fun _ _=>by kernel_rfl) (.row rfl (fun _ _=>by kernel_rfl) (fun _ _=>by kernel_rfl) (.row rfl (fun _ _=>by kernel_rfl) (fun _ _=>by kernel_rfl) (.row rfl (fun _ _=>by kernel_rfl) (fun _ _=>by kernel_rfl) (.box kR kR (.mp (fun _=>rfl) setF_inN .nil))))))
 have h:=as_callM (P:=P) (W:=W) (LB:=LB) (d:=some d) (ty:=ty) (pos:=pos) (af:=af) (gd:=none) (ats:=ats) (ins':=[shopO S nm0,.row 131 1 S.n fun i=>[rx7 k x i],tankO S,flawO S,actO S,plO S nm0 k,mapO S k]) hc hwl (ns7 k) hf nx (by rw [hargs];rfl) rfl (by simpa using hd) hobs (by simp;omega) rfl hol rfl
  hI.get.2
 rw [V.ren_idf (nameG nx (some d) (ns7 k)) v hv]at h
 exact h.pre_mono fun p hp=>by simp [preD]at hp ⊢;rcases hp with h |h |h |h |h |h |h <;> simp [h]
theorem as5{x:Nat→Value}{f:FuncId}{v:V}{outs:List (Option Ob)}{obs:List Ob}(hwl:∀b,W b→LB b)(hc:AM P f [.ref 500 0,a.v] (ins5 S.r S.n (rowC x) S.m S.tk S.q (flC S.g) S.l) v outs obs)(hv:v.idf=true)
  (hf:ev fo= .fn (.func f) [] []) (hargs:ar.toList.map ev=[.ref 500 0,a.v]) (hd:d< 1000) (hobs:obs.length≤90) (hol:outs.length=5) :
  AStep P W LB ⟨some d,.call {callee:= .value fo,args:=ar,argTypes:=ats},ty,pos,af,none⟩ ev v ((501,.row 131 1 S.n fun i=>[rx5 x i])::preA S)
   ((List.range obs.length).map (callG nx (some d))) (outD (nameG nx (some d) ns5) ns5 outs++callD (nameG nx (some d) ns5) 0 obs):=by
 have hI:InsOk (nameG nx (some d) ns5) 5 ([.box 123 (shC S.r (.own 501) (.own 502) (.own 503) (.own 504)),.row 131 1 S.n (rowC x),.row 55 4 S.m (fun i=>(S.tk i).c),.row 149 2 S.q (flC S.g),.row 40 13 S.l (fun _=>List.replicate 13 .any)]) ([.box 123 (shC S.r (.own 501) (.own 502) (.own 503) (.own 504)),.row 131 1 S.n (fun i=>[rx5 x i]),.row 55 4 S.m (fun i=>(S.tk i).c),.row 149 2 S.q (flC S.g),.row 40 13 S.l (fun _=>List.replicate 13 .any)]):= .box kR kR (.row rfl (fun _ _=>by kernel_rfl) (fun _ _=>by kernel_rfl) (.row rfl (fun _ _=>by kernel_rfl) (fun _ _=>by kernel_rfl) (.row rfl (fun _ _=>by kernel_rfl) (fun _ _=>by kernel_rfl) (.row rfl (fun _ _=>by kernel_rfl) (fun _ _=>by kernel_rfl) .nil))))
 have h:=as_callM (P:=P) (W:=W) (LB:=LB) (d:=some d) (ty:=ty) (pos:=pos) (af:=af) (gd:=none) (ats:=ats) (ins':=[shopO S nm0,.row 131 1 S.n fun i=>[rx5 x i],tankO S,flawO S,actO S]) hc hwl ns5 hf nx (by rw [hargs];rfl) rfl (by simpa using hd) hobs (by simp) rfl hol rfl
  hI.get.2
 rw [V.ren_idf (nameG nx (some d) ns5) v hv]at h
 exact h.pre_mono fun p hp=>by simp [preD]at hp ⊢;rcases hp with h |h |h |h |h <;> simp [h]
end
end Go.Proofs.YtjmbpjlojjgggaaGreatDoor
