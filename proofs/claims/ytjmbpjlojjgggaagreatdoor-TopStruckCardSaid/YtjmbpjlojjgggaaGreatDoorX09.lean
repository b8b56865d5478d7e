/-
  Several texts in one: Plating shops of many plates: what is read of them. Walks. Conditions: told in each theorem. .. The samples that are near, for values without addresses. No condition.
-/
import Derived.Test.YtjmbpjlojjgggaaGreatDoorAbs42
import Derived.Test.YtjmbpjlojjgggaaGreatDoorX00
import Derived.Test.YtjmbpjlojjgggaaGreatDoorX08
import Derived.Test.YtjmbpjlojjgggaaGreatDoorX02
import Derived.Test.YtjmbpjlojjgggaaGreatDoorX06
import Derived.Test.YtjmbpjlojjgggaaGreatDoorX04
import Derived.Test.YtjmbpjlojjgggaaGreatDoorMC
import Derived.Test.YtjmbpjlojjgggaaGreatDoorMD
namespace Go.Proofs.YtjmbpjlojjgggaaGreatDoor
open Go.Ab Go.RowKit Go.Dw Go.Shelf
abbrev frs(S:Sh)(i:Nat):List V:=(S.pl i).c++[flV (S.pl i)]
set_option maxRecDepth 100000 in
theorem PlatesO_ac(S:Sh)(hn:S.n≤200):AC Tryz.prog 16 [fsh S] (.own 0) [.row 51 7 S.n fun i=>(S.pl i).c]:=by
 refine acI hTT hMX Tryz.func16 Tryz.ntmps16 fun C hC hF=> ?_
 refine sK fun K hK=>wR 2 ?_;refine aY hTT 1 [] ?_;refine nK hK ?_;clear hK K;refine sK fun K hK=>sK fun K hK=>wR 3 ?_;refine aY hTT 1 [] ?_
 refine eC (bad_ac S.r (.sl 1 S.n fun i=>[.ptr ((S.pl i).c++[flV (S.pl i)])]) (.sl 4 S.m fun i=>(S.tk i).c) (.sl 2 S.q (flC S.g)) (.sl 13 S.l anyR)) ?_
 refine nK hK ?_;clear hK K;refine w_false (t:=false) kR rfl ?_
 refine aw_skip ?_
 refine xt_n (hK _ ?_);clear hK K;refine sK fun K hK=>wR 4 ?_;refine aY hTT 1 [] ?_;refine nK hK ?_;clear hK K;refine sK fun K hK=>sK fun K hK=>wR 5 ?_;refine aY hTT 6 [] ?_;refine nK hK ?_;clear hK K
 refine aw_block ?_
 refine w_le (le_open 3 51 7 (fun i=>(S.pl i).c) kR rfl) ?_
 refine w_loop (ι:=Nat) (fun k=>[(3,.own 5),(11,.sl 1 S.n fun i=>[.ptr (frs S i)]),(12,.i S.n),(13,.i (k:Nat))]) (fun k=>[(5,.row 51 7 k fun i=>(S.pl i).c)]) (fun k=>k≤S.n) (fun k=>S.n- k) 0 (Nat.zero_le _) ?_ ?_
 ·
  refine le_ren (sl:=[(5,Ob.row 51 7 0 fun(i:Nat)=>Pl.c (Sh.pl S i))]) [(5,500003)] (.cons kR (.cons kR (.cons kR (.cons kR .nil)))) (.cons oS .nil) kR kR
 intro k hk
 refine sK fun K hK=>wR 2 ?_;refine aY hTT 1 [] ?_;refine nK hK ?_;clear hK K;refine sK fun K hK=> ?_
 refine w_cond (t:=decide ((↑k:Int)< (↑(Sh.n S):Int))) kR (fun c1=> ?_) (fun c1=> ?_)
 ·
  have hk1:k< S.n:=by simpa using c1
  refine aw_skip ?_
  refine xt_n (hK _ ?_);clear hK K;refine sK fun K hK=> ?_
  refine aw_block ?_
  refine sK fun K hK=>wR 3 ?_;refine aY hTT 3 [(0,.c ((0:Int)≤(↑k:Int)∧(↑k:Int)< (↑(Sh.n S):Int)) oM)] ?_;refine nK hK ?_;clear hK K;refine wR 4 (aX hTT 8 [(6,.r (PR.mk (some (23:Nat)) (some (k+1≤(1099511627776:Nat))) (V.own 300023) [((5:Nat),none),((300023:Nat),some (Ob.row 51 7 (k+1) (appRow k (fun(i:Nat)=>Pl.c (Sh.pl S i)) fun(i:Nat)=>List.take (7:Nat) (List.drop (i*7) [V.i (↑(Pl.kind (Sh.pl S k)):Int),V.i (Pl.par (Sh.pl S k)),V.i (Pl.cut (Sh.pl S k)),V.i (Pl.area (Sh.pl S k)),V.i (Pl.thick (Sh.pl S k)),V.i (Pl.grown (Sh.pl S k)),V.b (Pl.ret (Sh.pl S k))]))))] false))] ⟨oM,tI⟩ (aops_nil (xb_n (xt_n (hK _ ?_)))));clear hK K;refine wR 5 ?_;refine aY hTT 2 [(0,.c (iR ((↑k:Int)+1)) oM)] ?_;refine aops_nil (xt_n ?_)
  refine⟨k+1,by omega,?_,by omega⟩
  refine le_ren (tl:=[(3,V.own 5),(11,V.sl 1 (Sh.n S) fun(i:Nat)=>[V.ptr (frs S i)]),(12,V.i (↑(Sh.n S):Int)),(13,V.i (↑(k+1):Int))]) (sl:=[(5,Ob.row 51 7 (k+1) fun(i:Nat)=>Pl.c (Sh.pl S i))]) [(5,300023)] (.cons kR (.cons kR (.cons kR (.cons kR .nil)))) (.cons ⟨Ob.row 51 7 (k+1) (appRow k (fun(i:Nat)=>Pl.c (Sh.pl S i)) fun(i:Nat)=>List.take (7:Nat) (List.drop (i*7) [V.i (↑(Pl.kind (Sh.pl S k)):Int),V.i (Pl.par (Sh.pl S k)),V.i (Pl.cut (Sh.pl S k)),V.i (Pl.area (Sh.pl S k)),V.i (Pl.thick (Sh.pl S k)),V.i (Pl.grown (Sh.pl S k)),V.b (Pl.ret (Sh.pl S k))])),kR,.row kR ?_⟩ .nil) kR kR
  ·
   intro i hi
   by_cases h:i< k
   ·
    simp only [appRow,if_pos h];rfl
   ·
    have:i=k:=by omega
    subst this
    simp only [appRow,if_neg h,Nat.sub_self];rfl
 ·
  have hk1:k=S.n:=by simp at c1;omega
  subst hk1
  refine aw_exit ?_
  refine xt_x ?_;refine xt_x ?_
  refine xb_same ?_
  refine xt_n ?_;clear hK K;refine hK _ ?_;clear hK K;refine sK fun K hK=>wR 3 ?_;refine aY hTT 2 [] ?_;refine nK hK ?_;clear hK K
  refine aw_ret ?_
  refine ret_own [(0,5)] [(2,V.own 0)] (.inr rfl) (.cons kR .nil) (.cons oS .nil) kR kR kR kR
end Go.Proofs.YtjmbpjlojjgggaaGreatDoor

namespace Go.Proofs.YtjmbpjlojjgggaaGreatDoor
open Go.Ab Go.RowKit Go.Dw Go.Shelf
abbrev yySHR50:=(repV (0:Nat) [V.c (Value.int IntKind.i64 0),V.c (Value.int IntKind.i64 0),V.c (Value.int IntKind.i64 0),V.c (Value.int IntKind.i64 0)])
set_option maxRecDepth 100000 in
theorem CloneT_row(m:Nat)(tk:Nat→Tk4)(h0:0< m)(hm:m≤8):AC Tryz.prog 62 [.sl 4 m fun i=>(tk i).c] (.own 0) [.row 55 4 m fun i=>(tk i).c]:=by
 refine acI hTT hMX Tryz.func62 Tryz.ntmps62 fun C hC hF=> ?_
 refine sK fun K hK=>wR 2 ?_
 refine aops_x (M:=[5]) hTT 1 [] tI ?_
 refine nK hK ?_;clear hK K;refine sK fun K hK=>sK fun K hK=>wR 3 ?_
 refine aops_x (M:=[5]) hTT 2 [(1,.c ((0:Nat)< m))] ⟨oM,tI⟩ ?_
 refine nK hK ?_;clear hK K;refine w_false (t:=false) kR rfl ?_
 refine aw_skip ?_
 refine xt_n (hK _ ?_);clear hK K;refine sK fun K hK=>wR 4 ?_
 refine aops_x (M:=[5]) hTT 4 [(0,.r (pn 5 (V.own 300005) (300005:Nat) (Ob.row 55 4 0 fun(i:Nat)=>List.take (4:Nat) (List.drop (i*4) yySHR50)))),(2,.r (PR.mk (some (7:Nat)) (some ((0:Nat)+m≤1099511627776)) (V.own 300007) [((300005:Nat),none),((300007:Nat),some (Ob.row 55 4 ((0:Nat)+m) (appRow (0:Nat) (fun(i:Nat)=>List.take (4:Nat) (List.drop (i*4) yySHR50)) fun(i:Nat)=>Tk4.c (tk i))))] false))] ⟨oM,tI⟩ ?_
 refine nK hK ?_;clear hK K
 refine aw_ret ?_
 refine ret_own [(0,300007)] [(2,V.own 0)] (.inr rfl) (.cons kR .nil) (.cons ⟨Ob.row 55 4 ((0:Nat)+m) (appRow (0:Nat) (fun(i:Nat)=>List.take (4:Nat) (List.drop (i*4) yySHR50)) fun(i:Nat)=>Tk4.c (tk i)),kR,.row ?_ (fun _ _=>rfl)⟩ .nil) kR kR kR kR
 omega
set_option maxRecDepth 100000 in
theorem TanksO_ac(S:Sh)(h0:0< S.m)(hm:S.m≤8):AC Tryz.prog 17 [fsh S] (.own 0) [.row 55 4 S.m fun i=>(S.tk i).c]:=by
 refine acI hTT hMX Tryz.func17 Tryz.ntmps17 fun C hC hF=> ?_
 refine sK fun K hK=>wR 2 ?_;refine aY hTT 1 [] ?_;refine nK hK ?_;clear hK K;refine sK fun K hK=>sK fun K hK=>wR 3 ?_;refine aY hTT 1 [] ?_
 refine eC (bad_ac S.r (.sl 1 S.n fun i=>[.ptr ((S.pl i).c++[flV (S.pl i)])]) (.sl 4 S.m fun i=>(S.tk i).c) (.sl 2 S.q (flC S.g)) (.sl 13 S.l anyR)) ?_
 refine nK hK ?_;clear hK K;refine w_false (t:=false) kR rfl ?_
 refine aw_skip ?_
 refine xt_n (hK _ ?_);clear hK K;refine sK fun K hK=>wR 4 ?_;refine aY hTT 4 [] ?_
 refine e_callO (first:=[]) (caps:=[]) (k:=300009) (v':=V.own 300009) (ob':=Ob.row 55 4 (Sh.m S) fun(i:Nat)=>V.renL (callG (3:Nat) (some 9)) (Tk4.c (Sh.tk S i))) (CloneT_row S.m S.tk h0 hm) kR kR kR kR kR kR kR ?_
 refine aY hTT 1 [] ?_;refine nK hK ?_;clear hK K
 refine aw_ret ?_
 refine ret_own [(0,300009)] [(2,V.own 0)] (.inr rfl) (.cons kR .nil) (.cons oS .nil) kR kR kR kR
end Go.Proofs.YtjmbpjlojjgggaaGreatDoor

namespace Go.Proofs.YtjmbpjlojjgggaaGreatDoor
open Go.Ab Go.RowKit Go.Dw Go.Shelf
theorem gMul{a b m n:Int}(ha: -m≤a∧a≤m)(hb: -n≤b∧b≤n): -(m*n)≤a*b∧a*b≤m*n:=by
 have h1:0≤(m- a)*(n+b):=Int.mul_nonneg oM oM
 have h2:0≤(m+a)*(n- b):=Int.mul_nonneg oM oM
 have h3:0≤(m- a)*(n- b):=Int.mul_nonneg oM oM
 have h4:0≤(m+a)*(n+b):=Int.mul_nonneg oM oM
 simp only [Int.sub_mul,Int.add_mul,Int.mul_add,Int.mul_sub]at h1 h2 h3 h4
 omega
theorem gTd{x m M:Int}(hm:0< m)(h: -(M*m)≤x∧x≤M*m): -M≤x.tdiv m∧x.tdiv m≤M:=by
 by_cases hx:0≤x
 ·
  rw [Int.tdiv_eq_ediv_of_nonneg hx]
  have h1:=Int.ediv_nonneg hx (Int.le_of_lt hm)
  have h2:x / m≤M:=by
   have:=Int.ediv_le_ediv hm h.2
   rwa [Int.mul_ediv_cancel _ oM]at this
  omega
 ·
  have e:x.tdiv m= -((-x) / m):=by
   have:=Int.neg_tdiv (a:= -x) (b:=m)
   rw [Int.neg_neg]at this
   rw [this,Int.tdiv_eq_ediv_of_nonneg oM]
  have h1:=Int.ediv_nonneg (a:= -x) (b:=m) oM oM
  have h2:(-x) / m≤M:=by
   have:=Int.ediv_le_ediv hm (show -x≤M*m by omega)
   rwa [Int.mul_ediv_cancel _ oM]at this
  omega
def chE(g n:Int):Int:=(n*g).tdiv 1000
def wallP(c:Cut)(s:Pt):Pt:=(chE c.gain s.2- c.half,chE c.gain s.1+c.half)
theorem chE_bd{g n:Int}(hg:0≤g∧g≤100000)(hn: -32768≤n∧n≤32768): -3276800≤chE g n∧chE g n≤3276800:=by
 have:=gMul (m:=32768) (n:=100000) hn ⟨by omega,hg.2⟩
 exact gTd (by decide) oM
def cutR(c:Cut)(s:List Pt):List Pt×Int:=if cutE c=0 then(if sChk s=0 then(s.map (wallP c),0)else([],sChk s))else([],cutE c)
theorem cutR_1{c:Cut}{s:List Pt}(h:¬cutE c=0):cutR c s=([],cutE c):=by rw [cutR,if_neg h]
theorem cutR_2{c:Cut}{s:List Pt}(h:cutE c=0)(h2:¬sChk s=0):cutR c s=([],sChk s):=by rw [cutR,if_pos h,if_neg h2]
theorem cutR_3{c:Cut}{s:List Pt}(h:cutE c=0)(h2:sChk s=0):cutR c s=(s.map (wallP c),0):=by rw [cutR,if_pos h,if_pos h2]
theorem gp_map{f:Pt→Pt}{l:List Pt}{k:Nat}(h:k< l.length):gp (l.map f) k=f (gp l k):=by
 simp [gp,List.getD_eq_getElem?_getD,List.getElem?_eq_getElem h]
theorem wallP_gE{c:Cut}{s:Pt}(hc:cutE c=0)(hs:sE s=true):gE (wallP c s)=true:=by
 obtain⟨⟨a1,a2⟩,⟨b1,b2⟩,_⟩:=cutE_ok.1 hc
 obtain⟨h1,h2⟩:=sE_iff.1 hs
 have e1:=chE_bd (n:=s.1) ⟨b1,b2⟩ oM
 have e2:=chE_bd (n:=s.2) ⟨b1,b2⟩ oM
 rw [gE_iff]
 show(-4194304≤chE c.gain s.2- c.half∧_)∧ -4194304≤chE c.gain s.1+c.half∧_
 simp only [wallP]
 omega
end Go.Proofs.YtjmbpjlojjgggaaGreatDoor

namespace Go.Proofs.YtjmbpjlojjgggaaGreatDoor
open Go.Ab Go.RowKit Go.Dw Go.Shelf
def inR2(p:Pt):Prop:=inR .i64 p.1∧inR .i64 p.2
set_option maxRecDepth 100000 in
theorem rCheckSamples_ac(l:List Pt)(hl:l.length≤4611686018427387904)(hr:∀k,k< l.length→inR2 (gp l k)):AC Tryz.prog 60 [V.pts l] (.i (sChk l)) []:=by
 refine acI hTT hMX Tryz.func60 Tryz.ntmps60 fun C hC hF=> ?_
 refine sK fun K hK=>wR 2 ?_;refine aY hTT 1 [] ?_;refine nK hK ?_;clear hK K;refine sK fun K hK=>sK fun K hK=>wR 3 ?_;refine aY hTT 3 [] ?_;refine nK hK ?_;clear hK K
 refine w_cond (t:=decide ((4096:Int)< (↑(List.length l):Int))) kR (fun c1=> ?_) (fun c1=> ?_)
 ·
  simp at c1
  refine sK fun K hK=>wR 4 ?_;refine aY hTT 1 [] ?_;refine nK hK ?_;clear hK K
  refine aw_ret ?_
  refine xt_r ?_
  rw [sChk_many oM]
  refine rP (V.i 6)
 simp at c1
 refine aw_skip ?_
 refine xt_n (hK _ ?_);clear hK K;refine sK fun K hK=>sK fun K hK=>wR 4 ?_;refine aY hTT 1 [] ?_;refine nK hK ?_;clear hK K
 refine aw_block ?_
 refine w_loop (ι:=Nat) (fun k=>[(0,V.pts l),(3,.i k)]) (fun _=>[]) (fun k=>k≤l.length∧∀j,j< k→sE (gp l j)=true) (fun k=>l.length- k) 0 ⟨Nat.zero_le _,fun j hj=>by omega⟩ ?_ ?_
 ·
  refine le_ren [] (.cons kR (.cons kR .nil)) .nil kR kR
 rintro k ⟨hk,hj⟩
 refine sK fun K hK=>sK fun K hK=>wR 2 ?_;refine aY hTT 4 [] ?_;refine nK hK ?_;clear hK K
 refine w_cond (t:=decide ((↑k:Int)< (↑(List.length l):Int))) kR (fun c2=> ?_) (fun c2=> ?_)
 ·
  simp at c2
  obtain⟨r1,r2⟩:=hr k oM
  refine aw_skip ?_
  refine xt_n (hK _ ?_);clear hK K;refine sK fun K hK=> ?_
  refine aw_block ?_
  refine sK fun K hK=>wR 3 ?_;refine aY hTT 4 [(2,.c ((0:Int)≤(↑k:Int)∧(↑k:Int)< (↑(List.length l):Int)) oM)] ?_
  refine eC (rValid_ac (gp l k) r1 r2) ?_
  refine aY hTT 1 [] ?_;refine nK hK ?_;clear hK K
  refine w_cond (t:= !sE (gp l k)) kR (fun c3=> ?_) (fun c3=> ?_)
  ·
   refine sK fun K hK=> ?_
   refine wR 4 ?_;refine aY hTT 1 [] ?_;refine nK hK ?_;clear hK K
   refine aw_ret ?_
   refine xb_r ?_
   refine xt_r (xt_r ?_)
   refine xb_r ?_
   refine xt_r ?_
   rw [sChk_bad oM oM (by simpa using c3)]
   refine rP (V.i 2)
  refine aw_skip ?_
  refine xb_n (xt_n (hK _ ?_));clear hK K;refine wR 4 ?_;refine aY hTT 3 [(1,.c (iR ((↑k:Int)+1)) oM)] ?_;refine aops_nil (xt_n ?_)
  refine⟨k+1,⟨by omega,fun i hi=> ?_⟩,by refine le_ren [] (.cons kR (.cons kR .nil)) .nil kR kR,by omega⟩
  by_cases he:i=k
  ·
   subst he;simpa using c3
  ·
   exact hj i oM
 ·
  simp at c2
  refine aw_exit ?_
  refine xt_x ?_;refine xt_x ?_
  refine xb_same ?_
  refine xt_n ?_;clear hK K;refine hK _ ?_;clear hK K;refine sK fun K hK=>wR 3 ?_;refine aY hTT 1 [] ?_;refine nK hK ?_;clear hK K
  refine aw_ret ?_
  rw [sChk_good oM fun i hi=>hj i oM]
  refine rP (V.i 0)
abbrev yyGA20(c:Cut)(s:Pt):List V:=[V.i (Int.tdiv (Prod.snd s*Cut.gain c) (1000:Int)- Cut.half c),V.i (Int.tdiv (Prod.fst s*Cut.gain c) (1000:Int)+Cut.half c)]
set_option maxRecDepth 100000 in
theorem point_ac(c:Cut)(s:Pt)(hc:cutE c=0)(hs:(-32768≤s.1∧s.1≤32768)∧ -32768≤s.2∧s.2≤32768):AC Tryz.prog 59 [c.v,.agg [.i s.1,.i s.2]] (.agg [.i (wallP c s).1,.i (wallP c s).2]) []:=by
 obtain⟨⟨a1,a2⟩,⟨b1,b2⟩,_⟩:=cutE_ok.1 hc
 obtain⟨h1,h2⟩:=hs
 have e1:=chE_bd (n:=s.1) ⟨b1,b2⟩ oM
 have e2:=chE_bd (n:=s.2) ⟨b1,b2⟩ oM
 have m1:=gMul (m:=32768) (n:=100000) (a:=s.1) (b:=c.gain) oM ⟨by omega,b2⟩
 have m2:=gMul (m:=32768) (n:=100000) (a:=s.2) (b:=c.gain) oM ⟨by omega,b2⟩
 unfold chE at e1 e2
 refine acI hTT hMX Tryz.func59 Tryz.ntmps59 fun C hC hF=> ?_
 refine sK fun K hK=>wR 2 ?_;refine aY hTT 3 [] ?_;refine nK hK ?_;clear hK K;refine sK fun K hK=>wR 3 ?_;refine aY hTT 20 [(4,.c (iR (Prod.snd s*Cut.gain c)) oM),(0,.c ((0:Int)< (1000:Int)∧(-9223372036854775808:Int)≤Prod.snd s*Cut.gain c∧Prod.snd s*Cut.gain c≤9223372036854775807) ⟨oM,oM⟩),(2,.c (iR (Int.tdiv (Prod.snd s*Cut.gain c) (1000:Int)- Cut.half c)) oM),(4,.c (iR (Prod.fst s*Cut.gain c)) oM),(0,.c ((0:Int)< (1000:Int)∧(-9223372036854775808:Int)≤Prod.fst s*Cut.gain c∧Prod.fst s*Cut.gain c≤9223372036854775807) ⟨oM,oM⟩),(2,.c (iR (Int.tdiv (Prod.fst s*Cut.gain c) (1000:Int)+Cut.half c)) oM),(1,.c ((0:Nat)+(2:Nat)≤(2:Nat)) oM)] ?_;refine nK hK ?_;clear hK K
 refine aw_ret ?_
 refine ret_of_le (le_freezeBox (t:=(47:Nat)) (cs:=(yyGA20 c s)) 100004 kR kR) ?_
 refine rP (V.agg (yyGA20 c s))
abbrev yyGA21(c:Cut)(s:Pt):List V:=[V.i (-Cut.half c+Int.tdiv (Prod.snd s*Cut.gain c) (1000:Int)),V.i (Cut.half c+Int.tdiv (Prod.fst s*Cut.gain c) (1000:Int))]
set_option maxRecDepth 100000 in
theorem wall_ac(c:Cut)(s:Pt)(hc:cutE c=0)(hs:(-32768≤s.1∧s.1≤32768)∧ -32768≤s.2∧s.2≤32768):AC Tryz.prog 61 [c.v,.agg [.i s.1,.i s.2]] (.agg [.i (wallP c s).1,.i (wallP c s).2]) []:=by
 obtain⟨⟨a1,a2⟩,⟨b1,b2⟩,_⟩:=cutE_ok.1 hc
 obtain⟨h1,h2⟩:=hs
 have e1:=chE_bd (n:=s.1) ⟨b1,b2⟩ oM
 have e2:=chE_bd (n:=s.2) ⟨b1,b2⟩ oM
 have m1:=gMul (m:=32768) (n:=100000) (a:=s.1) (b:=c.gain) oM ⟨by omega,b2⟩
 have m2:=gMul (m:=32768) (n:=100000) (a:=s.2) (b:=c.gain) oM ⟨by omega,b2⟩
 unfold chE at e1 e2
 refine acI hTT hMX Tryz.func61 Tryz.ntmps61 fun C hC hF=> ?_
 refine sK fun K hK=>wR 2 ?_;refine aY hTT 3 [] ?_;refine nK hK ?_;clear hK K;refine sK fun K hK=>wR 3 ?_;refine aY hTT 21 [(2,.c (iR (-Cut.half c)) oM),(4,.c (iR (Prod.snd s*Cut.gain c)) oM),(0,.c ((0:Int)< (1000:Int)∧(-9223372036854775808:Int)≤Prod.snd s*Cut.gain c∧Prod.snd s*Cut.gain c≤9223372036854775807) ⟨oM,oM⟩),(0,.c (iR (-Cut.half c+Int.tdiv (Prod.snd s*Cut.gain c) (1000:Int))) oM),(6,.c (iR (Prod.fst s*Cut.gain c)) oM),(0,.c ((0:Int)< (1000:Int)∧(-9223372036854775808:Int)≤Prod.fst s*Cut.gain c∧Prod.fst s*Cut.gain c≤9223372036854775807) ⟨oM,oM⟩),(0,.c (iR (Cut.half c+Int.tdiv (Prod.fst s*Cut.gain c) (1000:Int))) oM),(1,.c ((0:Nat)+(2:Nat)≤(2:Nat)) oM)] ?_;refine nK hK ?_;clear hK K
 refine aw_ret ?_
 refine ret_of_le (le_freezeBox (t:=(47:Nat)) (cs:=(yyGA21 c s)) 100004 kR kR) ?_
 have q1: -c.half+(s.2*c.gain).tdiv 1000=(wallP c s).1:=by simp only [wallP,chE];omega
 have q2:c.half+(s.1*c.gain).tdiv 1000=(wallP c s).2:=by simp only [wallP,chE];omega
 rw [←q1,←q2]
 refine rP (V.agg (yyGA21 c s))
def cutA(c:Cut)(s:List Pt)(k j:Nat):Int:=if j< k then(wallP c (gp s j)).1 else 0
def cutB(c:Cut)(s:List Pt)(k j:Nat):Int:=if j< k then(wallP c (gp s j)).2 else 0
theorem cutAB_set{c:Cut}{s:List Pt}{k:Nat}(i:Nat):(if i=k then [V.i (wallP c (gp s k)).1,V.i (wallP c (gp s k)).2]else [V.i (cutA c s k i),V.i (cutB c s k i)])=[V.i (cutA c s (k+1) i),V.i (cutB c s (k+1) i)]:=by
 unfold cutA cutB
 by_cases h:i=k
 ·
  subst h;rw [if_pos rfl,if_pos oM,if_pos oM]
 ·
  rw [if_neg h]
  by_cases h2:i< k
  ·
   rw [if_pos h2,if_pos h2,if_pos oM,if_pos oM]
  ·
   rw [if_neg h2,if_neg h2,if_neg oM,if_neg oM]
abbrev zzGA20:V:=V.sl 2 0 fun(k:Nat)=>[V.i (Prod.fst (gp [] k)),V.i (Prod.snd (gp [] k))]
set_option maxRecDepth 100000 in
theorem Cut_ac(c:Cut)(s:List Pt)(hs:s.length≤4611686018427387904):AC Tryz.prog 14 [c.v,V.pts s] (.tup [V.pts (cutR c s).1,.i (cutR c s).2]) []:=by
 refine acI hTT hMX Tryz.func14 Tryz.ntmps14 fun C hC hF=> ?_
 refine sK fun K hK=>wR 2 ?_;refine aY hTT 3 [] ?_;refine nK hK ?_;clear hK K;refine sK fun K hK=>sK fun K hK=>wR 3 ?_;refine aY hTT 1 [] ?_
 refine eC (cutCheck_ac c) ?_
 refine aY hTT 1 [] ?_;refine nK hK ?_;clear hK K;refine sK fun K hK=>wR 4 ?_;refine aY hTT 2 [] ?_;refine nK hK ?_;clear hK K
 refine w_cond (t:= !decide (cutE c=0)) kR (fun c1=> ?_) (fun c1=> ?_)
 ·
  simp at c1
  refine sK fun K hK=>wR 5 ?_;refine aY hTT 3 [] ?_;refine nK hK ?_;clear hK K
  refine aw_ret ?_
  refine xt_r ?_
  rw [cutR_1 c1]
  refine ret_of_le (le_nil 4 (sz:=2) 0 (fun k=>[.i (gp [] k).1,.i (gp [] k).2]) kR ?_) ?_
  ·
   rfl
  refine rP (V.tup [zzGA20,V.i (cutE c)])
 simp at c1
 refine aw_skip ?_
 refine xt_n (hK _ ?_);clear hK K;refine sK fun K hK=>sK fun K hK=>wR 5 ?_;refine aY hTT 1 [] ?_
 refine eC (tCheckSamples_ac s hs) ?_
 refine aY hTT 1 [] ?_;refine nK hK ?_;clear hK K;refine sK fun K hK=>wR 6 ?_;refine aY hTT 2 [] ?_;refine nK hK ?_;clear hK K
 refine w_cond (t:= !decide (sChk s=0)) kR (fun c2=> ?_) (fun c2=> ?_)
 ·
  simp at c2
  refine sK fun K hK=>wR 7 ?_;refine aY hTT 3 [] ?_;refine nK hK ?_;clear hK K
  refine aw_ret ?_
  refine xt_r ?_
  rw [cutR_2 c1 c2]
  refine ret_of_le (le_nil 4 (sz:=2) 0 (fun k=>[.i (gp [] k).1,.i (gp [] k).2]) kR ?_) ?_
  ·
   rfl
  refine rP (V.tup [zzGA20,V.i (sChk s)])
 simp at c2
 obtain⟨l1,l2⟩:=sChk_ok.1 c2
 refine aw_skip ?_
 refine xt_n (hK _ ?_);clear hK K;refine sX hTT 7 4 [(2,.r (PR.mk (some (23:Nat)) (some ((0:Int)≤(↑(List.length s):Int)∧(↑(List.length s):Int)≤(↑(List.length s):Int)∧(↑(List.length s):Int)≤1099511627776)) (V.own 600023) [((600023:Nat),some (Ob.row 47 2 (List.length s) fun(x:Nat)=>[V.c (Value.int IntKind.i64 0),V.c (Value.int IntKind.i64 0)]))] false))] ⟨⟨oM,oM⟩,tI⟩ (sK fun K hK=>sK fun K hK=>wR 8 ?_);refine aY hTT 3 [] ?_;refine nK hK ?_;clear hK K
 refine aw_block ?_
 refine w_loop (ι:=Nat) (fun k=>[(2,.ptr [.i c.half,.i c.gain,.i c.thin,.i c.wide,.i c.slope,.i c.jerk,.i c.sty]),(8,.own 8),(24,V.pts s),(25,.i s.length),(26,.i k)]) (fun k=>[(8,.row 47 2 s.length fun j=>[.i (cutA c s k j),.i (cutB c s k j)])]) (fun k=>k≤s.length) (fun k=>s.length- k) 0 (Nat.zero_le _) ?_ ?_
 ·
  refine le_ren (sl:=[(8,Ob.row 47 2 (List.length s) fun(j:Nat)=>[V.i (cutA c s (0:Nat) j),V.i (cutB c s (0:Nat) j)])]) [(8,600023)] (.cons kR (.cons kR (.cons kR (.cons kR (.cons kR .nil))))) (.cons oS .nil) kR kR
 intro k hk
 refine sK fun K hK=>wR 2 ?_;refine aY hTT 1 [] ?_;refine nK hK ?_;clear hK K;refine sK fun K hK=> ?_
 refine w_cond (t:=decide ((↑k:Int)< (↑(List.length s):Int))) kR (fun c3=> ?_) (fun c3=> ?_)
 ·
  simp at c3
  have hsk:=sE_iff.1 (l2 k c3)
  refine aw_skip ?_
  refine xt_n (hK _ ?_);clear hK K;refine sK fun K hK=> ?_
  refine aw_block ?_
  refine sK fun K hK=>wR 3 ?_;refine aY hTT 6 [(1,.c ((0:Int)≤(↑k:Int)∧(↑k:Int)< (↑(List.length s):Int)) oM),(3,.c ((0:Nat)+(2:Nat)≤(2:Nat)) oM)] ?_;refine nK hK ?_;clear hK K;refine wR 4 ?_;refine aY hTT 4 [(3,.c ((0:Nat)≤(2:Nat)) oM)] ?_
  refine eC (point_ac c (gp s k) c1 oM) ?_
  refine aY hTT 2 [(0,.c ((0:Int)≤(↑k:Int)∧(↑k:Int)< (↑(List.length s):Int)) oM),(0,.c (k< List.length s∧(0:Nat)+(2:Nat)≤(2:Nat)) oM)] ?_;refine aops_nil (xb_n (xt_n (hK _ ?_)));clear hK K;refine wR 5 ?_;refine aY hTT 2 [(0,.c (iR ((↑k:Int)+1)) oM)] ?_;refine aops_nil (xt_n ?_)
  refine⟨k+1,by omega,?_,by omega⟩
  refine le_ren (tl:=[(2,V.ptr [V.i (Cut.half c),V.i (Cut.gain c),V.i (Cut.thin c),V.i (Cut.wide c),V.i (Cut.slope c),V.i (Cut.jerk c),V.i (Cut.sty c)]),(8,V.own 8),(24,V.sl 2 (List.length s) fun(k:Nat)=>[V.i (Prod.fst (gp s k)),V.i (Prod.snd (gp s k))]),(25,V.i (↑(List.length s):Int)),(26,V.i (↑(k+1):Int))]) (sl:=[(8,Ob.row 47 2 (List.length s) fun(j:Nat)=>[V.i (cutA c s (k+1) j),V.i (cutB c s (k+1) j)])]) [(8,8)] (.cons kR (.cons kR (.cons kR (.cons kR (.cons kR .nil))))) (.cons ⟨Ob.row 47 2 (List.length s) fun(j:Nat)=>if j=k then [V.i (Prod.fst (wallP c (gp s k))),V.i (Prod.snd (wallP c (gp s k)))]else [V.i (cutA c s k j),V.i (cutB c s k j)],kR,.row kR ?_⟩ .nil) kR kR
  intro i hi
  exact cutAB_set i
 ·
  simp at c3
  obtain rfl:k=s.length:=by omega
  refine aw_exit ?_
  refine xt_x ?_;refine xt_x ?_
  refine xb_same ?_
  refine xt_n ?_;clear hK K;refine hK _ ?_;clear hK K;refine sK fun K hK=>wR 3 ?_;refine aY hTT 3 [] ?_;refine nK hK ?_;clear hK K
  refine aw_ret ?_
  rw [cutR_3 c1 c2]
  refine ret_of_le (le_shut 4 8 (e:=(47:Nat)) (sz:=(2:Nat)) (n:=List.length s) (n':=(s.map (wallP c)).length) (row:=fun(j:Nat)=>[V.i (cutA c s (List.length s) j),V.i (cutB c s (List.length s) j)]) (row':=(fun j=>[.i (gp (s.map (wallP c)) j).1,.i (gp (s.map (wallP c)) j).2])) kR kR (fun _ _=>rfl) ?_ ?_) ?_
  ·
   simp
  ·
   intro i hi
   rw [gp_map hi,cutA,cutB,if_pos hi,if_pos hi]
  refine rP (V.tup [V.sl 2 (List.length (List.map (wallP c) s)) fun(j:Nat)=>[V.i (Prod.fst (gp (List.map (wallP c) s) j)),V.i (Prod.snd (gp (List.map (wallP c) s) j))],V.i 0])
set_option maxRecDepth 100000 in
theorem refCut_ac(c:Cut)(s:List Pt)(hs:s.length≤4611686018427387904)(hr:∀k,k< s.length→inR2 (gp s k)):AC Tryz.prog 15 [c.v,V.pts s] (.tup [V.pts (cutR c s).1,.i (cutR c s).2]) []:=by
 refine acI hTT hMX Tryz.func15 Tryz.ntmps15 fun C hC hF=> ?_
 refine sK fun K hK=>wR 2 ?_;refine aY hTT 3 [] ?_;refine nK hK ?_;clear hK K;refine sK fun K hK=>sK fun K hK=>wR 3 ?_;refine aY hTT 1 [] ?_
 refine eC (refCheck_ac c) ?_
 refine aY hTT 1 [] ?_;refine nK hK ?_;clear hK K
 refine w_cond (t:= !decide (cutE c=0)) kR (fun c1=> ?_) (fun c1=> ?_)
 ·
  simp at c1
  refine sK fun K hK=>wR 4 ?_;refine aY hTT 2 [] ?_;refine nK hK ?_;clear hK K
  refine aw_ret ?_
  refine xt_r ?_
  rw [cutR_1 c1,(cutE_cases c).resolve_left c1]
  refine ret_of_le (le_nil 4 (sz:=2) 0 (fun k=>[.i (gp [] k).1,.i (gp [] k).2]) kR ?_) ?_
  ·
   rfl
  refine rP (V.tup [zzGA20,V.i 2])
 simp at c1
 refine aw_skip ?_
 refine xt_n (hK _ ?_);clear hK K;refine sK fun K hK=>sK fun K hK=>wR 4 ?_;refine aY hTT 1 [] ?_
 refine eC (rCheckSamples_ac s hs hr) ?_
 refine aY hTT 1 [] ?_;refine nK hK ?_;clear hK K
 refine w_cond (t:= !decide (sChk s=0)) kR (fun c2=> ?_) (fun c2=> ?_)
 ·
  simp at c2
  refine sK fun K hK=>wR 5 ?_;refine aY hTT 1 [] ?_
  refine eC (rCheckSamples_ac s hs hr) ?_
  refine aY hTT 2 [] ?_;refine nK hK ?_;clear hK K
  refine aw_ret ?_
  refine xt_r ?_
  rw [cutR_2 c1 c2]
  refine ret_of_le (le_nil 4 (sz:=2) 0 (fun k=>[.i (gp [] k).1,.i (gp [] k).2]) kR ?_) ?_
  ·
   rfl
  refine rP (V.tup [zzGA20,V.i (sChk s)])
 simp at c2
 obtain⟨l1,l2⟩:=sChk_ok.1 c2
 refine aw_skip ?_
 refine xt_n (hK _ ?_);clear hK K;refine sK fun K hK=>wR 5 ?_;refine aY hTT 1 [] ?_;refine nK hK ?_;clear hK K;refine sK fun K hK=>sK fun K hK=>wR 6 ?_;refine aY hTT 1 [] ?_;refine nK hK ?_;clear hK K
 refine aw_block ?_
 refine w_le (le_open 6 47 2 (fun k=>[.i (wallP c (gp s k)).1,.i (wallP c (gp s k)).2]) kR rfl) ?_
 skip
 refine w_loop (ι:=Nat) (fun k=>[(2,.ptr [.i c.half,.i c.gain,.i c.thin,.i c.wide,.i c.slope,.i c.jerk,.i c.sty]),(1,V.pts s),(6,.own 6),(7,.i k)]) (fun k=>[(6,.row 47 2 k (fun k=>[.i (wallP c (gp s k)).1,.i (wallP c (gp s k)).2]))]) (fun k=>k≤s.length) (fun k=>s.length- k) 0 (Nat.zero_le _) ?_ ?_
 ·
  refine le_ren (sl:=[(6,Ob.row 47 2 0 fun(k:Nat)=>[V.i (Prod.fst (wallP c (gp s k))),V.i (Prod.snd (wallP c (gp s k)))])]) [(6,600006)] (.cons kR (.cons kR (.cons kR (.cons kR .nil)))) (.cons oS .nil) kR kR
 intro k hk
 refine sK fun K hK=>sK fun K hK=>wR 2 ?_;refine aY hTT 4 [] ?_;refine nK hK ?_;clear hK K
 refine w_cond (t:=decide ((↑k:Int)< (↑(List.length s):Int))) kR (fun c3=> ?_) (fun c3=> ?_)
 ·
  simp at c3
  have hsk:=sE_iff.1 (l2 k c3)
  refine aw_skip ?_
  refine xt_n (hK _ ?_);clear hK K;refine sK fun K hK=> ?_
  refine aw_block ?_
  refine wD 3 ?_;refine aY hTT 6 [(4,.c ((0:Int)≤(↑k:Int)∧(↑k:Int)< (↑(List.length s):Int)) oM)] ?_
  refine eC (wall_ac c (gp s k) c1 oM) ?_
  refine aX hTT 3 [(1,.r (PR.mk (some (30:Nat)) (some (k+1≤(1099511627776:Nat))) (V.own 200030) [((6:Nat),none),((200030:Nat),some (Ob.row 47 2 (k+1) (appRow k (fun(k:Nat)=>[V.i (Prod.fst (wallP c (gp s k))),V.i (Prod.snd (wallP c (gp s k)))]) fun(i:Nat)=>List.take (2:Nat) (List.drop (i*2) [V.i (Prod.fst (wallP c (gp s k))),V.i (Prod.snd (wallP c (gp s k)))]))))] false))] ⟨oM,tI⟩ (aops_nil ⟨kR,(xb_n (xt_n (hK _ ?_)))⟩);clear hK K;refine wR 4 ?_;refine aY hTT 3 [(1,.c (iR ((↑k:Int)+1)) oM)] ?_;refine aops_nil (xt_n ?_)
  refine⟨k+1,by omega,?_,by omega⟩
  refine le_ren (tl:=[(2,V.ptr [V.i (Cut.half c),V.i (Cut.gain c),V.i (Cut.thin c),V.i (Cut.wide c),V.i (Cut.slope c),V.i (Cut.jerk c),V.i (Cut.sty c)]),(1,V.sl 2 (List.length s) fun(k:Nat)=>[V.i (Prod.fst (gp s k)),V.i (Prod.snd (gp s k))]),(6,V.own 6),(7,V.i (↑(k+1):Int))]) (sl:=[(6,Ob.row 47 2 (k+1) fun(k:Nat)=>[V.i (Prod.fst (wallP c (gp s k))),V.i (Prod.snd (wallP c (gp s k)))])]) [(6,200030)] (.cons kR (.cons kR (.cons kR (.cons kR .nil)))) (.cons ⟨Ob.row 47 2 (k+1) (appRow k (fun(k:Nat)=>[V.i (Prod.fst (wallP c (gp s k))),V.i (Prod.snd (wallP c (gp s k)))]) fun(i:Nat)=>List.take (2:Nat) (List.drop (i*2) [V.i (Prod.fst (wallP c (gp s k))),V.i (Prod.snd (wallP c (gp s k)))])),kR,.row kR ?_⟩ .nil) kR kR
  exact appRow_p rfl rfl rfl
 ·
  simp at c3
  obtain rfl:k=s.length:=by omega
  refine aw_exit ?_
  refine xt_x ?_;refine xt_x ?_
  refine xb_same ?_
  refine xt_n ?_;clear hK K;refine hK _ ?_;clear hK K;refine sK fun K hK=>wR 3 ?_;refine aY hTT 3 [] ?_;refine nK hK ?_;clear hK K
  refine aw_ret ?_
  rw [cutR_3 c1 c2]
  refine ret_of_le (le_shut 4 6 (e:=(47:Nat)) (sz:=(2:Nat)) (n:=List.length s) (n':=(s.map (wallP c)).length) (row:=fun(k:Nat)=>[V.i (Prod.fst (wallP c (gp s k))),V.i (Prod.snd (wallP c (gp s k)))]) (row':=(fun j=>[.i (gp (s.map (wallP c)) j).1,.i (gp (s.map (wallP c)) j).2])) kR kR (fun _ _=>rfl) ?_ ?_) ?_
  ·
   simp
  ·
   intro i hi
   rw [gp_map hi]
  refine rP (V.tup [V.sl 2 (List.length (List.map (wallP c) s)) fun(j:Nat)=>[V.i (Prod.fst (gp (List.map (wallP c) s) j)),V.i (Prod.snd (gp (List.map (wallP c) s) j))],V.i 0])
end Go.Proofs.YtjmbpjlojjgggaaGreatDoor

namespace Go.Proofs.YtjmbpjlojjgggaaGreatDoor
open Go.Ab Go.RowKit Go.Dw Go.Shelf
def evMu:List Nat:=[148,111,66,149,112,67,192,188,199,201,999999,999999,999999,999999,999999,999999,999999,999999,999999,999999,999999,999999,999999,999999]
def evM:ML:=[(64,[21]),(189,[8]),(175,[24])]
def evLit(sz n:Nat)(cs:List V):V:= .sl sz n fun i=>(cs.drop (i*sz)).take sz
def evR1(l:List Int):V:=evLit 1 l.length (l.map V.i)
def evFl:List (Int×Int)→List V
  | []=>[]
  |x::l=> .i x.1:: .i x.2::evFl l
def evR2(l:List (Int×Int)):V:=evLit 2 l.length (evFl l)
def evQ1(l:List Int):V:= .sl 1 l.length (rowOf (l.map fun x=>[.i x]))
def evQ2(l:List (Int×Int)):V:= .sl 2 l.length (rowOf (l.map fun x=>[.i x.1,.i x.2]))
theorem evIdf(l:List (List V))(h:l.all V.idfL=true)(i:Nat):V.idfL (rowOf l i)=true:=rowOf_idf h i
def evCut:V:= .agg [.i 400,.i 2000,.i 200,.i 2000,.i 1000,.i 1000,.i 100]
def evPt:List (Int×Int):=[(-400,400),(-200,600),(-400,400)]
set_option maxRecDepth 100000 in
theorem ev_Cut0:AM Tryz.prog 14 [evCut,evR2 [(0,0),(100,100),(0,0)]] [] (.tup [.own 0,.i 0]) [] [.row 47 2 3 (rowOf [[.i (-400),.i 400],[.i (-200),.i 600],[.i (-400),.i 400]])]:=cAM' hTT hMX evM evMu kR kR
theorem ev_Cut:AC Tryz.prog 14 [evCut,evR2 [(0,0),(100,100),(0,0)]] (.tup [evQ2 evPt,.i 0]) []:=AC.shut1 (ev_Cut0.ac (by decide)) rfl (fun _ _=>rfl) (evIdf _ rfl) rfl rfl
set_option maxRecDepth 100000 in
theorem ev_L:AC Tryz.prog 21 [evCut,evQ2 evPt,.i 1000] (.tup [.i 31831,.i 0]) []:=AM.ac (cAM' hTT hMX evM evMu kR kR) (by decide)
set_option maxRecDepth 100000 in
theorem ev_Ap0:AM Tryz.prog 144 [.agg [evR1 [64],evR1 [128],.i 256],evR1 [100,0,0, -3]] [] (.tup [.own 0,.i 0]) [] [.row 2 1 4 (rowOf [[.i 100],[.i 75],[.i 37],[.i 15]])]:=cAM' hTT hMX evM evMu kR kR
theorem ev_Ap:AC Tryz.prog 144 [.agg [evR1 [64],evR1 [128],.i 256],evR1 [100,0,0, -3]] (.tup [evQ1 [100,75,37,15],.i 0]) []:=AC.shut1 (ev_Ap0.ac (by decide)) rfl (fun _ _=>rfl) (evIdf _ rfl) rfl rfl
def evNa:ByteArray:=⟨#[97]⟩
def evTks:V:=evLit 2 1 [.c (.string evNa),evR2 [(10, -10),(5,0)]]
def evPrt:V:=evLit 7 1 [.i 0,.i 0,.i 2,.i 0,.i 0,.i 0,.i 500]
set_option maxRecDepth 100000 in
theorem ev_Ren:AC Tryz.prog 145 [evTks,evPrt] (.tup [evQ2 [(5, -5),(2,0)],.i 0]) []:=AM.ac (cAM' hTT hMX evM evMu kR kR) (by decide)
def evNf:ByteArray:=⟨#[102]⟩
def evFmt(l:List Int):V:= .agg (.c (.string evNf)::l.map V.i)
set_option maxRecDepth 100000 in
theorem ev_Wid5:AC Tryz.prog 100 [evFmt [1000,400,10,0,0,0,0],.agg [.i 95,.i 20,.i 0]] (.tup [.i 200,.i 0]) []:=AM.ac (cAM' hTT hMX evM evMu kR kR) (by decide)
end Go.Proofs.YtjmbpjlojjgggaaGreatDoor

namespace Go.Proofs.YtjmbpjlojjgggaaGreatDoor
open Go.Ab Go.RowKit Go.Dw Go.Shelf
def w3K:List (FuncId×List V×V):=[(14,[evCut,evR2 [(0,0),(100,100),(0,0)]],.tup [evQ2 evPt,.i 0]),(21,[evCut,evQ2 evPt,.i 1000],.tup [.i 31831,.i 0]),(144,[.agg [evR1 [64],evR1 [128],.i 256],evR1 [100,0,0, -3]],.tup [evQ1 [100,75,37,15],.i 0]),(145,[evTks,evPrt],.tup [evQ2 [(5, -5),(2,0)],.i 0])]
theorem w3_ok:OrcOk2 Tryz.prog w3K:=orc2_cons ev_Cut rfl rfl (orc2_cons ev_L rfl rfl (orc2_cons ev_Ap rfl rfl (orc2_cons ev_Ren rfl rfl orc2_nil)))
set_option maxRecDepth 100000 in
theorem works03_ac:AC Tryz.prog 101 [] (.b true) []:=AM.ac (cAMO (O:=orc2 w3K) hTT hMX [] [] (fun _=>orc2_ok w3_ok) kR kR) (by decide)
end Go.Proofs.YtjmbpjlojjgggaaGreatDoor

namespace Go.Proofs.YtjmbpjlojjgggaaGreatDoor
open Go.Ab Go.RowKit Go.Dw Go.Shelf
end Go.Proofs.YtjmbpjlojjgggaaGreatDoor

namespace Go.Proofs.YtjmbpjlojjgggaaGreatDoor
open Go.Ab Go.RowKit Go.Dw Go.Shelf
end Go.Proofs.YtjmbpjlojjgggaaGreatDoor
