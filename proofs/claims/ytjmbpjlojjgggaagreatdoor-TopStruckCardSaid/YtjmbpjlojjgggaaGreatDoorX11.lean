/-
  Several texts in one: What a tip misses: the reference's copy, and both exported functions. No condition. .. TopStruck: the walk of the law. No condition.
-/
import Derived.Test.YtjmbpjlojjgggaaGreatDoorX10
import Derived.Test.YtjmbpjlojjgggaaGreatDoorX05
import Derived.Test.YtjmbpjlojjgggaaGreatDoorX09
import Derived.Test.YtjmbpjlojjgggaaGreatDoorX00
import Derived.Test.YtjmbpjlojjgggaaGreatDoorMC
import Derived.Test.YtjmbpjlojjgggaaGreatDoorAbs42
import Derived.Test.YtjmbpjlojjgggaaGreatDoorX08
namespace Go.Proofs.YtjmbpjlojjgggaaGreatDoor
open Go.Ab Go.RowKit Go.Dw Go.Shelf
end Go.Proofs.YtjmbpjlojjgggaaGreatDoor

namespace Go.Proofs.YtjmbpjlojjgggaaGreatDoor
open Go.Ab Go.RowKit Go.Dw Go.Shelf
end Go.Proofs.YtjmbpjlojjgggaaGreatDoor

namespace Go.Proofs.YtjmbpjlojjgggaaGreatDoor
open Go.Ab Go.RowKit Go.Dw Go.Shelf
end Go.Proofs.YtjmbpjlojjgggaaGreatDoor

namespace Go.Proofs.YtjmbpjlojjgggaaGreatDoor
open Go.Ab Go.RowKit Go.Dw Go.Shelf
def w6L:List Pt:=[(-100,100),(-100,90),(-95,100)]
theorem w6R:AC Tryz.prog 22 [.agg [V.ints [0,2,10]],V.pts w6L] (.tup [V.pts [(-100,92),(-97,90),(-95,92)],.i 0]) []:=by
 have A:=Read_ac [0,2,10] w6L (by decide) (by decide)
 rw [show wallsR [0,2,10] w6L=[(-100,92),(-97,90),(-95,92)] by decide +kernel,show checkBoth [0,2,10] w6L=0 by decide +kernel]at A
 exact A
theorem w6_lt{i:Nat}(h:i< 3):i=0∨i=1∨i=2:=by omega
def w6T:List V:=[.agg [evR1 [0,2,10]],evR2 w6L]
def w6V:V:= .tup [V.pts [(-100,92),(-97,90),(-95,92)],.i 0]
theorem w6_read:AC Tryz.prog 22 w6T w6V []:=w6R.conv ⟨RImp.aggs ⟨RImp.rows rfl fun i hi=>by rcases w6_lt hi with rfl |rfl |rfl <;> rfl,trivial⟩,RImp.rows rfl fun i hi=>by rcases w6_lt hi with rfl |rfl |rfl <;> rfl,trivial⟩
end Go.Proofs.YtjmbpjlojjgggaaGreatDoor

namespace Go.Proofs.YtjmbpjlojjgggaaGreatDoor
open Go.Ab Go.RowKit Go.Dw Go.Shelf
def w5T:List V:=[.agg [.i 2,.i 1000,.i 100,.i 10,.i 1,.i 100],evR2 [(-20,20),(-20,20),(-20,20),(-20,50),(-20,20)]]
set_option maxRecDepth 100000 in
theorem w5_out0:AM Tryz.prog 28 w5T [] (.tup [.own 0,.i 0]) [] [.row 2 1 5 (rowOf [[.i 980],[.i 979],[.i 930],[.i 899],[.i 880]])]:=cAM' hTT hMX [] [] kR kR
theorem w5_out:AC Tryz.prog 28 w5T (.tup [evQ1 [980,979,930,899,880],.i 0]) []:=AC.shut1 (w5_out0.ac (by decide)) rfl (fun _ _=>rfl) (evIdf _ rfl) rfl rfl
def w5K:List (FuncId×List V×V):=[(28,w5T,.tup [evQ1 [980,979,930,899,880],.i 0]),(100,[evFmt [1000,400,10,0,0,0,0],.agg [.i 95,.i 20,.i 0]],.tup [.i 200,.i 0]),(101,[],.b true)]
theorem w5_ok:OrcOk2 Tryz.prog w5K:=orc2_cons w5_out rfl rfl (orc2_cons ev_Wid5 rfl rfl (orc2_cons works03_ac rfl rfl orc2_nil))
set_option maxRecDepth 100000 in
theorem works05_ac:AC Tryz.prog 47 [] (.b true) []:=AM.ac (cAMO (O:=orc2 w5K) hTT hMX [] [] (fun _=>orc2_ok w5_ok) kR kR) (by decide)
end Go.Proofs.YtjmbpjlojjgggaaGreatDoor

namespace Go.Proofs.YtjmbpjlojjgggaaGreatDoor
open Go.Ab Go.RowKit Go.Dw Go.Shelf
def w7Mu:List Nat:=[13,49,51,52,53,104,71,129]
def w7M:ML:=[(12,[12]),(32,[5]),(82,[3])]
def w7K:List (FuncId×List V×V):=[(22,w6T,w6V),(47,[],.b true)]
theorem w7_ok:OrcOk2 Tryz.prog w7K:=orc2_cons w6_read rfl rfl (orc2_cons works05_ac rfl rfl orc2_nil)
set_option maxRecDepth 100000 in
theorem works07_ac:AC Tryz.prog 11 [] (.b true) []:=AM.ac (cAMO (O:=orc2 w7K) hTT hMX w7M w7Mu (fun _=>orc2_ok w7_ok) kR kR) (by decide)
end Go.Proofs.YtjmbpjlojjgggaaGreatDoor

namespace Go.Proofs.YtjmbpjlojjgggaaGreatDoor
open Go.Ab Go.RowKit Go.Dw Go.Shelf
theorem wf_ptsT{l:List Pt}(h:∀x∈l,Sh.wf (.fld (.int .i64) (.lst (.int .i64))) x):∀k,k< l.length→inR2 (gp l k):=fun k hk=>by
 have:gp l k=l[k]:=by simp [gp,List.getD_eq_getElem?_getD,List.getElem?_eq_getElem hk]
 rw [this]
 obtain⟨h1,h2⟩:=h _ (List.getElem_mem hk)
 have q1:=wf_i64 h1
 have q2:=wf_i64 h2
 exact⟨by simp only [inR];omega,by simp only [inR];omega⟩
theorem wf_u32T{x:Int}(h:(Lit.int .u32 x).wf=true):0≤x∧x≤4294967295:=by
 simp [Lit.wf,IntKind.min,IntKind.max,IntKind.signed,IntKind.bits]at h;omega
end Go.Proofs.YtjmbpjlojjgggaaGreatDoor

namespace Go.Proofs.YtjmbpjlojjgggaaGreatDoor
open Go.Ab Go.RowKit Go.Dw Go.Shelf
abbrev grV(l:List (List Pt)):V:= .sl 1 l.length fun k=>[V.pts (l.getD k [])]
abbrev skO(l:List Int):Ob:= .row 2 1 l.length fun k=>[.i (gi l k)]
abbrev skRest(x:Stk):Nat→Option Ob:=mkS [(5,skO x.aa),(6,skO x.tt)]
theorem gi_app{l:List Int}{a:Int}{i:Nat}(h:i< l.length):gi (l++[a]) i=gi l i:=by simp [gi,List.getD_eq_getElem?_getD,List.getElem?_append_left h]
theorem gi_last{l:List Int}{a:Int}:gi (l++[a]) l.length=a:=by simp [gi,List.getD_eq_getElem?_getD]
theorem sk_app(l:List Int)(a:Int){h:Nat→Nat}:ObEq (.row 2 1 (l.length+1) (appRow l.length (fun k=>[.i (gi l k)]) fun i=>([V.i a].drop (i*1)).take 1)) ((skO (l++[a])).ren h):=by
 refine⟨rfl,rfl,by show l.length+1=(l++[a]).length;simp,fun i hi=> ?_⟩
 show appRow _ _ _ i=[V.i (gi (l++[a]) i)]
 by_cases q:i< l.length
 ·
  rw [appRow,if_pos q,gi_app q]
 ·
  have:i=l.length:=by omega
  subst this
  rw [appRow,if_neg q,gi_last,Nat.sub_self];rfl
theorem sk_rest(x:Stk):RestOk (skRest x):=by
 have e:∀id o,skRest x id=some o→(id=5∨id=6)∧∀h:Nat→Nat,ObEq o (o.ren h):=fun id o h=>by
  have h:Ab.upd (Ab.upd (fun _=>none) 6 (some (.row 2 1 x.tt.length fun k=>[.i (gi x.tt k)]))) 5 (some (.row 2 1 x.aa.length fun k=>[.i (gi x.aa k)])) id=some o:=h
  by_cases q:id=5
  ·
   rw [q,upd_same]at h;injection h with h;subst h;exact⟨.inl q,fun _=>⟨rfl,rfl,rfl,fun _ _=>rfl⟩⟩
  ·
   rw [upd_ne _ _ q]at h
   by_cases q:id=6
   ·
    rw [q,upd_same]at h;injection h with h;subst h;exact⟨.inr q,fun _=>⟨rfl,rfl,rfl,fun _ _=>rfl⟩⟩
   ·
    rw [upd_ne _ _ q]at h;cases h
 exact⟨fun id o h=>by have:=(e id o h).1;omega,fun id o h k=>(e id o h).2 k⟩
abbrev yyWStruck1(c:Cut):List V:=[V.i (Cut.half c),V.i (Cut.gain c),V.i (Cut.thin c),V.i (Cut.wide c),V.i (Cut.slope c),V.i (Cut.jerk c),V.i (Cut.sty c)]
abbrev yyWStruck0(c:Cut):V:=V.agg (yyWStruck1 c)
set_option maxHeartbeats 4000000 in
set_option maxRecDepth 100000 in
theorem struck_law(c:Cut)(gr:List (List Pt))(st y0 cu se:Int)(hgl:gr.length≤4611686018427387904)(hgr:∀k,k< gr.length→(gr.getD k []).length≤4611686018427387904∧∀j,j< (gr.getD k []).length→inR2 (gp (gr.getD k []) j))
  (hst:0≤st∧st≤4294967295) (hy0:0≤y0∧y0≤65535) (hcu:0≤cu∧cu≤65535) (hse:0≤se∧se≤65535) :
  AC Tryz.prog 3 [c.v,grV gr,.c (.int .u32 st),.c (.int .u16 y0),.c (.int .u16 cu),.c (.int .u16 se)] (.b true) []:=by
 refine acI hTT hMX Tryz.func3 Tryz.ntmps3 fun C hC hF=> ?_
 refine sK fun K hK=>wR 2 ?_
 refine aops_n hTT (M:=[6]) (n:=2) [pn 6 (V.ref 100006 0) (100006:Nat) (Ob.box 23 (yyWStruck1 c)),pv 12 (V.b false)] kR kR tI ?_
 refine nK hK ?_;clear hK K;refine sK fun K hK=>sK fun K hK=>wR 3 ?_
 refine aops_n hTT (M:=[6]) (n:=1) [pc 33 ((0:Nat)≤(7:Nat)) ((yyWStruck0 c))] kR kR ⟨oM,tI⟩ ?_
 refine eC (refCheck_ac c) ?_
 refine aY hTT 6 [] ?_
 refine nK hK ?_;clear hK K
 refine w_cond (t:= !decide (cutE c=0) || decide ((6:Int)< (↑(List.length gr):Int))) kR (fun c1=> ?_) (fun c1=> ?_)
 ·
  refine sK fun K hK=> ?_
  refine wR 4 ?_
  refine eC (works07_ac) ?_
  refine aops_n hTT (M:=[]) (n:=1) [pv 12 (V.b true)] kR kR tI ?_
  refine nK hK ?_;clear hK K
  refine aw_ret ?_
  refine xt_r ?_
  refine rP (V.b true)
 have hce:cutE c=0∧gr.length≤6:=by simp at c1;omega
 clear c1
 refine w_le (le_freezeBox (t:=(23:Nat)) (cs:=(yyWStruck1 c)) 100006 kR kR) ?_
 obtain⟨hce,hg6⟩:=hce
 obtain⟨y,hy⟩:∃y,y=1+y0.tmod 1000:=⟨_,rfl⟩
 have hyb:1≤y∧y≤1000:=by
  have h1:=Int.tmod_nonneg 1000 hy0.1
  have h2:=Int.tmod_lt_of_pos y0 (show(0:Int)< 1000 by decide)
  omega
 refine aw_skip ?_
 refine xt_n (hK _ ?_);clear hK K;refine sK fun K hK=>wR 4 ?_
 refine aops_n hTT (M:=[]) (n:=2) [pv 43 (V.agg [V.i 0,V.i 1073741824,V.i 1073741824,V.i 1073741824]),pv 44 (V.agg [V.i 0,V.i 0,V.i 0,V.i 0,V.i 0,V.i 1073741824,V.i 1073741824,V.i 1073741824,V.i 0,V.i 0,V.i 1048576,V.i 1,V.i 1])] kR kR tI ?_
 refine e_callO (first:=[]) (caps:=[]) (k:=300045) (v':=V.tup [V.ref 300045 0,V.i 0]) (ob':=Ob.box 123 [V.b true,V.i (Rc.n0 skR),V.i (Rc.n1 skR),V.i (Rc.n2 skR),V.i (Rc.n3 skR),V.i (Rc.k0 skR),V.i (Rc.k1 skR),V.i (Rc.k2 skR),V.i (Rc.k3 skR),V.i (Rc.seed skR),V.i (Rc.soft skR),V.i (Rc.hard skR),V.i (Rc.mo skR),V.i (Rc.st skR),V.nil,V.nil,V.nil,V.nil]) (New_ac skR skR_ok) kR kR kR kR kR kR kR ?_
 refine aops_n hTT (M:=[]) (n:=5) [pv 42 (V.tup [V.ref 300045 0,V.i 0]),pv 46 (V.ref 300045 0),pv 47 (V.i 0),pv 13 (V.ref 300045 0),pv 14 (V.i 0)] kR kR tI ?_
 refine nK hK ?_;clear hK K;refine sK fun K hK=>sK fun K hK=> ?_
 refine w_le (le_openIn 300045 14 131 1 (fun _=>[]) (t:=123) (cs:=shC skR .nil .nil .nil .nil) kR rfl kR kR) ?_
 refine w_le (le_openIn 300045 15 55 4 (fun _=>[]) (t:=123) (cs:=shC skR (.own 400014) .nil .nil .nil) kR rfl kR kR) ?_
 refine w_le (le_openIn 300045 16 149 2 (fun _=>[]) (t:=123) (cs:=shC skR (.own 400014) (.own 500015) .nil .nil) kR rfl kR kR) ?_
 refine w_le (le_openIn 300045 17 40 13 (fun _=>[]) (t:=123) (cs:=shC skR (.own 400014) (.own 500015) (.own 600016) .nil) kR rfl kR kR) ?_
 refine aw_leD hC (le_new (r:=skR) (s:=300045) (p:=400014) (t:=500015) (f:=600016) (a:=700017) (tl:=[(1,grV gr),(2,.c (.int .u32 st)),(3,.c (.int .u16 y0)),(4,.c (.int .u16 cu)),(5,.c (.int .u16 se)),(6,.ptr [.i c.half,.i c.gain,.i c.thin,.i c.wide,.i c.slope,.i c.jerk,.i c.sty]),(13,.ref 500 0),(14,.i 0)]) rfl kR ⟨fun _=>[],kR⟩ ⟨fun _=>[],kR⟩ ⟨fun _=>[],kR⟩ ⟨fun _=>[],kR⟩ fun h hh=>⟨rfl,rfl,rfl,rfl,rfl,rfl,by show _=V.ref (h 500) 0;rw [hh];rfl,rfl,trivial⟩) ?_
 have hS0:=newS_ok skR_ok
 obtain⟨S0,hS0e⟩:∃S,S=newS skR:=⟨_,rfl⟩
 rw [←hS0e]at hS0 ⊢
 refine wR 2 ?_
 refine aops_n hTT (M:=[]) (n:=6) [pv 48 (V.i 0),pv 49 (V.b false),pv 50 (V.b false),pc 51 ((True∧True)∧((false == false)=true→True)) (V.gd (false == false) (V.ref 500 0)),pc 52 ((((false == false)=true→(false == false)=true)∧True∧True)∧((false == false)=true→True)) (V.gd (false == false) (V.b false)),pc 53 (True∧(false=false→(false == false)=true)) (V.b false)] kR kR ⟨⟨⟨tI,tI⟩,(fun _=>tI)⟩,⟨⟨(by(exact fun h=>h)),⟨tI,tI⟩⟩,(fun _=>tI)⟩,⟨tI,(by(intro h;rw [h];rfl))⟩,tI⟩ ?_
 refine nK hK ?_;clear hK K;refine w_false (t:=false) kR rfl ?_
 refine aw_skip ?_
 refine xt_n (hK _ ?_);clear hK K;refine sK fun K hK=>wR 3 ?_
 refine aops_n hTT (M:=[]) (n:=5) [pv 54 (V.c (Value.int IntKind.u16 y0)),pc 55 ((-9223372036854775808:Int)≤y0∧y0≤9223372036854775807) (V.i y0),pc 56 ((1000:Int)≠(0:Int)) (V.i (Int.tmod y0 (1000:Int))),pc 57 ((-9223372036854775808:Int)≤(1:Int)+Int.tmod y0 (1000:Int)∧(1:Int)+Int.tmod y0 (1000:Int)≤(9223372036854775807:Int)) (V.i ((1:Int)+Int.tmod y0 (1000:Int))),pv 15 (V.i ((1:Int)+Int.tmod y0 (1000:Int)))] kR kR ⟨oM,oM,oM,tI⟩ ?_
 refine nK hK ?_;clear hK K;refine sK fun K hK=>wR 4 ?_
 refine aops_n hTT (M:=[]) (n:=5) [pv 59 (V.ref 500 0),pv 60 (V.c (Value.int IntKind.u32 st)),pc 61 ((-9223372036854775808:Int)≤st∧st≤9223372036854775807) (V.i st),pv 62 (V.i ((1:Int)+Int.tmod y0 (1000:Int))),pv 63 (V.agg [V.i 2,V.i 0,V.i 0,V.i st,V.i ((1:Int)+Int.tmod y0 (1000:Int)),V.i 0,V.i 0,V.i 0,V.i 0,V.i 0,V.i 0,V.i 0,V.i 0])] kR kR ⟨oM,tI⟩ ?_
 rw [←hy]
 refine aops_does (as_do C.wl hS0 (by rw [hS0e];decide) (skBath st y) rfl kR (by decide) (by decide)) rfl rfl (famF_at (by rw [hS0e];decide) _) fun δ ks hD=> ?_
 refine aops_n hTT (M:=[]) (n:=4) [pv 58 (V.tup [V.i (Prod.fst (Prod.snd (stepS S0 (skBath st y)))),V.i (Prod.snd (Prod.snd (stepS S0 (skBath st y))))]),pv 65 (V.i (Prod.fst (Prod.snd (stepS S0 (skBath st y))))),pv 66 (V.i (Prod.snd (Prod.snd (stepS S0 (skBath st y))))),pv 14 (V.i (Prod.snd (Prod.snd (stepS S0 (skBath st y)))))] kR kR tI ?_
 refine nK hK ?_;clear hK K;refine sK fun K hK=>sK fun K hK=> ?_
 have eB:=skBath_step S0 (by rw [hS0e];decide) (st:=st) (y:=y) oM hyb
 obtain⟨S1,hS1⟩:∃S,S=(stepS S0 (skBath st y)).1:=⟨_,rfl⟩
 have hS1k:S1.ok:=by rw [hS1];exact step_ok hS0 _
 have hS1n:S1.n=0:=by rw [hS1,eB,hS0e];rfl
 rw [eB]
 refine aw_leD hC (le_done (tl:=[(1,grV gr),(2,.c (.int .u32 st)),(4,.c (.int .u16 cu)),(5,.c (.int .u16 se)),(6,.ptr [.i c.half,.i c.gain,.i c.thin,.i c.wide,.i c.slope,.i c.jerk,.i c.sty]),(13,.ref 500 0),(14,.i 0),(15,.i y)]) (by rw [hS0e];decide) (by rw [←hS1,hS1n];decide) hD rfl fun h h5=>⟨rfl,rfl,rfl,rfl,rfl,by show _=V.ref (h 500) 0;rw [h5];rfl,rfl,rfl,trivial⟩) ?_
 rw [←hS1]
 refine wR 2 ?_
 refine aops_n hTT (M:=[]) (n:=2) [pv 67 (V.i 0),pv 68 (V.b false)] kR kR tI ?_
 refine nK hK ?_;clear hK K;refine w_false (t:=false) kR rfl ?_
 refine aw_skip ?_
 refine xt_n (hK _ ?_);clear hK K;refine sK fun K hK=>wR 3 ?_
 refine aops_n hTT (M:=[]) (n:=2) [pv 16 V.nil,pv 17 V.nil] kR kR tI ?_
 refine nK hK ?_;clear hK K;refine sK fun K hK=>wR 4 ?_
 refine aops_n hTT (M:=[]) (n:=1) [pv 18 (V.i 0)] kR kR tI ?_
 refine nK hK ?_;clear hK K;refine sK fun K hK=>sK fun K hK=>wR 5 ?_
 refine aops_n hTT (M:=[]) (n:=1) [pv 19 (V.i 0)] kR kR tI ?_
 refine nK hK ?_;clear hK K
 refine aw_block ?_
 refine w_le (le_open 16 2 1 (fun k=>[.i (gi [] k)]) kR rfl) ?_
 refine w_le (le_open 17 2 1 (fun k=>[.i (gi [] k)]) kR rfl) ?_
 have hx0:SkOk ⟨S1,[],[],0⟩ st y (skM cu se y) 0:=by
  have e1:S1={S0 with m:=S0.m+1,tk:=bathF S0.m S0.tk (skBath st y),l:=S0.l+1}:=by rw [hS1,eB]
  refine⟨hS1k,by rw [e1,hS0e];show 0+1≤1+2*0;decide,by rw [hS1n];decide,by rw [e1,hS0e];rfl,by rw [e1,hS0e];rfl,?_,by show(0:Int)≤0∧(0:Int)≤st;omega,rfl,Nat.le_refl _,fun i hi=>absurd hi (Nat.not_lt_zero _)⟩
  have e2:S1.tk 0=bathT (skBath st y):=by
   rw [e1,hS0e]
   show bathF 0 (newS skR).tk (skBath st y) 0=_
   unfold bathF;rw [if_neg (by decide)]
  rw [e2]
  exact⟨by show st=st- 0;omega,rfl,rfl⟩
 refine aw_loopD hC (ι:=Nat×Stk) (fun x=>⟨mkT [(1,grV gr),(2,.c (.int .u32 st)),(4,.c (.int .u16 cu)),(5,.c (.int .u16 se)),(6,.ptr [.i c.half,.i c.gain,.i c.thin,.i c.wide,.i c.slope,.i c.jerk,.i c.sty]),(13,.ref 500 0),(15,.i y),(16,.own 5),(17,.own 6),(18,.i x.2.sp),(19,.i (x.1:Nat))],famF x.2.S (skRest x.2),1⟩) (fun x=>x.1≤gr.length∧SkOk x.2 st y (skM cu se y) x.1) (fun x=>gr.length- x.1) (0,⟨S1,[],[],0⟩) ⟨Nat.zero_le _,hx0⟩ ?_ ?_
 ·
  exact le_beside [(5,500016),(6,600017)] (S:=S1) (rest:=fun _=>none) (δ:=[(500016,some (.row 2 1 0 fun k=>[.i (gi [] k)])),(600017,some (.row 2 1 0 fun k=>[.i (gi [] k)]))]) (by rw [hS1n];decide) rfl (by decide) _ ⟨⟨show(5:Nat)< 500 by decide,.inr (show 1000≤(500016:Nat) by decide),.row 2 1 0 fun k=>[.i (gi [] k)],kR,fun h=>⟨rfl,rfl,rfl,fun _ _=>rfl⟩⟩,⟨show(6:Nat)< 500 by decide,.inr (show 1000≤(600017:Nat) by decide),.row 2 1 0 fun k=>[.i (gi [] k)],kR,fun h=>⟨rfl,rfl,rfl,fun _ _=>rfl⟩⟩,trivial⟩ (by show [500016,600017].Nodup;decide) (by decide) fun h h5 hlo=>⟨rfl,rfl,rfl,rfl,rfl,by show _=V.ref (h 500) 0;rw [h5];rfl,rfl,by show _=V.own (h 5);rw [hlo 5 (by decide)];rfl,by show _=V.own (h 6);rw [hlo 6 (by decide)];rfl,rfl,rfl,trivial⟩
 rintro⟨k,x⟩ ⟨hk,hx⟩
 simp only at hk hx ⊢
 have hxn:x.S.n≤200:=by have:=hx.n;omega
 refine sK fun K hK=>sK fun K hK=>wR 2 ?_
 refine aops_n hTT (M:=[]) (n:=4) [pv 69 (V.i (↑k:Int)),pv 70 (V.sl 1 (List.length gr) fun(k:Nat)=>[V.pts (List.getD gr k [])]),pv 71 (V.i (↑(List.length gr):Int)),pv 72 (V.b (decide ((↑k:Int)< (↑(List.length gr):Int))))] kR kR tI ?_
 refine nK hK ?_;clear hK K
 refine w_cond (t:=decide ((↑k:Int)< (↑(List.length gr):Int))) kR (fun c2=> ?_) (fun c2=> ?_)
 ·
  have hkl:k< gr.length:=by simpa using c2
  obtain⟨gl1,gl2⟩:=hgr k hkl
  refine aw_skip ?_
  refine xt_n (hK _ ?_);clear hK K;refine sK fun K hK=> ?_
  refine aw_block ?_
  refine sK fun K hK=>wD 3 ?_
  refine aops_n hTT (M:=[]) (n:=5) [pv 76 ((yyWStruck0 c)),pv 77 (V.sl 1 (List.length gr) fun(k:Nat)=>[V.pts (List.getD gr k [])]),pv 78 (V.i (↑k:Int)),pc 79 ((0:Int)≤(↑k:Int)∧(↑k:Int)< (↑(List.length gr):Int)) (V.ptr [V.sl 2 (List.length (List.getD gr k [])) fun(k_1:Nat)=>[V.i (Prod.fst (gp (List.getD gr k []) k_1)),V.i (Prod.snd (gp (List.getD gr k []) k_1))]]),pv 80 (V.sl 2 (List.length (List.getD gr k [])) fun(k_1:Nat)=>[V.i (Prod.fst (gp (List.getD gr k []) k_1)),V.i (Prod.snd (gp (List.getD gr k []) k_1))])] kR kR ⟨oM,tI⟩ ?_
  refine eC (Cut_ac c (gr.getD k []) gl1) ?_
  refine aY hTT 5 [] ?_
  refine aops_nil ⟨kR,(xt_n (hK _ ?_))⟩;clear hK K;refine sK fun K hK=>wD 4 ?_
  refine aops_n hTT (M:=[]) (n:=5) [pv 85 ((yyWStruck0 c)),pv 86 (V.sl 1 (List.length gr) fun(k:Nat)=>[V.pts (List.getD gr k [])]),pv 87 (V.i (↑k:Int)),pc 88 ((0:Int)≤(↑k:Int)∧(↑k:Int)< (↑(List.length gr):Int)) (V.ptr [V.sl 2 (List.length (List.getD gr k [])) fun(k_1:Nat)=>[V.i (Prod.fst (gp (List.getD gr k []) k_1)),V.i (Prod.snd (gp (List.getD gr k []) k_1))]]),pv 89 (V.sl 2 (List.length (List.getD gr k [])) fun(k_1:Nat)=>[V.i (Prod.fst (gp (List.getD gr k []) k_1)),V.i (Prod.snd (gp (List.getD gr k []) k_1))])] kR kR ⟨oM,tI⟩ ?_
  refine eC (refCut_ac c (gr.getD k []) gl1 gl2) ?_
  refine aY hTT 5 [] ?_
  refine aops_nil ⟨kR,(xt_n (hK _ ?_))⟩;clear hK K;refine sK fun K hK=>sK fun K hK=>wR 5 ?_
  refine aops_n hTT (M:=[]) (n:=3) [pv 93 (V.i (Prod.snd (cutR c (List.getD gr k [])))),pv 94 (V.i (Prod.snd (cutR c (List.getD gr k [])))),pv 95 (V.b !decide (Prod.snd (cutR c (List.getD gr k []))=Prod.snd (cutR c (List.getD gr k []))))] kR kR tI ?_
  refine nK hK ?_;clear hK K
  refine w_cond (t:= !decide (Prod.snd (cutR c (List.getD gr k []))=Prod.snd (cutR c (List.getD gr k [])))) kR (fun c3=> ?_) (fun c3=> ?_)
  ·
   simp at c3
  refine aw_skip ?_
  refine xt_n (hK _ ?_);clear hK K;refine sK fun K hK=>sK fun K hK=>wR 6 ?_
  refine aY hTT 7 [] ?_
  refine nK hK ?_;clear hK K
  refine w_cond (t:= !decide (Prod.snd (cutR c (List.getD gr k []))=0) || decide ((20:Int)< (↑(List.length (Prod.fst (cutR c (List.getD gr k [])))):Int))) kR (fun c4=> ?_) (fun c4=> ?_)
  ·
   refine sK fun K hK=> ?_
   refine wR 7 ?_
   refine eC (works07_ac) ?_
   refine aops_n hTT (M:=[]) (n:=1) [pv 12 (V.b true)] kR kR tI ?_
   refine nK hK ?_;clear hK K
   refine aw_ret ?_
   refine xt_r ?_
   refine xb_r ?_
   refine xt_r (xt_r ?_)
   refine xb_r ?_
   refine xt_r ?_
   refine rP (V.b true)
  have hcs:sChk (gr.getD k [])=0:=by
   have h4:(cutR c (gr.getD k [])).2=0:=by simp at c4;exact c4.1
   rw [cutR,if_pos hce]at h4
   split at h4
   ·
    assumption
   ·
    rename_i h5;exact absurd h4 h5
  have eC:cutR c (gr.getD k [])=((gr.getD k []).map (wallP c),0):=by rw [cutR,if_pos hce,if_pos hcs]
  rw [eC]at c4 ⊢
  have hl20:((gr.getD k []).map (wallP c)).length≤20:=by simp at c4 ⊢;omega
  have hlg:∀j,j< ((gr.getD k []).map (wallP c)).length→gE (gp ((gr.getD k []).map (wallP c)) j)=true:=fun j hj=>by
   rw [List.length_map]at hj
   rw [gp_map hj]
   exact wallP_gE hce ((sChk_ok.1 hcs).2 j hj)
  clear c4
  obtain⟨l,hl⟩:∃l,l=(gr.getD k []).map (wallP c):=⟨_,rfl⟩
  rw [←hl]at hl20 hlg
  show AW _ _ _ _
  simp only [←hl]
  have hlb:∀j,j< l.length→(gp l j).2- (gp l j).1≤8388608:=fun j hj=>by have:=gE_iff.1 (hlg j hj);omega
  refine aw_skip ?_
  refine xt_n (hK _ ?_);clear hK K;refine sK fun K hK=>wR 7 ?_
  refine aops_n hTT (M:=[]) (n:=1) [pv 24 (V.i 1)] kR kR tI ?_
  refine nK hK ?_;clear hK K;refine sK fun K hK=>sK fun K hK=>wR 8 ?_
  refine aops_n hTT (M:=[]) (n:=1) [pv 25 (V.i 0)] kR kR tI ?_
  refine nK hK ?_;clear hK K
  refine aw_block ?_
  refine aw_loopD hC (ι:=Nat) (fun j=>⟨mkT [(1,grV gr),(2,.c (.int .u32 st)),(4,.c (.int .u16 cu)),(5,.c (.int .u16 se)),(6,.ptr [.i c.half,.i c.gain,.i c.thin,.i c.wide,.i c.slope,.i c.jerk,.i c.sty]),(13,.ref 500 0),(15,.i y),(16,.own 5),(17,.own 6),(18,.i x.sp),(19,.i k),(20,V.pts l),(24,.i (wdF l j)),(25,.i (j:Nat))],famF x.S (skRest x),1⟩) (fun j=>j≤l.length) (fun j=>l.length- j) 0 (Nat.zero_le _) ?_ ?_
  ·
   exact le_beside [(5,5),(6,6)] (S:=x.S) (rest:=skRest x) (δ:=[]) hxn rfl (by decide) _ ⟨⟨show(5:Nat)< 500 by decide,.inl (show(5:Nat)< 500 by decide),skO x.aa,kR,fun h=>⟨rfl,rfl,rfl,fun _ _=>rfl⟩⟩,⟨show(6:Nat)< 500 by decide,.inl (show(6:Nat)< 500 by decide),skO x.tt,kR,fun h=>⟨rfl,rfl,rfl,fun _ _=>rfl⟩⟩,trivial⟩ (by show [5,6].Nodup;decide) (by decide) fun h h5 hlo=>⟨rfl,rfl,rfl,rfl,rfl,by show _=V.ref (h 500) 0;rw [h5];rfl,rfl,by show _=V.own (h 5);rw [hlo 5 (by decide)];rfl,by show _=V.own (h 6);rw [hlo 6 (by decide)];rfl,rfl,rfl,rfl,rfl,rfl,trivial⟩
  intro j hj
  have hwb:=wdF_bd (l:=l) (B:=8388608) (by decide) hlb j hj
  refine sK fun K hK=>sK fun K hK=>wR 2 ?_
  refine aops_n hTT (M:=[]) (n:=4) [pv 104 (V.i (↑j:Int)),pv 105 (V.sl 2 (List.length l) fun(k:Nat)=>[V.i (Prod.fst (gp l k)),V.i (Prod.snd (gp l k))]),pv 106 (V.i (↑(List.length l):Int)),pv 107 (V.b (decide ((↑j:Int)< (↑(List.length l):Int))))] kR kR tI ?_
  refine nK hK ?_;clear hK K
  refine w_cond (t:=decide ((↑j:Int)< (↑(List.length l):Int))) kR (fun c5=> ?_) (fun c5=> ?_)
  ·
   have hjl:j< l.length:=by simpa using c5
   have hgj:=gE_iff.1 (hlg j hjl)
   refine aw_skip ?_
   refine xt_n (hK _ ?_);clear hK K;refine sK fun K hK=> ?_
   refine aw_block ?_
   refine wD 3 ?_
   refine aY hTT 14 [(3,.c ((0:Int)≤(↑j:Int)∧(↑j:Int)< (↑(List.length l):Int)) oM),(4,.c ((0:Int)≤(↑j:Int)∧(↑j:Int)< (↑(List.length l):Int)) oM),(2,.c (iR (Prod.snd (gp l j)- Prod.fst (gp l j))) oM)] ?_
   refine aops_nil ⟨kR,(xb_n (xt_n (hK _ ?_)))⟩;clear hK K;refine wR 4 ?_
   refine aops_n hTT (M:=[]) (n:=3) [pv 108 (V.i (↑j:Int)),pc 109 ((-9223372036854775808:Int)≤(↑j:Int)+1∧(↑j:Int)+1≤(9223372036854775807:Int)) (V.i ((↑j:Int)+1)),pv 25 (V.i ((↑j:Int)+1))] kR kR ⟨oM,tI⟩ ?_
   refine aops_nil (xt_n ?_)
   refine⟨j+1,by omega,?_,by omega⟩
   exact le_beside [(5,5),(6,6)] (S:=x.S) (rest:=skRest x) (δ:=[]) hxn rfl (by decide) _ ⟨⟨show(5:Nat)< 500 by decide,.inl (show(5:Nat)< 500 by decide),skO x.aa,kR,fun h=>⟨rfl,rfl,rfl,fun _ _=>rfl⟩⟩,⟨show(6:Nat)< 500 by decide,.inl (show(6:Nat)< 500 by decide),skO x.tt,kR,fun h=>⟨rfl,rfl,rfl,fun _ _=>rfl⟩⟩,trivial⟩ (by show [5,6].Nodup;decide) (by decide) fun h h5 hlo=>⟨rfl,rfl,rfl,rfl,rfl,by show _=V.ref (h 500) 0;rw [h5];rfl,rfl,by show _=V.own (h 5);rw [hlo 5 (by decide)];rfl,by show _=V.own (h 6);rw [hlo 6 (by decide)];rfl,rfl,rfl,rfl,rfl,rfl,trivial⟩
  have hjl:j=l.length:=by simp at c5;omega
  subst hjl
  obtain⟨w,hw⟩:∃w,w=min (wdF l l.length) 1048576:=⟨_,rfl⟩
  have hwd:1≤w∧w≤1048576:=by omega
  have hxl:=hx.l
  refine aw_exit ?_
  refine xt_x ?_;refine xt_x ?_
  refine xb_same ?_
  refine xt_n ?_;clear hK K;refine hK _ ?_;clear hK K;refine sK fun K hK=>wR 3 ?_
  refine aops_n hTT (M:=[]) (n:=3) [pv 123 (V.i (wdF l (List.length l))),pv 124 (V.i (min (wdF l (List.length l)) (1048576:Int))),pv 24 (V.i (min (wdF l (List.length l)) (1048576:Int)))] kR kR tI ?_
  refine nK hK ?_;clear hK K;refine sK fun K hK=>wR 4 ?_
  refine aops_n hTT (M:=[]) (n:=4) [pv 126 (V.ref 500 0),pv 127 (V.i (↑k:Int)),pv 128 (V.i (min (wdF l (List.length l)) (1048576:Int))),pv 129 (V.agg [V.i 1,V.i (↑k:Int),V.i (min (wdF l (List.length l)) (1048576:Int)),V.i 0,V.i 0,V.i 0,V.i 0,V.i 0,V.i 0,V.i 0,V.i 0,V.i 0,V.i 0])] kR kR tI ?_
  rw [←hw]
  refine aops_does (as_do C.wl hx.ok oM (skLac k w) rfl kR (by decide) (by decide)) rfl rfl (famF_at hxn _) fun δ ks hD=> ?_
  refine aops_n hTT (M:=[]) (n:=5) [pv 125 (V.tup [V.i (Prod.fst (Prod.snd (stepS (Stk.S x) (skLac (↑k:Int) w)))),V.i (Prod.snd (Prod.snd (stepS (Stk.S x) (skLac (↑k:Int) w))))]),pv 131 (V.i (Prod.fst (Prod.snd (stepS (Stk.S x) (skLac (↑k:Int) w))))),pv 132 (V.i (Prod.snd (Prod.snd (stepS (Stk.S x) (skLac (↑k:Int) w))))),pv 26 (V.i (Prod.fst (Prod.snd (stepS (Stk.S x) (skLac (↑k:Int) w))))),pv 21 (V.i (Prod.snd (Prod.snd (stepS (Stk.S x) (skLac (↑k:Int) w)))))] kR kR tI ?_
  refine nK hK ?_;clear hK K;refine sK fun K hK=>sK fun K hK=> ?_
  have eL:=skLac_step x.S (k:=(k:Int)) oM hwd
  obtain⟨S2,hS2⟩:∃S,S=(stepS x.S (skLac k w)).1:=⟨_,rfl⟩
  have hS2k:S2.ok:=by rw [hS2];exact step_ok hx.ok _
  have hS2n:S2.n=x.S.n+1:=by rw [hS2,eL]
  have hS2l:S2.l=x.S.l+1:=by rw [hS2,eL]
  have hxn2:=hx.n
  rw [eL]
  refine aw_leD hC (le_done1 (tl:=[(1,grV gr),(2,.c (.int .u32 st)),(4,.c (.int .u16 cu)),(5,.c (.int .u16 se)),(6,.ptr [.i c.half,.i c.gain,.i c.thin,.i c.wide,.i c.slope,.i c.jerk,.i c.sty]),(13,.ref 500 0),(15,.i y),(16,.own 5),(17,.own 6),(18,.i x.sp),(19,.i k),(21,.i 0),(24,.i w),(26,.i (x.S.n:Nat))]) (sk_rest x) (by decide) hxn (by rw [←hS2,hS2n];omega) hD rfl fun h h5 hlo=>⟨rfl,rfl,rfl,rfl,rfl,by show _=V.ref (h 500) 0;rw [h5];rfl,rfl,by show _=V.own (h 5);rw [hlo 5 (by decide)];rfl,by show _=V.own (h 6);rw [hlo 6 (by decide)];rfl,rfl,rfl,rfl,rfl,rfl,trivial⟩) ?_
  rw [←hS2]
  refine wR 2 ?_
  refine aops_n hTT (M:=[]) (n:=2) [pv 133 (V.i 0),pv 134 (V.b false)] kR kR tI ?_
  refine nK hK ?_;clear hK K;refine w_false (t:=false) kR rfl ?_
  refine aw_skip ?_
  refine xt_n (hK _ ?_);clear hK K;refine sK fun K hK=>wR 3 ?_
  refine aops_n hTT (M:=[]) (n:=7) [pv 136 (V.ref 500 0),pv 137 (V.i (↑(Sh.n (Stk.S x)):Int)),pv 138 (V.c (Value.int IntKind.u16 cu)),pc 139 ((-9223372036854775808:Int)≤cu∧cu≤9223372036854775807) (V.i cu),pv 140 (V.c (Value.int IntKind.u16 se)),pc 141 ((-9223372036854775808:Int)≤se∧se≤9223372036854775807) (V.i se),pv 142 (V.agg [V.i 3,V.i 0,V.i 0,V.i 0,V.i 0,V.i (↑(Sh.n (Stk.S x)):Int),V.i 0,V.i 0,V.i 0,V.i cu,V.i se,V.i 0,V.i 0])] kR kR ⟨oM,oM,tI⟩ ?_
  refine aops_does (as_do C.wl hS2k oM (skGrow x.S.n cu se) rfl kR (by decide) (by decide)) rfl rfl (famF_at oM _) fun δ ks hD=> ?_
  refine aops_n hTT (M:=[]) (n:=5) [pv 135 (V.tup [V.i (Prod.fst (Prod.snd (stepS S2 (skGrow (↑(Sh.n (Stk.S x)):Int) cu se)))),V.i (Prod.snd (Prod.snd (stepS S2 (skGrow (↑(Sh.n (Stk.S x)):Int) cu se))))]),pv 144 (V.i (Prod.fst (Prod.snd (stepS S2 (skGrow (↑(Sh.n (Stk.S x)):Int) cu se))))),pv 145 (V.i (Prod.snd (Prod.snd (stepS S2 (skGrow (↑(Sh.n (Stk.S x)):Int) cu se))))),pv 27 (V.i (Prod.fst (Prod.snd (stepS S2 (skGrow (↑(Sh.n (Stk.S x)):Int) cu se))))),pv 21 (V.i (Prod.snd (Prod.snd (stepS S2 (skGrow (↑(Sh.n (Stk.S x)):Int) cu se)))))] kR kR tI ?_
  refine nK hK ?_;clear hK K;refine sK fun K hK=>sK fun K hK=> ?_
  have hstep:=skGrow_step hx oM hwd (show 0≤cu∧cu≤1048576 by omega) (show 0≤se∧se≤1048576 by omega) S2 hS2
  have hS3k:=step_ok hS2k (skGrow x.S.n cu se)
  have hS3l:=step_l S2 (skGrow x.S.n cu se)
  obtain⟨S3,hS3⟩:∃S,S=(stepS S2 (skGrow x.S.n cu se)).1:=⟨_,rfl⟩
  obtain⟨e3,he3⟩:∃e,e=(stepS S2 (skGrow x.S.n cu se)).2.2:=⟨_,rfl⟩
  obtain⟨n3,hn3⟩:∃e,e=(stepS S2 (skGrow x.S.n cu se)).2.1:=⟨_,rfl⟩
  have hS3o:S3.ok:=by rw [hS3];exact hS3k
  have hS3n:S3.n≤200:=by have:=hS3k.n;rw [←hS3]at this hS3l;omega
  refine aw_leD hC (le_done1 (tl:=[(1,grV gr),(2,.c (.int .u32 st)),(4,.c (.int .u16 cu)),(5,.c (.int .u16 se)),(6,.ptr [.i c.half,.i c.gain,.i c.thin,.i c.wide,.i c.slope,.i c.jerk,.i c.sty]),(13,.ref 500 0),(15,.i y),(16,.own 5),(17,.own 6),(18,.i x.sp),(19,.i k),(21,.i (stepS S2 (skGrow x.S.n cu se)).2.2),(24,.i w),(27,.i (stepS S2 (skGrow x.S.n cu se)).2.1)]) (sk_rest x) (by decide) oM (by rw [←hS3];exact hS3n) hD rfl fun h h5 hlo=>⟨rfl,rfl,rfl,rfl,rfl,by show _=V.ref (h 500) 0;rw [h5];rfl,rfl,by show _=V.own (h 5);rw [hlo 5 (by decide)];rfl,by show _=V.own (h 6);rw [hlo 6 (by decide)];rfl,rfl,rfl,rfl,rfl,rfl,trivial⟩) ?_
  have hp2:((stepS S2 (skGrow x.S.n cu se)).2:Int×Int)=(n3,e3):=by rw [hn3,he3]
  rw [hp2]at hstep
  rw [←hS3,←he3]at*
  rw [←hn3]
  refine wR 2 ?_
  refine aops_n hTT (M:=[]) (n:=2) [pv 146 (V.i e3),pv 147 (V.b !decide (e3=0))] kR kR tI ?_
  refine nK hK ?_;clear hK K
  refine w_cond (t:= !decide (e3=0)) kR (fun c6=> ?_) (fun c6=> ?_)
  ·
   have c6':e3≠0:=by simpa using c6
   obtain⟨_,hsame⟩:e3≠0∧S3=S2:=by
    rcases hstep with h |h
    ·
     exact h
    ·
     exact absurd (congrArg Prod.snd h.1) c6'
   refine aw_exit ?_
   refine xt_x ?_
   refine xb_same ?_
   refine xt_n ?_;clear hK K;refine hK _ ?_;clear hK K;refine wR 3 ?_
   refine aops_n hTT (M:=[]) (n:=3) [pv 73 (V.i (↑k:Int)),pc 74 ((-9223372036854775808:Int)≤(↑k:Int)+1∧(↑k:Int)+1≤(9223372036854775807:Int)) (V.i ((↑k:Int)+1)),pv 19 (V.i ((↑k:Int)+1))] kR kR ⟨oM,tI⟩ ?_
   refine aops_nil (xt_n ?_)
   refine⟨(k+1,⟨S3,x.aa,x.tt,x.sp⟩),⟨hkl,?_⟩,?_,by show gr.length- (k+1)< gr.length- k;omega⟩
   ·
    have hal:=hx.al
    refine⟨by rw [hsame];exact hS2k,?_,?_,?_,?_,?_,hx.sp,hx.len,by show x.aa.length≤k+1;omega,hx.th⟩
    ·
     show S3.l≤1+2*(k+1);rw [hsame,hS2l];omega
    ·
     show S3.n≤2*(k+1);rw [hsame,hS2n];omega
    ·
     show S3.r=skR;rw [hsame,hS2,eL];exact hx.r
    ·
     show S3.m=1;rw [hsame,hS2,eL];exact hx.m
    ·
     show(S3.tk 0).stock=_∧(S3.tk 0).laid=_∧(S3.tk 0).yield=_
     rw [hsame,hS2,eL];exact hx.tk
   ·
    exact le_beside [(5,5),(6,6)] (S:=S3) (rest:=skRest x) (δ:=[]) hS3n rfl (by decide) _ ⟨⟨show(5:Nat)< 500 by decide,.inl (show(5:Nat)< 500 by decide),skO x.aa,kR,fun h=>⟨rfl,rfl,rfl,fun _ _=>rfl⟩⟩,⟨show(6:Nat)< 500 by decide,.inl (show(6:Nat)< 500 by decide),skO x.tt,kR,fun h=>⟨rfl,rfl,rfl,fun _ _=>rfl⟩⟩,trivial⟩ (by show [5,6].Nodup;decide) (by decide) fun h h5 hlo=>⟨rfl,rfl,rfl,rfl,rfl,by show _=V.ref (h 500) 0;rw [h5];rfl,rfl,by show _=V.own (h 5);rw [hlo 5 (by decide)];rfl,by show _=V.own (h 6);rw [hlo 6 (by decide)];rfl,rfl,rfl,trivial⟩
  ·
   have c6':e3=0:=by simpa using c6
   rcases hstep with⟨h,_⟩ | ⟨hp,hmet,hn3',hr,hm,hl3,hst3,hla,hy3,hcut,har,hth⟩
   ·
    exact absurd c6' h
   have hn3e:n3=((x.S.n+1:Nat):Int):=by have:=congrArg Prod.fst hp;simpa using this
   rw [hn3e]
   refine aw_skip ?_
   refine xt_n (hK _ ?_);clear hK K;refine sK fun K hK=>wR 3 ?_
   refine aops_n hTT (M:=[]) (n:=1) [pv 148 (V.ref 500 0)] kR kR tI ?_
   refine aops_readO (famL S3) (PlatesO_ac S3 hS3n) rfl rfl ⟨fz_famL hS3n,trivial⟩ rfl rfl (fun o ho=> ?_) rfl rfl rfl (famL_mem (famF_at hS3n _)) ?_
   ·
    simp at ho
    subst ho
    exact fun i _ u hu=>by simp [Pl.c]at hu;rcases hu with h |h |h |h |h |h |h <;> subst h <;> rfl
   refine aops_n hTT (M:=[]) (n:=1) [pv 28 (V.own 200149)] kR kR tI ?_
   refine nK hK ?_;clear hK K;refine sK fun K hK=>sK fun K hK=> ?_
   have hal:=hx.al
   have hlen:=hx.len
   have hcs1:=mul_bd hcu.1 hcu.2 hse.1 hse.2
   have hcs2:=mul_bd hcs1.1 hcs1.2 (show(0:Int)≤y by omega) hyb.2
   have hcs3:=tdiv_bd' hcs2.1 (show(1:Int)≤1000 by decide)
   have hM0:skM cu se y=(cu*se*y).tdiv 1000:=rfl
   have hxsp:=hx.sp
   refine wR 4 ?_
   refine aY hTT 26 [(11,.g ((decide ((↑(Sh.n (Stk.S x)+1):Int)< 0) || decide ((↑(Sh.n S3):Int)≤(↑(Sh.n (Stk.S x)+1):Int))) == false) ((0:Int)≤(↑(Sh.n (Stk.S x)+1):Int)∧(↑(Sh.n (Stk.S x)+1):Int)< (↑(Sh.n S3):Int)) (by(intro h;simpa using h))),(1,.g ((decide ((↑(Sh.n (Stk.S x)+1):Int)< 0) || decide ((↑(Sh.n S3):Int)≤(↑(Sh.n (Stk.S x)+1):Int))) == false) (Sh.n (Stk.S x)+1< Sh.n S3∧(2:Nat)≤(7:Nat)) (by(intro hg;simp at hg;omega))),(6,.g ((decide ((↑(Sh.n (Stk.S x)+1):Int)< 0) || decide ((↑(Sh.n S3):Int)≤(↑(Sh.n (Stk.S x)+1):Int)) || !decide (Pl.cut (Sh.pl S3 (Sh.n (Stk.S x)+1))=(↑k:Int))) == false) ((0:Int)≤(↑(Sh.n (Stk.S x)+1):Int)∧(↑(Sh.n (Stk.S x)+1):Int)< (↑(Sh.n S3):Int)) (by(intro hg;simp at hg;omega))),(1,.g ((decide ((↑(Sh.n (Stk.S x)+1):Int)< 0) || decide ((↑(Sh.n S3):Int)≤(↑(Sh.n (Stk.S x)+1):Int)) || !decide (Pl.cut (Sh.pl S3 (Sh.n (Stk.S x)+1))=(↑k:Int))) == false) (Sh.n (Stk.S x)+1< Sh.n S3∧(3:Nat)≤(7:Nat)) (by(intro hg;simp at hg;omega)))] ?_
   refine nK hK ?_;clear hK K
   refine w_cond (t:=decide ((↑(Sh.n (Stk.S x)+1):Int)< 0) || decide ((↑(Sh.n S3):Int)≤(↑(Sh.n (Stk.S x)+1):Int)) || !decide (Pl.cut (Sh.pl S3 (Sh.n (Stk.S x)+1))=(↑k:Int)) || !decide (Pl.area (Sh.pl S3 (Sh.n (Stk.S x)+1))=w)) kR (fun c7=> ?_) (fun c7=> ?_)
   ·
    simp [hn3',hcut,har]at c7
    omega
   refine aw_skip ?_
   refine xt_n (hK _ ?_);clear hK K;refine sK fun K hK=>wR 5 ?_
   refine aops_n hTT (M:=[]) (n:=9) [pv 176 (V.c (Value.int IntKind.u16 cu)),pc 177 ((-9223372036854775808:Int)≤cu∧cu≤9223372036854775807) (V.i cu),pv 178 (V.c (Value.int IntKind.u16 se)),pc 179 ((-9223372036854775808:Int)≤se∧se≤9223372036854775807) (V.i se),pc 180 ((-9223372036854775808:Int)≤cu*se∧cu*se≤9223372036854775807) (V.i (cu*se)),pv 181 (V.i y),pc 182 ((-9223372036854775808:Int)≤cu*se*y∧cu*se*y≤9223372036854775807) (V.i (cu*se*y)),pc 183 ((0:Int)< (1000:Int)∧(-9223372036854775808:Int)≤cu*se*y∧cu*se*y≤9223372036854775807) (V.i (Int.tdiv (cu*se*y) (1000:Int))),pv 29 (V.i (Int.tdiv (cu*se*y) (1000:Int)))] kR kR ⟨oM,oM,oM,oM,⟨oM,oM⟩,tI⟩ ?_
   refine nK hK ?_;clear hK K;refine sK fun K hK=>wR 6 ?_
   refine aops_n hTT (M:=[]) (n:=4) [pv 184 (V.i (Stk.sp x)),pv 185 (V.i (Int.tdiv (cu*se*y) (1000:Int))),pc 186 ((-9223372036854775808:Int)≤Stk.sp x+Int.tdiv (cu*se*y) (1000:Int)∧Stk.sp x+Int.tdiv (cu*se*y) (1000:Int)≤(9223372036854775807:Int)) (V.i (Stk.sp x+Int.tdiv (cu*se*y) (1000:Int))),pv 18 (V.i (Stk.sp x+Int.tdiv (cu*se*y) (1000:Int)))] kR kR ⟨oM,tI⟩ ?_
   refine nK hK ?_;clear hK K;refine sK fun K hK=>wD 7 ?_
   refine aX hTT 14 [(3,.r (PR.mk (some (190:Nat)) (some (List.length (Stk.aa x)+1≤(1099511627776:Nat))) (V.own 600190) [((5:Nat),none),((600190:Nat),some (Ob.row 2 1 (List.length (Stk.aa x)+1) (appRow (List.length (Stk.aa x)) (fun(k:Nat)=>[V.i (gi (Stk.aa x) k)]) fun(i:Nat)=>List.take (1:Nat) (List.drop (i*1) [V.i w]))))] false)),(7,.c ((0:Int)≤(↑(Sh.n (Stk.S x)+1):Int)∧(↑(Sh.n (Stk.S x)+1):Int)< (↑(Sh.n S3):Int))),(9,.c (Sh.n (Stk.S x)+1< Sh.n S3∧(4:Nat)≤(7:Nat))),(11,.r (PR.mk (some (198:Nat)) (some (List.length (Stk.tt x)+1≤(1099511627776:Nat))) (V.own 600198) [((6:Nat),none),((600198:Nat),some (Ob.row 2 1 (List.length (Stk.tt x)+1) (appRow (List.length (Stk.tt x)) (fun(k:Nat)=>[V.i (gi (Stk.tt x) k)]) fun(i:Nat)=>List.take (1:Nat) (List.drop (i*1) [V.i (Pl.thick (Sh.pl S3 (Sh.n (Stk.S x)+1)))]))))] false))] ⟨oM,oM,oM,oM,tI⟩ ?_
   refine aops_nil ⟨kR,(xt_n (hK _ ?_))⟩;clear hK K;refine sK fun K hK=>wD 8 ?_
   refine aY hTT 16 [(2,.c ((0:Int)≤(↑(Sh.n (Stk.S x)+1):Int)∧(↑(Sh.n (Stk.S x)+1):Int)< (↑(Sh.n S3):Int)) oM),(1,.c (Sh.n (Stk.S x)+1< Sh.n S3∧(4:Nat)≤(7:Nat)) oM),(1,.c (iR ((1000:Int)*Int.tdiv (cu*se*y) (1000:Int))) oM),(1,.c ((0:Int)< w∧(-9223372036854775808:Int)≤(1000:Int)*Int.tdiv (cu*se*y) (1000:Int)∧(1000:Int)*Int.tdiv (cu*se*y) (1000:Int)≤(9223372036854775807:Int)) ⟨oM,oM⟩),(4,.g ((!decide (Pl.thick (Sh.pl S3 (Sh.n (Stk.S x)+1))=Int.tdiv ((1000:Int)*Int.tdiv (cu*se*y) (1000:Int)) w)) == false) ((-9223372036854775808:Int)≤st∧st≤9223372036854775807) (by(intro hg;simp at hg;omega)))] ?_
   refine aops_nil ⟨kR,(xt_n (hK _ ?_))⟩;clear hK K
   refine w_cond (t:= !decide (Pl.thick (Sh.pl S3 (Sh.n (Stk.S x)+1))=Int.tdiv ((1000:Int)*Int.tdiv (cu*se*y) (1000:Int)) w) || decide (st< Stk.sp x+Int.tdiv (cu*se*y) (1000:Int))) kR (fun c8=> ?_) (fun c8=> ?_)
   ·
    simp [hth,←hM0]at c8
    omega
   refine aw_skip ?_
   refine xb_n (xt_n (hK _ ?_));clear hK K;refine wR 9 ?_
   refine aops_n hTT (M:=[]) (n:=3) [pv 73 (V.i (↑k:Int)),pc 74 ((-9223372036854775808:Int)≤(↑k:Int)+1∧(↑k:Int)+1≤(9223372036854775807:Int)) (V.i ((↑k:Int)+1)),pv 19 (V.i ((↑k:Int)+1))] kR kR ⟨oM,tI⟩ ?_
   refine aops_nil (xt_n ?_)
   refine⟨(k+1,⟨S3,x.aa++[w],x.tt++[(S3.pl (x.S.n+1)).thick],x.sp+(cu*se*y).tdiv 1000⟩),⟨hkl,?_⟩,?_,by show gr.length- (k+1)< gr.length- k;omega⟩
   ·
    refine⟨hS3o,by show S3.l≤1+2*(k+1);omega,by show S3.n≤2*(k+1);omega,hr,hm,⟨by rw [hst3];rfl,hla,hy3⟩,⟨by show 0≤x.sp+(cu*se*y).tdiv 1000;omega,by show x.sp+(cu*se*y).tdiv 1000≤st;omega⟩,by simp [hlen],by show(x.aa++[w]).length≤k+1;simp;omega,fun i hi=> ?_⟩
    have hi':i< x.aa.length+1:=by simpa using hi
    by_cases q:i< x.aa.length
    ·
     show gi (x.tt++[_]) i=(1000*skM cu se y).tdiv (gi (x.aa++[w]) i)∧1≤gi (x.aa++[w]) i∧gi (x.aa++[w]) i≤1048576
     rw [gi_app q,gi_app oM]
     exact hx.th i q
    ·
     have:i=x.aa.length:=by omega
     subst this
     show gi (x.tt++[_]) x.aa.length=(1000*skM cu se y).tdiv (gi (x.aa++[w]) x.aa.length)∧1≤gi (x.aa++[w]) x.aa.length∧gi (x.aa++[w]) x.aa.length≤1048576
     rw [gi_last,show x.aa.length=x.tt.length from hlen.symm,gi_last,hth]
     exact⟨rfl,hwd⟩
   ·
    exact le_beside [(5,600190),(6,600198)] (S:=S3) (rest:=skRest x) (δ:=[(200149,some (.row 51 7 S3.n fun i=>(S3.pl i).c)),(5,none),(600190,some (.row 2 1 (x.aa.length+1) (appRow x.aa.length (fun k=>[.i (gi x.aa k)]) fun i=>([V.i w].drop (i*1)).take 1))),(6,none),(600198,some (.row 2 1 (x.tt.length+1) (appRow x.tt.length (fun k=>[.i (gi x.tt k)]) fun i=>([V.i (S3.pl (x.S.n+1)).thick].drop (i*1)).take 1)))]) hS3n kR rfl _ ⟨⟨show(5:Nat)< 500 by decide,.inr (show 1000≤(600190:Nat) by decide),_,kR,fun h=>sk_app _ _⟩,⟨show(6:Nat)< 500 by decide,.inr (show 1000≤(600198:Nat) by decide),_,kR,fun h=>sk_app _ _⟩,trivial⟩ (by show [600190,600198].Nodup;decide) (by decide) fun h h5 hlo=>⟨rfl,rfl,rfl,rfl,rfl,by show _=V.ref (h 500) 0;rw [h5];rfl,rfl,by show _=V.own (h 5);rw [hlo 5 (by decide)];rfl,by show _=V.own (h 6);rw [hlo 6 (by decide)];rfl,rfl,rfl,trivial⟩
 ·
  have hkl:k=gr.length:=by simp at c2;omega
  have hlen:=hx.len
  have hal:=hx.al
  have hth:=hx.th
  have hcs1:=mul_bd hcu.1 hcu.2 hse.1 hse.2
  have hcs2:=mul_bd hcs1.1 hcs1.2 (show(0:Int)≤y by omega) hyb.2
  have hcs3:=tdiv_bd' hcs2.1 (show(1:Int)≤1000 by decide)
  have hM0:0≤skM cu se y:=hcs3.1
  have hxsp:=hx.sp
  obtain⟨t1,t2,t3⟩:=hx.tk
  refine w_le (le_fzAll (tl:=[(2,.c (.int .u32 st)),(13,fsh x.S),(16,V.ints x.aa),(17,V.ints x.tt),(18,.i x.sp)]) ⟨Fz.idf _ rfl,fz_fam (S:=x.S) (famF_at hxn _),Fz.rows (id:=5) (e:=2) (sz:=1) (r:=fun k=>[.i (gi x.aa k)]) rfl fun i _=>FzL.idf rfl,Fz.rows (id:=6) (e:=2) (sz:=1) (r:=fun k=>[.i (gi x.tt k)]) rfl fun i _=>FzL.idf rfl,Fz.idf _ rfl,trivial⟩) ?_
  refine aw_exit ?_
  refine xt_x ?_;refine xt_x ?_
  refine xb_same ?_
  refine xt_n ?_;clear hK K;refine hK _ ?_;clear hK K;refine sK fun K hK=>sK fun K hK=>wR 3 ?_
  refine aops_n hTT (M:=[]) (n:=1) [pv 30 (V.i 0)] kR kR tI ?_
  refine nK hK ?_;clear hK K
  refine aw_block ?_
  refine w_loop (ι:=Nat) (fun i=>[(2,.c (.int .u32 st)),(13,fsh x.S),(16,V.ints x.aa),(17,V.ints x.tt),(18,.i x.sp),(30,.i (i:Nat))]) (fun _=>[]) (fun i=>i≤x.aa.length) (fun i=>x.aa.length- i) 0 (Nat.zero_le _) ?_ ?_
  ·
   refine le_ren [] (.cons kR (.cons kR (.cons kR (.cons kR (.cons kR (.cons kR .nil)))))) .nil kR kR
  intro i hi
  refine sK fun K hK=>sK fun K hK=>wR 2 ?_
  refine aops_n hTT (M:=[]) (n:=4) [pv 215 (V.i (↑i:Int)),pv 216 (V.sl 1 (List.length (Stk.aa x)) fun(k:Nat)=>[V.i (gi (Stk.aa x) k)]),pv 217 (V.i (↑(List.length (Stk.aa x)):Int)),pv 218 (V.b (decide ((↑i:Int)< (↑(List.length (Stk.aa x)):Int))))] kR kR tI ?_
  refine nK hK ?_;clear hK K
  refine w_cond (t:=decide ((↑i:Int)< (↑(List.length (Stk.aa x)):Int))) kR (fun d1=> ?_) (fun d1=> ?_)
  ·
   have hi1:i< x.aa.length:=by simpa using d1
   refine aw_skip ?_
   refine xt_n (hK _ ?_);clear hK K;refine sK fun K hK=> ?_
   refine aw_block ?_
   refine sK fun K hK=>wR 3 ?_
   refine aops_n hTT (M:=[]) (n:=1) [pv 31 (V.i 0)] kR kR tI ?_
   refine nK hK ?_;clear hK K
   refine aw_block ?_
   refine w_loop (ι:=Nat) (fun j=>[(2,.c (.int .u32 st)),(13,fsh x.S),(16,V.ints x.aa),(17,V.ints x.tt),(18,.i x.sp),(30,.i (i:Nat)),(31,.i (j:Nat))]) (fun _=>[]) (fun j=>j≤x.aa.length) (fun j=>x.aa.length- j) 0 (Nat.zero_le _) ?_ ?_
   ·
    refine le_ren [] (.cons kR (.cons kR (.cons kR (.cons kR (.cons kR (.cons kR (.cons kR .nil))))))) .nil kR kR
   intro j hj
   refine sK fun K hK=>sK fun K hK=>wR 2 ?_
   refine aops_n hTT (M:=[]) (n:=4) [pv 221 (V.i (↑j:Int)),pv 222 (V.sl 1 (List.length (Stk.aa x)) fun(k:Nat)=>[V.i (gi (Stk.aa x) k)]),pv 223 (V.i (↑(List.length (Stk.aa x)):Int)),pv 224 (V.b (decide ((↑j:Int)< (↑(List.length (Stk.aa x)):Int))))] kR kR tI ?_
   refine nK hK ?_;clear hK K
   refine w_cond (t:=decide ((↑j:Int)< (↑(List.length (Stk.aa x)):Int))) kR (fun d2=> ?_) (fun d2=> ?_)
   ·
    have hj1:j< x.aa.length:=by simpa using d2
    obtain⟨u1,u2,u3⟩:=hth i hi1
    obtain⟨v1,v2,v3⟩:=hth j hj1
    refine aw_skip ?_
    refine xt_n (hK _ ?_);clear hK K;refine sK fun K hK=> ?_
    refine aw_block ?_
    refine sK fun K hK=>wD 3 ?_
    refine aY hTT 20 [(2,.c ((0:Int)≤(↑i:Int)∧(↑i:Int)< (↑(List.length (Stk.aa x)):Int)) oM),(3,.c ((0:Int)≤(↑j:Int)∧(↑j:Int)< (↑(List.length (Stk.aa x)):Int)) oM),(5,.g (decide (gi (Stk.aa x) j< gi (Stk.aa x) i) == true) ((0:Int)≤(↑i:Int)∧(↑i:Int)< (↑(List.length (Stk.tt x)):Int)) (by(intro hg;simp at hg;omega))),(3,.g (decide (gi (Stk.aa x) j< gi (Stk.aa x) i) == true) ((0:Int)≤(↑j:Int)∧(↑j:Int)< (↑(List.length (Stk.tt x)):Int)) (by(intro hg;simp at hg;omega)))] ?_
    refine aops_nil ⟨kR,(xt_n (hK _ ?_))⟩;clear hK K
    refine w_cond (t:=decide (gi (Stk.aa x) j< gi (Stk.aa x) i) && decide (gi (Stk.tt x) j< gi (Stk.tt x) i)) kR (fun d3=> ?_) (fun d3=> ?_)
    ·
     exfalso
     simp at d3
     have:=sk_mono (M:=1000*skM cu se y) oM v2 d3.1
     omega
    refine aw_skip ?_
    refine xb_n (xt_n (hK _ ?_));clear hK K;refine wR 4 ?_
    refine aops_n hTT (M:=[]) (n:=3) [pv 225 (V.i (↑j:Int)),pc 226 ((-9223372036854775808:Int)≤(↑j:Int)+1∧(↑j:Int)+1≤(9223372036854775807:Int)) (V.i ((↑j:Int)+1)),pv 31 (V.i ((↑j:Int)+1))] kR kR ⟨oM,tI⟩ ?_
    refine aops_nil (xt_n ?_)
    refine⟨j+1,by omega,?_,by omega⟩
    refine le_ren [] (.cons kR (.cons kR (.cons kR (.cons kR (.cons kR (.cons kR (.cons kR .nil))))))) .nil kR kR
   ·
    refine aw_exit ?_
    refine xt_x ?_;refine xt_x ?_
    refine xb_same ?_
    refine xb_n (xt_n ?_);clear hK K;refine hK _ ?_;clear hK K;refine wR 3 ?_
    refine aops_n hTT (M:=[]) (n:=3) [pv 219 (V.i (↑i:Int)),pc 220 ((-9223372036854775808:Int)≤(↑i:Int)+1∧(↑i:Int)+1≤(9223372036854775807:Int)) (V.i ((↑i:Int)+1)),pv 30 (V.i ((↑i:Int)+1))] kR kR ⟨oM,tI⟩ ?_
    refine aops_nil (xt_n ?_)
    refine⟨i+1,by omega,?_,by omega⟩
    refine le_ren [] (.cons kR (.cons kR (.cons kR (.cons kR (.cons kR (.cons kR .nil)))))) .nil kR kR
  ·
   refine aw_exit ?_
   refine xt_x ?_;refine xt_x ?_
   refine xb_same ?_
   refine xt_n ?_;clear hK K;refine hK _ ?_;clear hK K;refine sK fun K hK=>wR 3 ?_
   refine aY hTT 1 [] ?_
   refine e_callO (first:=[]) (caps:=[]) (k:=200248) (v':=V.own 200248) (ob':=Ob.row 55 4 (Sh.m (Stk.S x)) fun(i:Nat)=>V.renL (callG (2:Nat) (some 248)) (Tk4.c (Sh.tk (Stk.S x) i))) (TanksO_ac x.S (by rw [hx.m];decide) (by rw [hx.m];decide)) kR kR kR kR kR kR kR ?_
   have hm1:=hx.m
   refine aops_n hTT (M:=[]) (n:=1) [pv 32 (V.own 200248)] kR kR tI ?_
   refine nK hK ?_;clear hK K;refine sK fun K hK=>wR 4 ?_
   refine aY hTT 23 [(5,.g (decide ((↑(Sh.m (Stk.S x)):Int)=1) == true) ((0:Int)≤(0:Int)∧(0:Int)< (↑(Sh.m (Stk.S x)):Int)) (by(intro hg;simp at hg;omega))),(1,.g (decide ((↑(Sh.m (Stk.S x)):Int)=1) == true) ((0:Nat)< Sh.m (Stk.S x)∧(3:Nat)≤(4:Nat)) (by(intro hg;simp at hg;omega))),(5,.g ((decide ((↑(Sh.m (Stk.S x)):Int)=1) && decide (Tk4.laid (Sh.tk (Stk.S x) (0:Nat))=Stk.sp x)) == true) ((0:Int)≤(0:Int)∧(0:Int)< (↑(Sh.m (Stk.S x)):Int)) (by(intro hg;simp at hg;omega))),(1,.g ((decide ((↑(Sh.m (Stk.S x)):Int)=1) && decide (Tk4.laid (Sh.tk (Stk.S x) (0:Nat))=Stk.sp x)) == true) ((0:Nat)< Sh.m (Stk.S x)∧(0:Nat)≤(4:Nat)) (by(intro hg;simp at hg;omega))),(1,.g ((decide ((↑(Sh.m (Stk.S x)):Int)=1) && decide (Tk4.laid (Sh.tk (Stk.S x) (0:Nat))=Stk.sp x)) == true) ((-9223372036854775808:Int)≤st∧st≤9223372036854775807) (by(intro hg;simp at hg;omega))),(1,.g ((decide ((↑(Sh.m (Stk.S x)):Int)=1) && decide (Tk4.laid (Sh.tk (Stk.S x) (0:Nat))=Stk.sp x)) == true) ((-9223372036854775808:Int)≤st- Stk.sp x∧st- Stk.sp x≤9223372036854775807) (by(intro hg;simp at hg;omega)))] ?_
   refine eG 0 (g:=(decide ((↑(Sh.m (Stk.S x)):Int)=1) && decide (Tk4.laid (Sh.tk (Stk.S x) (0:Nat))=Stk.sp x) && decide (Tk4.stock (Sh.tk (Stk.S x) (0:Nat))=st- Stk.sp x)) == true) (fun h=>works07_ac) ?_
   refine aops_n hTT (M:=[]) (n:=2) [pc 273 (((decide ((↑(Sh.m (Stk.S x)):Int)=1) && decide (Tk4.laid (Sh.tk (Stk.S x) (0:Nat))=Stk.sp x) && decide (Tk4.stock (Sh.tk (Stk.S x) (0:Nat))=st- Stk.sp x))=true→((decide ((↑(Sh.m (Stk.S x)):Int)=1) && decide (Tk4.laid (Sh.tk (Stk.S x) (0:Nat))=Stk.sp x) && decide (Tk4.stock (Sh.tk (Stk.S x) (0:Nat))=st- Stk.sp x)) == true)=true)∧True) (V.b (decide ((↑(Sh.m (Stk.S x)):Int)=1) && decide (Tk4.laid (Sh.tk (Stk.S x) (0:Nat))=Stk.sp x) && decide (Tk4.stock (Sh.tk (Stk.S x) (0:Nat))=st- Stk.sp x) && true)),pv 12 (V.b (decide ((↑(Sh.m (Stk.S x)):Int)=1) && decide (Tk4.laid (Sh.tk (Stk.S x) (0:Nat))=Stk.sp x) && decide (Tk4.stock (Sh.tk (Stk.S x) (0:Nat))=st- Stk.sp x) && true))] kR kR ⟨⟨(by(intro h;rw [h];rfl)),tI⟩,tI⟩ ?_
   refine nK hK ?_;clear hK K
   refine aw_ret ?_
   have eR:(decide (((x.S.m:Nat):Int)=1) && decide ((x.S.tk 0).laid=x.sp) && decide ((x.S.tk 0).stock=st- x.sp) && true)=true:=by simp [hm1,t1,t2]
   rw [show(V.b true)=V.b (decide (((x.S.m:Nat):Int)=1) && decide ((x.S.tk 0).laid=x.sp) && decide ((x.S.tk 0).stock=st- x.sp) && true) by rw [eR]]
   refine rP (V.b (decide ((↑(Sh.m (Stk.S x)):Int)=1) && decide (Tk4.laid (Sh.tk (Stk.S x) (0:Nat))=Stk.sp x) && decide (Tk4.stock (Sh.tk (Stk.S x) (0:Nat))=st- Stk.sp x) && true))
def struckSh:List Go.Ab.Sh:=[(.fld (.int .i64) (.fld (.int .i64) (.fld (.int .i64) (.fld (.int .i64) (.fld (.int .i64) (.fld (.int .i64) (.lst (.int .i64)))))))),(.sl (.sl (.fld (.int .i64) (.lst (.int .i64))))),(.int .u32),(.int .u16),(.int .u16),(.int .u16)]
theorem struck_all(x:TL struckSh)(hx:wfL struckSh x):AC Tryz.prog 3 (valL struckSh x) (V.b true) []:=by
 obtain⟨⟨h,g,th,wi,sl,je,sty⟩,gr,st,y0,cu,se,_⟩:=x
 obtain⟨_,⟨h1,h2⟩,h3,h4,h5,h6,_⟩:=hx
 have hm:∀k,k< gr.length→gr.getD k []∈gr:=fun k hk=>by rw [List.getD_eq_getElem?_getD,List.getElem?_eq_getElem hk];exact List.getElem_mem _
 exact struck_law ⟨h,g,th,wi,sl,je,sty⟩ gr st y0 cu se h1 (fun k hk=>⟨(h2 _ (hm k hk)).1,wf_ptsT (h2 _ (hm k hk)).2⟩) (wf_u32T h3) (wf_u16 h4) (wf_u16 h5) (wf_u16 h6)
end Go.Proofs.YtjmbpjlojjgggaaGreatDoor
