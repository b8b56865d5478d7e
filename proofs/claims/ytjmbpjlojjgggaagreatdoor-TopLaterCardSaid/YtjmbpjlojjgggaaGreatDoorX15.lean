/-
  Several texts in one: Arguments of the laws of flaws: pairs of numbers; two arms that go on alike. No condition. .. The listed variables of the top: they are never read; the start that meets the condition.
-/
import Derived.Test.YtjmbpjlojjgggaaGreatDoorTie
import Derived.Test.YtjmbpjlojjgggaaGreatDoorCards
import Derived.ProofKit
import Derived.LaidMore
import Derived.Lay
import Derived.OpenShut
import Derived.Stop.Joined
import Derived.SevenTiedAt
import Derived.Test.YtjmbpjlojjgggaaGreatDoorX14
import Derived.Test.YtjmbpjlojjgggaaGreatDoorX11
import Derived.Test.YtjmbpjlojjgggaaGreatDoorMC
set_option maxRecDepth 100000
namespace Go.Proofs.YtjmbpjlojjgggaaGreatDoor
open Go.Ab Go.RowKit Go.Dw Go.Shelf
theorem IX{P:Program}{N:Nat}{C:Cx P N}{c rest:Code}{Q:Exit->S->Prop}{s:S}{K:S->Prop}(hK:∀s',AW C rest Q s'->K s')(J:S)(hJ:AW C rest Q J) (hc:AW C c (eK (fun s'=>∃y:Unit,y=()/\Le s' J) fun _ _=>False) s):AW C c (eK K Q) s:= AP hc fun e s' h=>by cases e <;> first | (obtain⟨_,_,h⟩:=h;exact hK s' (oV h hJ)) |exact h.elim
def Kq(l:List (List Int))(j i:Nat):Int:=gi (l.getD i []) j
theorem GD{l:List (List Int)}(h:∀x∈l,Sh.wf (.arr 2 (.int .u8)) x){i:Nat}(hi:i< l.length):∃a b,l.getD i []=[a,b]/\(0<=a/\a<=255)/\(0<=b/\b<=255):=by
 have e:l.getD i []=l[i]:=by rw [List.getD_eq_getElem?_getD,List.getElem?_eq_getElem hi];rfl
 obtain⟨h1,h2⟩:=h _ (List.getElem_mem hi);rw [e];generalize l[i]=x at h1 h2 ⊢;match x,h1 with
 | [a,b],_=>exact⟨a,b,rfl,wf_u8 (h2 a (by simp)),wf_u8 (h2 b (by simp))⟩
theorem Kr{l:List (List Int)}(h:∀x∈l,Sh.wf (.arr 2 (.int .u8)) x)(j:Nat)(hj:j< 2):∀i,i< l.length->0<=Kq l j i/\Kq l j i<=255:=fun i hi=>by
 obtain⟨a,b,e,h1,h2⟩:=GD h hi;unfold Kq;rw [e];match j,hj with
 |0,_=>exact h1
 |1,_=>exact h2
theorem Jo{l:List (List Int)}(h:∀x∈l,Sh.wf (.arr 2 (.int .u8)) x):cq (.sl 2 l.length fun i=>Sh.cells (.arr 2 (.int .u8)) (l.getD i [])) (.sl 2 l.length (BC (Kq l 0) (Kq l 1))):= cq.rows rfl fun i hi=>by obtain⟨a,b,e,_⟩:=GD h hi;unfold BC Kq;rw [e];rfl
def cB(g:Nat->Bool)(m:Nat):ux:=(List.range m).map fun i=>(i,g i)
theorem od(g:Nat->Bool)(m:Nat):(cB g m).length=m:=by unfold cB;rw [List.length_map,List.length_range]
theorem xb(g:Nat->Bool){m i:Nat}(h:i< m):(cB g m).getD i (0,false)=(i,g i):=by unfold cB;rw [List.getD_eq_getElem?_getD,List.getElem?_map,List.getElem?_range h];rfl
theorem FJ(g:Nat->Bool)(m:Nat):∀i,i< (cB g m).length->((cB g m).getD i (0,false)).1< m:=fun i hi=>by rw [od]at hi;rw [xb g hi];exact hi
theorem Da{g:Nat->Bool}{m i:Nat}(h:i< m):yt (cB g m) i=[.i ((i:Int)+1),.b (g i)]:=by unfold yt;rw [xb g h]
theorem FK{g:Nat->Bool}{m:Nat}{c:j7}(h:D2 (cB g m) c=true):∀i,i< m->c.2.2 i=g i:=fun i hi=>by unfold D2 at h;have:=List.all_eq_true.1 h (i,g i) (by unfold cB;exact List.mem_map.2 ⟨i,List.mem_range.2 hi,rfl⟩);simpa using this
theorem I8{S:Sh}{T:Nat->Nat}{m:Nat}{g:Nat->Bool}{k:Nat}(h:k< (iF S T m (cB g m)).length) : ry (gk S T m) m ((iF S T m (cB g m)).getD k (0,0,fun _=>false)).1 ((iF S T m (cB g m)).getD k (0,0,fun _=>false)).2.1=(f7 g m,0):=by
 have e:(iF S T m (cB g m)).getD k (0,0,fun _=>false)=(iF S T m (cB g m))[k]:=by rw [List.getD_eq_getElem?_getD,List.getElem?_eq_getElem h];rfl
 have hm:=List.mem_filter.1 (List.getElem_mem h);rw [e,C7 hm.1];rw [t7 (FK hm.2)]
theorem Df(r:Rc)(l:List Act)(q:Nat)(X Y:Nat->Int)(sd:Bool)(wa wb:Int)(hl:l.length<=4611686018427387904)(hq:q<=4611686018427387904)(hX:∀i,i< q->0<=X i/\X i<=255)(hY:∀i,i< q->0<=Y i/\Y i<=255)(hwa:0<=wa/\wa<=255)(hwb:0<=wb/\wb<=255) :
    AC Tryz.prog 8 [r.v,qE l,.sl 2 q (BC X Y),.b sd,.c (.int .u8 wa),.c (.int .u8 wb)] (.b true) []:=by
  refine qD ah cv (fn:=Tryz.f8) (N:=_) ⟨Tryz.func8,rfl,Tryz.ntmps8,kR⟩ (by simp) fun C hC hF=> ?_
  refine aA fun K hK=> ?_
  refine aj (n':=2) kR kR ?_
  refine an ah (M:=[]) (n:=2) [pv (6:Nat) (V.ptr [V.i (Rc.n0 r),V.i (Rc.n1 r),V.i (Rc.n2 r),V.i (Rc.n3 r),V.i (Rc.k0 r),V.i (Rc.k1 r),V.i (Rc.k2 r),V.i (Rc.k3 r),V.i (Rc.seed r),V.i (Rc.soft r),V.i (Rc.hard r),V.i (Rc.mo r),V.i (Rc.st r)]),pv (12:Nat) (V.b false)] kR kR tI ?_
  refine aa ?_
  refine ai ?_
  refine hK _ ?_
  clear hK K
  refine aA fun K hK=> ?_
  refine aA fun K hK=> ?_
  refine aj (n':=3) kR kR ?_
  refine an ah (M:=[]) (n:=5) [pv (37:Nat) (V.sl (13:Nat) (List.length l) fun(i:Nat)=>Act.c (fq l i)),pv (38:Nat) (V.i (↑(List.length l):Int)),pv (39:Nat) (V.b (decide ((40:Int)< (↑(List.length l):Int)))),pv (40:Nat) (V.b (decide ((40:Int)< (↑(List.length l):Int)))),pc (41:Nat) ((True/\True)/\((decide ((40:Int)< (↑(List.length l):Int)) == false)=true->True)) (V.gd (decide ((40:Int)< (↑(List.length l):Int)) == false) (V.agg [V.i (Rc.n0 r),V.i (Rc.n1 r),V.i (Rc.n2 r),V.i (Rc.n3 r),V.i (Rc.k0 r),V.i (Rc.k1 r),V.i (Rc.k2 r),V.i (Rc.k3 r),V.i (Rc.seed r),V.i (Rc.soft r),V.i (Rc.hard r),V.i (Rc.mo r),V.i (Rc.st r)]))] kR kR ⟨⟨⟨tI,tI⟩,(fun _=>tI)⟩,tI⟩ ?_
  refine qf 1 (g:=decide ((40:Int)< (↑(List.length l):Int)) == false) (first:=[]) (caps:=[]) kR (fun h=>pY r) kR kR kR kR kR kR ?_
  refine an ah (M:=[]) (n:=2) [pc (43:Nat) ((((decide ((40:Int)< (↑(List.length l):Int)) == false)=true->(decide ((40:Int)< (↑(List.length l):Int)) == false)=true)/\True/\True)/\((decide ((40:Int)< (↑(List.length l):Int)) == false)=true->True)) (V.gd (decide ((40:Int)< (↑(List.length l):Int)) == false) (V.b !decide (HI r=0))),pc (44:Nat) (True/\(decide ((40:Int)< (↑(List.length l):Int))=false->(decide ((40:Int)< (↑(List.length l):Int)) == false)=true)) (V.b (decide ((40:Int)< (↑(List.length l):Int)) || !decide (HI r=0)))] kR kR ⟨⟨⟨(by(exact fun h=>h)),⟨tI,tI⟩⟩,(fun _=>tI)⟩,⟨tI,(by(intro h;rw [h];rfl))⟩,tI⟩ ?_
  refine aa ?_
  refine ai ?_
  refine hK _ ?_
  clear hK K
  refine av (t:=decide ((40:Int)< (↑(List.length l):Int)) || !decide (HI r=0)) kR (fun c1=> ?_) (fun c1=> ?_)
  · refine aA fun K hK=> ?_
    refine aj (n':=4) kR kR ?_
    refine dH (first:=[]) (caps:=[]) (jS) kR kR kR kR kR ?_
    refine an ah (M:=[]) (n:=1) [pv (12:Nat) (V.b true)] kR kR tI ?_
    refine aa ?_
    refine ai ?_
    refine hK _ ?_
    clear hK K
    refine ay ?_
    refine bZ ?_
    refine cg (v':=V.b true) (.inr rfl) kR kR kR
  have c1':l.length<=40/\HI r=0:=by simp at c1;omega
  clear c1
  obtain⟨hl40,hrE⟩:=c1'
  have hro:r.ok:=by
    unfold HI at hrE
    split at hrE
    · rename_i h;exact vo.1 h
    · cases hrE
  refine ak ?_
  refine ai ?_
  refine hK _ ?_
  clear hK K
  refine aA fun K hK=> ?_
  refine aj (n':=4) kR kR ?_
  refine an ah (M:=[]) (n:=2) [pv (47:Nat) (V.agg [V.i (Rc.n0 r),V.i (Rc.n1 r),V.i (Rc.n2 r),V.i (Rc.n3 r),V.i (Rc.k0 r),V.i (Rc.k1 r),V.i (Rc.k2 r),V.i (Rc.k3 r),V.i (Rc.seed r),V.i (Rc.soft r),V.i (Rc.hard r),V.i (Rc.mo r),V.i (Rc.st r)]),pv (48:Nat) (V.sl (13:Nat) (List.length l) fun(i:Nat)=>Act.c (fq l i))] kR kR tI ?_
  refine dH (first:=[]) (caps:=[]) (GY r hro l oM) kR kR kR kR kR ?_
  obtain⟨hS,hSl,_⟩:=BN (qk hro) l
  have hk:=Jv (qk hro) (Bp r) l
  have hfst:=xU (bS r,fun _=>(0,0)) l
  have hsc:=Ju (qk hro) (Bp r) (Jh r fun _=>(0,0)) l
  have hsn:=GX (Gs r fun _=>(0,0)) l
  obtain⟨S,hSS⟩:∃S,S=cD (bS r) l:=⟨_,rfl⟩
  obtain⟨g,hgg⟩:∃g,g=(ki (bS r,fun _=>(0,0)) l).2:=⟨_,rfl⟩
  have hpr:ki (bS r,fun _=>(0,0)) l=(S,g):=by rw [hSS,hgg,<-hfst]
  rw [hpr]at hsc hsn
  have hSl2:(cD (bS r) l).l<=l.length:=Nat.le_trans hSl (by show 0+_<=_;omega)
  rw [<-hSS]at hS hk hSl hSl2 ⊢
  rw [<-hgg]
  have hSn:=hS.n
  have hSq:=hS.q
  clear hpr hgg hfst
  have hn:S.n<=200:=by omega
  refine an ah (M:=[]) (n:=7) [pv (46:Nat) (V.tup [V.ptr [V.b true,V.i (Rc.n0 (Sh.r S)),V.i (Rc.n1 (Sh.r S)),V.i (Rc.n2 (Sh.r S)),V.i (Rc.n3 (Sh.r S)),V.i (Rc.k0 (Sh.r S)),V.i (Rc.k1 (Sh.r S)),V.i (Rc.k2 (Sh.r S)),V.i (Rc.k3 (Sh.r S)),V.i (Rc.seed (Sh.r S)),V.i (Rc.soft (Sh.r S)),V.i (Rc.hard (Sh.r S)),V.i (Rc.mo (Sh.r S)),V.i (Rc.st (Sh.r S)),V.sl (1:Nat) (Sh.n S) fun(i:Nat)=>[V.ptr [V.i (↑(Pl.kind (Sh.pl S i)):Int),V.i (Pl.par (Sh.pl S i)),V.i (Pl.cut (Sh.pl S i)),V.i (Pl.area (Sh.pl S i)),V.i (Pl.aF (Sh.pl S i)),V.i (Pl.grown (Sh.pl S i)),V.b (Pl.ret (Sh.pl S i)),qW (Sh.pl S i)]],V.sl (4:Nat) (Sh.m S) fun(i:Nat)=>aO.c (Sh.tk S i),V.sl (2:Nat) (Sh.q S) (aP (Sh.g S)),V.sl (13:Nat) (Sh.l S) bM],V.sl (2:Nat) (Sh.q S) (aP g),V.b true]),pv (50:Nat) (V.ptr [V.b true,V.i (Rc.n0 (Sh.r S)),V.i (Rc.n1 (Sh.r S)),V.i (Rc.n2 (Sh.r S)),V.i (Rc.n3 (Sh.r S)),V.i (Rc.k0 (Sh.r S)),V.i (Rc.k1 (Sh.r S)),V.i (Rc.k2 (Sh.r S)),V.i (Rc.k3 (Sh.r S)),V.i (Rc.seed (Sh.r S)),V.i (Rc.soft (Sh.r S)),V.i (Rc.hard (Sh.r S)),V.i (Rc.mo (Sh.r S)),V.i (Rc.st (Sh.r S)),V.sl (1:Nat) (Sh.n S) fun(i:Nat)=>[V.ptr [V.i (↑(Pl.kind (Sh.pl S i)):Int),V.i (Pl.par (Sh.pl S i)),V.i (Pl.cut (Sh.pl S i)),V.i (Pl.area (Sh.pl S i)),V.i (Pl.aF (Sh.pl S i)),V.i (Pl.grown (Sh.pl S i)),V.b (Pl.ret (Sh.pl S i)),qW (Sh.pl S i)]],V.sl (4:Nat) (Sh.m S) fun(i:Nat)=>aO.c (Sh.tk S i),V.sl (2:Nat) (Sh.q S) (aP (Sh.g S)),V.sl (13:Nat) (Sh.l S) bM]),pv (51:Nat) (V.sl (2:Nat) (Sh.q S) (aP g)),pv (52:Nat) (V.b true),pv (13:Nat) (V.ptr [V.b true,V.i (Rc.n0 (Sh.r S)),V.i (Rc.n1 (Sh.r S)),V.i (Rc.n2 (Sh.r S)),V.i (Rc.n3 (Sh.r S)),V.i (Rc.k0 (Sh.r S)),V.i (Rc.k1 (Sh.r S)),V.i (Rc.k2 (Sh.r S)),V.i (Rc.k3 (Sh.r S)),V.i (Rc.seed (Sh.r S)),V.i (Rc.soft (Sh.r S)),V.i (Rc.hard (Sh.r S)),V.i (Rc.mo (Sh.r S)),V.i (Rc.st (Sh.r S)),V.sl (1:Nat) (Sh.n S) fun(i:Nat)=>[V.ptr [V.i (↑(Pl.kind (Sh.pl S i)):Int),V.i (Pl.par (Sh.pl S i)),V.i (Pl.cut (Sh.pl S i)),V.i (Pl.area (Sh.pl S i)),V.i (Pl.aF (Sh.pl S i)),V.i (Pl.grown (Sh.pl S i)),V.b (Pl.ret (Sh.pl S i)),qW (Sh.pl S i)]],V.sl (4:Nat) (Sh.m S) fun(i:Nat)=>aO.c (Sh.tk S i),V.sl (2:Nat) (Sh.q S) (aP (Sh.g S)),V.sl (13:Nat) (Sh.l S) bM]),pv (14:Nat) (V.sl (2:Nat) (Sh.q S) (aP g)),pv (15:Nat) (V.b true)] kR kR tI ?_
  refine aa ?_
  refine ai ?_
  refine hK _ ?_
  clear hK K
  refine aA fun K hK=> ?_
  refine aA fun K hK=> ?_
  refine aj (n':=5) kR kR ?_
  refine an ah (M:=[]) (n:=2) [pv (53:Nat) (V.b true),pv (54:Nat) (V.b false)] kR kR tI ?_
  refine aa ?_
  refine ai ?_
  refine hK _ ?_
  clear hK K
  refine aB (t:=false) kR rfl ?_
  refine ak ?_
  refine ai ?_
  refine hK _ ?_
  clear hK K
  refine aA fun K hK=> ?_
  refine aA fun K hK=> ?_
  refine aj (n':=6) kR kR ?_
  refine an ah (M:=[]) (n:=3) [pv (55:Nat) (V.sl (2:Nat) (Sh.q S) (aP g)),pv (56:Nat) (V.i (↑(Sh.q S):Int)),pv (57:Nat) (V.b (decide ((↑(Sh.q S):Int)=0)))] kR kR tI ?_
  refine aa ?_
  refine ai ?_
  refine hK _ ?_
  clear hK K
  refine av (t:=decide ((↑(Sh.q S):Int)=0)) kR (fun c4=> ?_) (fun c4=> ?_)
  · refine aA fun K hK=> ?_
    refine aj (n':=7) kR kR ?_
    refine dH (first:=[]) (caps:=[]) (jS) kR kR kR kR kR ?_
    refine an ah (M:=[]) (n:=1) [pv (12:Nat) (V.b true)] kR kR tI ?_
    refine aa ?_
    refine ai ?_
    refine hK _ ?_
    clear hK K
    refine ay ?_
    refine bZ ?_
    refine cg (v':=V.b true) (.inr rfl) kR kR kR
  have hq0:0< S.q:=by simp at c4;omega
  clear c4
  have hw1:=Int.tmod_nonneg (S.q:Int) hwa.1
  have hw2:=Int.tmod_lt_of_pos wa (show(0:Int)< (S.q:Int) by omega)
  have hv1:=Int.tmod_nonneg (S.q:Int) hwb.1
  have hv2:=Int.tmod_lt_of_pos wb (show(0:Int)< (S.q:Int) by omega)
  obtain⟨i,hi⟩:∃i:Nat,min (wa.tmod S.q) (wb.tmod S.q)=i:=⟨(min (wa.tmod S.q) (wb.tmod S.q)).toNat,by omega⟩
  obtain⟨k,hk2⟩:∃k:Nat,max (wa.tmod S.q) (wb.tmod S.q)=k:=⟨(max (wa.tmod S.q) (wb.tmod S.q)).toNat,by omega⟩
  have hik:i<=k:=by omega
  have hkq:k< S.q:=by omega
  have hiq:i< S.q:=by omega
  clear hw1 hw2 hv1 hv2
  refine ak ?_
  refine ai ?_
  refine hK _ ?_
  clear hK K
  refine aA fun K hK=> ?_
  refine di (n':=7) kR kR ?_
  refine an ah (M:=[]) (n:=12) [pv (59:Nat) (V.c (Value.int IntKind.u8 wa)),pc (60:Nat) ((-9223372036854775808:Int)<=wa/\wa<=9223372036854775807) (V.i wa),pv (61:Nat) (V.sl (2:Nat) (Sh.q S) (aP g)),pv (62:Nat) (V.i (↑(Sh.q S):Int)),pc (63:Nat) ((↑(Sh.q S):Int)≠0) (V.i (Int.tmod wa (↑(Sh.q S):Int))),pv (64:Nat) (V.c (Value.int IntKind.u8 wb)),pc (65:Nat) ((-9223372036854775808:Int)<=wb/\wb<=9223372036854775807) (V.i wb),pv (66:Nat) (V.sl (2:Nat) (Sh.q S) (aP g)),pv (67:Nat) (V.i (↑(Sh.q S):Int)),pc (68:Nat) ((↑(Sh.q S):Int)≠0) (V.i (Int.tmod wb (↑(Sh.q S):Int))),pv (16:Nat) (V.i (Int.tmod wa (↑(Sh.q S):Int))),pv (17:Nat) (V.i (Int.tmod wb (↑(Sh.q S):Int)))] kR kR ⟨oM,oM,oM,oM,tI⟩ ?_
  refine aa ⟨kR,?_⟩
  refine ai ?_
  refine hK _ ?_
  clear hK K
  refine aA fun K hK=> ?_
  refine aj (n':=8) kR kR ?_
  refine an ah (M:=[]) (n:=8) [pv (69:Nat) (V.i (Int.tmod wa (↑(Sh.q S):Int))),pv (70:Nat) (V.i (Int.tmod wb (↑(Sh.q S):Int))),pv (71:Nat) (V.i (min (Int.tmod wa (↑(Sh.q S):Int)) (Int.tmod wb (↑(Sh.q S):Int)))),pv (72:Nat) (V.i (Int.tmod wa (↑(Sh.q S):Int))),pv (73:Nat) (V.i (Int.tmod wb (↑(Sh.q S):Int))),pv (74:Nat) (V.i (max (Int.tmod wa (↑(Sh.q S):Int)) (Int.tmod wb (↑(Sh.q S):Int)))),pv (16:Nat) (V.i (min (Int.tmod wa (↑(Sh.q S):Int)) (Int.tmod wb (↑(Sh.q S):Int)))),pv (17:Nat) (V.i (max (Int.tmod wa (↑(Sh.q S):Int)) (Int.tmod wb (↑(Sh.q S):Int))))] kR kR tI ?_
  refine aa ?_
  refine ai ?_
  refine hK _ ?_
  clear hK K
  refine aA fun K hK=> ?_
  refine aA fun K hK=> ?_
  show AW _ _ _ _
  rw [hi,hk2]
  have hfli:(g i).1= -1\/∃X0 N:Nat,g i=((X0:Int),(N:Int))/\D3 S X0 N i:=hsc.old i hiq
  have hflk:(g k).1= -1\/∃X0 N:Nat,g k=((X0:Int),(N:Int))/\D3 S X0 N k:=hsc.old k hkq
  have hNN:(g i).2<=(g k).2:=hsn.1 i k hik hkq
  refine di (n':=9) kR kR ?_
  refine an ah (M:=[]) (n:=19) [pv (75:Nat) (V.sl (2:Nat) (Sh.q S) (aP g)),pv (76:Nat) (V.i (↑i:Int)),pc (77:Nat) ((0:Int)<=(↑i:Int)/\(↑i:Int)< (↑(Sh.q S):Int)) (V.ptr [V.i (Prod.fst (g i)),V.i (Prod.snd (g i))]),pv (78:Nat) (V.ptr [V.i (Prod.fst (g i)),V.i (Prod.snd (g i))]),pv (79:Nat) (V.i (Prod.fst (g i))),pv (80:Nat) (V.b (decide (Prod.fst (g i)< 0))),pv (81:Nat) (V.b (decide (Prod.fst (g i)< 0))),pc (82:Nat) ((True/\True)/\((decide (Prod.fst (g i)< 0) == false)=true->True)) (V.gd (decide (Prod.fst (g i)< 0) == false) (V.sl (2:Nat) (Sh.q S) (aP g))),pc (83:Nat) ((True/\True)/\((decide (Prod.fst (g i)< 0) == false)=true->True)) (V.gd (decide (Prod.fst (g i)< 0) == false) (V.i (↑i:Int))),pc (84:Nat) ((((decide (Prod.fst (g i)< 0) == false)=true->(decide (Prod.fst (g i)< 0) == false)=true)/\((decide (Prod.fst (g i)< 0) == false)=true->(decide (Prod.fst (g i)< 0) == false)=true)/\True)/\((decide (Prod.fst (g i)< 0) == false)=true->(0:Int)<=(↑i:Int)/\(↑i:Int)< (↑(Sh.q S):Int))) (V.gd (decide (Prod.fst (g i)< 0) == false) (V.ptr [V.i (Prod.fst (g i)),V.i (Prod.snd (g i))])),pc (85:Nat) ((((decide (Prod.fst (g i)< 0) == false)=true->(decide (Prod.fst (g i)< 0) == false)=true)/\True)/\((decide (Prod.fst (g i)< 0) == false)=true->True)) (V.gd (decide (Prod.fst (g i)< 0) == false) (V.ptr [V.i (Prod.fst (g i)),V.i (Prod.snd (g i))])),pc (86:Nat) ((((decide (Prod.fst (g i)< 0) == false)=true->(decide (Prod.fst (g i)< 0) == false)=true)/\True)/\((decide (Prod.fst (g i)< 0) == false)=true->True)) (V.gd (decide (Prod.fst (g i)< 0) == false) (V.i (Prod.fst (g i)))),pc (87:Nat) ((True/\True)/\((decide (Prod.fst (g i)< 0) == false)=true->True)) (V.gd (decide (Prod.fst (g i)< 0) == false) (V.sl (2:Nat) (Sh.q S) (aP g))),pc (88:Nat) ((True/\True)/\((decide (Prod.fst (g i)< 0) == false)=true->True)) (V.gd (decide (Prod.fst (g i)< 0) == false) (V.i (↑k:Int))),pc (89:Nat) ((((decide (Prod.fst (g i)< 0) == false)=true->(decide (Prod.fst (g i)< 0) == false)=true)/\((decide (Prod.fst (g i)< 0) == false)=true->(decide (Prod.fst (g i)< 0) == false)=true)/\True)/\((decide (Prod.fst (g i)< 0) == false)=true->(0:Int)<=(↑k:Int)/\(↑k:Int)< (↑(Sh.q S):Int))) (V.gd (decide (Prod.fst (g i)< 0) == false) (V.ptr [V.i (Prod.fst (g k)),V.i (Prod.snd (g k))])),pc (90:Nat) ((((decide (Prod.fst (g i)< 0) == false)=true->(decide (Prod.fst (g i)< 0) == false)=true)/\True)/\((decide (Prod.fst (g i)< 0) == false)=true->True)) (V.gd (decide (Prod.fst (g i)< 0) == false) (V.ptr [V.i (Prod.fst (g k)),V.i (Prod.snd (g k))])),pc (91:Nat) ((((decide (Prod.fst (g i)< 0) == false)=true->(decide (Prod.fst (g i)< 0) == false)=true)/\True)/\((decide (Prod.fst (g i)< 0) == false)=true->True)) (V.gd (decide (Prod.fst (g i)< 0) == false) (V.i (Prod.fst (g k)))),pc (92:Nat) ((((decide (Prod.fst (g i)< 0) == false)=true->(decide (Prod.fst (g i)< 0) == false)=true)/\((decide (Prod.fst (g i)< 0) == false)=true->(decide (Prod.fst (g i)< 0) == false)=true)/\True)/\((decide (Prod.fst (g i)< 0) == false)=true->True)) (V.gd (decide (Prod.fst (g i)< 0) == false) (V.b !decide (Prod.fst (g i)=Prod.fst (g k)))),pc (93:Nat) (True/\(decide (Prod.fst (g i)< 0)=false->(decide (Prod.fst (g i)< 0) == false)=true)) (V.b (decide (Prod.fst (g i)< 0) || !decide (Prod.fst (g i)=Prod.fst (g k))))] kR kR ⟨oM,⟨⟨tI,tI⟩,(fun _=>tI)⟩,⟨⟨tI,tI⟩,(fun _=>tI)⟩,⟨⟨(by(exact fun h=>h)),⟨(by(exact fun h=>h)),tI⟩⟩,(by(intro hg;simp at hg;omega))⟩,⟨⟨(by(exact fun h=>h)),tI⟩,(fun _=>tI)⟩,⟨⟨(by(exact fun h=>h)),tI⟩,(fun _=>tI)⟩,⟨⟨tI,tI⟩,(fun _=>tI)⟩,⟨⟨tI,tI⟩,(fun _=>tI)⟩,⟨⟨(by(exact fun h=>h)),⟨(by(exact fun h=>h)),tI⟩⟩,(by(intro hg;simp at hg;omega))⟩,⟨⟨(by(exact fun h=>h)),tI⟩,(fun _=>tI)⟩,⟨⟨(by(exact fun h=>h)),tI⟩,(fun _=>tI)⟩,⟨⟨(by(exact fun h=>h)),⟨(by(exact fun h=>h)),tI⟩⟩,(fun _=>tI)⟩,⟨tI,(by(intro h;rw [h];rfl))⟩,tI⟩ ?_
  refine aa ⟨kR,?_⟩
  refine ai ?_
  refine hK _ ?_
  clear hK K
  refine av (t:=decide (Prod.fst (g i)< 0) || !decide (Prod.fst (g i)=Prod.fst (g k))) kR (fun c5=> ?_) (fun c5=> ?_)
  · refine aA fun K hK=> ?_
    refine aj (n':=10) kR kR ?_
    refine dH (first:=[]) (caps:=[]) (jS) kR kR kR kR kR ?_
    refine an ah (M:=[]) (n:=1) [pv (12:Nat) (V.b true)] kR kR tI ?_
    refine aa ?_
    refine ai ?_
    refine hK _ ?_
    clear hK K
    refine ay ?_
    refine bZ ?_
    refine cg (v':=V.b true) (.inr rfl) kR kR kR
  have c5':0<=(g i).1/\(g i).1=(g k).1:=by simp at c5;omega
  clear c5
  obtain⟨c5,c6⟩:=c5'
  rcases hfli with hfli | ⟨X0,N,hgi,hfi⟩
  · omega
  rcases hflk with hflk | ⟨X1,N',hgk,hfk⟩
  · omega
  rw [hgi,hgk]at c6 hNN
  obtain rfl:X0=X1:=by have:(X0:Int)=X1:=c6;omega
  have hNN:N<=N':=by have:(N:Int)<=N':=hNN;omega
  clear hgi hgk c6 c5
  have hsub:∀j,j< S.n->(S.pl j).fl k=true->(S.pl j).fl i=true:=fun j hj h=>xp hfi hfk hk.par hNN (j+1) j (Nat.lt_succ_self _) hj h
  have hsb:∀j,j∈b9 S k S.n->j∈b9 S i S.n:=fun j h=>lB.2 ⟨(lB.1 h).1,hsub j (lB.1 h).1 (lB.1 h).2⟩
  have hnl:=AY S i S.n
  have hnl2:=AY S k S.n
  have hal:(b9 S i S.n).length<=200:=Nat.le_trans (List.length_filter_le _ _) (by rw [List.length_range];exact hn)
  have hbl:(b9 S k S.n).length<=200:=Nat.le_trans (List.length_filter_le _ _) (by rw [List.length_range];exact hn)
  have AB1:=oR S hn i ⟨by omega,by omega⟩ oM
  have AB2:=oR S hn k ⟨by omega,by omega⟩ oM
  obtain⟨a,ha⟩:∃a,a=b9 S i S.n:=⟨_,rfl⟩
  obtain⟨b,hb⟩:∃b,b=b9 S k S.n:=⟨_,rfl⟩
  rw [<-ha]at hsb hnl hal AB1
  rw [<-hb]at hsb hnl2 hbl AB2
  refine ak ?_
  refine ai ?_
  refine hK _ ?_
  clear hK K
  refine aA fun K hK=> ?_
  refine aj (n':=10) kR kR ?_
  refine an ah (M:=[]) (n:=2) [pv (96:Nat) (V.ptr [V.b true,V.i (Rc.n0 (Sh.r S)),V.i (Rc.n1 (Sh.r S)),V.i (Rc.n2 (Sh.r S)),V.i (Rc.n3 (Sh.r S)),V.i (Rc.k0 (Sh.r S)),V.i (Rc.k1 (Sh.r S)),V.i (Rc.k2 (Sh.r S)),V.i (Rc.k3 (Sh.r S)),V.i (Rc.seed (Sh.r S)),V.i (Rc.soft (Sh.r S)),V.i (Rc.hard (Sh.r S)),V.i (Rc.mo (Sh.r S)),V.i (Rc.st (Sh.r S)),V.sl (1:Nat) (Sh.n S) fun(i:Nat)=>[V.ptr [V.i (↑(Pl.kind (Sh.pl S i)):Int),V.i (Pl.par (Sh.pl S i)),V.i (Pl.cut (Sh.pl S i)),V.i (Pl.area (Sh.pl S i)),V.i (Pl.aF (Sh.pl S i)),V.i (Pl.grown (Sh.pl S i)),V.b (Pl.ret (Sh.pl S i)),qW (Sh.pl S i)]],V.sl (4:Nat) (Sh.m S) fun(i:Nat)=>aO.c (Sh.tk S i),V.sl (2:Nat) (Sh.q S) (aP (Sh.g S)),V.sl (13:Nat) (Sh.l S) bM]),pv (97:Nat) (V.i (↑i:Int))] kR kR tI ?_
  refine dH (first:=[]) (caps:=[]) (AB1) kR kR kR kR kR ?_
  refine an ah (M:=[]) (n:=5) [pv (95:Nat) (V.tup [V.sl (1:Nat) (List.length a) fun(j:Nat)=>[V.i (↑(List.getD a j (0:Nat)):Int)],V.i (0:Int)]),pv (99:Nat) (V.sl (1:Nat) (List.length a) fun(j:Nat)=>[V.i (↑(List.getD a j (0:Nat)):Int)]),pv (100:Nat) (V.i (0:Int)),pv (18:Nat) (V.sl (1:Nat) (List.length a) fun(j:Nat)=>[V.i (↑(List.getD a j (0:Nat)):Int)]),pv (19:Nat) (V.i (0:Int))] kR kR tI ?_
  refine aa ?_
  refine ai ?_
  refine hK _ ?_
  clear hK K
  refine aA fun K hK=> ?_
  refine aj (n':=11) kR kR ?_
  refine an ah (M:=[]) (n:=2) [pv (102:Nat) (V.ptr [V.b true,V.i (Rc.n0 (Sh.r S)),V.i (Rc.n1 (Sh.r S)),V.i (Rc.n2 (Sh.r S)),V.i (Rc.n3 (Sh.r S)),V.i (Rc.k0 (Sh.r S)),V.i (Rc.k1 (Sh.r S)),V.i (Rc.k2 (Sh.r S)),V.i (Rc.k3 (Sh.r S)),V.i (Rc.seed (Sh.r S)),V.i (Rc.soft (Sh.r S)),V.i (Rc.hard (Sh.r S)),V.i (Rc.mo (Sh.r S)),V.i (Rc.st (Sh.r S)),V.sl (1:Nat) (Sh.n S) fun(i:Nat)=>[V.ptr [V.i (↑(Pl.kind (Sh.pl S i)):Int),V.i (Pl.par (Sh.pl S i)),V.i (Pl.cut (Sh.pl S i)),V.i (Pl.area (Sh.pl S i)),V.i (Pl.aF (Sh.pl S i)),V.i (Pl.grown (Sh.pl S i)),V.b (Pl.ret (Sh.pl S i)),qW (Sh.pl S i)]],V.sl (4:Nat) (Sh.m S) fun(i:Nat)=>aO.c (Sh.tk S i),V.sl (2:Nat) (Sh.q S) (aP (Sh.g S)),V.sl (13:Nat) (Sh.l S) bM]),pv (103:Nat) (V.i (↑k:Int))] kR kR tI ?_
  refine dH (first:=[]) (caps:=[]) (AB2) kR kR kR kR kR ?_
  refine an ah (M:=[]) (n:=5) [pv (101:Nat) (V.tup [V.sl (1:Nat) (List.length b) fun(j:Nat)=>[V.i (↑(List.getD b j (0:Nat)):Int)],V.i (0:Int)]),pv (105:Nat) (V.sl (1:Nat) (List.length b) fun(j:Nat)=>[V.i (↑(List.getD b j (0:Nat)):Int)]),pv (106:Nat) (V.i (0:Int)),pv (20:Nat) (V.sl (1:Nat) (List.length b) fun(j:Nat)=>[V.i (↑(List.getD b j (0:Nat)):Int)]),pv (21:Nat) (V.i (0:Int))] kR kR tI ?_
  refine aa ?_
  refine ai ?_
  refine hK _ ?_
  clear hK K
  refine aA fun K hK=> ?_
  refine aA fun K hK=> ?_
  refine aj (n':=12) kR kR ?_
  refine an ah (M:=[]) (n:=6) [pv (107:Nat) (V.i (0:Int)),pv (108:Nat) (V.b false),pv (109:Nat) (V.b false),pc (110:Nat) ((True/\True)/\((false == false)=true->True)) (V.gd (false == false) (V.i (0:Int))),pc (111:Nat) ((((false == false)=true->(false == false)=true)/\True/\True)/\((false == false)=true->True)) (V.gd (false == false) (V.b false)),pc (112:Nat) (True/\(false=false->(false == false)=true)) (V.b false)] kR kR ⟨⟨⟨tI,tI⟩,(fun _=>tI)⟩,⟨⟨(by(exact fun h=>h)),⟨tI,tI⟩⟩,(fun _=>tI)⟩,⟨tI,(by(intro h;rw [h];rfl))⟩,tI⟩ ?_
  refine aa ?_
  refine ai ?_
  refine hK _ ?_
  clear hK K
  refine aB (t:=false) kR rfl ?_
  refine ak ?_
  refine ai ?_
  refine hK _ ?_
  clear hK K
  refine aA fun K hK=> ?_
  refine aA fun K hK=> ?_
  refine aj (n':=13) kR kR ?_
  refine an ah (M:=[]) (n:=1) [pv (22:Nat) (V.i (0:Int))] kR kR tI ?_
  refine aa ?_
  refine ai ?_
  refine hK _ ?_
  clear hK K
  refine au ?_
  refine cr (ι:=Nat) (fun n=>[(2,.sl 2 q (BC X Y)),(3,.b sd),(13,DW S),(18,rH a),(20,rH b),(22,.i (n:Nat))]) (fun _=>[]) (fun n=>n<=b.length) (fun n=>b.length- n) 0 (Nat.zero_le _) ?_ ?_
  · refine aC [] (.cons kR (.cons kR (.cons kR (.cons kR (.cons kR (.cons kR .nil)))))) .nil kR kR
  intro n hn1
  refine aA fun K hK=> ?_
  refine aA fun K hK=> ?_
  refine aj (n':=2) kR kR ?_
  refine an ah (M:=[]) (n:=4) [pv (113:Nat) (V.i (↑n:Int)),pv (114:Nat) (V.sl (1:Nat) (List.length b) fun(j:Nat)=>[V.i (↑(List.getD b j (0:Nat)):Int)]),pv (115:Nat) (V.i (↑(List.length b):Int)),pv (116:Nat) (V.b (decide ((↑n:Int)< (↑(List.length b):Int))))] kR kR tI ?_
  refine aa ?_
  refine ai ?_
  refine hK _ ?_
  clear hK K
  refine av (t:=decide ((↑n:Int)< (↑(List.length b):Int))) kR (fun d1=> ?_) (fun d1=> ?_)
  · have hnb:n< b.length:=by have h:=of_decide_eq_true d1;omega
    have hbn:b.getD n 0∈a:=hsb _ (by rw [List.getD_eq_getElem?_getD,List.getElem?_eq_getElem hnb];exact List.getElem_mem hnb)
    refine ak ?_
    refine ai ?_
    refine hK _ ?_
    clear hK K
    refine aA fun K hK=> ?_
    refine au ?_
    refine aA fun K hK=> ?_
    refine aj (n':=3) kR kR ?_
    refine an ah (M:=[]) (n:=1) [pv (23:Nat) (V.b false)] kR kR tI ?_
    refine aa ?_
    refine ai ?_
    refine hK _ ?_
    clear hK K
    refine aA fun K hK=> ?_
    refine aA fun K hK=> ?_
    refine aj (n':=4) kR kR ?_
    refine an ah (M:=[]) (n:=1) [pv (24:Nat) (V.i (0:Int))] kR kR tI ?_
    refine aa ?_
    refine ai ?_
    refine hK _ ?_
    clear hK K
    refine au ?_
    refine cr (ι:=Nat) (fun m=>[(2,.sl 2 q (BC X Y)),(3,.b sd),(13,DW S),(18,rH a),(20,rH b),(22,.i (n:Nat)),(23,.b (decide (b.getD n 0∈a.take m))),(24,.i (m:Nat))]) (fun _=>[]) (fun m=>m<=a.length) (fun m=>a.length- m) 0 (Nat.zero_le _) ?_ ?_
    · show Le _ _
      rw [show decide (b.getD n 0∈a.take 0)=false by simp]
      refine aC [] (.cons kR (.cons kR (.cons kR (.cons kR (.cons kR (.cons kR (.cons kR (.cons kR .nil)))))))) .nil kR kR
    intro m hm1
    refine aA fun K hK=> ?_
    refine aA fun K hK=> ?_
    refine aj (n':=2) kR kR ?_
    refine an ah (M:=[]) (n:=4) [pv (119:Nat) (V.i (↑m:Int)),pv (120:Nat) (V.sl (1:Nat) (List.length a) fun(j:Nat)=>[V.i (↑(List.getD a j (0:Nat)):Int)]),pv (121:Nat) (V.i (↑(List.length a):Int)),pv (122:Nat) (V.b (decide ((↑m:Int)< (↑(List.length a):Int))))] kR kR tI ?_
    refine aa ?_
    refine ai ?_
    refine hK _ ?_
    clear hK K
    refine av (t:=decide ((↑m:Int)< (↑(List.length a):Int))) kR (fun d2=> ?_) (fun d2=> ?_)
    · have hma:m< a.length:=by have h:=of_decide_eq_true d2;omega
      refine ak ?_
      refine ai ?_
      refine hK _ ?_
      clear hK K
      refine aA fun K hK=> ?_
      refine au ?_
      refine di (n':=3) kR kR ?_
      refine an ah (M:=[]) (n:=13) [pv (125:Nat) (V.b (decide (List.getD b n (0:Nat)∈List.take m a))),pv (126:Nat) (V.b (decide (List.getD b n (0:Nat)∈List.take m a))),pc (127:Nat) ((True/\True)/\((decide (List.getD b n (0:Nat)∈List.take m a) == false)=true->True)) (V.gd (decide (List.getD b n (0:Nat)∈List.take m a) == false) (V.sl (1:Nat) (List.length a) fun(j:Nat)=>[V.i (↑(List.getD a j (0:Nat)):Int)])),pc (128:Nat) ((True/\True)/\((decide (List.getD b n (0:Nat)∈List.take m a) == false)=true->True)) (V.gd (decide (List.getD b n (0:Nat)∈List.take m a) == false) (V.i (↑m:Int))),pc (129:Nat) ((((decide (List.getD b n (0:Nat)∈List.take m a) == false)=true->(decide (List.getD b n (0:Nat)∈List.take m a) == false)=true)/\((decide (List.getD b n (0:Nat)∈List.take m a) == false)=true->(decide (List.getD b n (0:Nat)∈List.take m a) == false)=true)/\True)/\((decide (List.getD b n (0:Nat)∈List.take m a) == false)=true->(0:Int)<=(↑m:Int)/\(↑m:Int)< (↑(List.length a):Int))) (V.gd (decide (List.getD b n (0:Nat)∈List.take m a) == false) (V.ptr [V.i (↑(List.getD a m (0:Nat)):Int)])),pc (130:Nat) ((((decide (List.getD b n (0:Nat)∈List.take m a) == false)=true->(decide (List.getD b n (0:Nat)∈List.take m a) == false)=true)/\True)/\((decide (List.getD b n (0:Nat)∈List.take m a) == false)=true->True)) (V.gd (decide (List.getD b n (0:Nat)∈List.take m a) == false) (V.i (↑(List.getD a m (0:Nat)):Int))),pc (131:Nat) ((True/\True)/\((decide (List.getD b n (0:Nat)∈List.take m a) == false)=true->True)) (V.gd (decide (List.getD b n (0:Nat)∈List.take m a) == false) (V.sl (1:Nat) (List.length b) fun(j:Nat)=>[V.i (↑(List.getD b j (0:Nat)):Int)])),pc (132:Nat) ((True/\True)/\((decide (List.getD b n (0:Nat)∈List.take m a) == false)=true->True)) (V.gd (decide (List.getD b n (0:Nat)∈List.take m a) == false) (V.i (↑n:Int))),pc (133:Nat) ((((decide (List.getD b n (0:Nat)∈List.take m a) == false)=true->(decide (List.getD b n (0:Nat)∈List.take m a) == false)=true)/\((decide (List.getD b n (0:Nat)∈List.take m a) == false)=true->(decide (List.getD b n (0:Nat)∈List.take m a) == false)=true)/\True)/\((decide (List.getD b n (0:Nat)∈List.take m a) == false)=true->(0:Int)<=(↑n:Int)/\(↑n:Int)< (↑(List.length b):Int))) (V.gd (decide (List.getD b n (0:Nat)∈List.take m a) == false) (V.ptr [V.i (↑(List.getD b n (0:Nat)):Int)])),pc (134:Nat) ((((decide (List.getD b n (0:Nat)∈List.take m a) == false)=true->(decide (List.getD b n (0:Nat)∈List.take m a) == false)=true)/\True)/\((decide (List.getD b n (0:Nat)∈List.take m a) == false)=true->True)) (V.gd (decide (List.getD b n (0:Nat)∈List.take m a) == false) (V.i (↑(List.getD b n (0:Nat)):Int))),pc (135:Nat) ((((decide (List.getD b n (0:Nat)∈List.take m a) == false)=true->(decide (List.getD b n (0:Nat)∈List.take m a) == false)=true)/\((decide (List.getD b n (0:Nat)∈List.take m a) == false)=true->(decide (List.getD b n (0:Nat)∈List.take m a) == false)=true)/\True)/\((decide (List.getD b n (0:Nat)∈List.take m a) == false)=true->True)) (V.gd (decide (List.getD b n (0:Nat)∈List.take m a) == false) (V.b (decide ((↑(List.getD a m (0:Nat)):Int)=(↑(List.getD b n (0:Nat)):Int))))),pc (136:Nat) (True/\(decide (List.getD b n (0:Nat)∈List.take m a)=false->(decide (List.getD b n (0:Nat)∈List.take m a) == false)=true)) (V.b (decide (List.getD b n (0:Nat)∈List.take m a) || decide ((↑(List.getD a m (0:Nat)):Int)=(↑(List.getD b n (0:Nat)):Int)))),pv (23:Nat) (V.b (decide (List.getD b n (0:Nat)∈List.take m a) || decide ((↑(List.getD a m (0:Nat)):Int)=(↑(List.getD b n (0:Nat)):Int))))] kR kR ⟨⟨⟨tI,tI⟩,(fun _=>tI)⟩,⟨⟨tI,tI⟩,(fun _=>tI)⟩,⟨⟨(by(exact fun h=>h)),⟨(by(exact fun h=>h)),tI⟩⟩,(by(intro hg;simp at hg;omega))⟩,⟨⟨(by(exact fun h=>h)),tI⟩,(fun _=>tI)⟩,⟨⟨tI,tI⟩,(fun _=>tI)⟩,⟨⟨tI,tI⟩,(fun _=>tI)⟩,⟨⟨(by(exact fun h=>h)),⟨(by(exact fun h=>h)),tI⟩⟩,(by(intro hg;simp at hg;omega))⟩,⟨⟨(by(exact fun h=>h)),tI⟩,(fun _=>tI)⟩,⟨⟨(by(exact fun h=>h)),⟨(by(exact fun h=>h)),tI⟩⟩,(fun _=>tI)⟩,⟨tI,(by(intro h;rw [h];rfl))⟩,tI⟩ ?_
      refine aa ⟨kR,?_⟩
      refine bL ?_
      refine ai ?_
      refine hK _ ?_
      clear hK K
      refine aj (n':=4) kR kR ?_
      refine an ah (M:=[]) (n:=3) [pv (123:Nat) (V.i (↑m:Int)),pc (124:Nat) ((-9223372036854775808:Int)<=(↑m:Int)+1/\(↑m:Int)+1<=(9223372036854775807:Int)) (V.i ((↑m:Int)+1)),pv (24:Nat) (V.i ((↑m:Int)+1))] kR kR ⟨oM,tI⟩ ?_
      refine aa ?_
      refine ai ?_
      refine⟨m+1,by omega,?_,by omega⟩
      show Le _ _
      rw [show decide (b.getD n 0∈a.take (m+1))=(decide (b.getD n 0∈a.take m) || decide ((a.getD m 0:Int)=(b.getD n 0:Nat))) by
        rw [Aa hma,<-Bool.decide_or]
        refine decide_eq_decide.2 ?_
        rw [List.mem_append,List.mem_singleton]
        constructor
        · rintro(h |h)
          · exact .inl h
          · exact .inr oM
        · rintro(h |h)
          · exact .inl h
          · exact .inr oM]
      refine aC [] (.cons kR (.cons kR (.cons kR (.cons kR (.cons kR (.cons kR (.cons kR (.cons kR .nil)))))))) .nil kR kR
    · obtain rfl:m=a.length:=by have h:=of_decide_eq_false d2;omega
      rw [List.take_length,decide_eq_true hbn]
      refine bg ?_
      refine bO ?_
      refine bO ?_
      refine bC ?_
      refine ai ?_
      clear hK K
      refine hK _ ?_
      clear hK K
      refine aA fun K hK=> ?_
      refine aj (n':=3) kR kR ?_
      refine an ah (M:=[]) (n:=2) [pv (137:Nat) (V.b true),pv (138:Nat) (V.b false)] kR kR tI ?_
      refine aa ?_
      refine ai ?_
      refine hK _ ?_
      clear hK K
      refine aB (t:=false) kR rfl ?_
      refine ak ?_
      refine bL ?_
      refine ai ?_
      refine hK _ ?_
      clear hK K
      refine aj (n':=4) kR kR ?_
      refine an ah (M:=[]) (n:=3) [pv (117:Nat) (V.i (↑n:Int)),pc (118:Nat) ((-9223372036854775808:Int)<=(↑n:Int)+1/\(↑n:Int)+1<=(9223372036854775807:Int)) (V.i ((↑n:Int)+1)),pv (22:Nat) (V.i ((↑n:Int)+1))] kR kR ⟨oM,tI⟩ ?_
      refine aa ?_
      refine ai ?_
      refine⟨n+1,by omega,?_,by omega⟩
      refine aC [] (.cons kR (.cons kR (.cons kR (.cons kR (.cons kR (.cons kR .nil)))))) .nil kR kR
  obtain rfl:n=b.length:=by have h:=of_decide_eq_false d1;omega
  clear d1
  refine bg ?_
  refine bO ?_
  refine bO ?_
  refine bC ?_
  refine ai ?_
  clear hK K
  refine hK _ ?_
  clear hK K
  refine aA fun K hK=> ?_
  refine aj (n':=3) kR kR ?_
  refine an ah (M:=[]) (n:=1) [pv (25:Nat) (V.i (0:Int))] kR kR tI ?_
  refine aa ?_
  refine ai ?_
  refine hK _ ?_
  clear hK K
  refine aA fun K hK=> ?_
  refine aA fun K hK=> ?_
  refine aj (n':=4) kR kR ?_
  refine an ah (M:=[]) (n:=1) [pv (139:Nat) (V.b sd)] kR kR tI ?_
  refine aa ?_
  refine ai ?_
  refine hK _ ?_
  clear hK K
  refine IX (by assumption) ⟨gy [(2,.sl 2 q (BC X Y)),(13,DW S),(18,rH a),(20,rH b),(25,.i (i9 sd))],dj [],1⟩ ?_ ?_
  · refine aA fun K hK=> ?_
    refine aj (n':=2) kR kR ?_
    refine an ah (M:=[]) (n:=1) [pv (140:Nat) (V.ptr [V.b true,V.i (Rc.n0 (Sh.r S)),V.i (Rc.n1 (Sh.r S)),V.i (Rc.n2 (Sh.r S)),V.i (Rc.n3 (Sh.r S)),V.i (Rc.k0 (Sh.r S)),V.i (Rc.k1 (Sh.r S)),V.i (Rc.k2 (Sh.r S)),V.i (Rc.k3 (Sh.r S)),V.i (Rc.seed (Sh.r S)),V.i (Rc.soft (Sh.r S)),V.i (Rc.hard (Sh.r S)),V.i (Rc.mo (Sh.r S)),V.i (Rc.st (Sh.r S)),V.sl (1:Nat) (Sh.n S) fun(i:Nat)=>[V.ptr [V.i (↑(Pl.kind (Sh.pl S i)):Int),V.i (Pl.par (Sh.pl S i)),V.i (Pl.cut (Sh.pl S i)),V.i (Pl.area (Sh.pl S i)),V.i (Pl.aF (Sh.pl S i)),V.i (Pl.grown (Sh.pl S i)),V.b (Pl.ret (Sh.pl S i)),qW (Sh.pl S i)]],V.sl (4:Nat) (Sh.m S) fun(i:Nat)=>aO.c (Sh.tk S i),V.sl (2:Nat) (Sh.q S) (aP (Sh.g S)),V.sl (13:Nat) (Sh.l S) bM])] kR kR tI ?_
    refine dH (first:=[]) (caps:=[]) (B7 S hn) kR kR kR kR kR ?_
    refine an ah (M:=[]) (n:=1) [pv (26:Nat) (V.sl (7:Nat) (Sh.n S) fun(i:Nat)=>Pl.c (Sh.pl S i))] kR kR tI ?_
    refine aa ?_
    refine ai ?_
    refine hK _ ?_
    clear hK K
    refine aA fun K hK=> ?_
    refine aj (n':=3) kR kR ?_
    refine an ah (M:=[]) (n:=2) [pv (142:Nat) (V.sl (7:Nat) (Sh.n S) fun(i:Nat)=>Pl.c (Sh.pl S i)),pv (143:Nat) (V.sl (2:Nat) q (BC X Y))] kR kR tI ?_
    refine dH (first:=[]) (caps:=[]) (zO S hn X Y q hq hX hY) kR kR kR kR kR ?_
    have hA:=GC S X q hX
    have hB:=GC S Y q hY
    have hm:=(zM S q).1
    generalize BB S q=m at hA hB hm ⊢
    generalize pX S X=A at hA ⊢
    generalize pX S Y=B at hB ⊢
    have hAB:∀i,i< m->A i<=256/\B i<=256:=fun i hi=>by have:=(hA i hi).1;have:=(hB i hi).1;omega
    refine an ah (M:=[]) (n:=1) [pv (27:Nat) (V.sl (7:Nat) m (hH A B))] kR kR tI ?_
    refine aa ?_
    refine ai ?_
    refine hK _ ?_
    clear hK K
    refine aA fun K hK=> ?_
    refine aj (n':=4) kR kR ?_
    refine an ah (M:=[]) (n:=3) [pv (145:Nat) (V.sl (7:Nat) m (hH A B)),pv (146:Nat) (V.i (i9 sd)),pv (147:Nat) (V.sl (1:Nat) (List.length a) fun(j:Nat)=>[V.i (↑(List.getD a j (0:Nat)):Int)])] kR kR tI ?_
    refine dH (first:=[]) (caps:=[]) (AU A B m hm sd hAB a oM hnl) kR kR kR kR kR ?_
    refine an ah (M:=[]) (n:=3) [pv (149:Nat) (V.sl (7:Nat) m (hH A B)),pv (150:Nat) (V.i (i9 sd)),pv (151:Nat) (V.sl (1:Nat) (List.length b) fun(j:Nat)=>[V.i (↑(List.getD b j (0:Nat)):Int)])] kR kR tI ?_
    refine dH (first:=[]) (caps:=[]) (AU A B m hm sd hAB b oM hnl2) kR kR kR kR kR ?_
    obtain⟨T,hT⟩:∃T,T=gj sd A B:=⟨_,rfl⟩
    rw [<-hT]
    have hel:=qm (vM a T) m
    have hll:=qm (vM b T) m
    obtain⟨gl,hgl⟩:∃gl,gl=vM b T:=⟨_,rfl⟩
    have hge:∀d,gl d=true->vM a T d=true:=fun d h=>by
      rw [hgl]at h
      exact decide_eq_true (hsb _ (of_decide_eq_true h))
    rw [<-hgl]at hll ⊢
    obtain⟨E,hE⟩:∃E,E=f7 (vM a T) m:=⟨_,rfl⟩
    obtain⟨L,hL⟩:∃L,L=f7 gl m:=⟨_,rfl⟩
    have hEm:∀d,d< m->(decide (((d:Int)+1)∈E))=vM a T d:=fun d hd=>by
      rw [hE]
      cases e:vM a T d with
      |true=>exact decide_eq_true ((qn hd).2 e)
      |false=>exact decide_eq_false fun h=>by rw [(qn hd).1 h]at e;cases e
    have hLm:∀d,d< m->(decide (((d:Int)+1)∈L))=gl d:=fun d hd=>by
      rw [hL]
      cases e:gl d with
      |true=>exact decide_eq_true ((qn hd).2 e)
      |false=>exact decide_eq_false fun h=>by rw [(qn hd).1 h]at e;cases e
    rw [<-hE]at hel ⊢
    rw [<-hL]at hll ⊢
    refine an ah (M:=[]) (n:=2) [pv (28:Nat) (V.sl (1:Nat) (List.length E) fun(k:Nat)=>[V.i (gi E k)]),pv (29:Nat) (V.sl (1:Nat) (List.length L) fun(k:Nat)=>[V.i (gi L k)])] kR kR tI ?_
    refine aa ?_
    refine ai ?_
    refine hK _ ?_
    clear hK K
    refine aA fun K hK=> ?_
    refine aj (n':=5) kR kR ?_
    refine an ah (M:=[]) (n:=1) [pv (30:Nat) V.nil] kR kR tI ?_
    refine aa ?_
    refine ai ?_
    refine hK _ ?_
    clear hK K
    refine aA fun K hK=> ?_
    refine aA fun K hK=> ?_
    refine aj (n':=6) kR kR ?_
    refine an ah (M:=[]) (n:=1) [pv (31:Nat) (V.i (0:Int))] kR kR tI ?_
    refine aa ?_
    refine ai ?_
    refine hK _ ?_
    clear hK K
    refine au ?_
    refine iC (gP 30 111 2 (yt (cB gl m)) kR rfl) ?_
    refine cr (ι:=Nat) (fun n=>[(26,iw S),(27,ke A B m),(25,.i (i9 sd)),(28,V.ints E),(29,V.ints L),(30,.own 5),(31,.i (n:Nat))]) (fun n=>[(5,.row 111 2 n (yt (cB gl m)))]) (fun n=>n<=m) (fun n=>m- n) 0 (Nat.zero_le _) ?_ ?_
    · refine aC (sl:=[(5,Ob.row (111:Nat) (2:Nat) (0:Nat) (yt (cB gl m)))]) [(5,600030)] (.cons kR (.cons kR (.cons kR (.cons kR (.cons kR (.cons kR (.cons kR .nil))))))) (.cons ⟨Ob.row (111:Nat) (2:Nat) (0:Nat) (yt (cB gl m)),kR,.row kR (fun _ _=>rfl)⟩ .nil) kR kR
    intro n hn1
    refine aA fun K hK=> ?_
    refine aA fun K hK=> ?_
    refine aj (n':=2) kR kR ?_
    refine an ah (M:=[]) (n:=4) [pv (153:Nat) (V.i (↑n:Int)),pv (154:Nat) (V.sl (7:Nat) m (hH A B)),pv (155:Nat) (V.i (↑m:Int)),pv (156:Nat) (V.b (decide ((↑n:Int)< (↑m:Int))))] kR kR tI ?_
    refine aa ?_
    refine ai ?_
    refine hK _ ?_
    clear hK K
    refine av (t:=decide ((↑n:Int)< (↑m:Int))) kR (fun e1=> ?_) (fun e1=> ?_)
    · have hnm:n< m:=by have h:=of_decide_eq_true e1;omega
      have AL:=o4 L ((n:Int)+1) oM
      have AE:=o4 E ((n:Int)+1) oM
      rw [hLm n hnm]at AL
      rw [hEm n hnm]at AE
      refine ak ?_
      refine ai ?_
      refine hK _ ?_
      clear hK K
      refine aA fun K hK=> ?_
      refine au ?_
      refine aA fun K hK=> ?_
      refine aj (n':=3) kR kR ?_
      refine an ah (M:=[]) (n:=6) [pv (159:Nat) (V.sl (7:Nat) m (hH A B)),pv (160:Nat) (V.i (↑n:Int)),pc (161:Nat) ((0:Int)<=(↑n:Int)/\(↑n:Int)< (↑m:Int)) (V.ptr [V.i ((↑n:Int)+1),V.i ((↑(A n):Int)+1),V.i ((↑(B n):Int)+1),V.i (0:Int),V.i (0:Int),V.i (0:Int),V.b false]),pv (162:Nat) (V.ptr [V.i ((↑n:Int)+1),V.i ((↑(A n):Int)+1),V.i ((↑(B n):Int)+1),V.i (0:Int),V.i (0:Int),V.i (0:Int),V.b false]),pv (163:Nat) (V.i ((↑n:Int)+1)),pv (32:Nat) (V.i ((↑n:Int)+1))] kR kR ⟨oM,tI⟩ ?_
      refine aa ?_
      refine ai ?_
      refine hK _ ?_
      clear hK K
      refine aA fun K hK=> ?_
      refine aA fun K hK=> ?_
      refine aj (n':=4) kR kR ?_
      refine an ah (M:=[]) (n:=2) [pv (164:Nat) (V.sl (1:Nat) (List.length L) fun(k:Nat)=>[V.i (gi L k)]),pv (165:Nat) (V.i ((↑n:Int)+1))] kR kR tI ?_
      refine dH (first:=[]) (caps:=[]) (AL) kR kR kR kR kR ?_
      refine an ah (M:=[]) (n:=3) [pv (167:Nat) (V.b (gl n)),pc (168:Nat) ((True/\True)/\((gl n == true)=true->True)) (V.gd (gl n == true) (V.sl (1:Nat) (List.length E) fun(k:Nat)=>[V.i (gi E k)])),pc (169:Nat) ((True/\True)/\((gl n == true)=true->True)) (V.gd (gl n == true) (V.i ((↑n:Int)+1)))] kR kR ⟨⟨⟨tI,tI⟩,(fun _=>tI)⟩,⟨⟨tI,tI⟩,(fun _=>tI)⟩,tI⟩ ?_
      refine qf 2 (g:=gl n == true) (first:=[]) (caps:=[]) kR (fun h=>AE) kR kR kR kR kR kR ?_
      refine an ah (M:=[]) (n:=2) [pc (171:Nat) ((((gl n == true)=true->(gl n == true)=true)/\True)/\((gl n == true)=true->True)) (V.gd (gl n == true) (V.b !vM a T n)),pc (172:Nat) ((gl n=true->(gl n == true)=true)/\True) (V.b (gl n && !vM a T n))] kR kR ⟨⟨⟨(by(exact fun h=>h)),tI⟩,(fun _=>tI)⟩,⟨(by(intro h;rw [h];rfl)),tI⟩,tI⟩ ?_
      refine aa ?_
      refine ai ?_
      refine hK _ ?_
      clear hK K
      refine av (t:=gl n && !vM a T n) kR (fun e2=> ?_) (fun e2=> ?_)
      · exfalso
        have e2:gl n=true/\vM a T n=false:=by simpa using e2
        rw [hge n e2.1]at e2
        cases e2.2
      clear e2
      refine ak ?_
      refine ai ?_
      refine hK _ ?_
      clear hK K
      refine aj (n':=5) kR kR ?_
      refine an ah (M:=[]) (n:=4) [pv (173:Nat) (V.own (5:Nat)),pv (174:Nat) (V.i ((↑n:Int)+1)),pv (175:Nat) (V.sl (1:Nat) (List.length L) fun(k:Nat)=>[V.i (gi L k)]),pv (176:Nat) (V.i ((↑n:Int)+1))] kR kR tI ?_
      refine dH (first:=[]) (caps:=[]) (AL) kR kR kR kR kR ?_
      refine an ah (M:=[]) (n:=4) [pv (178:Nat) (V.agg [V.i ((↑n:Int)+1),V.b (gl n)]),pv (179:Nat) (V.sl (2:Nat) (1:Nat) fun(i:Nat)=>List.take (2:Nat) (List.drop (i*2) [V.i ((↑n:Int)+1),V.b (gl n)])),PR.mk (some (180:Nat)) (some (n+1<=(1099511627776:Nat))) (V.own (400180:Nat)) [((5:Nat),none),((400180:Nat),some (Ob.row (111:Nat) (2:Nat) (n+1) (aE n (yt (cB gl m)) fun(i:Nat)=>List.take (2:Nat) (List.drop (i*2) [V.i ((↑n:Int)+1),V.b (gl n)]))))] false,pv (30:Nat) (V.own (400180:Nat))] kR kR ⟨oM,tI⟩ ?_
      refine aa ?_
      refine bL ?_
      refine ai ?_
      refine hK _ ?_
      clear hK K
      refine aj (n':=6) kR kR ?_
      refine an ah (M:=[]) (n:=3) [pv (157:Nat) (V.i (↑n:Int)),pc (158:Nat) ((-9223372036854775808:Int)<=(↑n:Int)+1/\(↑n:Int)+1<=(9223372036854775807:Int)) (V.i ((↑n:Int)+1)),pv (31:Nat) (V.i ((↑n:Int)+1))] kR kR ⟨oM,tI⟩ ?_
      refine aa ?_
      refine ai ?_
      refine⟨n+1,by omega,?_,by omega⟩
      refine aC (tl:=[(26,V.sl (7:Nat) (Sh.n S) fun(i:Nat)=>Pl.c (Sh.pl S i)),(27,V.sl (7:Nat) m (hH A B)),(25,V.i (i9 sd)),(28,V.sl (1:Nat) (List.length E) fun(k:Nat)=>[V.i (gi E k)]),(29,V.sl (1:Nat) (List.length L) fun(k:Nat)=>[V.i (gi L k)]),(30,V.own (5:Nat)),(31,V.i (↑(n+1):Int))]) (sl:=[(5,Ob.row (111:Nat) (2:Nat) (n+1) (yt (cB gl m)))]) [(5,400180)] (.cons kR (.cons kR (.cons kR (.cons kR (.cons kR (.cons kR (.cons kR .nil))))))) (.cons ⟨Ob.row (111:Nat) (2:Nat) (n+1) (aE n (yt (cB gl m)) fun(i:Nat)=>List.take (2:Nat) (List.drop (i*2) [V.i ((↑n:Int)+1),V.b (gl n)])),kR,.row kR ?_⟩ .nil) kR kR
      · exact de (fun _ _=>rfl) (Da hnm).symm
    obtain rfl:n=m:=by have h:=of_decide_eq_false e1;omega
    clear e1
    refine iC (vj 30 5 (e:=(111:Nat)) (sz:=(2:Nat)) (n:=n) (n':=n) (row:=yt (cB gl n)) (row':=(yt (cB gl n))) kR kR (fun _ _=>rfl) ?_ ?_) ?_
    · rfl
    · exact fun _ _=>rfl
    have AC1:=B5 S hn hk A B n hm hA hB sd (cB gl n) (by rw [od];omega) (FJ gl n)
    rw [show DX (cB gl n)= .sl 2 n (yt (cB gl n)) by unfold DX;rw [od],<-hT]at AC1
    have hcl:=xw hn T hm (cB gl n)
    have hch:∀k,k< (iF S T n (cB gl n)).length->ry (gk S T n) n ((iF S T n (cB gl n)).getD k (0,0,fun _=>false)).1 ((iF S T n (cB gl n)).getD k (0,0,fun _=>false)).2.1=(L,0):=fun k h=>by rw [I8 h,hL]
    obtain⟨cs,hcs⟩:∃cs,cs=iF S T n (cB gl n):=⟨_,rfl⟩
    rw [<-hcs]at AC1 hcl hch
    refine bg ?_
    refine bO ?_
    refine bO ?_
    refine bC ?_
    refine ai ?_
    clear hK K
    refine hK _ ?_
    clear hK K
    refine aA fun K hK=> ?_
    refine aj (n':=3) kR kR ?_
    refine an ah (M:=[]) (n:=4) [pv (182:Nat) (V.sl (7:Nat) (Sh.n S) fun(i:Nat)=>Pl.c (Sh.pl S i)),pv (183:Nat) (V.sl (7:Nat) n (hH A B)),pv (184:Nat) (V.i (i9 sd)),pv (185:Nat) (V.sl (2:Nat) n (yt (cB gl n)))] kR kR tI ?_
    refine dH (first:=[]) (caps:=[]) (AC1) kR kR kR kR kR ?_
    refine an ah (M:=[]) (n:=5) [pv (181:Nat) (V.tup [V.sl (2:Nat) (List.length cs) (mF cs),V.i (0:Int)]),pv (187:Nat) (V.sl (2:Nat) (List.length cs) (mF cs)),pv (188:Nat) (V.i (0:Int)),pv (33:Nat) (V.sl (2:Nat) (List.length cs) (mF cs)),pv (19:Nat) (V.i (0:Int))] kR kR tI ?_
    refine aa ?_
    refine ai ?_
    refine hK _ ?_
    clear hK K
    refine aA fun K hK=> ?_
    refine aA fun K hK=> ?_
    refine aj (n':=4) kR kR ?_
    refine an ah (M:=[]) (n:=2) [pv (189:Nat) (V.i (0:Int)),pv (190:Nat) (V.b false)] kR kR tI ?_
    refine aa ?_
    refine ai ?_
    refine hK _ ?_
    clear hK K
    refine aB (t:=false) kR rfl ?_
    refine ak ?_
    refine ai ?_
    refine hK _ ?_
    clear hK K
    refine aA fun K hK=> ?_
    refine aA fun K hK=> ?_
    refine aj (n':=5) kR kR ?_
    refine an ah (M:=[]) (n:=1) [pv (34:Nat) (V.i (0:Int))] kR kR tI ?_
    refine aa ?_
    refine ai ?_
    refine hK _ ?_
    clear hK K
    refine au ?_
    refine cr (ι:=Nat) (fun k=>[(26,iw S),(27,ke A B n),(25,.i (i9 sd)),(29,V.ints L),(33,.sl 2 cs.length (mF cs)),(34,.i (k:Nat))]) (fun _=>[]) (fun k=>k<=cs.length) (fun k=>cs.length- k) 0 (Nat.zero_le _) ?_ ?_
    · refine aC [] (.cons kR (.cons kR (.cons kR (.cons kR (.cons kR (.cons kR .nil)))))) .nil kR kR
    intro k hk1
    refine aA fun K hK=> ?_
    refine aA fun K hK=> ?_
    refine aj (n':=2) kR kR ?_
    refine an ah (M:=[]) (n:=4) [pv (191:Nat) (V.i (↑k:Int)),pv (192:Nat) (V.sl (2:Nat) (List.length cs) (mF cs)),pv (193:Nat) (V.i (↑(List.length cs):Int)),pv (194:Nat) (V.b (decide ((↑k:Int)< (↑(List.length cs):Int))))] kR kR tI ?_
    refine aa ?_
    refine ai ?_
    refine hK _ ?_
    clear hK K
    refine av (t:=decide ((↑k:Int)< (↑(List.length cs):Int))) kR (fun e1=> ?_) (fun e1=> ?_)
    · have hkc:k< cs.length:=by have h:=of_decide_eq_true e1;omega
      have AH:=Lu S hn hk A B n hm hA hB sd (cs.getD k (0,0,fun _=>false)).1 (cs.getD k (0,0,fun _=>false)).2.1
      rw [<-hT,hch k hkc]at AH
      have AN:=zF L L oM oM
      rw [decide_eq_true (rfl:L=L)]at AN
      refine ak ?_
      refine ai ?_
      refine hK _ ?_
      clear hK K
      refine aA fun K hK=> ?_
      refine au ?_
      refine aA fun K hK=> ?_
      refine aj (n':=3) kR kR ?_
      refine an ah (M:=[]) (n:=7) [pv (198:Nat) (V.sl (7:Nat) (Sh.n S) fun(i:Nat)=>Pl.c (Sh.pl S i)),pv (199:Nat) (V.sl (7:Nat) n (hH A B)),pv (200:Nat) (V.i (i9 sd)),pv (201:Nat) (V.sl (2:Nat) (List.length cs) (mF cs)),pv (202:Nat) (V.i (↑k:Int)),pc (203:Nat) ((0:Int)<=(↑k:Int)/\(↑k:Int)< (↑(List.length cs):Int)) (V.ptr [V.i (Prod.fst (List.getD cs k ((0:Int),(0:Int),fun(x:Nat)=>false))),V.i (Prod.fst (Prod.snd (List.getD cs k ((0:Int),(0:Int),fun(x:Nat)=>false))))]),pv (204:Nat) (V.agg [V.i (Prod.fst (List.getD cs k ((0:Int),(0:Int),fun(x:Nat)=>false))),V.i (Prod.fst (Prod.snd (List.getD cs k ((0:Int),(0:Int),fun(x:Nat)=>false))))])] kR kR ⟨oM,tI⟩ ?_
      refine dH (first:=[]) (caps:=[]) (AH) kR kR kR kR kR ?_
      refine an ah (M:=[]) (n:=5) [pv (197:Nat) (V.tup [V.sl (1:Nat) (List.length L) fun(k:Nat)=>[V.i (gi L k)],V.i (0:Int)]),pv (206:Nat) (V.sl (1:Nat) (List.length L) fun(k:Nat)=>[V.i (gi L k)]),pv (207:Nat) (V.i (0:Int)),pv (35:Nat) (V.sl (1:Nat) (List.length L) fun(k:Nat)=>[V.i (gi L k)]),pv (36:Nat) (V.i (0:Int))] kR kR tI ?_
      refine aa ?_
      refine ai ?_
      refine hK _ ?_
      clear hK K
      refine aA fun K hK=> ?_
      refine aj (n':=4) kR kR ?_
      refine an ah (M:=[]) (n:=5) [pv (208:Nat) (V.i (0:Int)),pv (209:Nat) (V.b false),pv (210:Nat) (V.b false),pc (211:Nat) ((True/\True)/\((false == false)=true->True)) (V.gd (false == false) (V.sl (1:Nat) (List.length L) fun(k:Nat)=>[V.i (gi L k)])),pc (212:Nat) ((True/\True)/\((false == false)=true->True)) (V.gd (false == false) (V.sl (1:Nat) (List.length L) fun(k:Nat)=>[V.i (gi L k)]))] kR kR ⟨⟨⟨tI,tI⟩,(fun _=>tI)⟩,⟨⟨tI,tI⟩,(fun _=>tI)⟩,tI⟩ ?_
      refine qf 2 (g:=false == false) (first:=[]) (caps:=[]) kR (fun h=>AN) kR kR kR kR kR kR ?_
      refine an ah (M:=[]) (n:=2) [pc (214:Nat) ((((false == false)=true->(false == false)=true)/\True)/\((false == false)=true->True)) (V.gd (false == false) (V.b false)),pc (215:Nat) (True/\(false=false->(false == false)=true)) (V.b false)] kR kR ⟨⟨⟨(by(exact fun h=>h)),tI⟩,(fun _=>tI)⟩,⟨tI,(by(intro h;rw [h];rfl))⟩,tI⟩ ?_
      refine aa ?_
      refine ai ?_
      refine hK _ ?_
      clear hK K
      refine aB (t:=false) kR rfl ?_
      refine ak ?_
      refine bL ?_
      refine ai ?_
      refine hK _ ?_
      clear hK K
      refine aj (n':=5) kR kR ?_
      refine an ah (M:=[]) (n:=3) [pv (195:Nat) (V.i (↑k:Int)),pc (196:Nat) ((-9223372036854775808:Int)<=(↑k:Int)+1/\(↑k:Int)+1<=(9223372036854775807:Int)) (V.i ((↑k:Int)+1)),pv (34:Nat) (V.i ((↑k:Int)+1))] kR kR ⟨oM,tI⟩ ?_
      refine aa ?_
      refine ai ?_
      refine⟨k+1,by omega,?_,by omega⟩
      refine aC [] (.cons kR (.cons kR (.cons kR (.cons kR (.cons kR (.cons kR .nil)))))) .nil kR kR
    obtain rfl:k=cs.length:=by have h:=of_decide_eq_false e1;omega
    clear e1
    refine bg ?_
    refine bO ?_
    refine bO ?_
    refine bC ?_
    refine ai ?_
    clear hK K
    refine hK _ ?_
    clear hK K
    refine aA fun K hK=> ?_
    refine aj (n':=3) kR kR ?_
    refine dH (first:=[]) (caps:=[]) (jS) kR kR kR kR kR ?_
    refine an ah (M:=[]) (n:=1) [pv (12:Nat) (V.b true)] kR kR tI ?_
    refine aa ?_
    refine ai ?_
    refine hK _ ?_
    clear hK K
    refine ay ?_
    refine cg (v':=V.b true) (.inr rfl) kR kR kR
  refine av (t:=sd) kR (fun c8=> ?_) (fun c8=> ?_)
  · obtain rfl:sd=true:=c8
    refine aj (n':=5) kR kR ?_
    refine an ah (M:=[]) (n:=1) [pv (25:Nat) (V.i (1:Int))] kR kR tI ?_
    refine aa ?_
    refine ai ?_
    exact⟨(),rfl,by refine aC [] (.cons kR (.cons kR (.cons kR (.cons kR (.cons kR .nil))))) .nil kR kR⟩
  · obtain rfl:sd=false:=c8
    refine ak ?_
    refine ai ?_
    exact⟨(),rfl,by refine aC [] (.cons kR (.cons kR (.cons kR (.cons kR (.cons kR .nil))))) .nil kR kR⟩
def m9:List Go.Ab.Sh:=[s9,(.sl sL),(.sl (.arr 2 (.int .u8))),.bool,(.int .u8),(.int .u8)]
theorem De(x:TL m9)(hx:O0 m9 x):AC Tryz.prog 8 (Hp m9 x) (V.b true) []:=by obtain⟨r,l,p,sd,wa,wb,_⟩:=x;obtain⟨hr,⟨hl1,hl2⟩,⟨hp1,hp2⟩,_,hwa,hwb,_⟩:=hx;have:=Df (Mm r) (l.map x9) p.length (Kq p 0) (Kq p 1) sd wa wb (by simpa using hl1) hp1 (Kr hp2 0 (by decide)) (Kr hp2 1 (by decide)) (wf_u8 hwa) (wf_u8 hwb);exact this.conv (args':=Hp m9 (r,l,p,sd,wa,wb,())) ⟨Ma r hr,Eg l hl2,Jo hp2,cq.refl _,cq.refl _,cq.refl _,trivial⟩
open Go.ChangeShapes Go.WideShapes Go.ChangeAt Go.Deep
def fF:List (String×DataW Unit):=[("unicode/utf8.acceptRanges",Rows.laid_unicode_utf8_acceptRanges),("unicode/utf8.first",Rows.laid_unicode_utf8_first)]
theorem zl{W:World}(h:laidMetH Tryz.prog fF W)(g:Nat):R W (fun b=>b< W.heap.size) ρ0 (ji g) (pT g):= .any _ _
theorem I5(os:Os)(args:Array Value):laidMetH Tryz.prog fF ((World.laidAll Tryz.prog os fF).forCall (fun _ _=>0) ⟨#[],args,[]⟩).memory:=by rw [MakeChecks.laidMetH_plain _ _ _ kR];exact laidMet_laidAll _ kR kR
end Go.Proofs.YtjmbpjlojjgggaaGreatDoor
