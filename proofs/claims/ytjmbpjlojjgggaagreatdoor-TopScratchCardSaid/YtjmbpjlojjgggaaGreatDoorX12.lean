/-
  Several texts in one: Edges of samples, in plain Lean. Conditions: told in each theorem. .. Places, arcs, faults: the walks of the reference's outer functions. Conditions: told in each theorem.
-/
import Derived.Test.YtjmbpjlojjgggaaGreatDoorX06
import Derived.Test.YtjmbpjlojjgggaaGreatDoorAbs42
import Derived.Test.YtjmbpjlojjgggaaGreatDoorX00
set_option maxRecDepth 100000
namespace Go.Proofs.YtjmbpjlojjgggaaGreatDoor
open Go.Ab Go.RowKit Go.Dw Go.Shelf
theorem LX{a b m n:Int}(ha: -m<=a/\a<=m)(hb: -n<=b/\b<=n): -(m*n)<=a*b/\a*b<=m*n:=by have h1:0<=(m- a)*(n+b):=Int.mul_nonneg oM oM;have h2:0<=(m+a)*(n- b):=Int.mul_nonneg oM oM;have h3:0<=(m- a)*(n- b):=Int.mul_nonneg oM oM;have h4:0<=(m+a)*(n+b):=Int.mul_nonneg oM oM;simp only [Int.sub_mul,Int.add_mul,Int.mul_add,Int.mul_sub]at h1 h2 h3 h4;omega
theorem QG{x m M:Int}(hm:0< m)(h: -(M*m)<=x/\x<=M*m): -M<=x.tdiv m/\x.tdiv m<=M:=by
 by_cases hx:0<=x
 ·rw [Int.tdiv_eq_ediv_of_nonneg hx];have h1:=Int.ediv_nonneg hx (Int.le_of_lt hm);have h2:x / m<=M:=by have:=Int.ediv_le_ediv hm h.2;rwa [Int.mul_ediv_cancel _ oM]at this
  omega
 ·have e:x.tdiv m= -((-x) / m):=by have:=Int.neg_tdiv (a:= -x) (b:=m);rw [Int.neg_neg]at this;rw [this,Int.tdiv_eq_ediv_of_nonneg oM]
  have h1:=Int.ediv_nonneg (a:= -x) (b:=m) oM oM;have h2:(-x) / m<=M:=by have:=Int.ediv_le_ediv hm (show -x<=M*m by omega);rwa [Int.mul_ediv_cancel _ oM]at this
  omega
def IW(g n:Int):Int:=(n*g).tdiv 1000
def b9(c:Cut)(s:Pt):Pt:=(IW c.gain s.2- c.half,IW c.gain s.1+c.half)
theorem vB{g n:Int}(hg:0<=g/\g<=100000)(hn: -32768<=n/\n<=32768): -3276800<=IW g n/\IW g n<=3276800:=by have:=LX (m:=32768) (n:=100000) hn ⟨by omega,hg.2⟩;exact QG (by decide) oM
def iY(c:Cut)(s:List Pt):List Pt×Int:=if jH c=0 then(if ki s=0 then(s.map (b9 c),0)else([],ki s))else([],jH c)
theorem LG{c:Cut}{s:List Pt}(h:¬jH c=0):iY c s=([],jH c):=by rw [iY,if_neg h]
theorem LH{c:Cut}{s:List Pt}(h:jH c=0)(h2:¬ki s=0):iY c s=([],ki s):=by rw [iY,if_pos h,if_neg h2]
theorem LI{c:Cut}{s:List Pt}(h:jH c=0)(h2:ki s=0):iY c s=(s.map (b9 c),0):=by rw [iY,if_pos h,if_pos h2]
theorem Gb{f:Pt->Pt}{l:List Pt}{k:Nat}(h:k< l.length):gp (l.map f) k=f (gp l k):=by simp [gp,List.getD_eq_getElem?_getD,List.getElem?_eq_getElem h]
theorem HX{c:Cut}{s:Pt}(hc:jH c=0)(hs:sE s=true):gE (b9 c s)=true:=by obtain⟨⟨a1,a2⟩,⟨b1,b2⟩,_⟩:=qy.1 hc;obtain⟨h1,h2⟩:=Hz.1 hs;have e1:=vB (n:=s.1) ⟨b1,b2⟩ oM;have e2:=vB (n:=s.2) ⟨b1,b2⟩ oM;rw [kQ];show(-4194304<=IW c.gain s.2- c.half/\_)/\ -4194304<=IW c.gain s.1+c.half/\_;simp only [b9];omega
def Gl(p:Pt):Prop:=qm .i64 p.1/\qm .i64 p.2
theorem jr(l:List Pt)(hl:l.length<=4611686018427387904)(hr:∀k,k< l.length->Gl (gp l k)):AC Tryz.prog 60 [V.pts l] (.i (ki l)) []:=by
 refine eT aj bX Tryz.func60 Tryz.ntmps60 fun C hC hF=> ?_;refine yS aj 2 1 [] ?_;refine sK fun K hK=>yS aj 3 3 [] ?_;refine ax (t:=decide ((4096:Int)< (↑(List.length l):Int))) kR (fun c1=> ?_) (fun c1=> ?_);·simp at c1;refine yS aj 4 1 [] ?_;refine av ?_;refine bB ?_;rw [Ei oM];refine rP (V.i 6)
 simp at c1;refine aq ?_;refine ai (hK _ ?_);clear hK K;refine sK fun K hK=>yS aj 4 1 [] ?_;refine az ?_;refine dO (ι:=Nat) (fun k=>[(0,V.pts l),(3,.i k)]) (fun _=>[]) (fun k=>k<=l.length/\∀j,j< k->sE (gp l j)=true) (fun k=>l.length- k) 0 ⟨Nat.zero_le _,fun j hj=>by omega⟩ ?_ ?_;·refine aH [] (.cons kR (.cons kR .nil)) .nil kR kR
 rintro k ⟨hk,hj⟩;refine sK fun K hK=>yS aj 2 4 [] ?_;refine ax (t:=decide ((↑k:Int)< (↑(List.length l):Int))) kR (fun c2=> ?_) (fun c2=> ?_)
 ·simp at c2;obtain⟨r1,r2⟩:=hr k oM;refine aq ?_;refine ai (hK _ ?_);clear hK K;refine sK fun K hK=> ?_;refine az ?_;refine sK fun K hK=>wR 3 ?_;refine aY aj 4 [(2,.c ((0:Int)<=(↑k:Int)/\(↑k:Int)< (↑(List.length l):Int)) oM)] ?_;refine eC (D5 (gp l k) r1 r2) ?_;refine yN aj 1 [] hK ?_;clear hK K;refine ax (t:= !sE (gp l k)) kR (fun c3=> ?_) (fun c3=> ?_);·refine sK fun K hK=> ?_;refine yT aj 4 1 [] hK ?_;clear hK K;refine av ?_;refine dL ?_;refine bB (bB ?_);refine dL ?_;refine bB ?_;rw [Hy oM oM (by simpa using c3)];refine rP (V.i 2)
  refine aq ?_;refine cn (ai (hK _ ?_));clear hK K;refine wR 4 ?_;refine aY aj 3 [(1,.c (iR ((↑k:Int)+1)) oM)] ?_;refine aa (ai ?_);refine⟨k+1,⟨by omega,fun i hi=> ?_⟩,by refine aH [] (.cons kR (.cons kR .nil)) .nil kR kR,by omega⟩;by_cases he:i=k;·subst he;simpa using c3
  ·exact hj i oM
 ·simp at c2;refine bN ?_;refine cO ?_;refine cO ?_;refine cg ?_;refine ai ?_;clear hK K;refine hK _ ?_;clear hK K;refine yS aj 3 1 [] ?_;refine av ?_;rw [uR oM fun i hi=>hj i oM];refine rP (V.i 0)
abbrev Ia(c:Cut)(s:Pt):List V:=[V.i (-Cut.half c+Int.tdiv (Prod.snd s*Cut.gain c) (1000:Int)),V.i (Cut.half c+Int.tdiv (Prod.fst s*Cut.gain c) (1000:Int))]
theorem Ka(c:Cut)(s:Pt)(hc:jH c=0)(hs:(-32768<=s.1/\s.1<=32768)/\ -32768<=s.2/\s.2<=32768):AC Tryz.prog 61 [c.v,.agg [.i s.1,.i s.2]] (.agg [.i (b9 c s).1,.i (b9 c s).2]) []:=by
 obtain⟨⟨a1,a2⟩,⟨b1,b2⟩,_⟩:=qy.1 hc;obtain⟨h1,h2⟩:=hs;have e1:=vB (n:=s.1) ⟨b1,b2⟩ oM;have e2:=vB (n:=s.2) ⟨b1,b2⟩ oM;have m1:=LX (m:=32768) (n:=100000) (a:=s.1) (b:=c.gain) oM ⟨by omega,b2⟩;have m2:=LX (m:=32768) (n:=100000) (a:=s.2) (b:=c.gain) oM ⟨by omega,b2⟩;unfold IW at e1 e2;refine eT aj bX Tryz.func61 Tryz.ntmps61 fun C hC hF=> ?_;refine yS aj 2 3 [] ?_;refine yS aj 3 21 [(2,.c (iR (-Cut.half c)) oM),(4,.c (iR (Prod.snd s*Cut.gain c)) oM),(0,.c ((0:Int)< (1000:Int)/\(-9223372036854775808:Int)<=Prod.snd s*Cut.gain c/\Prod.snd s*Cut.gain c<=9223372036854775807) ⟨oM,oM⟩),(0,.c (iR (-Cut.half c+Int.tdiv (Prod.snd s*Cut.gain c) (1000:Int))) oM),(6,.c (iR (Prod.fst s*Cut.gain c)) oM),(0,.c ((0:Int)< (1000:Int)/\(-9223372036854775808:Int)<=Prod.fst s*Cut.gain c/\Prod.fst s*Cut.gain c<=9223372036854775807) ⟨oM,oM⟩),(0,.c (iR (Cut.half c+Int.tdiv (Prod.fst s*Cut.gain c) (1000:Int))) oM),(1,.c ((0:Nat)+(2:Nat)<=(2:Nat)) oM)] ?_;refine av ?_;refine jt (v5 (t:=(47:Nat)) (cs:=(Ia c s)) 100004 kR kR) ?_;have q1: -c.half+(s.2*c.gain).tdiv 1000=(b9 c s).1:=by simp only [b9,IW];omega
 have q2:c.half+(s.1*c.gain).tdiv 1000=(b9 c s).2:=by simp only [b9,IW];omega
 rw [<-q1,<-q2];refine rP (V.agg (Ia c s))
abbrev Ik:V:=V.sl 2 0 fun(k:Nat)=>[V.i (Prod.fst (gp [] k)),V.i (Prod.snd (gp [] k))]
theorem D7(c:Cut)(s:List Pt)(hs:s.length<=4611686018427387904)(hr:∀k,k< s.length->Gl (gp s k)):AC Tryz.prog 15 [c.v,V.pts s] (.tup [V.pts (iY c s).1,.i (iY c s).2]) []:=by
 refine eT aj bX Tryz.func15 Tryz.ntmps15 fun C hC hF=> ?_;refine yS aj 2 3 [] ?_;refine sK fun K hK=>sK fun K hK=>wR 3 ?_;refine aY aj 1 [] ?_;refine eC (yM c) ?_;refine yN aj 1 [] hK ?_;clear hK K;refine ax (t:= !decide (jH c=0)) kR (fun c1=> ?_) (fun c1=> ?_)
 ·simp at c1;refine yS aj 4 2 [] ?_;refine av ?_;refine bB ?_;rw [LG c1,(rC c).resolve_left c1];refine jt (le_nil 4 (sz:=2) 0 (fun k=>[.i (gp [] k).1,.i (gp [] k).2]) kR ?_) ?_;·rfl
  refine rP (V.tup [Ik,V.i 2])
 simp at c1;refine aq ?_;refine ai (hK _ ?_);clear hK K;refine sK fun K hK=>sK fun K hK=>wR 4 ?_;refine aY aj 1 [] ?_;refine eC (jr s hs hr) ?_;refine yN aj 1 [] hK ?_;clear hK K;refine ax (t:= !decide (ki s=0)) kR (fun c2=> ?_) (fun c2=> ?_)
 ·simp at c2;refine sK fun K hK=>wR 5 ?_;refine aY aj 1 [] ?_;refine eC (jr s hs hr) ?_;refine yN aj 2 [] hK ?_;clear hK K;refine av ?_;refine bB ?_;rw [LH c1 c2];refine jt (le_nil 4 (sz:=2) 0 (fun k=>[.i (gp [] k).1,.i (gp [] k).2]) kR ?_) ?_;·rfl
  refine rP (V.tup [Ik,V.i (ki s)])
 simp at c2;obtain⟨l1,l2⟩:=Ct.1 c2;refine aq ?_;refine ai (hK _ ?_);clear hK K;refine yS aj 5 1 [] ?_;refine sK fun K hK=>yS aj 6 1 [] ?_;refine az ?_;refine lG (qF 6 47 2 (fun k=>[.i (b9 c (gp s k)).1,.i (b9 c (gp s k)).2]) kR rfl) ?_;skip
 refine dO (ι:=Nat) (fun k=>[(2,.ptr [.i c.half,.i c.gain,.i c.thin,.i c.wide,.i c.slope,.i c.jerk,.i c.sty]),(1,V.pts s),(6,.own 6),(7,.i k)]) (fun k=>[(6,.row 47 2 k (fun k=>[.i (b9 c (gp s k)).1,.i (b9 c (gp s k)).2]))]) (fun k=>k<=s.length) (fun k=>s.length- k) 0 (Nat.zero_le _) ?_ ?_;·refine aH (sl:=[(6,Ob.row 47 2 0 fun(k:Nat)=>[V.i (Prod.fst (b9 c (gp s k))),V.i (Prod.snd (b9 c (gp s k)))])]) [(6,600006)] (.cons kR (.cons kR (.cons kR (.cons kR .nil)))) (.cons oS .nil) kR kR
 intro k hk;refine sK fun K hK=>yS aj 2 4 [] ?_;refine ax (t:=decide ((↑k:Int)< (↑(List.length s):Int))) kR (fun c3=> ?_) (fun c3=> ?_);·simp at c3;have hsk:=Hz.1 (l2 k c3);refine aq ?_;refine ai (hK _ ?_);clear hK K;refine sK fun K hK=> ?_;refine az ?_;refine wD 3 ?_;refine aY aj 6 [(4,.c ((0:Int)<=(↑k:Int)/\(↑k:Int)< (↑(List.length s):Int)) oM)] ?_;refine eC (Ka c (gp s k) c1 oM) ?_;refine aX aj 3 [(1,.r (PR.mk (some (30:Nat)) (some (k+1<=(1099511627776:Nat))) (V.own 200030) [((6:Nat),none),((200030:Nat),some (Ob.row 47 2 (k+1) (aF k (fun(k:Nat)=>[V.i (Prod.fst (b9 c (gp s k))),V.i (Prod.snd (b9 c (gp s k)))]) fun(i:Nat)=>List.take (2:Nat) (List.drop (i*2) [V.i (Prod.fst (b9 c (gp s k))),V.i (Prod.snd (b9 c (gp s k)))]))))] false))] ⟨oM,tI⟩ (aa ⟨kR,(cn (ai (hK _ ?_)))⟩);clear hK K;refine wR 4 ?_;refine aY aj 3 [(1,.c (iR ((↑k:Int)+1)) oM)] ?_;refine aa (ai ?_);refine⟨k+1,by omega,?_,by omega⟩;refine aH (tl:=[(2,V.ptr [V.i (Cut.half c),V.i (Cut.gain c),V.i (Cut.thin c),V.i (Cut.wide c),V.i (Cut.slope c),V.i (Cut.jerk c),V.i (Cut.sty c)]),(1,V.sl 2 (List.length s) fun(k:Nat)=>[V.i (Prod.fst (gp s k)),V.i (Prod.snd (gp s k))]),(6,V.own 6),(7,V.i (↑(k+1):Int))]) (sl:=[(6,Ob.row 47 2 (k+1) fun(k:Nat)=>[V.i (Prod.fst (b9 c (gp s k))),V.i (Prod.snd (b9 c (gp s k)))])]) [(6,200030)] (.cons kR (.cons kR (.cons kR (.cons kR .nil)))) (.cons ⟨Ob.row 47 2 (k+1) (aF k (fun(k:Nat)=>[V.i (Prod.fst (b9 c (gp s k))),V.i (Prod.snd (b9 c (gp s k)))]) fun(i:Nat)=>List.take (2:Nat) (List.drop (i*2) [V.i (Prod.fst (b9 c (gp s k))),V.i (Prod.snd (b9 c (gp s k)))])),kR,.row kR ?_⟩ .nil) kR kR;exact Fb rfl rfl rfl
 ·simp at c3;obtain rfl:k=s.length:=by omega
  refine bN ?_;refine cO ?_;refine cO ?_;refine cg ?_;refine ai ?_;clear hK K;refine hK _ ?_;clear hK K;refine yS aj 3 3 [] ?_;refine av ?_;rw [LI c1 c2];refine jt (v7 4 6 (e:=(47:Nat)) (sz:=(2:Nat)) (n:=List.length s) (n':=(s.map (b9 c)).length) (row:=fun(k:Nat)=>[V.i (Prod.fst (b9 c (gp s k))),V.i (Prod.snd (b9 c (gp s k)))]) (row':=(fun j=>[.i (gp (s.map (b9 c)) j).1,.i (gp (s.map (b9 c)) j).2])) kR kR (fun _ _=>rfl) ?_ ?_) ?_;·simp
  ·intro i hi;rw [Gb hi]
  refine rP (V.tup [V.sl 2 (List.length (List.map (b9 c) s)) fun(j:Nat)=>[V.i (Prod.fst (gp (List.map (b9 c) s) j)),V.i (Prod.snd (gp (List.map (b9 c) s) j))],V.i 0])
def Ed(p:Pt):Prop:=(-4194304<=p.1/\p.1<=4194304)/\ -4194304<=p.2/\p.2<=4194304
def Qn:Option Pt->Prop
 |none=>True
 |some p=>Ed p
theorem Qn.some{p:Pt}(h:Qn (some p)):Ed p:=h
theorem cw.int{a b:Int}(h:a=b):cw (V.i a) (V.i b):=by subst h;exact cw.refl _
structure EC(p:Int->Bool)(M F:Int):Prop where
 b:0<=F/\F<=M
 lo:∀n,0<=n->n< F->p n=false
 hi:∀n,F<=n->n< M->p n=true
theorem EC.eq{p:Int->Bool}{M F G:Int}(h:EC p M F)(k:EC p M G):F=G:=by
 rcases Int.lt_trichotomy F G with hl |hl |hl;·have a:=h.hi F (Int.le_refl _) (by have:=k.b;omega);have b:=k.lo F h.b.1 hl;rw [a]at b;cases b
 ·exact hl
 ·have a:=k.hi G (Int.le_refl _) (by have:=h.b;omega);have b:=h.lo G k.b.1 hl;rw [a]at b;cases b
end Go.Proofs.YtjmbpjlojjgggaaGreatDoor
