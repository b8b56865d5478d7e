/-
  Several texts in one: Plating shops of many plates: the objects behind an act. Conditions: told in each theorem. .. TopStruck in plain Lean: a lacquer for each groove, and its father. Conditions: told in each theorem.
-/
import Derived.Test.YtjmbpjlojjgggaaGreatDoorX07
import Derived.Test.YtjmbpjlojjgggaaGreatDoorAbs42
import Derived.Test.YtjmbpjlojjgggaaGreatDoorX00
import Derived.Test.YtjmbpjlojjgggaaGreatDoorX02
set_option maxRecDepth 100000
namespace Go.Proofs.YtjmbpjlojjgggaaGreatDoor
open Go.Ab Go.RowKit Go.Dw Go.Shelf
def l7(S S':Sh)(nx:Nat)(δ:List (Nat×Option Ob)):Prop:=∀σ,dU S fX σ->∃(N:Nm) (h:Nat->Nat),dU S' N (bu σ δ)/\Ju S'.n N h/\(∀id,500<=id->id< 1000->h id=id\/(nx*100000<=h id/\h id< (nx+1)*100000))/\ ∀id,(id< 500\/1000<=id)->¬(nx*100000<=id/\id< (nx+1)*100000)->bu σ δ id=σ id
theorem Ku{n:Nat}:Ju n fX id:=⟨fun _ _ _ _ _ _ h=>h,rfl,rfl,rfl,rfl,rfl,fun _ _=>rfl,fun _ _=>rfl⟩
theorem tv{S:Sh}{nx:Nat}{δ:List (Nat×Option Ob)}(h:∀σ,dU S fX σ->∀p∈δ,σ p.1=p.2):l7 S S nx δ:=fun σ hF=>by rw [oX δ σ (h σ hF)];exact⟨fX,id,hF,Ku,fun id _ _=> .inl rfl,fun _ _ _=>rfl⟩
theorem El{S S':Sh}{nx c0 c1 c2 c3 d k:Nat}(hn:S.n<=200)(hd:d< 1000)(hnx:1<=nx)(h0:c0=nx*100000+d)(h1:c1=nx*100000+1000+d)(h2:c2=nx*100000+2000+d)(h3:c3=nx*100000+3000+d) (er:S'.r=S.r) (en:S'.n=S.n+1) (em:S'.m=S.m) (eq:S'.q=S.q) (eg:S'.g=S.g) (hk:k< S.n) (ep:∀i,i< S.n->i≠k->S'.pl i=S.pl i) : l7 S S' nx [(500,some (.box 123 (dM S.r (.own c0) (.own 502) (.own 503) (.own c3)))),(501,none),(502,some (iE S')),(503,some (eH S)),(504,none),(505+2*k,some (.box 134 ((S'.pl k).c++[.own (506+2*k)]))),(506+2*k,some (jv S' k)),(c0,some (.row 131 1 (S.n+1) fun i=>[.ref (if i< S.n then 505+2*i else c1) 0])),(c1,some (.box 134 ((S'.pl S.n).c++[.own c2]))),(c2,some (jv S' S.n)),(c3,some (mT S'))]:=by
 intro σ hF;refine⟨⟨c0,502,503,c3,fun i=>if i< S.n then 505+2*i else c1,fun i=>if i< S.n then 506+2*i else c2⟩,fun id=>if id=501 then c0 else if id=504 then c3 else if id=505+2*S.n then c1 else if id=506+2*S.n then c2 else id,⟨?_,?_,?_,?_,?_,?_,?_⟩,⟨?_,?_,?_,?_,?_,?_,?_,?_⟩,?_,?_⟩;all_goals try simp only [bu]
 ·rw [aa _ _ oM,aa _ _ oM,aa _ _ oM,aa _ _ oM,aa _ _ oM,aa _ _ oM,aa _ _ oM,aa _ _ oM,aa _ _ oM,aa _ _ oM,ai];rw [je,er]
 ·rw [aa _ _ oM,aa _ _ oM,aa _ _ oM,ai,zE,en]
 ·rw [aa _ _ oM,aa _ _ oM,aa _ _ oM,aa _ _ oM,aa _ _ oM,aa _ _ oM,aa _ _ oM,aa _ _ oM,ai]
 ·rw [aa _ _ oM,aa _ _ oM,aa _ _ oM,aa _ _ oM,aa _ _ oM,aa _ _ oM,aa _ _ oM,ai,eH,eH,eq,eg]
 ·rw [ai]
 ·intro i hi;rw [en]at hi;by_cases hin:i< S.n
  ·simp only [xZ,if_pos hin];by_cases hik:i=k;·subst hik;rw [aa _ _ oM,aa _ _ oM,aa _ _ oM,aa _ _ oM,aa _ _ oM,ai]
   ·rw [aa _ _ oM,aa _ _ oM,aa _ _ oM,aa _ _ oM,aa _ _ oM,aa _ _ oM,aa _ _ oM,aa _ _ oM,aa _ _ oM,aa _ _ oM,aa _ _ oM,ep i hin hik];exact hF.pl i hin
  ·have hin':i=S.n:=by omega
   subst hin';simp only [xZ,if_neg hin];rw [aa _ _ oM,aa _ _ oM,ai]
 ·intro i hi;rw [en]at hi;by_cases hin:i< S.n
  ·simp only [if_pos hin];by_cases hik:i=k;·subst hik;rw [aa _ _ oM,aa _ _ oM,aa _ _ oM,aa _ _ oM,ai]
   ·rw [aa _ _ oM,aa _ _ oM,aa _ _ oM,aa _ _ oM,aa _ _ oM,aa _ _ oM,aa _ _ oM,aa _ _ oM,aa _ _ oM,aa _ _ oM,aa _ _ oM,jv,ep i hin hik];exact hF.mp i hin
  ·have hin':i=S.n:=by omega
   subst hin';simp only [if_neg hin];rw [aa _ _ oM,ai]
 ·intro i j hi hi2 hj hj2 he;rw [en]at hi2 hj2;split at he <;> split at he <;> (try omega) <;> (repeat' split at he) <;> omega
 ·rw [if_neg (by decide),if_neg (by decide),if_neg oM,if_neg oM]
 ·rfl
 ·rw [if_neg (by decide),if_neg (by decide),if_neg oM,if_neg oM]
 ·rw [if_neg (by decide),if_neg (by decide),if_neg oM,if_neg oM]
 ·rfl
 ·intro i hi;rw [en]at hi;by_cases hin:i< S.n;·rw [if_neg oM,if_neg oM,if_neg oM,if_neg oM,if_pos hin]
  ·rw [if_neg oM,if_neg oM,if_pos oM,if_neg hin]
 ·intro i hi;rw [en]at hi;by_cases hin:i< S.n;·rw [if_neg oM,if_neg oM,if_neg oM,if_neg oM,if_pos hin]
  ·rw [if_neg oM,if_neg oM,if_neg oM,if_pos oM,if_neg hin]
 ·intro id _ _;repeat' split
  all_goals omega
 ·intro id hid hx;rw [aa _ _ oM,aa _ _ oM,aa _ _ oM,aa _ _ oM,aa _ _ oM,aa _ _ oM,aa _ _ oM,aa _ _ oM,aa _ _ oM,aa _ _ oM,aa _ _ oM]
theorem Cc{S S':Sh}{nx c0 c1 c2 c3 d:Nat}(hn:S.n<=200)(hd:d< 1000)(hnx:1<=nx)(h0:c0=nx*100000+d)(h1:c1=nx*100000+1000+d)(h2:c2=nx*100000+2000+d)(h3:c3=nx*100000+3000+d) (er:S'.r=S.r) (en:S'.n=S.n+1) (em:S'.m=S.m) (eq:S'.q=S.q) (eg:S'.g=S.g) (ep:∀i,i< S.n->S'.pl i=S.pl i) : l7 S S' nx [(500,some (.box 123 (dM S.r (.own c0) (.own 502) (.own 503) (.own c3)))),(501,none),(502,some (iE S')),(503,some (eH S)),(504,none),(c0,some (.row 131 1 (S.n+1) fun i=>[.ref (if i< S.n then 505+2*i else c1) 0])),(c1,some (.box 134 ((S'.pl S.n).c++[.own c2]))),(c2,some (jv S' S.n)),(c3,some (mT S'))]:=by
 intro σ hF;refine⟨⟨c0,502,503,c3,fun i=>if i< S.n then 505+2*i else c1,fun i=>if i< S.n then 506+2*i else c2⟩,fun id=>if id=501 then c0 else if id=504 then c3 else if id=505+2*S.n then c1 else if id=506+2*S.n then c2 else id,⟨?_,?_,?_,?_,?_,?_,?_⟩,⟨?_,?_,?_,?_,?_,?_,?_,?_⟩,?_,?_⟩;all_goals try simp only [bu]
 ·rw [aa _ _ oM,aa _ _ oM,aa _ _ oM,aa _ _ oM,aa _ _ oM,aa _ _ oM,aa _ _ oM,aa _ _ oM,ai];rw [je,er]
 ·rw [aa _ _ oM,aa _ _ oM,aa _ _ oM,ai,zE,en]
 ·rw [aa _ _ oM,aa _ _ oM,aa _ _ oM,aa _ _ oM,aa _ _ oM,aa _ _ oM,ai]
 ·rw [aa _ _ oM,aa _ _ oM,aa _ _ oM,aa _ _ oM,aa _ _ oM,ai,eH,eH,eq,eg]
 ·rw [ai]
 ·intro i hi;rw [en]at hi;by_cases hin:i< S.n;·simp only [xZ,if_pos hin];rw [aa _ _ oM,aa _ _ oM,aa _ _ oM,aa _ _ oM,aa _ _ oM,aa _ _ oM,aa _ _ oM,aa _ _ oM,aa _ _ oM,ep i hin];exact hF.pl i hin
  ·have hin':i=S.n:=by omega
   subst hin';simp only [xZ,if_neg hin];rw [aa _ _ oM,aa _ _ oM,ai]
 ·intro i hi;rw [en]at hi;by_cases hin:i< S.n;·simp only [if_pos hin];rw [aa _ _ oM,aa _ _ oM,aa _ _ oM,aa _ _ oM,aa _ _ oM,aa _ _ oM,aa _ _ oM,aa _ _ oM,aa _ _ oM,jv,ep i hin];exact hF.mp i hin
  ·have hin':i=S.n:=by omega
   subst hin';simp only [if_neg hin];rw [aa _ _ oM,ai]
 ·intro i j hi hi2 hj hj2 he;rw [en]at hi2 hj2;split at he <;> split at he <;> (try omega) <;> (repeat' split at he) <;> omega
 ·rw [if_neg (by decide),if_neg (by decide),if_neg oM,if_neg oM]
 ·rfl
 ·rw [if_neg (by decide),if_neg (by decide),if_neg oM,if_neg oM]
 ·rw [if_neg (by decide),if_neg (by decide),if_neg oM,if_neg oM]
 ·rfl
 ·intro i hi;rw [en]at hi;by_cases hin:i< S.n;·rw [if_neg oM,if_neg oM,if_neg oM,if_neg oM,if_pos hin]
  ·rw [if_neg oM,if_neg oM,if_pos oM,if_neg hin]
 ·intro i hi;rw [en]at hi;by_cases hin:i< S.n;·rw [if_neg oM,if_neg oM,if_neg oM,if_neg oM,if_pos hin]
  ·rw [if_neg oM,if_neg oM,if_neg oM,if_pos oM,if_neg hin]
 ·intro id _ _;repeat' split
  all_goals omega
 ·intro id hid hx;rw [aa _ _ oM,aa _ _ oM,aa _ _ oM,aa _ _ oM,aa _ _ oM,aa _ _ oM,aa _ _ oM,aa _ _ oM,aa _ _ oM]
theorem Cd{S S':Sh}{nx c0 c1 d:Nat}(hn:S.n<=200)(hd:d< 1000)(hnx:1<=nx)(h0:c0=nx*100000+d)(h1:c1=nx*100000+1000+d) (er:S'.r=S.r) (en:S'.n=S.n) (eq:S'.q=S.q) (eg:S'.g=S.g) (ep:∀i,i< S.n->S'.pl i=S.pl i) : l7 S S' nx [(500,some (.box 123 (dM S.r (.own 501) (.own c0) (.own 503) (.own c1)))),(501,some (.row 131 1 S.n fun i=>[.ref (505+2*i) 0])),(502,none),(503,some (eH S)),(504,none),(c0,some (iE S')),(c1,some (mT S'))]:=by
 intro σ hF;refine⟨⟨501,c0,503,c1,fun i=>505+2*i,fun i=>506+2*i⟩,fun id=>if id=502 then c0 else if id=504 then c1 else id,⟨?_,?_,?_,?_,?_,?_,?_⟩,⟨?_,?_,?_,?_,?_,?_,?_,?_⟩,?_,?_⟩;all_goals try simp only [bu]
 ·rw [aa _ _ oM,aa _ _ oM,aa _ _ oM,aa _ _ oM,aa _ _ oM,aa _ _ oM,ai];rw [je,er]
 ·rw [aa _ _ oM,aa _ _ oM,aa _ _ oM,aa _ _ oM,aa _ _ oM,ai,zE,en]
 ·rw [aa _ _ oM,ai]
 ·rw [aa _ _ oM,aa _ _ oM,aa _ _ oM,ai,eH,eH,eq,eg]
 ·rw [ai]
 ·intro i hi;rw [en]at hi;simp only [xZ];rw [aa _ _ oM,aa _ _ oM,aa _ _ oM,aa _ _ oM,aa _ _ oM,aa _ _ oM,aa _ _ oM,ep i hi];exact hF.pl i hi
 ·intro i hi;rw [en]at hi;rw [aa _ _ oM,aa _ _ oM,aa _ _ oM,aa _ _ oM,aa _ _ oM,aa _ _ oM,aa _ _ oM,jv,ep i hi];exact hF.mp i hi
 ·intro i j hi hi2 hj hj2 he;rw [en]at hi2 hj2;(repeat' split at he) <;> omega
 ·rw [if_neg (by decide),if_neg (by decide)]
 ·rw [if_neg (by decide),if_neg (by decide)]
 ·rfl
 ·rw [if_neg (by decide),if_neg (by decide)]
 ·rfl
 ·intro i hi;rw [en]at hi;rw [if_neg oM,if_neg oM]
 ·intro i hi;rw [en]at hi;rw [if_neg oM,if_neg oM]
 ·intro id _ _;repeat' split
  all_goals omega
 ·intro id hid hx;rw [aa _ _ oM,aa _ _ oM,aa _ _ oM,aa _ _ oM,aa _ _ oM,aa _ _ oM,aa _ _ oM]
section
variable {P:Program}{W LB:Nat->Prop}{d:Nat}{ty:TypeId}{pos:String}{af:Array Edge}{ev:Operand->V}{fo:Operand}{ar:Array Operand}{ats:Array TypeId}{nx:Nat}{S S':Sh}{a:Act}{f:FuncId}{v:V}
def x7(P:Program)(W LB:Nat->Prop)(o:Oper)(ev:Operand->V)(nx d:Nat)(S S':Sh)(v:V):Prop:= ∃pre nw δ,aQ P W LB o ev v pre nw δ/\jx nx (some d) nw/\(∀σ,dU S fX σ->∀p∈pre,σ p.1=some p.2)/\l7 S S' nx δ
theorem yN:an nx (some d) 0=nx*100000+d:=by simp [an]
theorem yO:an nx (some d) 1=nx*100000+1000+d:=by simp [an]
theorem Eh:an nx (some d) 2=nx*100000+2000+d:=by simp [an]
theorem Ei:an nx (some d) 3=nx*100000+3000+d:=by simp [an]
theorem fB{n:Nat}(hd:d< 1000)(hn:n<=90):jx nx (some d) ((List.range n).map (an nx (some d))):=by
 intro id hid;obtain⟨j,hj,rfl⟩:=List.mem_map.1 hid;have hj:j< n:=by simpa using hj
 refine⟨d,rfl,?_⟩;show nx*100000<=an nx (some d) j/\an nx (some d) j< (nx+1)*100000/\an nx (some d) j% 1000=d;unfold an;simp only [Option.getD_some];omega
theorem vg(hk:∀p∈((501,.row 131 1 S.n fun i=>[.ref (505+2*i) 0])::zw S:List (Nat×Ob)),True):∀σ,dU S fX σ->∀p∈((501,.row 131 1 S.n fun i=>[.ref (505+2*i) 0])::zw S:List (Nat×Ob)),σ p.1=some p.2:=by
 intro σ hF p hp;simp at hp;rcases hp with h |h |h |h |h <;> subst h
 ·exact hF.p
 ·exact hF.s
 ·exact hF.t
 ·exact hF.f
 ·exact hF.a
theorem AP{k:Nat}(hk:k< S.n):∀σ,dU S fX σ->∀p∈((501,.row 131 1 S.n fun i=>[.ref (505+2*i) 0])::(zw S++[(505+2*k,xZ S fX k),(506+2*k,jv S k)]):List (Nat×Ob)),σ p.1=some p.2:=by
 intro σ hF p hp;simp at hp;rcases hp with h |h |h |h |h |h |h <;> subst h
 ·exact hF.p
 ·exact hF.s
 ·exact hF.t
 ·exact hF.f
 ·exact hF.a
 ·exact hF.pl k hk
 ·exact hF.mp k hk
theorem oR(x:Nat->Value)(i:Nat):fW (fun i=>505+2*i) x i (C3 x i):= .c
theorem vu(k:Nat)(x:Nat->Value)(i:Nat):fW (fun i=>505+2*i) x i (Gw k x i):= .alt (nm:=fun i=>505+2*i) k
theorem NB:∀p∈zw S,p.1≠501:=by intro p hp;simp at hp;rcases hp with h |h |h |h <;> subst h <;> simp
theorem Og{k:Nat}:∀p∈(zw S++[(505+2*k,xZ S fX k),(506+2*k,jv S k)]),p.1≠501:=by intro p hp;simp at hp;rcases hp with h |h |h |h |h |h <;> subst h <;> simp <;> omega
theorem yV(hwl:∀b,W b->LB b)(hc:∀x,AM P f [.ref 500 0,a.v] (fA S.r S.n (cw x) S.m S.tk S.q (bZ S.g) S.l) v ((fA S.r S.n (cw x) S.m S.tk S.q (bZ S.g) S.l).map some) [])(hv:v.bM=true) (hf:ev fo= .fn (.func f) [] []) (hargs:ar.toList.map ev=[.ref 500 0,a.v]) (hd:d< 1000):x7 P W LB ⟨some d,.call {callee:= .value fo,args:=ar,argTypes:=ats},ty,pos,af,none⟩ ev nx d S S v:=by
 refine⟨_,_,[(500,some (je S fX)),(501,some (.row 131 1 S.n fun i=>[.ref (505+2*i) 0])),(502,some (iE S)),(503,some (eH S)),(504,some (mT S))],
  aQ.const (nm:=fun i=>505+2*i) (rx:=C3) (δ:=fun x=>[(500,some (je S fX)),(501,some (.row 131 1 S.n fun i=>[C3 x i])),(502,some (iE S)),(503,some (eH S)),(504,some (mT S))]) (fun x=>Ng hwl (hc x) hv hf hargs hd (by simp) rfl) NB (fun x i _=>oR x i) fun x=> .some _ (.refl _ _ _ _) (.some _ (.xM (fun i _=>oR x i) fun i _=> .ref (nm:=fun i=>505+2*i)) (.some _ (.refl _ _ _ _) (.some _ (.refl _ _ _ _) (.some _ (.refl _ _ _ _) .nil)))),
  fB hd (by simp),vg fun _ _=>trivial,tv fun σ hF p hp=> ?_⟩
 simp at hp;rcases hp with h |h |h |h |h <;> subst h
 ·exact hF.s
 ·exact hF.p
 ·exact hF.t
 ·exact hF.f
 ·exact hF.a
theorem yW{k:Nat}(hk:k< S.n)(hwl:∀b,W b->LB b)(hc:∀x,AM P f [.ref 500 0,a.v] (kA S.r S.n k x S.m S.tk S.q (bZ S.g) S.l (S.pl k)) v ((kA S.r S.n k x S.m S.tk S.q (bZ S.g) S.l (S.pl k)).map some) [])(hv:v.bM=true) (hf:ev fo= .fn (.func f) [] []) (hargs:ar.toList.map ev=[.ref 500 0,a.v]) (hd:d< 1000):x7 P W LB ⟨some d,.call {callee:= .value fo,args:=ar,argTypes:=ats},ty,pos,af,none⟩ ev nx d S S v:=by
 refine⟨_,_,[(500,some (je S fX)),(501,some (.row 131 1 S.n fun i=>[.ref (505+2*i) 0])),(502,some (iE S)),(503,some (eH S)),(504,some (mT S)),(505+2*k,some (xZ S fX k)),(506+2*k,some (jv S k))],
  aQ.const (nm:=fun i=>505+2*i) (rx:=Gw k) (δ:=fun x=>[(500,some (je S fX)),(501,some (.row 131 1 S.n fun i=>[Gw k x i])),(502,some (iE S)),(503,some (eH S)),(504,some (mT S)),(505+2*k,some (xZ S fX k)),(506+2*k,some (jv S k))]) (fun x=>N8 hwl (hc x) hv hf hargs hd (by simp) rfl) Og (fun x i _=>vu k x i) fun x=> .some _ (.refl _ _ _ _) (.some _ (.xM (fun i _=>vu k x i) fun i _=> .ref (nm:=fun i=>505+2*i)) (.some _ (.refl _ _ _ _) (.some _ (.refl _ _ _ _) (.some _ (.refl _ _ _ _) (.some _ (.refl _ _ _ _) (.some _ (.refl _ _ _ _) .nil)))))),
  fB hd (by simp),AP hk,tv fun σ hF p hp=> ?_⟩
 simp at hp;rcases hp with h |h |h |h |h |h |h <;> subst h
 ·exact hF.s
 ·exact hF.p
 ·exact hF.t
 ·exact hF.f
 ·exact hF.a
 ·exact hF.pl k hk
 ·exact hF.mp k hk
theorem Cb{k:Nat}(hk:k< S.n){p z':Pl}{tk':Nat->aS}(hwl:∀b,W b->LB b)(hc:∀x,AM P f [.ref 500 0,a.v] (kA S.r S.n k x S.m S.tk S.q (bZ S.g) S.l (S.pl k)) v [some (.box 123 (dM S.r (.own 0) (.own 502) (.own 503) (.own 3))),none,some (.row 55 4 S.m (fun i=>(tk' i).c)),some (.row 149 2 S.q (bZ S.g)),none,some (.box 134 (z'.c++[V.own 506])),some (.mp (false,z'.cnt) (bE z'.fl))] [.row 131 1 (S.n+1) (pX 505 k S.n 1 x),.box 134 (p.c++[V.own 2]),.mp (false,p.cnt) (bE p.fl),(.row 40 13 (S.l+1) cE)])(hv:v.bM=true) (hf:ev fo= .fn (.func f) [] []) (hargs:ar.toList.map ev=[.ref 500 0,a.v]) (hd:d< 1000) (hnx:1<=nx) (hn:S.n<=200):x7 P W LB ⟨some d,.call {callee:= .value fo,args:=ar,argTypes:=ats},ty,pos,af,none⟩ ev nx d S {S with n:=S.n+1,pl:=dI (fD S.pl k z') S.n p,tk:=tk',l:=S.l+1} v:=by
 have hD:=El (S:=S) (S':={S with n:=S.n+1,pl:=dI (fD S.pl k z') S.n p,tk:=tk',l:=S.l+1}) (nx:=nx) (d:=d) (k:=k) hn hd hnx yN yO Eh Ei rfl rfl rfl rfl rfl hk (fun i hi hik=>by show dI _ _ _ i=_;rw [dI,if_pos hi,fD,if_neg hik]);have e1:dI (fD S.pl k z') S.n p k=z':=by rw [dI,if_pos hk,fD,if_pos rfl]
 have e2:dI (fD S.pl k z') S.n p S.n=p:=by rw [dI,if_neg (Nat.lt_irrefl _)]
 simp only [jv,e1,e2]at hD;have eδ:∀x:Nat->Value,gT (aM nx (some d) (HW k)) (HW k) ([some (.box 123 (dM S.r (.own 0) (.own 502) (.own 503) (.own 3))),none,some (.row 55 4 S.m (fun i=>(tk' i).c)),some (.row 149 2 S.q (bZ S.g)),none,some (.box 134 (z'.c++[V.own 506])),some (.mp (false,z'.cnt) (bE z'.fl))]:List (Option Ob))++bR (aM nx (some d) (HW k)) 0 ([.row 131 1 (S.n+1) (pX 505 k S.n 1 x),.box 134 (p.c++[V.own 2]),.mp (false,p.cnt) (bE p.fl),(.row 40 13 (S.l+1) cE)]:List Ob)=[(500,some (.box 123 (dM S.r (.own (an nx (some d) 0)) (.own 502) (.own 503) (.own (an nx (some d) 3))))),(501,none),(502,some (.row 55 4 S.m (fun i=>(tk' i).c))),(503,some (.row 149 2 S.q (bZ S.g))),(504,none),(505+2*k,some (.box 134 (z'.c++[V.own (506+2*k)]))),(506+2*k,some (.mp (false,z'.cnt) (bE z'.fl))),((an nx (some d) 0),some (.row 131 1 (S.n+1) fun i=>[.alt (decide (i< S.n)) (Gw k x i) (.ref (an nx (some d) 1) 0)])),((an nx (some d) 1),some (.box 134 (p.c++[V.own (an nx (some d) 2)]))),((an nx (some d) 2),some (.mp (false,p.cnt) (bE p.fl))),((an nx (some d) 3),some (.row 40 13 (S.l+1) cE))]:=fun x=>by kernel_rfl
 refine⟨_,_,[(500,some (.box 123 (dM S.r (.own (an nx (some d) 0)) (.own 502) (.own 503) (.own (an nx (some d) 3))))),(501,none),(502,some (.row 55 4 S.m (fun i=>(tk' i).c))),(503,some (.row 149 2 S.q (bZ S.g))),(504,none),(505+2*k,some (.box 134 (z'.c++[V.own (506+2*k)]))),(506+2*k,some (.mp (false,z'.cnt) (bE z'.fl))),((an nx (some d) 0),some (.row 131 1 (S.n+1) fun i=>[.ref (if i< S.n then 505+2*i else(an nx (some d) 1)) 0])),((an nx (some d) 1),some (.box 134 (p.c++[V.own (an nx (some d) 2)]))),((an nx (some d) 2),some (.mp (false,p.cnt) (bE p.fl))),((an nx (some d) 3),some (.row 40 13 (S.l+1) cE))],
  aQ.const (nm:=fun i=>505+2*i) (rx:=Gw k) (δ:=fun x=>[(500,some (.box 123 (dM S.r (.own (an nx (some d) 0)) (.own 502) (.own 503) (.own (an nx (some d) 3))))),(501,none),(502,some (.row 55 4 S.m (fun i=>(tk' i).c))),(503,some (.row 149 2 S.q (bZ S.g))),(504,none),(505+2*k,some (.box 134 (z'.c++[V.own (506+2*k)]))),(506+2*k,some (.mp (false,z'.cnt) (bE z'.fl))),((an nx (some d) 0),some (.row 131 1 (S.n+1) fun i=>[.alt (decide (i< S.n)) (Gw k x i) (.ref (an nx (some d) 1) 0)])),((an nx (some d) 1),some (.box 134 (p.c++[V.own (an nx (some d) 2)]))),((an nx (some d) 2),some (.mp (false,p.cnt) (bE p.fl))),((an nx (some d) 3),some (.row 40 13 (S.l+1) cE))]) (fun x=>by rw [<-eδ x];exact N8 hwl (hc x) hv hf hargs hd (by simp) rfl) Og (fun x i _=>vu k x i) fun x=>(.some _ (.refl _ _ _ _) (.none _ (.some _ (.refl _ _ _ _) (.some _ (.refl _ _ _ _) (.none _ (.some _ (.refl _ _ _ _) (.some _ (.refl _ _ _ _) (.some _ (.F9 (nm:=fun i=>505+2*i) (c:=Gw k x) fun i _=>vu k x i) (.some _ (.refl _ _ _ _) (.some _ (.refl _ _ _ _) (.some _ (.refl _ _ _ _) .nil))))))))))),
  fB hd (by simp),AP hk,hD⟩
theorem Ek{p:Pl}(hwl:∀b,W b->LB b)(hc:∀x,AM P f [.ref 500 0,a.v] (fA S.r S.n (cw x) S.m S.tk S.q (bZ S.g) S.l) v [some (.box 123 (dM S.r (.own 0) (.own 502) (.own 503) (.own 3))),none,some (.row 55 4 S.m (fun i=>(S.tk i).c)),some (.row 149 2 S.q (bZ S.g)),none] [.row 131 1 (S.n+1) (zG S.n 1 x),.box 134 (p.c++[V.own 2]),.mp (false,p.cnt) (bE p.fl),(.row 40 13 (S.l+1) cE)])(hv:v.bM=true) (hf:ev fo= .fn (.func f) [] []) (hargs:ar.toList.map ev=[.ref 500 0,a.v]) (hd:d< 1000) (hnx:1<=nx) (hn:S.n<=200):x7 P W LB ⟨some d,.call {callee:= .value fo,args:=ar,argTypes:=ats},ty,pos,af,none⟩ ev nx d S {S with n:=S.n+1,pl:=dI S.pl S.n p,l:=S.l+1} v:=by
 have hD:=Cc (S:=S) (S':={S with n:=S.n+1,pl:=dI S.pl S.n p,l:=S.l+1}) (nx:=nx) (d:=d) hn hd hnx yN yO Eh Ei rfl rfl rfl rfl rfl (fun i hi=>by show dI _ _ _ i=_;rw [dI,if_pos hi]);have e2:dI S.pl S.n p S.n=p:=by rw [dI,if_neg (Nat.lt_irrefl _)]
 simp only [jv,e2]at hD;have eδ:∀x:Nat->Value,gT (aM nx (some d) Dj) Dj ([some (.box 123 (dM S.r (.own 0) (.own 502) (.own 503) (.own 3))),none,some (.row 55 4 S.m (fun i=>(S.tk i).c)),some (.row 149 2 S.q (bZ S.g)),none]:List (Option Ob))++bR (aM nx (some d) Dj) 0 ([.row 131 1 (S.n+1) (zG S.n 1 x),.box 134 (p.c++[V.own 2]),.mp (false,p.cnt) (bE p.fl),(.row 40 13 (S.l+1) cE)]:List Ob)=[(500,some (.box 123 (dM S.r (.own (an nx (some d) 0)) (.own 502) (.own 503) (.own (an nx (some d) 3))))),(501,none),(502,some (.row 55 4 S.m (fun i=>(S.tk i).c))),(503,some (.row 149 2 S.q (bZ S.g))),(504,none),((an nx (some d) 0),some (.row 131 1 (S.n+1) fun i=>[.alt (decide (i< S.n)) (C3 x i) (.ref (an nx (some d) 1) 0)])),((an nx (some d) 1),some (.box 134 (p.c++[V.own (an nx (some d) 2)]))),((an nx (some d) 2),some (.mp (false,p.cnt) (bE p.fl))),((an nx (some d) 3),some (.row 40 13 (S.l+1) cE))]:=fun x=>by kernel_rfl
 refine⟨_,_,[(500,some (.box 123 (dM S.r (.own (an nx (some d) 0)) (.own 502) (.own 503) (.own (an nx (some d) 3))))),(501,none),(502,some (.row 55 4 S.m (fun i=>(S.tk i).c))),(503,some (.row 149 2 S.q (bZ S.g))),(504,none),((an nx (some d) 0),some (.row 131 1 (S.n+1) fun i=>[.ref (if i< S.n then 505+2*i else(an nx (some d) 1)) 0])),((an nx (some d) 1),some (.box 134 (p.c++[V.own (an nx (some d) 2)]))),((an nx (some d) 2),some (.mp (false,p.cnt) (bE p.fl))),((an nx (some d) 3),some (.row 40 13 (S.l+1) cE))],
  aQ.const (nm:=fun i=>505+2*i) (rx:=C3) (δ:=fun x=>[(500,some (.box 123 (dM S.r (.own (an nx (some d) 0)) (.own 502) (.own 503) (.own (an nx (some d) 3))))),(501,none),(502,some (.row 55 4 S.m (fun i=>(S.tk i).c))),(503,some (.row 149 2 S.q (bZ S.g))),(504,none),((an nx (some d) 0),some (.row 131 1 (S.n+1) fun i=>[.alt (decide (i< S.n)) (C3 x i) (.ref (an nx (some d) 1) 0)])),((an nx (some d) 1),some (.box 134 (p.c++[V.own (an nx (some d) 2)]))),((an nx (some d) 2),some (.mp (false,p.cnt) (bE p.fl))),((an nx (some d) 3),some (.row 40 13 (S.l+1) cE))]) (fun x=>by rw [<-eδ x];exact Ng hwl (hc x) hv hf hargs hd (by simp) rfl) NB (fun x i _=>oR x i) fun x=>(.some _ (.refl _ _ _ _) (.none _ (.some _ (.refl _ _ _ _) (.some _ (.refl _ _ _ _) (.none _ (.some _ (.F9 (nm:=fun i=>505+2*i) (c:=C3 x) fun i _=>oR x i) (.some _ (.refl _ _ _ _) (.some _ (.refl _ _ _ _) (.some _ (.refl _ _ _ _) .nil))))))))),
  fB hd (by simp),vg fun _ _=>trivial,hD⟩
theorem Ca{tk':Nat->aS}(hwl:∀b,W b->LB b)(hc:∀x,AM P f [.ref 500 0,a.v] (fA S.r S.n (cw x) S.m S.tk S.q (bZ S.g) S.l) v [some (.box 123 (dM S.r (.own 501) (.own 0) (.own 503) (.own 1))),some (.row 131 1 S.n (cw x)),none,some (.row 149 2 S.q (bZ S.g)),none] [.row 55 4 (S.m+1) (fun i=>(tk' i).c),(.row 40 13 (S.l+1) cE)])(hv:v.bM=true) (hf:ev fo= .fn (.func f) [] []) (hargs:ar.toList.map ev=[.ref 500 0,a.v]) (hd:d< 1000) (hnx:1<=nx) (hn:S.n<=200):x7 P W LB ⟨some d,.call {callee:= .value fo,args:=ar,argTypes:=ats},ty,pos,af,none⟩ ev nx d S {S with m:=S.m+1,tk:=tk',l:=S.l+1} v:=by
 have hD:=Cd (S:=S) (S':={S with m:=S.m+1,tk:=tk',l:=S.l+1}) (nx:=nx) (d:=d) hn hd hnx yN yO rfl rfl rfl rfl (fun i hi=>rfl);have eδ:∀x:Nat->Value,gT (aM nx (some d) Dj) Dj ([some (.box 123 (dM S.r (.own 501) (.own 0) (.own 503) (.own 1))),some (.row 131 1 S.n (cw x)),none,some (.row 149 2 S.q (bZ S.g)),none]:List (Option Ob))++bR (aM nx (some d) Dj) 0 ([.row 55 4 (S.m+1) (fun i=>(tk' i).c),(.row 40 13 (S.l+1) cE)]:List Ob)=[(500,some (.box 123 (dM S.r (.own 501) (.own (an nx (some d) 0)) (.own 503) (.own (an nx (some d) 1))))),(501,some (.row 131 1 S.n fun i=>[C3 x i])),(502,none),(503,some (.row 149 2 S.q (bZ S.g))),(504,none),((an nx (some d) 0),some (.row 55 4 (S.m+1) (fun i=>(tk' i).c))),((an nx (some d) 1),some (.row 40 13 (S.l+1) cE))]:=fun x=>by kernel_rfl
 refine⟨_,_,[(500,some (.box 123 (dM S.r (.own 501) (.own (an nx (some d) 0)) (.own 503) (.own (an nx (some d) 1))))),(501,some (.row 131 1 S.n fun i=>[.ref (505+2*i) 0])),(502,none),(503,some (.row 149 2 S.q (bZ S.g))),(504,none),((an nx (some d) 0),some (.row 55 4 (S.m+1) (fun i=>(tk' i).c))),((an nx (some d) 1),some (.row 40 13 (S.l+1) cE))],
  aQ.const (nm:=fun i=>505+2*i) (rx:=C3) (δ:=fun x=>[(500,some (.box 123 (dM S.r (.own 501) (.own (an nx (some d) 0)) (.own 503) (.own (an nx (some d) 1))))),(501,some (.row 131 1 S.n fun i=>[C3 x i])),(502,none),(503,some (.row 149 2 S.q (bZ S.g))),(504,none),((an nx (some d) 0),some (.row 55 4 (S.m+1) (fun i=>(tk' i).c))),((an nx (some d) 1),some (.row 40 13 (S.l+1) cE))]) (fun x=>by rw [<-eδ x];exact Ng hwl (hc x) hv hf hargs hd (by simp) rfl) NB (fun x i _=>oR x i) fun x=>(.some _ (.refl _ _ _ _) (.some _ (.xM (fun i _=>oR x i) fun i _=> .ref (nm:=fun i=>505+2*i)) (.none _ (.some _ (.refl _ _ _ _) (.none _ (.some _ (.refl _ _ _ _) (.some _ (.refl _ _ _ _) .nil))))))),
  fB hd (by simp),vg fun _ _=>trivial,hD⟩
end
theorem Dz{kind cut area stock yield plate bath s0 s1 cur sec place flaw:Int}(hk:kind=3)(h:b8 ⟨kind,cut,area,stock,yield,plate,bath,s0,s1,cur,sec,place,flaw⟩=true):Act.Gt ⟨kind,cut,area,stock,yield,plate,bath,s0,s1,cur,sec,place,flaw⟩:=by subst hk;simp [b8,cP]at h;exact⟨by simp;omega,by simp;omega,by simp;omega,by simp;omega⟩
theorem uQ{r:Rc}{n:Nat}{z:Pl}{a:Act}(hz:z.ok)(h:cq r n z a=0):z.kind<=2/\z.ret=false/\z.grown< r.max z.kind:=by
 unfold cq at h;by_cases h1:z.ret=true;·rw [if_pos h1]at h;cases h
 rw [if_neg h1]at h;by_cases h2:dw r z=0\/256<=n;·rw [if_pos h2]at h;cases h
 have h3:dw r z≠0:=fun e=>h2 (.inl e);rw [dw,if_neg h1]at h3;have h4:z.grown< r.max z.kind:=by omega
 refine⟨?_,by simpa using h1,h4⟩;have:=hz.kind;have hg:=hz.grown;by_cases h5:z.kind=3;·rw [h5]at h4;simp [Rc.max]at h4;omega
 ·omega
section
variable {W LB:Nat->Prop}{d:Nat}{ty:TypeId}{pos:String}{af:Array Edge}{ev:Operand->V}{fo:Operand}{ar:Array Operand}{ats:Array TypeId}{nx:Nat}{S:Sh}
end
def oA(r:Rc):Sh:=⟨r,0,fun _=>⟨0,0,0,0,0,0,false,0,fun _=>false⟩,0,fun _=>⟨0,0,0,0⟩,0,fun _=>(0,0),0⟩
theorem u9{r:Rc}(h:r.ok):(oA r).ok:=⟨h,Nat.le_refl _,fun i hi=>absurd hi (Nat.not_lt_zero _),Nat.zero_le _,fun i hi=>absurd hi (Nat.not_lt_zero _),Nat.le_refl _⟩
theorem DA{a:Act}(h:b8 a=true)(hk:a.kind=1):1<=a.area/\a.area<=1048576:=by rw [b8,if_pos hk]at h;simp [cP]at h;omega
theorem DB{a:Act}(h:b8 a=true)(hk:a.kind=2):(0<=a.stock/\a.stock<=1099511627776)/\1<=a.yield/\a.yield<=1000:=by rw [b8,if_neg oM,if_pos hk]at h;simp [cP]at h;omega
theorem Rc.max_le{r:Rc}(h:r.ok)(k:Nat):r.max k<=16:=by
 have h1:=h.mo;have h2:=h.st
 match k with
 |0=>simp [Rc.max]
 |1=>simp [Rc.max];omega
 |2=>simp [Rc.max];omega
 |k+3=>simp [Rc.max]
theorem qq{S:Sh}(h:S.ok)(a:Act):(aN S a).1.ok:=by
 unfold aN;by_cases hv:b8 a=false;·rw [if_pos hv];exact h
 rw [if_neg hv];have hv:b8 a=true:=by simpa using hv
 have tk1:∀i,i< S.m->(S.tk i).ok/\0<=(S.tk i).charge/\(S.tk i).charge<=2199023255552*((S.l+1:Nat):Int):=fun i hi=>by obtain⟨h1,h2,h3⟩:=h.tk i hi;exact⟨h1,h2,by omega⟩
 have hn:=h.n;have hq:=h.q;have hset:∀(k:Nat) (z:Pl),z.ok->∀i,i< S.n->(fD S.pl k z i).ok:=fun k z hz i hi=>by
  unfold fD;split;·exact hz
  ·exact h.pl i hi
 by_cases k1:a.kind=1
 ·rw [if_pos k1];refine⟨h.r,by show S.n+1<=S.l+1;omega,fun i hi=> ?_,h.m,tk1,by show S.q<=S.l+1;omega⟩;show(dI S.pl S.n (ot a) i).ok;unfold dI;split;·rename_i hi';exact h.pl i hi'
  ·exact⟨by simp [ot],DA hv k1,by simp [ot]⟩
 rw [if_neg k1];by_cases k2:a.kind=2
 ·rw [if_pos k2];by_cases c:S.m< 8
  ·rw [if_pos c];obtain⟨b1,b2⟩:=DB hv k2;refine⟨h.r,by show S.n<=S.l+1;omega,h.pl,c,fun i hi=> ?_,by show S.q<=S.l+1;omega⟩;show(ki S.m S.tk a i).ok/\0<=(ki S.m S.tk a i).charge/\(ki S.m S.tk a i).charge<=2199023255552*((S.l+1:Nat):Int);unfold ki;split;·rename_i hi';exact tk1 i hi'
   ·refine⟨⟨b2,b1.1,by simp [wq],by simp [wq];exact b1.2⟩,by simp [wq],by simp [wq];omega⟩
  ·rw [if_neg c];exact h
 rw [if_neg k2];by_cases k3:a.kind=3
 ·rw [if_pos k3];by_cases c1:0<=a.plate/\a.plate< S.n
  ·rw [if_neg (not_not_intro c1)];by_cases c2:0<=a.bath/\a.bath< S.m
   ·rw [if_neg (not_not_intro c2)];by_cases c3:cq S.r S.n (S.pl a.plate.toNat) a=0
    ·rw [if_neg (by rw [c3];simp)];by_cases c4:cJ S.r (S.pl a.plate.toNat) (S.tk a.bath.toNat) a=0
     ·rw [if_neg (by rw [c4];simp)];have hz:=h.pl a.plate.toNat oM;obtain⟨ht,hc1,hc2⟩:=h.tk a.bath.toNat oM;obtain⟨z1,z2,z3⟩:=uQ hz c3;have hmx:=Rc.max_le h.r (S.pl a.plate.toNat).kind;have hga:a.Gt:=Dz k3 hv;obtain⟨q1,q2,q3,q4,q5⟩:=Ay hga ht.yield;obtain⟨q6,q7⟩:=Az hga;have hms:gJ (S.tk a.bath.toNat).yield a<=(S.tk a.bath.toNat).stock:=by
       unfold cJ at c4;split at c4;·cases c4
       ·split at c4;·cases c4
        ·omega
      have hgn:=hz.grown;refine⟨h.r,by show S.n+1<=S.l+1;omega,fun i hi=> ?_,h.m,fun i hi=> ?_,by show S.q<=S.l+1;omega⟩
      ·show(dI (fD S.pl a.plate.toNat (S.pl a.plate.toNat).under) S.n _ i).ok;unfold dI;split;·rename_i hi';refine hset _ (S.pl a.plate.toNat).under ⟨hz.kind,hz.area,?_⟩ i hi';show 0<=(S.pl a.plate.toNat).grown+1/\(S.pl a.plate.toNat).grown+1<=1000;omega
       ·refine⟨?_,hz.area,by simp [Pl.over]⟩;show(S.pl a.plate.toNat).kind+1<=3;omega
      ·show(jP S.tk a.bath.toNat _ i).ok/\0<=(jP S.tk a.bath.toNat _ i).charge/\(jP S.tk a.bath.toNat _ i).charge<=2199023255552*((S.l+1:Nat):Int);unfold jP;split
       ·have w1:=ht.stock;have w2:=ht.laid;have w3:=ht.sum
        refine⟨⟨ht.yield,?_,?_,?_⟩,?_,?_⟩;·show 0<=(S.tk a.bath.toNat).stock- gJ (S.tk a.bath.toNat).yield a;omega
        ·show 0<=(S.tk a.bath.toNat).laid+gJ (S.tk a.bath.toNat).yield a;omega
        ·show(S.tk a.bath.toNat).stock- gJ (S.tk a.bath.toNat).yield a+((S.tk a.bath.toNat).laid+gJ (S.tk a.bath.toNat).yield a)<=1099511627776;omega
        ·show 0<=(S.tk a.bath.toNat).charge+EC a;unfold EC;omega
        ·show(S.tk a.bath.toNat).charge+EC a<=_;unfold EC;omega
       ·exact tk1 i hi
     ·rw [if_pos c4];exact h
    ·rw [if_pos c3];exact h
   ·rw [if_pos c2];exact h
  ·rw [if_pos c1];exact h
 rw [if_neg k3];by_cases c1:0<=a.plate/\a.plate< S.n
 ·rw [if_neg (not_not_intro c1)];have hz:=h.pl a.plate.toNat oM;by_cases k4:a.kind=4
  ·rw [if_pos k4];split;·exact h
   ·exact⟨h.r,by show S.n<=S.l+1;omega,hset _ _ ⟨hz.kind,hz.area,hz.grown⟩,h.m,tk1,by show S.q+1<=S.l+1;omega⟩
  rw [if_neg k4];by_cases k5:a.kind=5
  ·rw [if_pos k5];split;·exact h
   split;·exact h
   split;·exact h
   ·exact⟨h.r,by show S.n<=S.l+1;omega,hset _ _ ⟨hz.kind,hz.area,hz.grown⟩,h.m,tk1,by show S.q<=S.l+1;omega⟩
  rw [if_neg k5];split;·exact h
  ·exact⟨h.r,by show S.n<=S.l+1;omega,hset _ _ ⟨hz.kind,hz.area,hz.grown⟩,h.m,tk1,by show S.q<=S.l+1;omega⟩
 ·rw [if_pos c1];exact h
theorem zN{S:Sh}{a:Act}(p:Sh×Int×Int->Prop)(hE:∀e:Int,e≠0->p (S,0,e)) (hL:b8 a=true->a.kind=1->p ({S with n:=S.n+1,pl:=dI S.pl S.n (ot a),l:=S.l+1},S.n,0)) (hB:b8 a=true->a.kind=2->S.m< 8->p ({S with m:=S.m+1,tk:=ki S.m S.tk a,l:=S.l+1},S.m,0)) (hG:b8 a=true->a.kind=3->(0<=a.plate/\a.plate< S.n)->(0<=a.bath/\a.bath< S.m)->cq S.r S.n (S.pl a.plate.toNat) a=0->cJ S.r (S.pl a.plate.toNat) (S.tk a.bath.toNat) a=0-> p ({S with n:=S.n+1,pl:=dI (fD S.pl a.plate.toNat (S.pl a.plate.toNat).under) S.n ((S.pl a.plate.toNat).over a.plate (cg (S.pl a.plate.toNat) (S.tk a.bath.toNat) a)),tk:=jP S.tk a.bath.toNat ((S.tk a.bath.toNat).used a),l:=S.l+1},S.n,0)) (hF:b8 a=true->a.kind=4->(0<=a.plate/\a.plate< S.n)->(S.pl a.plate.toNat).ret=false->p ({S with q:=S.q+1,g:=Ll S.g S.q (a.plate,a.place),pl:=fD S.pl a.plate.toNat ((S.pl a.plate.toNat).JE S.q),l:=S.l+1},S.q,0)) (hM:b8 a=true->a.kind=5->(0<=a.plate/\a.plate< S.n)->(0<=a.flaw/\a.flaw< S.q)->(S.pl a.plate.toNat).ret=false->(S.pl a.plate.toNat).fl a.flaw=true->p ({S with pl:=fD S.pl a.plate.toNat ((S.pl a.plate.toNat).JR a.flaw),l:=S.l+1},0,0)) (hR:b8 a=true->a.kind=6->(0<=a.plate/\a.plate< S.n)->(S.pl a.plate.toNat).ret=false->p ({S with pl:=fD S.pl a.plate.toNat {S.pl a.plate.toNat with ret:=true},l:=S.l+1},0,0)):p (aN S a):=by
 unfold aN;by_cases hv:b8 a=false;·rw [if_pos hv];exact hE 2 (by decide)
 rw [if_neg hv];have hv:b8 a=true:=by simpa using hv
 by_cases k1:a.kind=1;·rw [if_pos k1];exact hL hv k1
 rw [if_neg k1];by_cases k2:a.kind=2
 ·rw [if_pos k2];by_cases c:S.m< 8;·rw [if_pos c];exact hB hv k2 c
  ·rw [if_neg c];exact hE 11 (by decide)
 rw [if_neg k2];by_cases k3:a.kind=3
 ·rw [if_pos k3];by_cases c1:0<=a.plate/\a.plate< S.n
  ·rw [if_neg (not_not_intro c1)];by_cases c2:0<=a.bath/\a.bath< S.m
   ·rw [if_neg (not_not_intro c2)];by_cases c3:cq S.r S.n (S.pl a.plate.toNat) a=0
    ·rw [if_neg (not_not_intro c3)];by_cases c4:cJ S.r (S.pl a.plate.toNat) (S.tk a.bath.toNat) a=0;·rw [if_neg (not_not_intro c4)];exact hG hv k3 c1 c2 c3 c4
     ·rw [if_pos c4];exact hE _ c4
    ·rw [if_pos c3];exact hE _ c3
   ·rw [if_pos c2];exact hE 5 (by decide)
  ·rw [if_pos c1];exact hE 5 (by decide)
 rw [if_neg k3];by_cases c1:0<=a.plate/\a.plate< S.n
 ·rw [if_neg (not_not_intro c1)];by_cases k4:a.kind=4
  ·rw [if_pos k4];by_cases c2:(S.pl a.plate.toNat).ret=true;·rw [if_pos c2];exact hE 10 (by decide)
   ·rw [if_neg c2];exact hF hv k4 c1 (by simpa using c2)
  rw [if_neg k4];by_cases k5:a.kind=5
  ·rw [if_pos k5];by_cases c3:0<=a.flaw/\a.flaw< S.q
   ·rw [if_neg (not_not_intro c3)];by_cases c2:(S.pl a.plate.toNat).ret=true;·rw [if_pos c2];exact hE 10 (by decide)
    ·rw [if_neg c2];by_cases c4:(S.pl a.plate.toNat).fl a.flaw=false;·rw [if_pos c4];exact hE 19 (by decide)
     ·rw [if_neg c4];exact hM hv k5 c1 c3 (by simpa using c2) (by simpa using c4)
   ·rw [if_pos c3];exact hE 5 (by decide)
  rw [if_neg k5];by_cases c2:(S.pl a.plate.toNat).ret=true;·rw [if_pos c2];exact hE 10 (by decide)
  ·rw [if_neg c2];exact hR hv (by simp [b8,k1,k2,k3,k4,k5]at hv;exact hv) c1 (by simpa using c2)
 ·rw [if_pos c1];exact hE 5 (by decide)
def sE(p:Pl):V:= .fset false fun k=>match k with | .i n=>p.fl n | .s _=>false
def Aw(S:Sh):V:= .ptr (dM S.r (.sl 1 S.n fun i=>[.ptr ((S.pl i).c++[sE (S.pl i)])]) (.sl 4 S.m fun i=>(S.tk i).c) (.sl 2 S.q (bZ S.g)) (.sl 13 S.l cE))
theorem EB{S:Sh}{σ:Nat->Option Ob}(h:dU S fX σ):Fz σ (.ref 500 0) (Aw S):=by
 refine Fz.refs (t:=123) (cs:=dM S.r (.own 501) (.own 502) (.own 503) (.own 504)) h.s ?_;refine iQ.append (iQ.bM (l:= .b true::S.r.c) rfl) ⟨Fz.rows (e:=131) (sz:=1) (r:=fun i=>[.ref (fX.pl i) 0]) h.p fun i hi=>⟨?_,trivial⟩,Fz.rows (e:=55) (sz:=4) (r:=fun i=>(S.tk i).c) h.t fun i _=>iQ.bM rfl,Fz.rows (e:=149) (sz:=2) (r:=bZ S.g) h.f fun i _=>iQ.bM rfl,Fz.rows (e:=40) (sz:=13) (r:=cE) h.a fun i _=>iQ.bM rfl,trivial⟩;refine Fz.refs (t:=134) (cs:=(S.pl i).c++[V.own (fX.mp i)]) (h.pl i hi) (iQ.append (iQ.bM (l:=(S.pl i).c) rfl) ⟨?_,trivial⟩);exact .mp _ _ false (bE (S.pl i).fl) _ (h.mp i hi) fun k hk=>by
  cases k with
  |s b=>cases hk
  |i n=>exact⟨iC _ _,fun u hu=> .inr (by rw [eU]at hu;split at hu <;> simp at hu;exact hu.symm)⟩
open Classical in
theorem DT{P:Program}{N:Nat}{C:Cx P N}{Q:Exit->S->Prop}{s:S}{ι:Type}{c:Code}(hd:C.dfs=jY)(I:ι->S)(ok:ι->Prop)(μ:ι->Nat)(x0:ι)(hx:ok x0)(h0:Bm s (I x0))(round:∀x,ok x->AW C c (cv (fun s'=>∃y,ok y/\Bm s' (I y)/\μ y< μ x) Q) (I x)):AW C (.loop c) Q s:=by
 intro a w g;have pr:∃q:Go.Act->World->Nat->Prop,q=fun a' w' n=>∃x,ok x/\μ x=n/\Gm C (I x) a' w'/\aI C.W w w':=⟨_,rfl⟩;obtain⟨q,hq⟩:=pr;have hqi:∀a' w' n,q a' w' n<->∃x,ok x/\μ x=n/\Gm C (I x) a' w'/\aI C.W w w':=fun a' w' n=>by rw [hq]
 refine wpIn_loop (fun a' w'=>∃n,q a' w' n) (fun a' w'=>if h:∃n,q a' w' n then(least _ h).choose else 0) ⟨μ x0,(hqi _ _ _).2 ⟨x0,hx,rfl,h0 _ _ C a w hd g,aI.refl _ _⟩⟩ ?_;rintro a' w' hex;have hl:=(least _ hex).choose_spec;obtain⟨x,hok,hμ,g',t'⟩:=(hqi _ _ _).1 hl.1;refine wpIn_mono (round x hok a' w' g') ?_;rintro e a'' w'' ⟨s'',r,g'',t''⟩;cases e with
 |normal=>obtain⟨y,hy,hle,hlt⟩:=r;have hqy:q a'' w'' (μ y):=(hqi _ _ _).2 ⟨y,hy,rfl,hle _ _ C _ _ hd g'',t'.trans t''⟩;refine⟨⟨μ y,hqy⟩,?_⟩;rw [dif_pos ⟨μ y,hqy⟩,dif_pos hex];have h1:=(least _ ⟨μ y,hqy⟩).choose_spec.2 (μ y) hqy;omega
 |_=>exact⟨s'',r,g'',t'.trans t''⟩
theorem k9{tm:Nat->V}{σ:Nat->Option Ob}{nx nxc:Nat}{S S':Sh}{δ:List (Nat×Option Ob)}{tl:List (Nat×V)}(hn:S.n<=200)(hn':S'.n<=200)(hD:l7 S S' nxc δ)(hσ:σ=bu (gZ S fun _=>none) δ) (htm:∀h:Nat->Nat,h 500=500->jJ (fun p=>tm p.1=p.2.aW h) tl):Bm ⟨tm,σ,nx⟩ ⟨dL tl,gZ S' fun _=>none,1⟩:=by
 subst hσ;obtain⟨N,h,h1,h2,h3,h4⟩:=hD _ (dJ hn _);obtain⟨h',hh⟩:∃h':Nat->Nat,∀id,h' id=if 500<=id/\id< 1000 then h id else nx*100000+id:=⟨_,fun _=>rfl⟩
 have hr:∀id,500<=id->id< 1000->h' id=h id:=fun id a b=>by rw [hh,if_pos ⟨a,b⟩]
 refine Fc h' hn' h1 ⟨fun i j hi hi2 hj hj2 he=>h2.inj i j hi hi2 hj hj2 (by rwa [hr i hi oM,hr j hj oM]at he),?_,?_,?_,?_,?_,fun i hi=> ?_,fun i hi=> ?_⟩ (fun id o _ ho=>by cases ho) (fun i j _ hi=>absurd rfl hi) (fun id hid=> ?_) (htm h' (by rw [hr 500 oM oM];exact h2.s));·rw [hr 500 oM oM];exact h2.s
 ·rw [hr 501 oM oM];exact h2.p
 ·rw [hr 502 oM oM];exact h2.t
 ·rw [hr 503 oM oM];exact h2.f
 ·rw [hr 504 oM oM];exact h2.a
 ·rw [hr _ oM oM];exact h2.pl i hi
 ·rw [hr _ oM oM];exact h2.mp i hi
 ·rw [hh,if_neg oM];omega
theorem Kq{tm:Nat->V}{σ:Nat->Option Ob}{nx s p t f a:Nat}{r:Rc}{tl:List (Nat×V)}(hne:(decide ([s,p,t,f,a].Nodup))=true)(h0:σ s=some (.box 123 (dM r (.own p) (.own t) (.own f) (.own a))))(h1:∃g,σ p=some (.row 131 1 0 g))(h2:∃g,σ t=some (.row 55 4 0 g))(h3:∃g,σ f=some (.row 149 2 0 g))(h4:∃g,σ a=some (.row 40 13 0 g)) (htm:∀h:Nat->Nat,h 500=s->jJ (fun p=>tm p.1=p.2.aW h) tl):Bm ⟨tm,σ,nx⟩ ⟨dL tl,gZ (oA r) fun _=>none,1⟩:=by
 have hne:=of_decide_eq_true hne;simp at hne;obtain⟨g1,h1⟩:=h1;obtain⟨g2,h2⟩:=h2;obtain⟨g3,h3⟩:=h3;obtain⟨g4,h4⟩:=h4;obtain⟨h',hh⟩:∃h':Nat->Nat,∀id,h' id=if id=500 then s else if id=501 then p else if id=502 then t else if id=503 then f else if id=504 then a else nx*100000+id:=⟨_,fun _=>rfl⟩
 have hc:∀id o,gZ (oA r) (fun _=>none) id=some o->id=500\/id=501\/id=502\/id=503\/id=504:=by
  intro id o ho;have hz:¬(id- 505) / 2< (oA r).n:=Nat.not_lt_zero _;unfold gZ at ho;simp only [if_neg hz]at ho;repeat' split at ho
  all_goals first |omega |cases ho
 have q0:h' 500=s:=by rw [hh];rfl
 have q1:h' 501=p:=by rw [hh];rfl
 have q2:h' 502=t:=by rw [hh];rfl
 have q3:h' 503=f:=by rw [hh];rfl
 have q4:h' 504=a:=by rw [hh];rfl
 refine AE h' (fun id o ho=> ?_) (fun i j hi hj he=> ?_) (fun id hid=> ?_) (htm h' q0)
 ·have hA:=dJ (S:=oA r) (Nat.zero_le _) fun _=>none;rcases hc id o ho with rfl |rfl |rfl |rfl |rfl
  ·have:=hA.s;rw [ho]at this;injection this with this;subst this
   refine⟨_,by rw [q0];exact h0,?_⟩;show dN (.box _ _) (.box _ (V.bg h' (dM r (.own 501) (.own 502) (.own 503) (.own 504))));rw [show V.bg h' (dM r (.own 501) (.own 502) (.own 503) (.own 504))=dM r (.own (h' 501)) (.own (h' 502)) (.own (h' 503)) (.own (h' 504))from rfl,q1,q2,q3,q4];exact⟨rfl,rfl⟩
  ·have:=hA.p;rw [show fX.p=501 from rfl,ho]at this;injection this with this;subst this
   refine⟨_,by rw [q1];exact h1,?_⟩;exact⟨rfl,rfl,rfl,fun i hi=>absurd hi (Nat.not_lt_zero _)⟩
  ·have:=hA.t;rw [show fX.t=502 from rfl,ho]at this;injection this with this;subst this
   refine⟨_,by rw [q2];exact h2,?_⟩;exact⟨rfl,rfl,rfl,fun i hi=>absurd hi (Nat.not_lt_zero _)⟩
  ·have:=hA.f;rw [show fX.f=503 from rfl,ho]at this;injection this with this;subst this
   refine⟨_,by rw [q3];exact h3,?_⟩;exact⟨rfl,rfl,rfl,fun i hi=>absurd hi (Nat.not_lt_zero _)⟩
  ·have:=hA.a;rw [show fX.a=504 from rfl,ho]at this;injection this with this;subst this
   refine⟨_,by rw [q4];exact h4,?_⟩;exact⟨rfl,rfl,rfl,fun i hi=>absurd hi (Nat.not_lt_zero _)⟩
 ·have e:∀i,gZ (oA r) (fun _=>none) i≠none->i=500\/i=501\/i=502\/i=503\/i=504:=fun i hi=>by
   cases ho:gZ (oA r) (fun _=>none) i with
   |none=>exact absurd ho hi
   |some o=>exact hc i o ho
  rcases e i hi with rfl |rfl |rfl |rfl |rfl <;> rcases e j hj with rfl |rfl |rfl |rfl |rfl <;> first |rfl | (simp only [q0,q1,q2,q3,q4]at he;omega)
 ·rw [hh,if_neg oM,if_neg oM,if_neg oM,if_neg oM,if_neg oM];omega
theorem gv{P:Program}{N:Nat}{C:Cx P N}{ops:Array Oper}{nx d:Nat}{o:Oper}{os:List Oper}{tm:Nat->V}{σ:Nat->Option Ob}{ks:List (List Nat×List Nat)}{K:(Nat->V)->(Nat->Option Ob)->List (List Nat×List Nat)->Prop}{S S':Sh}{v:V} (h:x7 P C.W C.LB o (ev tm) nx d S S' v) (hg:o.guard=none) (ho:o.dst=some d) (hF:dU S fX σ) (hk:∀δ ks',l7 S S' nx δ->aR C ops nx os (bw tm d v) (bu σ δ) ks' K):aR C ops nx (o::os) tm σ ks K:=by obtain⟨pre,nw,δ,hA,hnw,hpre,hD⟩:=h;refine cR hg hA (hpre σ hF) (by rw [ho];exact hnw) ?_;rw [ho];exact hk δ _ hD
section
variable {P:Program}{N:Nat}{C:Cx P N}{ops:Array Oper}{nx:Nat}{os:List Oper}{tm:Nat->V}{σ:Nat->Option Ob}{ks:List (List Nat×List Nat)}{K:(Nat->V)->(Nat->Option Ob)->List (List Nat×List Nat)->Prop}{ty:TypeId}{pos:String}{af:Array Edge}
theorem yt{d:Nat}{fo:Operand}{ar:Array Operand}{ats:Array TypeId}{f:FuncId}{first caps args args':List V}{v v':V}{obs:List Ob}{δ:List (Nat×Option Ob)}(pre:List (Nat×Ob))(hc:AC P f args' v obs)(hf:ev tm fo= .fn (.func f) first caps) (hargs:first++ar.toList.map (ev tm)++caps=args) (hfz:iQ (oI pre) args args') (hd:decide (d< 1000)=true) (hv:v.om (List.range obs.length)=true) (hC:∀o∈obs,o.zc) (hob:decide (obs.length<=90)=true) (hvr:v.aW (an nx (some d))=v') (hδ:bR (an nx (some d)) 0 obs=δ) (hp:∀p∈pre,σ p.1=some p.2) (hk:aR C ops nx os (bw tm d v') (bu σ δ) (ks++[(aK δ,cU pre++aK δ)]) K):aR C ops nx (⟨some d,.call {callee:= .value fo,args:=ar,argTypes:=ats},ty,pos,af,none⟩::os) tm σ ks K:=by obtain⟨hl,hfz⟩:=hfz.get;subst hvr hδ;have hd1:=of_decide_eq_true hd;exact cR rfl (v5 (P:=P) (W:=C.W) (LB:=C.LB) (d:=some d) (ty:=ty) (pos:=pos) (af:=af) (gd:=none) (ats:=ats) hc hf hargs pre hl hfz hv hC nx (by simpa using hd) (of_decide_eq_true hob)) hp (fB hd1 (of_decide_eq_true hob)) hk
end
theorem jB{pre:List (Nat×Ob)}{F:Nat->Option Ob}(hF:∀p∈pre,F p.1=some p.2){id:Nat}{o:Ob}(h:(id,o)∈pre):oI pre id=some o:=by
 unfold oI;cases hf:pre.find? (·.1 == id)with
 |none=>rw [List.find?_eq_none]at hf;have:=hf _ h;simp at this
 |some p=>have h1:=List.find?_some hf;have h2:=hF p (List.mem_of_find?_eq_some hf);have h3:=hF _ h;simp only [beq_iff_eq]at h1;rw [h1]at h2;simp only at h3;rw [h3]at h2;injection h2 with h2;rw [h2];rfl
def oh(S:Sh):List (Nat×Ob):=[(500,je S fX),(501,zE S fX),(502,iE S),(503,eH S),(504,mT S)]++(List.range S.n).flatMap fun i=>[(505+2*i,xZ S fX i),(506+2*i,jv S i)]
theorem wN{S:Sh}{σ:Nat->Option Ob}(h:dU S fX σ):∀p∈oh S,σ p.1=some p.2:=by
 intro p hp;unfold oh at hp;rcases List.mem_append.1 hp with hp |hp
 ·simp at hp;rcases hp with h' |h' |h' |h' |h' <;> subst h'
  ·exact h.s
  ·exact h.p
  ·exact h.t
  ·exact h.f
  ·exact h.a
 ·rw [List.mem_flatMap]at hp;obtain⟨i,hi,hp⟩:=hp;have hi:i< S.n:=by simpa using hi
  simp at hp;rcases hp with h' |h' <;> subst h'
  ·exact h.pl i hi
  ·exact h.mp i hi
theorem Ho{S:Sh}(hn:S.n<=200):dU S fX (oI (oh S)):=by
 have hF:=wN (dJ hn fun _=>none);have hb:∀i,i< S.n->(505+2*i,xZ S fX i)∈oh S/\(506+2*i,jv S i)∈oh S:=fun i hi=>by have:∀p,p∈[(505+2*i,xZ S fX i),(506+2*i,jv S i)]->p∈oh S:=fun p hp=>List.mem_append_right _ (List.mem_flatMap.2 ⟨i,by simpa using hi,hp⟩);exact⟨this _ (by simp),this _ (by simp)⟩
 exact⟨jB hF (by simp [oh]),jB (id:=501) hF (by simp [oh]),jB (id:=502) hF (by simp [oh]),jB (id:=503) hF (by simp [oh]),jB (id:=504) hF (by simp [oh]),fun i hi=>jB hF (hb i hi).1,fun i hi=>jB hF (hb i hi).2⟩
theorem Ht{S:Sh}(hn:S.n<=200):Fz (oI (oh S)) (.ref 500 0) (Aw S):=EB (Ho hn)
theorem dU.bw{S:Sh}{σ:Nat->Option Ob}(h:dU S fX σ)(hn:S.n<=200){k:Nat}(hk:k< 500\/1000<=k)(o:Option Ob):dU S fX (Ab.bw σ k o):=by
 refine⟨?_,?_,?_,?_,?_,fun i hi=> ?_,fun i hi=> ?_⟩;·rw [aa _ _ oM];exact h.s
 ·rw [aa _ _ (by show(501:Nat)≠k;omega)];exact h.p
 ·rw [aa _ _ (by show(502:Nat)≠k;omega)];exact h.t
 ·rw [aa _ _ (by show(503:Nat)≠k;omega)];exact h.f
 ·rw [aa _ _ (by show(504:Nat)≠k;omega)];exact h.a
 ·rw [aa _ _ (by show 505+2*i≠k;omega)];exact h.pl i hi
 ·rw [aa _ _ (by show 506+2*i≠k;omega)];exact h.mp i hi
theorem dU.bu{S:Sh}(hn:S.n<=200):∀ {δ:List (Nat×Option Ob)}{σ:Nat->Option Ob},dU S fX σ->(∀p∈δ,p.1< 500\/1000<=p.1)->dU S fX (Ab.bu σ δ)
 | [],_,h,_=>h
 | (k,o)::δ,σ,h,hk=>dU.bu hn (δ:=δ) (h.bw hn (hk (k,o) (by simp)) o) fun p hp=>hk p (by simp [hp])
theorem ou{tm:Nat->V}{σ rest:Nat->Option Ob}{nx:Nat}{S:Sh}{δ:List (Nat×Option Ob)}{tl:List (Nat×V)}(gl:List (Nat×Nat))(hn:S.n<=200)(hσ:σ=Ab.bu (gZ S rest) δ)(hδ:δ.all (fun p=>decide (p.1< 500\/1000<=p.1))=true)(sl:List (Nat×Ob)) (hsl:jJ (fun p=>p.1< 500/\(ax gl nx p.1< 500\/1000<=ax gl nx p.1)/\∃ob,σ (ax gl nx p.1)=some ob/\∀h:Nat->Nat,dN ob (p.2.aW h)) sl) (hnd:((sl.map fun p=>ax gl nx p.1).Nodup)) (hgl:gl.all (fun p=>decide (p.1< 500))=true) (htm:∀h:Nat->Nat,h 500=500->(∀id,id< 500->h id=ax gl nx id)->jJ (fun p=>tm p.1=p.2.aW h) tl):Bm ⟨tm,σ,nx⟩ ⟨dL tl,gZ S (bK sl),1⟩:=by
 have hF:dU S fX σ:=by rw [hσ];exact dU.bu hn (dJ hn _) fun p hp=>by have:=List.all_eq_true.1 hδ p hp;simpa using this
 have hmem:∀id o,bK sl id=some o->(id,o)∈sl:=by
  intro id o;clear hsl hnd;induction sl with
  |nil=>intro h;cases h
  |cons p sl ih=>
   intro h;have h:Ab.bw (bK sl) p.1 (some p.2) id=some o:=h;by_cases e:id=p.1;·rw [e,ai]at h;injection h with h;rw [e,<-h];simp
   ·rw [aa _ _ e]at h;exact List.mem_cons_of_mem _ (ih h)
 have hlo:∀id o,bK sl id=some o->id< 500/\(ax gl nx id< 500\/1000<=ax gl nx id)/\∃ob,σ (ax gl nx id)=some ob/\∀h:Nat->Nat,dN ob (o.aW h):=fun id o h=>hsl.mem _ (hmem id o h);obtain⟨h',hh⟩:∃h':Nat->Nat,∀id,h' id=if id< 500 then ax gl nx id else if id< 1000 then id else nx*100000+id:=⟨_,fun _=>rfl⟩
 have hl:∀id,id< 500->h' id=ax gl nx id:=fun id a=>by rw [hh,if_pos a]
 have hr:∀id,500<=id->id< 1000->h' id=id:=fun id a b=>by rw [hh,if_neg oM,if_pos b]
 refine Fc h' hn hF ⟨fun i j hi hi2 hj hj2 he=>by rwa [hr i hi oM,hr j hj oM]at he,hr _ oM oM,hr _ oM oM,hr _ oM oM,hr _ oM oM,hr _ oM oM,fun i hi=>hr _ oM oM,fun i hi=>hr _ oM oM⟩ (fun id o _ ho=> ?_) (fun i j _ hi he hj=> ?_) (fun id hid=> ?_) (htm h' (hr 500 oM oM) hl);·obtain⟨h1,_,ob,h2,h3⟩:=hlo id o ho;exact⟨ob,by rw [hl id h1];exact h2,h3 h'⟩
 ·cases hoi:bK sl i with
  |none=>exact absurd hoi hi
  |some o=>
   obtain⟨i1,i2,_⟩:=hlo i o hoi;rw [hl i i1]at he;rcases hj with⟨hj,_⟩ |hj
   ·cases hoj:bK sl j with
    |none=>exact absurd hoj hj
    |some o'=>obtain⟨j1,_⟩:=hlo j o' hoj;rw [hl j j1]at he;obtain⟨a,ha,hae⟩:=List.getElem_of_mem (hmem i o hoi);obtain⟨b,hb,hbe⟩:=List.getElem_of_mem (hmem j o' hoj);have hab:a=b:=lq hnd (by simpa using ha) (by simp [ha,hb,hae,hbe,he]);subst hab;rw [hae]at hbe;injection hbe
   ·rw [hr j hj.1 oM]at he;omega
 ·rw [hh,if_neg oM,if_neg oM];omega
def fS(k ar:Int):Act:=⟨1,k,ar,0,0,0,0,0,0,0,0,0,0⟩
def dR(st y:Int):Act:=⟨2,0,0,st,y,0,0,0,0,0,0,0,0⟩
def aL(pl cu se:Int):Act:=⟨3,0,0,0,0,pl,0,0,0,cu,se,0,0⟩
theorem gw{x lo hi:Int}(h:lo<=x/\x<=hi):cP x lo hi=true:=by simp [cP,h.1,h.2]
theorem rR(S:Sh){k ar:Int}(hk:0<=k/\k<=1099511627776)(ha:1<=ar/\ar<=1048576):aN S (fS k ar)=({S with n:=S.n+1,pl:=dI S.pl S.n (ot (fS k ar)),l:=S.l+1},(S.n:Int),0):=by
 have hB:b8 (fS k ar)=true:=by show(if(1:Int)=1 then cP k 0 1099511627776 && cP ar 1 1048576 else _)=true;rw [if_pos rfl,gw hk,gw ha];rfl
 unfold aN;rw [if_neg (by rw [hB];simp),if_pos (show(fS k ar).kind=1 from rfl)]
theorem pN(S:Sh)(hm:S.m< 8){st y:Int}(hs:0<=st/\st<=1099511627776)(hy:1<=y/\y<=1000):aN S (dR st y)=({S with m:=S.m+1,tk:=ki S.m S.tk (dR st y),l:=S.l+1},(S.m:Int),0):=by
 have hB:b8 (dR st y)=true:=by show(if(2:Int)=1 then _ else if(2:Int)=2 then cP st 0 1099511627776 && cP y 1 1000 else _)=true;rw [if_neg (by decide),if_pos rfl,gw hs,gw hy];rfl
 unfold aN;rw [if_neg (by rw [hB];simp),if_neg (show ¬(dR st y).kind=1 by show ¬(2:Int)=1;decide),if_pos (show(dR st y).kind=2 from rfl),if_pos hm]
theorem xH{pl cu se:Int}(hc:0<=cu/\cu<=1048576)(hs:0<=se/\se<=1048576):b8 (aL pl cu se)=true:=by show(if(3:Int)=1 then _ else if(3:Int)=2 then _ else if(3:Int)=3 then cP 0 0 1048576 && (cP 0 0 1048576 && (cP cu 0 1048576 && cP se 0 1048576))else _)=true;rw [if_neg (by decide),if_neg (by decide),if_pos rfl,gw hc,gw hs];rfl
def NQ(cu se y:Int):Int:=(cu*se*y).tdiv 1000
theorem tO(pl cu se y:Int):gJ y (aL pl cu se)=NQ cu se y:=by show(0*0*y).tdiv 1000+(cu*se*y).tdiv 1000=_;rw [show(0:Int)*0*y=0 by simp];show 0+_=_;rw [Int.zero_add];rfl
end Go.Proofs.YtjmbpjlojjgggaaGreatDoor
