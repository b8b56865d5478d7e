/-
  Several texts in one: Plating shops of many plates: the objects behind an act. Conditions: told in each theorem. .. Plating shops in plain Lean: parents and kinds of plates; how long lines are. Conditions: told in each theorem.
-/
import Derived.Test.YtjmbpjlojjgggaaGreatDoorX07
import Derived.Test.YtjmbpjlojjgggaaGreatDoorAbs42
import Derived.Test.YtjmbpjlojjgggaaGreatDoorX00
import Derived.Test.YtjmbpjlojjgggaaGreatDoorX02
import Derived.Test.YtjmbpjlojjgggaaGreatDoorX03
set_option maxRecDepth 100000
namespace Go.Proofs.YtjmbpjlojjgggaaGreatDoor
open Go.Ab Go.RowKit Go.Dw Go.Shelf
def jC(S S':Sh)(nx:Nat)(δ:List (Nat×Option Ob)):Prop:=∀σ,l8 S j5 σ->∃(N:Nm) (h:Nat->Nat),l8 S' N (bG σ δ)/\Ll S'.n N h/\(∀id,500<=id->id< 1000->h id=id\/(nx*100000<=h id/\h id< (nx+1)*100000))/\ ∀id,(id< 500\/1000<=id)->¬(nx*100000<=id/\id< (nx+1)*100000)->bG σ δ id=σ id
theorem Mt{n:Nat}:Ll n j5 id:=⟨fun _ _ _ _ _ _ h=>h,rfl,rfl,rfl,rfl,rfl,fun _ _=>rfl,fun _ _=>rfl⟩
theorem uu{S:Sh}{nx:Nat}{δ:List (Nat×Option Ob)}(h:∀σ,l8 S j5 σ->∀p∈δ,σ p.1=p.2):jC S S nx δ:=fun σ hF=>by rw [pq δ σ (h σ hF)];exact⟨j5,id,hF,Mt,fun id _ _=> .inl rfl,fun _ _ _=>rfl⟩
theorem FF{S S':Sh}{nx c0 c1 c2 c3 d k:Nat}(hn:S.n<=200)(hd:d< 1000)(hnx:1<=nx)(h0:c0=nx*100000+d)(h1:c1=nx*100000+1000+d)(h2:c2=nx*100000+2000+d)(h3:c3=nx*100000+3000+d) (er:S'.r=S.r) (en:S'.n=S.n+1) (em:S'.m=S.m) (eq:S'.q=S.q) (eg:S'.g=S.g) (hk:k< S.n) (ep:∀i,i< S.n->i≠k->S'.pl i=S.pl i) : jC S S' nx [(500,some (.box 123 (de S.r (.own c0) (.own 502) (.own 503) (.own c3)))),(501,none),(502,some (fE S')),(503,some (dV S)),(504,none),(505+2*k,some (.box 134 ((S'.pl k).c++[.own (506+2*k)]))),(506+2*k,some (iG S' k)),(c0,some (.row 131 1 (S.n+1) fun i=>[.ref (if i< S.n then 505+2*i else c1) 0])),(c1,some (.box 134 ((S'.pl S.n).c++[.own c2]))),(c2,some (iG S' S.n)),(c3,some (mG S'))]:=by
 intro σ hF;refine⟨⟨c0,502,503,c3,fun i=>if i< S.n then 505+2*i else c1,fun i=>if i< S.n then 506+2*i else c2⟩,fun id=>if id=501 then c0 else if id=504 then c3 else if id=505+2*S.n then c1 else if id=506+2*S.n then c2 else id,⟨?_,?_,?_,?_,?_,?_,?_⟩,⟨?_,?_,?_,?_,?_,?_,?_,?_⟩,?_,?_⟩;all_goals try simp only [bG]
 ·rw [ah _ _ oM,ah _ _ oM,ah _ _ oM,ah _ _ oM,ah _ _ oM,ah _ _ oM,ah _ _ oM,ah _ _ oM,ah _ _ oM,ah _ _ oM,ak];rw [iT,er]
 ·rw [ah _ _ oM,ah _ _ oM,ah _ _ oM,ak,yR,en]
 ·rw [ah _ _ oM,ah _ _ oM,ah _ _ oM,ah _ _ oM,ah _ _ oM,ah _ _ oM,ah _ _ oM,ah _ _ oM,ak]
 ·rw [ah _ _ oM,ah _ _ oM,ah _ _ oM,ah _ _ oM,ah _ _ oM,ah _ _ oM,ah _ _ oM,ak,dV,dV,eq,eg]
 ·rw [ak]
 ·intro i hi;rw [en]at hi;by_cases hin:i< S.n
  ·simp only [AJ,if_pos hin];by_cases hik:i=k;·subst hik;rw [ah _ _ oM,ah _ _ oM,ah _ _ oM,ah _ _ oM,ah _ _ oM,ak]
   ·rw [ah _ _ oM,ah _ _ oM,ah _ _ oM,ah _ _ oM,ah _ _ oM,ah _ _ oM,ah _ _ oM,ah _ _ oM,ah _ _ oM,ah _ _ oM,ah _ _ oM,ep i hin hik];exact hF.pl i hin
  ·have hin':i=S.n:=by omega
   subst hin';simp only [AJ,if_neg hin];rw [ah _ _ oM,ah _ _ oM,ak]
 ·intro i hi;rw [en]at hi;by_cases hin:i< S.n
  ·simp only [if_pos hin];by_cases hik:i=k;·subst hik;rw [ah _ _ oM,ah _ _ oM,ah _ _ oM,ah _ _ oM,ak]
   ·rw [ah _ _ oM,ah _ _ oM,ah _ _ oM,ah _ _ oM,ah _ _ oM,ah _ _ oM,ah _ _ oM,ah _ _ oM,ah _ _ oM,ah _ _ oM,ah _ _ oM,iG,ep i hin hik];exact hF.mp i hin
  ·have hin':i=S.n:=by omega
   subst hin';simp only [if_neg hin];rw [ah _ _ oM,ak]
 ·intro i j hi hi2 hj hj2 he;rw [en]at hi2 hj2;split at he <;> split at he <;> (try omega) <;> (repeat' split at he) <;> omega
 ·rw [if_neg (by decide),if_neg (by decide),if_neg oM,if_neg oM]
 ·rfl
 ·rw [if_neg (by decide),if_neg (by decide),if_neg oM,if_neg oM]
 ·rw [if_neg (by decide),if_neg (by decide),if_neg oM,if_neg oM]
 ·rfl
 ·intro i hi;rw [en]at hi;by_cases hin:i< S.n;·rw [if_neg oM,if_neg oM,if_neg oM,if_neg oM,if_pos hin]
  ·rw [if_neg oM,if_neg oM,if_pos oM,if_neg hin]
 ·intro i hi;rw [en]at hi;by_cases hin:i< S.n;·rw [if_neg oM,if_neg oM,if_neg oM,if_neg oM,if_pos hin]
  ·rw [if_neg oM,if_neg oM,if_neg oM,if_pos oM,if_neg hin]
 ·intro id _ _;repeat' split
  all_goals omega
 ·intro id hid hx;rw [ah _ _ oM,ah _ _ oM,ah _ _ oM,ah _ _ oM,ah _ _ oM,ah _ _ oM,ah _ _ oM,ah _ _ oM,ah _ _ oM,ah _ _ oM,ah _ _ oM]
theorem Dx{S S':Sh}{nx c0 c1 d k:Nat}(hn:S.n<=200)(hd:d< 1000)(hnx:1<=nx)(h0:c0=nx*100000+d)(h1:c1=nx*100000+1000+d) (er:S'.r=S.r) (en:S'.n=S.n) (em:S'.m=S.m) (et:S'.tk=S.tk) (hk:k< S.n) (ep:∀i,i< S.n->i≠k->S'.pl i=S.pl i) : jC S S' nx [(500,some (.box 123 (de S.r (.own 501) (.own 502) (.own c0) (.own c1)))),(501,some (.row 131 1 S.n fun i=>[.ref (505+2*i) 0])),(502,some (fE S)),(503,none),(504,none),(505+2*k,some (.box 134 ((S'.pl k).c++[.own (506+2*k)]))),(506+2*k,some (iG S' k)),(c0,some (dV S')),(c1,some (mG S'))]:=by
 intro σ hF;refine⟨⟨501,502,c0,c1,fun i=>505+2*i,fun i=>506+2*i⟩,fun id=>if id=503 then c0 else if id=504 then c1 else id,⟨?_,?_,?_,?_,?_,?_,?_⟩,⟨?_,?_,?_,?_,?_,?_,?_,?_⟩,?_,?_⟩;all_goals try simp only [bG]
 ·rw [ah _ _ oM,ah _ _ oM,ah _ _ oM,ah _ _ oM,ah _ _ oM,ah _ _ oM,ah _ _ oM,ah _ _ oM,ak];rw [iT,er]
 ·rw [ah _ _ oM,ah _ _ oM,ah _ _ oM,ah _ _ oM,ah _ _ oM,ah _ _ oM,ah _ _ oM,ak,yR,en]
 ·rw [ah _ _ oM,ah _ _ oM,ah _ _ oM,ah _ _ oM,ah _ _ oM,ah _ _ oM,ak,fE,fE,em,et]
 ·rw [ah _ _ oM,ak]
 ·rw [ak]
 ·intro i hi;rw [en]at hi;simp only [AJ];by_cases hik:i=k;·subst hik;rw [ah _ _ oM,ah _ _ oM,ah _ _ oM,ak]
  ·rw [ah _ _ oM,ah _ _ oM,ah _ _ oM,ah _ _ oM,ah _ _ oM,ah _ _ oM,ah _ _ oM,ah _ _ oM,ah _ _ oM,ep i hi hik];exact hF.pl i hi
 ·intro i hi;rw [en]at hi;by_cases hik:i=k;·subst hik;rw [ah _ _ oM,ah _ _ oM,ak]
  ·rw [ah _ _ oM,ah _ _ oM,ah _ _ oM,ah _ _ oM,ah _ _ oM,ah _ _ oM,ah _ _ oM,ah _ _ oM,ah _ _ oM,iG,ep i hi hik];exact hF.mp i hi
 ·intro i j hi hi2 hj hj2 he;rw [en]at hi2 hj2;(repeat' split at he) <;> omega
 ·rw [if_neg (by decide),if_neg (by decide)]
 ·rw [if_neg (by decide),if_neg (by decide)]
 ·rw [if_neg (by decide),if_neg (by decide)]
 ·rfl
 ·rfl
 ·intro i hi;rw [en]at hi;rw [if_neg oM,if_neg oM]
 ·intro i hi;rw [en]at hi;rw [if_neg oM,if_neg oM]
 ·intro id _ _;repeat' split
  all_goals omega
 ·intro id hid hx;rw [ah _ _ oM,ah _ _ oM,ah _ _ oM,ah _ _ oM,ah _ _ oM,ah _ _ oM,ah _ _ oM,ah _ _ oM,ah _ _ oM]
theorem FE{S S':Sh}{nx c0 d k:Nat}(hn:S.n<=200)(hd:d< 1000)(hnx:1<=nx)(h0:c0=nx*100000+d) (er:S'.r=S.r) (en:S'.n=S.n) (em:S'.m=S.m) (et:S'.tk=S.tk) (eq:S'.q=S.q) (eg:S'.g=S.g) (hk:k< S.n) (ep:∀i,i< S.n->i≠k->S'.pl i=S.pl i) : jC S S' nx [(500,some (.box 123 (de S.r (.own 501) (.own 502) (.own 503) (.own c0)))),(501,some (.row 131 1 S.n fun i=>[.ref (505+2*i) 0])),(502,some (fE S)),(503,some (dV S)),(504,none),(505+2*k,some (.box 134 ((S'.pl k).c++[.own (506+2*k)]))),(506+2*k,some (iG S' k)),(c0,some (mG S'))]:=by
 intro σ hF;refine⟨⟨501,502,503,c0,fun i=>505+2*i,fun i=>506+2*i⟩,fun id=>if id=504 then c0 else id,⟨?_,?_,?_,?_,?_,?_,?_⟩,⟨?_,?_,?_,?_,?_,?_,?_,?_⟩,?_,?_⟩;all_goals try simp only [bG]
 ·rw [ah _ _ oM,ah _ _ oM,ah _ _ oM,ah _ _ oM,ah _ _ oM,ah _ _ oM,ah _ _ oM,ak];rw [iT,er]
 ·rw [ah _ _ oM,ah _ _ oM,ah _ _ oM,ah _ _ oM,ah _ _ oM,ah _ _ oM,ak,yR,en]
 ·rw [ah _ _ oM,ah _ _ oM,ah _ _ oM,ah _ _ oM,ah _ _ oM,ak,fE,fE,em,et]
 ·rw [ah _ _ oM,ah _ _ oM,ah _ _ oM,ah _ _ oM,ak,dV,dV,eq,eg]
 ·rw [ak]
 ·intro i hi;rw [en]at hi;simp only [AJ];by_cases hik:i=k;·subst hik;rw [ah _ _ oM,ah _ _ oM,ak]
  ·rw [ah _ _ oM,ah _ _ oM,ah _ _ oM,ah _ _ oM,ah _ _ oM,ah _ _ oM,ah _ _ oM,ah _ _ oM,ep i hi hik];exact hF.pl i hi
 ·intro i hi;rw [en]at hi;by_cases hik:i=k;·subst hik;rw [ah _ _ oM,ak]
  ·rw [ah _ _ oM,ah _ _ oM,ah _ _ oM,ah _ _ oM,ah _ _ oM,ah _ _ oM,ah _ _ oM,ah _ _ oM,iG,ep i hi hik];exact hF.mp i hi
 ·intro i j hi hi2 hj hj2 he;rw [en]at hi2 hj2;(repeat' split at he) <;> omega
 ·rw [if_neg (by decide)]
 ·rw [if_neg (by decide)]
 ·rw [if_neg (by decide)]
 ·rw [if_neg (by decide)]
 ·rfl
 ·intro i hi;rw [en]at hi;rw [if_neg oM]
 ·intro i hi;rw [en]at hi;rw [if_neg oM]
 ·intro id _ _;repeat' split
  all_goals omega
 ·intro id hid hx;rw [ah _ _ oM,ah _ _ oM,ah _ _ oM,ah _ _ oM,ah _ _ oM,ah _ _ oM,ah _ _ oM,ah _ _ oM]
theorem Du{S S':Sh}{nx c0 c1 c2 c3 d:Nat}(hn:S.n<=200)(hd:d< 1000)(hnx:1<=nx)(h0:c0=nx*100000+d)(h1:c1=nx*100000+1000+d)(h2:c2=nx*100000+2000+d)(h3:c3=nx*100000+3000+d) (er:S'.r=S.r) (en:S'.n=S.n+1) (em:S'.m=S.m) (eq:S'.q=S.q) (eg:S'.g=S.g) (ep:∀i,i< S.n->S'.pl i=S.pl i) : jC S S' nx [(500,some (.box 123 (de S.r (.own c0) (.own 502) (.own 503) (.own c3)))),(501,none),(502,some (fE S')),(503,some (dV S)),(504,none),(c0,some (.row 131 1 (S.n+1) fun i=>[.ref (if i< S.n then 505+2*i else c1) 0])),(c1,some (.box 134 ((S'.pl S.n).c++[.own c2]))),(c2,some (iG S' S.n)),(c3,some (mG S'))]:=by
 intro σ hF;refine⟨⟨c0,502,503,c3,fun i=>if i< S.n then 505+2*i else c1,fun i=>if i< S.n then 506+2*i else c2⟩,fun id=>if id=501 then c0 else if id=504 then c3 else if id=505+2*S.n then c1 else if id=506+2*S.n then c2 else id,⟨?_,?_,?_,?_,?_,?_,?_⟩,⟨?_,?_,?_,?_,?_,?_,?_,?_⟩,?_,?_⟩;all_goals try simp only [bG]
 ·rw [ah _ _ oM,ah _ _ oM,ah _ _ oM,ah _ _ oM,ah _ _ oM,ah _ _ oM,ah _ _ oM,ah _ _ oM,ak];rw [iT,er]
 ·rw [ah _ _ oM,ah _ _ oM,ah _ _ oM,ak,yR,en]
 ·rw [ah _ _ oM,ah _ _ oM,ah _ _ oM,ah _ _ oM,ah _ _ oM,ah _ _ oM,ak]
 ·rw [ah _ _ oM,ah _ _ oM,ah _ _ oM,ah _ _ oM,ah _ _ oM,ak,dV,dV,eq,eg]
 ·rw [ak]
 ·intro i hi;rw [en]at hi;by_cases hin:i< S.n;·simp only [AJ,if_pos hin];rw [ah _ _ oM,ah _ _ oM,ah _ _ oM,ah _ _ oM,ah _ _ oM,ah _ _ oM,ah _ _ oM,ah _ _ oM,ah _ _ oM,ep i hin];exact hF.pl i hin
  ·have hin':i=S.n:=by omega
   subst hin';simp only [AJ,if_neg hin];rw [ah _ _ oM,ah _ _ oM,ak]
 ·intro i hi;rw [en]at hi;by_cases hin:i< S.n;·simp only [if_pos hin];rw [ah _ _ oM,ah _ _ oM,ah _ _ oM,ah _ _ oM,ah _ _ oM,ah _ _ oM,ah _ _ oM,ah _ _ oM,ah _ _ oM,iG,ep i hin];exact hF.mp i hin
  ·have hin':i=S.n:=by omega
   subst hin';simp only [if_neg hin];rw [ah _ _ oM,ak]
 ·intro i j hi hi2 hj hj2 he;rw [en]at hi2 hj2;split at he <;> split at he <;> (try omega) <;> (repeat' split at he) <;> omega
 ·rw [if_neg (by decide),if_neg (by decide),if_neg oM,if_neg oM]
 ·rfl
 ·rw [if_neg (by decide),if_neg (by decide),if_neg oM,if_neg oM]
 ·rw [if_neg (by decide),if_neg (by decide),if_neg oM,if_neg oM]
 ·rfl
 ·intro i hi;rw [en]at hi;by_cases hin:i< S.n;·rw [if_neg oM,if_neg oM,if_neg oM,if_neg oM,if_pos hin]
  ·rw [if_neg oM,if_neg oM,if_pos oM,if_neg hin]
 ·intro i hi;rw [en]at hi;by_cases hin:i< S.n;·rw [if_neg oM,if_neg oM,if_neg oM,if_neg oM,if_pos hin]
  ·rw [if_neg oM,if_neg oM,if_neg oM,if_pos oM,if_neg hin]
 ·intro id _ _;repeat' split
  all_goals omega
 ·intro id hid hx;rw [ah _ _ oM,ah _ _ oM,ah _ _ oM,ah _ _ oM,ah _ _ oM,ah _ _ oM,ah _ _ oM,ah _ _ oM,ah _ _ oM]
theorem Dv{S S':Sh}{nx c0 c1 d:Nat}(hn:S.n<=200)(hd:d< 1000)(hnx:1<=nx)(h0:c0=nx*100000+d)(h1:c1=nx*100000+1000+d) (er:S'.r=S.r) (en:S'.n=S.n) (eq:S'.q=S.q) (eg:S'.g=S.g) (ep:∀i,i< S.n->S'.pl i=S.pl i) : jC S S' nx [(500,some (.box 123 (de S.r (.own 501) (.own c0) (.own 503) (.own c1)))),(501,some (.row 131 1 S.n fun i=>[.ref (505+2*i) 0])),(502,none),(503,some (dV S)),(504,none),(c0,some (fE S')),(c1,some (mG S'))]:=by
 intro σ hF;refine⟨⟨501,c0,503,c1,fun i=>505+2*i,fun i=>506+2*i⟩,fun id=>if id=502 then c0 else if id=504 then c1 else id,⟨?_,?_,?_,?_,?_,?_,?_⟩,⟨?_,?_,?_,?_,?_,?_,?_,?_⟩,?_,?_⟩;all_goals try simp only [bG]
 ·rw [ah _ _ oM,ah _ _ oM,ah _ _ oM,ah _ _ oM,ah _ _ oM,ah _ _ oM,ak];rw [iT,er]
 ·rw [ah _ _ oM,ah _ _ oM,ah _ _ oM,ah _ _ oM,ah _ _ oM,ak,yR,en]
 ·rw [ah _ _ oM,ak]
 ·rw [ah _ _ oM,ah _ _ oM,ah _ _ oM,ak,dV,dV,eq,eg]
 ·rw [ak]
 ·intro i hi;rw [en]at hi;simp only [AJ];rw [ah _ _ oM,ah _ _ oM,ah _ _ oM,ah _ _ oM,ah _ _ oM,ah _ _ oM,ah _ _ oM,ep i hi];exact hF.pl i hi
 ·intro i hi;rw [en]at hi;rw [ah _ _ oM,ah _ _ oM,ah _ _ oM,ah _ _ oM,ah _ _ oM,ah _ _ oM,ah _ _ oM,iG,ep i hi];exact hF.mp i hi
 ·intro i j hi hi2 hj hj2 he;rw [en]at hi2 hj2;(repeat' split at he) <;> omega
 ·rw [if_neg (by decide),if_neg (by decide)]
 ·rw [if_neg (by decide),if_neg (by decide)]
 ·rfl
 ·rw [if_neg (by decide),if_neg (by decide)]
 ·rfl
 ·intro i hi;rw [en]at hi;rw [if_neg oM,if_neg oM]
 ·intro i hi;rw [en]at hi;rw [if_neg oM,if_neg oM]
 ·intro id _ _;repeat' split
  all_goals omega
 ·intro id hid hx;rw [ah _ _ oM,ah _ _ oM,ah _ _ oM,ah _ _ oM,ah _ _ oM,ah _ _ oM,ah _ _ oM]
section
variable {P:Program}{W LB:Nat->Prop}{d:Nat}{ty:TypeId}{pos:String}{af:Array Edge}{ev:Operand->V}{fo:Operand}{ar:Array Operand}{ats:Array TypeId}{nx:Nat}{S S':Sh}{a:Act}{f:FuncId}{v:V}
def vc(P:Program)(W LB:Nat->Prop)(o:Oper)(ev:Operand->V)(nx d:Nat)(S S':Sh)(v:V):Prop:= ∃pre nw δ,aU P W LB o ev v pre nw δ/\l6 nx (some d) nw/\(∀σ,l8 S j5 σ->∀p∈pre,σ p.1=some p.2)/\jC S S' nx δ
theorem ry:ay nx (some d) 0=nx*100000+d:=by simp [ay]
theorem vA:ay nx (some d) 1=nx*100000+1000+d:=by simp [ay]
theorem Fy:ay nx (some d) 2=nx*100000+2000+d:=by simp [ay]
theorem FA:ay nx (some d) 3=nx*100000+3000+d:=by simp [ay]
theorem eY{n:Nat}(hd:d< 1000)(hn:n<=90):l6 nx (some d) ((List.range n).map (ay nx (some d))):=by
 intro id hid;obtain⟨j,hj,rfl⟩:=List.mem_map.1 hid;have hj:j< n:=by simpa using hj
 refine⟨d,rfl,?_⟩;show nx*100000<=ay nx (some d) j/\ay nx (some d) j< (nx+1)*100000/\ay nx (some d) j% 1000=d;unfold ay;simp only [Option.getD_some];omega
theorem wm(hk:∀p∈((501,.row 131 1 S.n fun i=>[.ref (505+2*i) 0])::AK S:List (Nat×Ob)),True):∀σ,l8 S j5 σ->∀p∈((501,.row 131 1 S.n fun i=>[.ref (505+2*i) 0])::AK S:List (Nat×Ob)),σ p.1=some p.2:=by
 intro σ hF p hp;simp at hp;rcases hp with h |h |h |h |h <;> subst h
 ·exact hF.p
 ·exact hF.s
 ·exact hF.t
 ·exact hF.f
 ·exact hF.a
theorem qK{k:Nat}(hk:k< S.n):∀σ,l8 S j5 σ->∀p∈((501,.row 131 1 S.n fun i=>[.ref (505+2*i) 0])::(AK S++[(505+2*k,AJ S j5 k),(506+2*k,iG S k)]):List (Nat×Ob)),σ p.1=some p.2:=by
 intro σ hF p hp;simp at hp;rcases hp with h |h |h |h |h |h |h <;> subst h
 ·exact hF.p
 ·exact hF.s
 ·exact hF.t
 ·exact hF.f
 ·exact hF.a
 ·exact hF.pl k hk
 ·exact hF.mp k hk
theorem o7(x:Nat->Value)(i:Nat):gI (fun i=>505+2*i) x i (Eh x i):= .c
theorem lD(k:Nat)(x:Nat->Value)(i:Nat):gI (fun i=>505+2*i) x i (zv k x i):= .alt (nm:=fun i=>505+2*i) k
theorem PS:∀p∈AK S,p.1≠501:=by intro p hp;simp at hp;rcases hp with h |h |h |h <;> subst h <;> simp
theorem Pe{k:Nat}:∀p∈(AK S++[(505+2*k,AJ S j5 k),(506+2*k,iG S k)]),p.1≠501:=by intro p hp;simp at hp;rcases hp with h |h |h |h |h |h <;> subst h <;> simp <;> omega
theorem oB(hwl:∀b,W b->LB b)(hc:∀x,AM P f [.ref 500 0,a.v] (cE S.r S.n (bW x) S.m S.tk S.q (bw S.g) S.l) v ((cE S.r S.n (bW x) S.m S.tk S.q (bw S.g) S.l).map some) [])(hv:v.ck=true) (hf:ev fo= .fn (.func f) [] []) (hargs:ar.toList.map ev=[.ref 500 0,a.v]) (hd:d< 1000):vc P W LB ⟨some d,.call {callee:= .value fo,args:=ar,argTypes:=ats},ty,pos,af,none⟩ ev nx d S S v:=by
 refine⟨_,_,[(500,some (iT S j5)),(501,some (.row 131 1 S.n fun i=>[.ref (505+2*i) 0])),(502,some (fE S)),(503,some (dV S)),(504,some (mG S))],
  aU.const (nm:=fun i=>505+2*i) (rx:=Eh) (δ:=fun x=>[(500,some (iT S j5)),(501,some (.row 131 1 S.n fun i=>[Eh x i])),(502,some (fE S)),(503,some (dV S)),(504,some (mG S))]) (fun x=>Py hwl (hc x) hv hf hargs hd (by simp) rfl) PS (fun x i _=>o7 x i) fun x=> .some _ (.refl _ _ _ _) (.some _ (.sY (fun i _=>o7 x i) fun i _=> .ref (nm:=fun i=>505+2*i)) (.some _ (.refl _ _ _ _) (.some _ (.refl _ _ _ _) (.some _ (.refl _ _ _ _) .nil)))),
  eY hd (by simp),wm fun _ _=>trivial,uu fun σ hF p hp=> ?_⟩
 simp at hp;rcases hp with h |h |h |h |h <;> subst h
 ·exact hF.s
 ·exact hF.p
 ·exact hF.t
 ·exact hF.f
 ·exact hF.a
theorem kO{k:Nat}(hk:k< S.n)(hwl:∀b,W b->LB b)(hc:∀x,AM P f [.ref 500 0,a.v] (cN S.r S.n k x S.m S.tk S.q (bw S.g) S.l (S.pl k)) v ((cN S.r S.n k x S.m S.tk S.q (bw S.g) S.l (S.pl k)).map some) [])(hv:v.ck=true) (hf:ev fo= .fn (.func f) [] []) (hargs:ar.toList.map ev=[.ref 500 0,a.v]) (hd:d< 1000):vc P W LB ⟨some d,.call {callee:= .value fo,args:=ar,argTypes:=ats},ty,pos,af,none⟩ ev nx d S S v:=by
 refine⟨_,_,[(500,some (iT S j5)),(501,some (.row 131 1 S.n fun i=>[.ref (505+2*i) 0])),(502,some (fE S)),(503,some (dV S)),(504,some (mG S)),(505+2*k,some (AJ S j5 k)),(506+2*k,some (iG S k))],
  aU.const (nm:=fun i=>505+2*i) (rx:=zv k) (δ:=fun x=>[(500,some (iT S j5)),(501,some (.row 131 1 S.n fun i=>[zv k x i])),(502,some (fE S)),(503,some (dV S)),(504,some (mG S)),(505+2*k,some (AJ S j5 k)),(506+2*k,some (iG S k))]) (fun x=>O5 hwl (hc x) hv hf hargs hd (by simp) rfl) Pe (fun x i _=>lD k x i) fun x=> .some _ (.refl _ _ _ _) (.some _ (.sY (fun i _=>lD k x i) fun i _=> .ref (nm:=fun i=>505+2*i)) (.some _ (.refl _ _ _ _) (.some _ (.refl _ _ _ _) (.some _ (.refl _ _ _ _) (.some _ (.refl _ _ _ _) (.some _ (.refl _ _ _ _) .nil)))))),
  eY hd (by simp),qK hk,uu fun σ hF p hp=> ?_⟩
 simp at hp;rcases hp with h |h |h |h |h |h |h <;> subst h
 ·exact hF.s
 ·exact hF.p
 ·exact hF.t
 ·exact hF.f
 ·exact hF.a
 ·exact hF.pl k hk
 ·exact hF.mp k hk
theorem Dt{k:Nat}(hk:k< S.n){p z':Pl}{tk':Nat->aP}(hwl:∀b,W b->LB b)(hc:∀x,AM P f [.ref 500 0,a.v] (cN S.r S.n k x S.m S.tk S.q (bw S.g) S.l (S.pl k)) v [some (.box 123 (de S.r (.own 0) (.own 502) (.own 503) (.own 3))),none,some (.row 55 4 S.m (fun i=>(tk' i).c)),some (.row 149 2 S.q (bw S.g)),none,some (.box 134 (z'.c++[V.own 506])),some (.mp (false,z'.cnt) (aQ z'.fl))] [.row 131 1 (S.n+1) (qu 505 k S.n 1 x),.box 134 (p.c++[V.own 2]),.mp (false,p.cnt) (aQ p.fl),(.row 40 13 (S.l+1) bR)])(hv:v.ck=true) (hf:ev fo= .fn (.func f) [] []) (hargs:ar.toList.map ev=[.ref 500 0,a.v]) (hd:d< 1000) (hnx:1<=nx) (hn:S.n<=200):vc P W LB ⟨some d,.call {callee:= .value fo,args:=ar,argTypes:=ats},ty,pos,af,none⟩ ev nx d S {S with n:=S.n+1,pl:=fk (dN S.pl k z') S.n p,tk:=tk',l:=S.l+1} v:=by
 have hD:=FF (S:=S) (S':={S with n:=S.n+1,pl:=fk (dN S.pl k z') S.n p,tk:=tk',l:=S.l+1}) (nx:=nx) (d:=d) (k:=k) hn hd hnx ry vA Fy FA rfl rfl rfl rfl rfl hk (fun i hi hik=>by show fk _ _ _ i=_;rw [fk,if_pos hi,dN,if_neg hik]);have e1:fk (dN S.pl k z') S.n p k=z':=by rw [fk,if_pos hk,dN,if_pos rfl]
 have e2:fk (dN S.pl k z') S.n p S.n=p:=by rw [fk,if_neg (Nat.lt_irrefl _)]
 simp only [iG,e1,e2]at hD;have eδ:∀x:Nat->Value,gG (aJ nx (some d) (AB k)) (AB k) ([some (.box 123 (de S.r (.own 0) (.own 502) (.own 503) (.own 3))),none,some (.row 55 4 S.m (fun i=>(tk' i).c)),some (.row 149 2 S.q (bw S.g)),none,some (.box 134 (z'.c++[V.own 506])),some (.mp (false,z'.cnt) (aQ z'.fl))]:List (Option Ob))++cj (aJ nx (some d) (AB k)) 0 ([.row 131 1 (S.n+1) (qu 505 k S.n 1 x),.box 134 (p.c++[V.own 2]),.mp (false,p.cnt) (aQ p.fl),(.row 40 13 (S.l+1) bR)]:List Ob)=[(500,some (.box 123 (de S.r (.own (ay nx (some d) 0)) (.own 502) (.own 503) (.own (ay nx (some d) 3))))),(501,none),(502,some (.row 55 4 S.m (fun i=>(tk' i).c))),(503,some (.row 149 2 S.q (bw S.g))),(504,none),(505+2*k,some (.box 134 (z'.c++[V.own (506+2*k)]))),(506+2*k,some (.mp (false,z'.cnt) (aQ z'.fl))),((ay nx (some d) 0),some (.row 131 1 (S.n+1) fun i=>[.alt (decide (i< S.n)) (zv k x i) (.ref (ay nx (some d) 1) 0)])),((ay nx (some d) 1),some (.box 134 (p.c++[V.own (ay nx (some d) 2)]))),((ay nx (some d) 2),some (.mp (false,p.cnt) (aQ p.fl))),((ay nx (some d) 3),some (.row 40 13 (S.l+1) bR))]:=fun x=>by kernel_rfl
 refine⟨_,_,[(500,some (.box 123 (de S.r (.own (ay nx (some d) 0)) (.own 502) (.own 503) (.own (ay nx (some d) 3))))),(501,none),(502,some (.row 55 4 S.m (fun i=>(tk' i).c))),(503,some (.row 149 2 S.q (bw S.g))),(504,none),(505+2*k,some (.box 134 (z'.c++[V.own (506+2*k)]))),(506+2*k,some (.mp (false,z'.cnt) (aQ z'.fl))),((ay nx (some d) 0),some (.row 131 1 (S.n+1) fun i=>[.ref (if i< S.n then 505+2*i else(ay nx (some d) 1)) 0])),((ay nx (some d) 1),some (.box 134 (p.c++[V.own (ay nx (some d) 2)]))),((ay nx (some d) 2),some (.mp (false,p.cnt) (aQ p.fl))),((ay nx (some d) 3),some (.row 40 13 (S.l+1) bR))],
  aU.const (nm:=fun i=>505+2*i) (rx:=zv k) (δ:=fun x=>[(500,some (.box 123 (de S.r (.own (ay nx (some d) 0)) (.own 502) (.own 503) (.own (ay nx (some d) 3))))),(501,none),(502,some (.row 55 4 S.m (fun i=>(tk' i).c))),(503,some (.row 149 2 S.q (bw S.g))),(504,none),(505+2*k,some (.box 134 (z'.c++[V.own (506+2*k)]))),(506+2*k,some (.mp (false,z'.cnt) (aQ z'.fl))),((ay nx (some d) 0),some (.row 131 1 (S.n+1) fun i=>[.alt (decide (i< S.n)) (zv k x i) (.ref (ay nx (some d) 1) 0)])),((ay nx (some d) 1),some (.box 134 (p.c++[V.own (ay nx (some d) 2)]))),((ay nx (some d) 2),some (.mp (false,p.cnt) (aQ p.fl))),((ay nx (some d) 3),some (.row 40 13 (S.l+1) bR))]) (fun x=>by rw [<-eδ x];exact O5 hwl (hc x) hv hf hargs hd (by simp) rfl) Pe (fun x i _=>lD k x i) fun x=>(.some _ (.refl _ _ _ _) (.none _ (.some _ (.refl _ _ _ _) (.some _ (.refl _ _ _ _) (.none _ (.some _ (.refl _ _ _ _) (.some _ (.refl _ _ _ _) (.some _ (.HM (nm:=fun i=>505+2*i) (c:=zv k x) fun i _=>lD k x i) (.some _ (.refl _ _ _ _) (.some _ (.refl _ _ _ _) (.some _ (.refl _ _ _ _) .nil))))))))))),
  eY hd (by simp),qK hk,hD⟩
theorem FD{p:Pl}(hwl:∀b,W b->LB b)(hc:∀x,AM P f [.ref 500 0,a.v] (cE S.r S.n (bW x) S.m S.tk S.q (bw S.g) S.l) v [some (.box 123 (de S.r (.own 0) (.own 502) (.own 503) (.own 3))),none,some (.row 55 4 S.m (fun i=>(S.tk i).c)),some (.row 149 2 S.q (bw S.g)),none] [.row 131 1 (S.n+1) (A0 S.n 1 x),.box 134 (p.c++[V.own 2]),.mp (false,p.cnt) (aQ p.fl),(.row 40 13 (S.l+1) bR)])(hv:v.ck=true) (hf:ev fo= .fn (.func f) [] []) (hargs:ar.toList.map ev=[.ref 500 0,a.v]) (hd:d< 1000) (hnx:1<=nx) (hn:S.n<=200):vc P W LB ⟨some d,.call {callee:= .value fo,args:=ar,argTypes:=ats},ty,pos,af,none⟩ ev nx d S {S with n:=S.n+1,pl:=fk S.pl S.n p,l:=S.l+1} v:=by
 have hD:=Du (S:=S) (S':={S with n:=S.n+1,pl:=fk S.pl S.n p,l:=S.l+1}) (nx:=nx) (d:=d) hn hd hnx ry vA Fy FA rfl rfl rfl rfl rfl (fun i hi=>by show fk _ _ _ i=_;rw [fk,if_pos hi]);have e2:fk S.pl S.n p S.n=p:=by rw [fk,if_neg (Nat.lt_irrefl _)]
 simp only [iG,e2]at hD;have eδ:∀x:Nat->Value,gG (aJ nx (some d) EA) EA ([some (.box 123 (de S.r (.own 0) (.own 502) (.own 503) (.own 3))),none,some (.row 55 4 S.m (fun i=>(S.tk i).c)),some (.row 149 2 S.q (bw S.g)),none]:List (Option Ob))++cj (aJ nx (some d) EA) 0 ([.row 131 1 (S.n+1) (A0 S.n 1 x),.box 134 (p.c++[V.own 2]),.mp (false,p.cnt) (aQ p.fl),(.row 40 13 (S.l+1) bR)]:List Ob)=[(500,some (.box 123 (de S.r (.own (ay nx (some d) 0)) (.own 502) (.own 503) (.own (ay nx (some d) 3))))),(501,none),(502,some (.row 55 4 S.m (fun i=>(S.tk i).c))),(503,some (.row 149 2 S.q (bw S.g))),(504,none),((ay nx (some d) 0),some (.row 131 1 (S.n+1) fun i=>[.alt (decide (i< S.n)) (Eh x i) (.ref (ay nx (some d) 1) 0)])),((ay nx (some d) 1),some (.box 134 (p.c++[V.own (ay nx (some d) 2)]))),((ay nx (some d) 2),some (.mp (false,p.cnt) (aQ p.fl))),((ay nx (some d) 3),some (.row 40 13 (S.l+1) bR))]:=fun x=>by kernel_rfl
 refine⟨_,_,[(500,some (.box 123 (de S.r (.own (ay nx (some d) 0)) (.own 502) (.own 503) (.own (ay nx (some d) 3))))),(501,none),(502,some (.row 55 4 S.m (fun i=>(S.tk i).c))),(503,some (.row 149 2 S.q (bw S.g))),(504,none),((ay nx (some d) 0),some (.row 131 1 (S.n+1) fun i=>[.ref (if i< S.n then 505+2*i else(ay nx (some d) 1)) 0])),((ay nx (some d) 1),some (.box 134 (p.c++[V.own (ay nx (some d) 2)]))),((ay nx (some d) 2),some (.mp (false,p.cnt) (aQ p.fl))),((ay nx (some d) 3),some (.row 40 13 (S.l+1) bR))],
  aU.const (nm:=fun i=>505+2*i) (rx:=Eh) (δ:=fun x=>[(500,some (.box 123 (de S.r (.own (ay nx (some d) 0)) (.own 502) (.own 503) (.own (ay nx (some d) 3))))),(501,none),(502,some (.row 55 4 S.m (fun i=>(S.tk i).c))),(503,some (.row 149 2 S.q (bw S.g))),(504,none),((ay nx (some d) 0),some (.row 131 1 (S.n+1) fun i=>[.alt (decide (i< S.n)) (Eh x i) (.ref (ay nx (some d) 1) 0)])),((ay nx (some d) 1),some (.box 134 (p.c++[V.own (ay nx (some d) 2)]))),((ay nx (some d) 2),some (.mp (false,p.cnt) (aQ p.fl))),((ay nx (some d) 3),some (.row 40 13 (S.l+1) bR))]) (fun x=>by rw [<-eδ x];exact Py hwl (hc x) hv hf hargs hd (by simp) rfl) PS (fun x i _=>o7 x i) fun x=>(.some _ (.refl _ _ _ _) (.none _ (.some _ (.refl _ _ _ _) (.some _ (.refl _ _ _ _) (.none _ (.some _ (.HM (nm:=fun i=>505+2*i) (c:=Eh x) fun i _=>o7 x i) (.some _ (.refl _ _ _ _) (.some _ (.refl _ _ _ _) (.some _ (.refl _ _ _ _) .nil))))))))),
  eY hd (by simp),wm fun _ _=>trivial,hD⟩
theorem Dq{tk':Nat->aP}(hwl:∀b,W b->LB b)(hc:∀x,AM P f [.ref 500 0,a.v] (cE S.r S.n (bW x) S.m S.tk S.q (bw S.g) S.l) v [some (.box 123 (de S.r (.own 501) (.own 0) (.own 503) (.own 1))),some (.row 131 1 S.n (bW x)),none,some (.row 149 2 S.q (bw S.g)),none] [.row 55 4 (S.m+1) (fun i=>(tk' i).c),(.row 40 13 (S.l+1) bR)])(hv:v.ck=true) (hf:ev fo= .fn (.func f) [] []) (hargs:ar.toList.map ev=[.ref 500 0,a.v]) (hd:d< 1000) (hnx:1<=nx) (hn:S.n<=200):vc P W LB ⟨some d,.call {callee:= .value fo,args:=ar,argTypes:=ats},ty,pos,af,none⟩ ev nx d S {S with m:=S.m+1,tk:=tk',l:=S.l+1} v:=by
 have hD:=Dv (S:=S) (S':={S with m:=S.m+1,tk:=tk',l:=S.l+1}) (nx:=nx) (d:=d) hn hd hnx ry vA rfl rfl rfl rfl (fun i hi=>rfl);have eδ:∀x:Nat->Value,gG (aJ nx (some d) EA) EA ([some (.box 123 (de S.r (.own 501) (.own 0) (.own 503) (.own 1))),some (.row 131 1 S.n (bW x)),none,some (.row 149 2 S.q (bw S.g)),none]:List (Option Ob))++cj (aJ nx (some d) EA) 0 ([.row 55 4 (S.m+1) (fun i=>(tk' i).c),(.row 40 13 (S.l+1) bR)]:List Ob)=[(500,some (.box 123 (de S.r (.own 501) (.own (ay nx (some d) 0)) (.own 503) (.own (ay nx (some d) 1))))),(501,some (.row 131 1 S.n fun i=>[Eh x i])),(502,none),(503,some (.row 149 2 S.q (bw S.g))),(504,none),((ay nx (some d) 0),some (.row 55 4 (S.m+1) (fun i=>(tk' i).c))),((ay nx (some d) 1),some (.row 40 13 (S.l+1) bR))]:=fun x=>by kernel_rfl
 refine⟨_,_,[(500,some (.box 123 (de S.r (.own 501) (.own (ay nx (some d) 0)) (.own 503) (.own (ay nx (some d) 1))))),(501,some (.row 131 1 S.n fun i=>[.ref (505+2*i) 0])),(502,none),(503,some (.row 149 2 S.q (bw S.g))),(504,none),((ay nx (some d) 0),some (.row 55 4 (S.m+1) (fun i=>(tk' i).c))),((ay nx (some d) 1),some (.row 40 13 (S.l+1) bR))],
  aU.const (nm:=fun i=>505+2*i) (rx:=Eh) (δ:=fun x=>[(500,some (.box 123 (de S.r (.own 501) (.own (ay nx (some d) 0)) (.own 503) (.own (ay nx (some d) 1))))),(501,some (.row 131 1 S.n fun i=>[Eh x i])),(502,none),(503,some (.row 149 2 S.q (bw S.g))),(504,none),((ay nx (some d) 0),some (.row 55 4 (S.m+1) (fun i=>(tk' i).c))),((ay nx (some d) 1),some (.row 40 13 (S.l+1) bR))]) (fun x=>by rw [<-eδ x];exact Py hwl (hc x) hv hf hargs hd (by simp) rfl) PS (fun x i _=>o7 x i) fun x=>(.some _ (.refl _ _ _ _) (.some _ (.sY (fun i _=>o7 x i) fun i _=> .ref (nm:=fun i=>505+2*i)) (.none _ (.some _ (.refl _ _ _ _) (.none _ (.some _ (.refl _ _ _ _) (.some _ (.refl _ _ _ _) .nil))))))),
  eY hd (by simp),wm fun _ _=>trivial,hD⟩
theorem Dr{k:Nat}(hk:k< S.n){z':Pl}{g':Nat->Int×Int}(hz:z'.c=(S.pl k).c)(hwl:∀b,W b->LB b)(hc:∀x,AM P f [.ref 500 0,a.v] (cN S.r S.n k x S.m S.tk S.q (bw S.g) S.l (S.pl k)) v [some (.box 123 (de S.r (.own 501) (.own 502) (.own 0) (.own 1))),some (.row 131 1 S.n (dj 505 k x)),some (.row 55 4 S.m (fun i=>(S.tk i).c)),none,none,some (.box 134 ((S.pl k).c++[V.own 506])),some (.mp (false,z'.cnt) (aQ z'.fl))] [.row 149 2 (S.q+1) (bw g'),(.row 40 13 (S.l+1) bR)])(hv:v.ck=true) (hf:ev fo= .fn (.func f) [] []) (hargs:ar.toList.map ev=[.ref 500 0,a.v]) (hd:d< 1000) (hnx:1<=nx) (hn:S.n<=200):vc P W LB ⟨some d,.call {callee:= .value fo,args:=ar,argTypes:=ats},ty,pos,af,none⟩ ev nx d S {S with q:=S.q+1,g:=g',pl:=dN S.pl k z',l:=S.l+1} v:=by
 have hD:=Dx (S:=S) (S':={S with q:=S.q+1,g:=g',pl:=dN S.pl k z',l:=S.l+1}) (nx:=nx) (d:=d) (k:=k) hn hd hnx ry vA rfl rfl rfl rfl hk (fun i hi hik=>by show dN _ _ _ i=_;rw [dN,if_neg hik]);have e1:dN S.pl k z' k=z':=by rw [dN,if_pos rfl]
 simp only [iG,e1]at hD;rw [hz]at hD;have eδ:∀x:Nat->Value,gG (aJ nx (some d) (AB k)) (AB k) ([some (.box 123 (de S.r (.own 501) (.own 502) (.own 0) (.own 1))),some (.row 131 1 S.n (dj 505 k x)),some (.row 55 4 S.m (fun i=>(S.tk i).c)),none,none,some (.box 134 ((S.pl k).c++[V.own 506])),some (.mp (false,z'.cnt) (aQ z'.fl))]:List (Option Ob))++cj (aJ nx (some d) (AB k)) 0 ([.row 149 2 (S.q+1) (bw g'),(.row 40 13 (S.l+1) bR)]:List Ob)=[(500,some (.box 123 (de S.r (.own 501) (.own 502) (.own (ay nx (some d) 0)) (.own (ay nx (some d) 1))))),(501,some (.row 131 1 S.n fun i=>[zv k x i])),(502,some (.row 55 4 S.m (fun i=>(S.tk i).c))),(503,none),(504,none),(505+2*k,some (.box 134 ((S.pl k).c++[V.own (506+2*k)]))),(506+2*k,some (.mp (false,z'.cnt) (aQ z'.fl))),((ay nx (some d) 0),some (.row 149 2 (S.q+1) (bw g'))),((ay nx (some d) 1),some (.row 40 13 (S.l+1) bR))]:=fun x=>by kernel_rfl
 refine⟨_,_,[(500,some (.box 123 (de S.r (.own 501) (.own 502) (.own (ay nx (some d) 0)) (.own (ay nx (some d) 1))))),(501,some (.row 131 1 S.n fun i=>[.ref (505+2*i) 0])),(502,some (.row 55 4 S.m (fun i=>(S.tk i).c))),(503,none),(504,none),(505+2*k,some (.box 134 ((S.pl k).c++[V.own (506+2*k)]))),(506+2*k,some (.mp (false,z'.cnt) (aQ z'.fl))),((ay nx (some d) 0),some (.row 149 2 (S.q+1) (bw g'))),((ay nx (some d) 1),some (.row 40 13 (S.l+1) bR))],
  aU.const (nm:=fun i=>505+2*i) (rx:=zv k) (δ:=fun x=>[(500,some (.box 123 (de S.r (.own 501) (.own 502) (.own (ay nx (some d) 0)) (.own (ay nx (some d) 1))))),(501,some (.row 131 1 S.n fun i=>[zv k x i])),(502,some (.row 55 4 S.m (fun i=>(S.tk i).c))),(503,none),(504,none),(505+2*k,some (.box 134 ((S.pl k).c++[V.own (506+2*k)]))),(506+2*k,some (.mp (false,z'.cnt) (aQ z'.fl))),((ay nx (some d) 0),some (.row 149 2 (S.q+1) (bw g'))),((ay nx (some d) 1),some (.row 40 13 (S.l+1) bR))]) (fun x=>by rw [<-eδ x];exact O5 hwl (hc x) hv hf hargs hd (by simp) rfl) Pe (fun x i _=>lD k x i) fun x=>(.some _ (.refl _ _ _ _) (.some _ (.sY (fun i _=>lD k x i) fun i _=> .ref (nm:=fun i=>505+2*i)) (.some _ (.refl _ _ _ _) (.none _ (.none _ (.some _ (.refl _ _ _ _) (.some _ (.refl _ _ _ _) (.some _ (.refl _ _ _ _) (.some _ (.refl _ _ _ _) .nil))))))))),
  eY hd (by simp),qK hk,hD⟩
theorem xI{k:Nat}(hk:k< S.n){z':Pl}(hwl:∀b,W b->LB b)(hc:∀x,AM P f [.ref 500 0,a.v] (cN S.r S.n k x S.m S.tk S.q (bw S.g) S.l (S.pl k)) v [some (.box 123 (de S.r (.own 501) (.own 502) (.own 503) (.own 0))),some (.row 131 1 S.n (dj 505 k x)),some (.row 55 4 S.m (fun i=>(S.tk i).c)),some (.row 149 2 S.q (bw S.g)),none,some (.box 134 (z'.c++[V.own 506])),some (.mp (false,z'.cnt) (aQ z'.fl))] [(.row 40 13 (S.l+1) bR)])(hv:v.ck=true) (hf:ev fo= .fn (.func f) [] []) (hargs:ar.toList.map ev=[.ref 500 0,a.v]) (hd:d< 1000) (hnx:1<=nx) (hn:S.n<=200):vc P W LB ⟨some d,.call {callee:= .value fo,args:=ar,argTypes:=ats},ty,pos,af,none⟩ ev nx d S {S with pl:=dN S.pl k z',l:=S.l+1} v:=by
 have hD:=FE (S:=S) (S':={S with pl:=dN S.pl k z',l:=S.l+1}) (nx:=nx) (d:=d) (k:=k) hn hd hnx ry rfl rfl rfl rfl rfl rfl hk (fun i hi hik=>by show dN _ _ _ i=_;rw [dN,if_neg hik]);have e1:dN S.pl k z' k=z':=by rw [dN,if_pos rfl]
 simp only [iG,e1]at hD;have eδ:∀x:Nat->Value,gG (aJ nx (some d) (AB k)) (AB k) ([some (.box 123 (de S.r (.own 501) (.own 502) (.own 503) (.own 0))),some (.row 131 1 S.n (dj 505 k x)),some (.row 55 4 S.m (fun i=>(S.tk i).c)),some (.row 149 2 S.q (bw S.g)),none,some (.box 134 (z'.c++[V.own 506])),some (.mp (false,z'.cnt) (aQ z'.fl))]:List (Option Ob))++cj (aJ nx (some d) (AB k)) 0 ([(.row 40 13 (S.l+1) bR)]:List Ob)=[(500,some (.box 123 (de S.r (.own 501) (.own 502) (.own 503) (.own (ay nx (some d) 0))))),(501,some (.row 131 1 S.n fun i=>[zv k x i])),(502,some (.row 55 4 S.m (fun i=>(S.tk i).c))),(503,some (.row 149 2 S.q (bw S.g))),(504,none),(505+2*k,some (.box 134 (z'.c++[V.own (506+2*k)]))),(506+2*k,some (.mp (false,z'.cnt) (aQ z'.fl))),((ay nx (some d) 0),some (.row 40 13 (S.l+1) bR))]:=fun x=>by kernel_rfl
 refine⟨_,_,[(500,some (.box 123 (de S.r (.own 501) (.own 502) (.own 503) (.own (ay nx (some d) 0))))),(501,some (.row 131 1 S.n fun i=>[.ref (505+2*i) 0])),(502,some (.row 55 4 S.m (fun i=>(S.tk i).c))),(503,some (.row 149 2 S.q (bw S.g))),(504,none),(505+2*k,some (.box 134 (z'.c++[V.own (506+2*k)]))),(506+2*k,some (.mp (false,z'.cnt) (aQ z'.fl))),((ay nx (some d) 0),some (.row 40 13 (S.l+1) bR))],
  aU.const (nm:=fun i=>505+2*i) (rx:=zv k) (δ:=fun x=>[(500,some (.box 123 (de S.r (.own 501) (.own 502) (.own 503) (.own (ay nx (some d) 0))))),(501,some (.row 131 1 S.n fun i=>[zv k x i])),(502,some (.row 55 4 S.m (fun i=>(S.tk i).c))),(503,some (.row 149 2 S.q (bw S.g))),(504,none),(505+2*k,some (.box 134 (z'.c++[V.own (506+2*k)]))),(506+2*k,some (.mp (false,z'.cnt) (aQ z'.fl))),((ay nx (some d) 0),some (.row 40 13 (S.l+1) bR))]) (fun x=>by rw [<-eδ x];exact O5 hwl (hc x) hv hf hargs hd (by simp) rfl) Pe (fun x i _=>lD k x i) fun x=>(.some _ (.refl _ _ _ _) (.some _ (.sY (fun i _=>lD k x i) fun i _=> .ref (nm:=fun i=>505+2*i)) (.some _ (.refl _ _ _ _) (.some _ (.refl _ _ _ _) (.none _ (.some _ (.refl _ _ _ _) (.some _ (.refl _ _ _ _) (.some _ (.refl _ _ _ _) .nil)))))))),
  eY hd (by simp),qK hk,hD⟩
end
theorem EN{kind cut area stock yield plate bath s0 s1 cur sec place flaw:Int}(hk:kind=3)(h:cm ⟨kind,cut,area,stock,yield,plate,bath,s0,s1,cur,sec,place,flaw⟩=true):Act.Im ⟨kind,cut,area,stock,yield,plate,bath,s0,s1,cur,sec,place,flaw⟩:=by subst hk;simp [cm,aC]at h;exact⟨by simp;omega,by simp;omega,by simp;omega,by simp;omega⟩
theorem vU{r:Rc}{n:Nat}{z:Pl}{a:Act}(hz:z.ok)(h:dx r n z a=0):z.kind<=2/\z.ret=false/\z.grown< r.max z.kind:=by
 unfold dx at h;by_cases h1:z.ret=true;·rw [if_pos h1]at h;cases h
 rw [if_neg h1]at h;by_cases h2:uQ r z=0\/256<=n;·rw [if_pos h2]at h;cases h
 have h3:uQ r z≠0:=fun e=>h2 (.inl e);rw [uQ,if_neg h1]at h3;have h4:z.grown< r.max z.kind:=by omega
 refine⟨?_,by simpa using h1,h4⟩;have:=hz.kind;have hg:=hz.grown;by_cases h5:z.kind=3;·rw [h5]at h4;simp [Rc.max]at h4;omega
 ·omega
section
variable {W LB:Nat->Prop}{d:Nat}{ty:TypeId}{pos:String}{af:Array Edge}{ev:Operand->V}{fo:Operand}{ar:Array Operand}{ats:Array TypeId}{nx:Nat}{S:Sh}
theorem NB(hwl:∀b,W b->LB b)(hS:S.ok)(hl:S.l<=60)(a:Act)(hf:ev fo= .fn (.func 13) [] [])(hargs:ar.toList.map ev=[.ref 500 0,a.v])(hd:d< 1000)(hnx:1<=nx) :
    vc Tryz.prog W LB ⟨some d,.call {callee:= .value fo,args:=ar,argTypes:=ats},ty,pos,af,none⟩ ev nx d S (dA S a).1 (.tup [.i (dA S a).2.1,.i (dA S a).2.2]):=by
  have hn:S.n<=200:=by have:=hS.n;omega
  have hq:S.q<=60:=by have:=hS.q;omega
  have hm:=hS.m
  by_cases hv:cm a=false
  · rw [show dA S a=(S,0,2) by rw [dA,if_pos hv]]
    exact oB hwl (fun x=>LK S.r S.n x S.m S.tk S.q S.g S.l a oM hv) rfl hf hargs hd
  have hv:cm a=true:=by simpa using hv
  obtain⟨kind,cut,area,stock,yield,plate,bath,s0,s1,cur,sec,place,flaw⟩:=a
  obtain⟨A,hA⟩:∃A:Act,A=⟨kind,cut,area,stock,yield,plate,bath,s0,s1,cur,sec,place,flaw⟩:=⟨_,rfl⟩
  by_cases k1:kind=1
  · subst k1
    rw [<-hA,show dA S A=({S with n:=S.n+1,pl:=fk S.pl S.n (tQ A),l:=S.l+1},(S.n:Int),0) by rw [dA,if_neg (by rw [hA,hv];simp),if_pos (by rw [hA])]]
    try rw [hA]
    exact FD hwl (fun x=>tL S.r S.n x S.m S.tk S.q S.g S.l _ oM hv (Au S.r S.n x S.m S.tk S.q S.g S.l _ hn)) rfl hf hargs hd hnx hn
  by_cases k2:kind=2
  · subst k2
    by_cases c:S.m< 8
    · rw [<-hA,show dA S A=({S with m:=S.m+1,tk:=mb S.m S.tk A,l:=S.l+1},(S.m:Int),0) by rw [dA,if_neg (by rw [hA,hv];simp),if_neg (by rw [hA];simp),if_pos (by rw [hA]),if_pos c],hA]
      exact Dq hwl (fun x=>z0 S.r S.n x S.m S.tk S.q S.g S.l _ oM hv (IJ S.r S.n x S.m S.tk S.q S.g S.l _ c)) rfl hf hargs hd hnx hn
    · rw [<-hA,show dA S A=(S,0,11) by rw [dA,if_neg (by rw [hA,hv];simp),if_neg (by rw [hA];simp),if_pos (by rw [hA]),if_neg c]]
      exact oB hwl (fun x=>zZ S.r S.n x S.m S.tk S.q S.g S.l (by simp) oM hv (Fi S.r S.n x S.m S.tk S.q S.g S.l _ c)) rfl hf hargs hd
  by_cases k3:kind=3
  · subst k3
    have hg:=EN rfl hv
    have e0:dA S A=if ¬(0<=A.plate/\A.plate< S.n)then(S,(0:Int),(5:Int))else if ¬(0<=A.bath/\A.bath< S.m)then(S,0,5)else if dx S.r S.n (S.pl A.plate.toNat) A≠0 then(S,0,dx S.r S.n (S.pl A.plate.toNat) A)else if dP S.r (S.pl A.plate.toNat) (S.tk A.bath.toNat) A≠0 then(S,0,dP S.r (S.pl A.plate.toNat) (S.tk A.bath.toNat) A)
        else({S with n:=S.n+1,pl:=fk (dN S.pl A.plate.toNat (S.pl A.plate.toNat).under) S.n ((S.pl A.plate.toNat).over A.plate (di (S.pl A.plate.toNat) (S.tk A.bath.toNat) A)),tk:=mz S.tk A.bath.toNat ((S.tk A.bath.toNat).used A),l:=S.l+1},(S.n:Int),0):=by
      rw [dA,if_neg (by rw [hA,hv];simp),if_neg (by rw [hA];simp),if_neg (by rw [hA];simp),if_pos (by rw [hA])]
    by_cases c:0<=plate/\plate< S.n
    · obtain⟨k,hk⟩:∃k:Nat,plate=k:=⟨plate.toNat,by omega⟩
      have hkn:k< S.n:=by omega
      have hkt:A.plate.toNat=k:=by rw [hA];show plate.toNat=k;omega
      have hz:=hS.pl k hkn
      rw [if_neg (by rw [hA];exact not_not_intro c),hkt]at e0
      by_cases c2:0<=bath/\bath< S.m
      · obtain⟨ht,hc1,hc2⟩:=hS.tk bath.toNat oM
        have hcc:0<=(S.tk bath.toNat).charge/\(S.tk bath.toNat).charge<=1000000000000000:=⟨hc1,by omega⟩
        rw [if_neg (by rw [hA];exact not_not_intro c2)]at e0
        by_cases c3:dx S.r S.n (S.pl k) A=0
        · obtain⟨z1,z2,z3⟩:=vU hz c3
          rw [if_neg (by rw [c3];simp)]at e0
          by_cases c4:dP S.r (S.pl k) (S.tk A.bath.toNat) A=0
          · rw [if_neg (by rw [c4];simp)]at e0
            rw [<-hA,e0]
            try rw [hA]
            rw [hA]at c3 c4
            exact Dt hkn hwl (fun x=>z8 S.r S.n k x S.m S.tk S.q S.g S.l (S.pl k) _ _ _ oM hv (Jg S.r hS.r S.n k x S.m S.tk S.q S.g S.l (S.pl k) hz z1 _ hg hk hkn hn c2 hm ht hcc c3 c4)) rfl hf hargs hd hnx hn
          · rw [if_pos c4]at e0
            rw [<-hA,e0]
            try rw [hA]
            rw [hA]at c3 c4
            exact kO hkn hwl (fun x=>mP S.r S.n k x S.m S.tk S.q S.g S.l (S.pl k) c4 oM hv (Ge S.r hS.r S.n k x S.m S.tk S.q S.g S.l (S.pl k) hz z1 _ hg hk hkn oM c2 hm ht c3 c4)) rfl hf hargs hd
        · rw [if_pos c3]at e0
          rw [<-hA,e0]
          try rw [hA]
          rw [hA]at c3
          exact kO hkn hwl (fun x=>mP S.r S.n k x S.m S.tk S.q S.g S.l (S.pl k) c3 oM hv (Gd S.r hS.r S.n k x S.m S.tk S.q S.g S.l (S.pl k) hz _ hg hk hkn oM c2 hm c3)) rfl hf hargs hd
      · rw [if_pos (by rw [hA];exact c2)]at e0
        rw [<-hA,e0]
        try rw [hA]
        exact kO hkn hwl (fun x=>mP S.r S.n k x S.m S.tk S.q S.g S.l (S.pl k) (by simp) oM hv (Gc S.r S.n k x S.m S.tk S.q S.g S.l (S.pl k) _ hk hkn oM c2 hm)) rfl hf hargs hd
    · rw [if_pos (by rw [hA];exact c)]at e0
      rw [<-hA,e0]
      try rw [hA]
      exact oB hwl (fun x=>z7 S.r S.n x S.m S.tk S.q S.g S.l (by simp) oM hv (Gf S.r S.n x S.m S.tk S.q S.g S.l _ c oM hm)) rfl hf hargs hd
  have e0:dA S A=if ¬(0<=A.plate/\A.plate< S.n)then(S,(0:Int),(5:Int))
      else if A.kind=4 then
        if(S.pl A.plate.toNat).ret then(S,0,10)
        else({S with q:=S.q+1,g:=zO S.g S.q (A.plate,A.place),pl:=dN S.pl A.plate.toNat ((S.pl A.plate.toNat).w7 S.q),l:=S.l+1},(S.q:Int),0)
      else if A.kind=5 then
        if ¬(0<=A.flaw/\A.flaw< S.q)then(S,0,5)
        else if(S.pl A.plate.toNat).ret then(S,0,10)
        else if(S.pl A.plate.toNat).fl A.flaw=false then(S,0,19)
        else({S with pl:=dN S.pl A.plate.toNat ((S.pl A.plate.toNat).Dm A.flaw),l:=S.l+1},0,0)
      else if(S.pl A.plate.toNat).ret then(S,0,10)
      else({S with pl:=dN S.pl A.plate.toNat {S.pl A.plate.toNat with ret:=true},l:=S.l+1},0,0):=by
    rw [dA,if_neg (by rw [hA,hv];simp),if_neg (by rw [hA];exact k1),if_neg (by rw [hA];exact k2),if_neg (by rw [hA];exact k3)]
  by_cases c:0<=plate/\plate< S.n
  · obtain⟨k,hk⟩:∃k:Nat,plate=k:=⟨plate.toNat,by omega⟩
    have hkn:k< S.n:=by omega
    have hkt:A.plate.toNat=k:=by rw [hA];show plate.toNat=k;omega
    rw [if_neg (by rw [hA];exact not_not_intro c),hkt]at e0
    by_cases k4:kind=4
    · rw [if_pos (by rw [hA];exact k4)]at e0
      subst k4
      by_cases c2:(S.pl k).ret=true
      · rw [if_pos c2]at e0
        rw [<-hA,e0]
        try rw [hA]
        exact kO hkn hwl (fun x=>z5 S.r S.n k x S.m S.tk S.q S.g S.l (S.pl k) (by simp) oM hv (F0 S.r S.n k x S.m S.tk S.q S.g S.l (S.pl k) _ hk hkn c2 oM)) rfl hf hargs hd
      · have c2':(S.pl k).ret=false:=by simpa using c2
        rw [if_neg c2]at e0
        rw [<-hA,e0]
        try rw [hA]
        exact Dr hkn rfl hwl (fun x=>z6 S.r S.n k x S.m S.tk S.q S.g S.l (S.pl k) _ _ oM hv (Ja S.r S.n k x S.m S.tk S.q S.g S.l (S.pl k) _ hk hkn oM oM c2')) rfl hf hargs hd hnx hn
    rw [if_neg (by rw [hA];exact k4)]at e0
    by_cases k5:kind=5
    · rw [if_pos (by rw [hA];exact k5)]at e0
      subst k5
      by_cases c1:0<=flaw/\flaw< S.q
      · rw [if_neg (by rw [hA];exact not_not_intro c1)]at e0
        by_cases c2:(S.pl k).ret=true
        · rw [if_pos c2]at e0
          rw [<-hA,e0]
          try rw [hA]
          exact kO hkn hwl (fun x=>mQ S.r S.n k x S.m S.tk S.q S.g S.l (S.pl k) (by simp) oM hv (GQ S.r S.n k x S.m S.tk S.q S.g S.l (S.pl k) _ hk hkn oM c1 c2 oM)) rfl hf hargs hd
        · have c2':(S.pl k).ret=false:=by simpa using c2
          rw [if_neg c2]at e0
          by_cases c3:(S.pl k).fl A.flaw=false
          · rw [if_pos c3]at e0
            rw [<-hA,e0]
            try rw [hA]
            rw [hA]at c3
            exact kO hkn hwl (fun x=>mQ S.r S.n k x S.m S.tk S.q S.g S.l (S.pl k) (by simp) oM hv (GO S.r S.n k x S.m S.tk S.q S.g S.l (S.pl k) _ hk hkn oM c1 c2' c3 oM)) rfl hf hargs hd
          · have c3':(S.pl k).fl A.flaw=true:=by simpa using c3
            rw [if_neg c3]at e0
            rw [<-hA,e0]
            try rw [hA]
            rw [hA]at c3'
            exact xI hkn hwl (fun x=>Aa S.r S.n k x S.m S.tk S.q S.g S.l (S.pl k) _ oM hv (JC S.r S.n k x S.m S.tk S.q S.g S.l (S.pl k) _ hk hkn oM oM c2' c1 c3')) rfl hf hargs hd hnx hn
      · rw [if_pos (by rw [hA];exact c1)]at e0
        rw [<-hA,e0]
        try rw [hA]
        exact kO hkn hwl (fun x=>mQ S.r S.n k x S.m S.tk S.q S.g S.l (S.pl k) (by simp) oM hv (GN S.r S.n k x S.m S.tk S.q S.g S.l (S.pl k) _ hk hkn oM c1 oM)) rfl hf hargs hd
    rw [if_neg (by rw [hA];exact k5)]at e0
    have k6:kind=6:=by
      simp [cm,k1,k2,k3,k4,k5]at hv
      exact hv
    subst k6
    by_cases c2:(S.pl k).ret=true
    · rw [if_pos c2]at e0
      rw [<-hA,e0]
      try rw [hA]
      exact kO hkn hwl (fun x=>vJ S.r S.n k x S.m S.tk S.q S.g S.l (S.pl k) (by simp) oM hv (AY S.r S.n k x S.m S.tk S.q S.g S.l (S.pl k) _ hk hkn c2 oM)) rfl hf hargs hd
    · have c2':(S.pl k).ret=false:=by simpa using c2
      rw [if_neg c2]at e0
      rw [<-hA,e0]
      try rw [hA]
      exact xI hkn hwl (fun x=>vK S.r S.n k x S.m S.tk S.q S.g S.l (S.pl k) _ oM hv (D9 S.r S.n k x S.m S.tk S.q S.g S.l (S.pl k) _ hk hkn oM c2')) rfl hf hargs hd hnx hn
  · rw [if_pos (by rw [hA];exact c)]at e0
    rw [<-hA,e0]
    try rw [hA]
    by_cases k4:kind=4
    · subst k4
      exact oB hwl (fun x=>z4 S.r S.n x S.m S.tk S.q S.g S.l (by simp) oM hv (FZ S.r S.n x S.m S.tk S.q S.g S.l _ c oM)) rfl hf hargs hd
    by_cases k5:kind=5
    · subst k5
      exact oB hwl (fun x=>z9 S.r S.n x S.m S.tk S.q S.g S.l (by simp) oM hv (GP S.r S.n x S.m S.tk S.q S.g S.l _ c oM)) rfl hf hargs hd
    have k6:kind=6:=by
      simp [cm,k1,k2,k3,k4,k5]at hv
      exact hv
    subst k6
    exact oB hwl (fun x=>vI S.r S.n x S.m S.tk S.q S.g S.l (by simp) oM hv (AX S.r S.n x S.m S.tk S.q S.g S.l _ c oM)) rfl hf hargs hd
end
def cU(r:Rc):Sh:=⟨r,0,fun _=>⟨0,0,0,0,0,0,false,0,fun _=>false⟩,0,fun _=>⟨0,0,0,0⟩,0,fun _=>(0,0),0⟩
theorem we{r:Rc}(h:r.ok):(cU r).ok:=⟨h,Nat.le_refl _,fun i hi=>absurd hi (Nat.not_lt_zero _),Nat.zero_le _,fun i hi=>absurd hi (Nat.not_lt_zero _),Nat.le_refl _⟩
theorem EO{a:Act}(h:cm a=true)(hk:a.kind=1):1<=a.area/\a.area<=1048576:=by rw [cm,if_pos hk]at h;simp [aC]at h;omega
theorem EP{a:Act}(h:cm a=true)(hk:a.kind=2):(0<=a.stock/\a.stock<=1099511627776)/\1<=a.yield/\a.yield<=1000:=by rw [cm,if_neg oM,if_pos hk]at h;simp [aC]at h;omega
theorem Rc.max_le{r:Rc}(h:r.ok)(k:Nat):r.max k<=16:=by
 have h1:=h.mo;have h2:=h.st
 match k with
 |0=>simp [Rc.max]
 |1=>simp [Rc.max];omega
 |2=>simp [Rc.max];omega
 |k+3=>simp [Rc.max]
theorem wF{S:Sh}(h:S.ok)(a:Act):(dA S a).1.ok:=by
  unfold dA
  by_cases hv:cm a=false
  · rw [if_pos hv];exact h
  rw [if_neg hv]
  have hv:cm a=true:=by simpa using hv
  have tk1:∀i,i< S.m->(S.tk i).ok/\0<=(S.tk i).charge/\(S.tk i).charge<=2199023255552*((S.l+1:Nat):Int):=fun i hi=>by
    obtain⟨h1,h2,h3⟩:=h.tk i hi
    exact⟨h1,h2,by omega⟩
  have hn:=h.n
  have hq:=h.q
  have hset:∀(k:Nat) (z:Pl),z.ok->∀i,i< S.n->(dN S.pl k z i).ok:=fun k z hz i hi=>by
    unfold dN;split
    · exact hz
    · exact h.pl i hi
  by_cases k1:a.kind=1
  · rw [if_pos k1]
    refine⟨h.r,by show S.n+1<=S.l+1;omega,fun i hi=> ?_,h.m,tk1,by show S.q<=S.l+1;omega⟩
    show(fk S.pl S.n (tQ a) i).ok
    unfold fk;split
    · rename_i hi';exact h.pl i hi'
    · exact⟨by simp [tQ],EO hv k1,by simp [tQ]⟩
  rw [if_neg k1]
  by_cases k2:a.kind=2
  · rw [if_pos k2]
    by_cases c:S.m< 8
    · rw [if_pos c]
      obtain⟨b1,b2⟩:=EP hv k2
      refine⟨h.r,by show S.n<=S.l+1;omega,h.pl,c,fun i hi=> ?_,by show S.q<=S.l+1;omega⟩
      show(mb S.m S.tk a i).ok/\0<=(mb S.m S.tk a i).charge/\(mb S.m S.tk a i).charge<=2199023255552*((S.l+1:Nat):Int)
      unfold mb;split
      · rename_i hi';exact tk1 i hi'
      · refine⟨⟨b2,b1.1,by simp [xw],by simp [xw];exact b1.2⟩,by simp [xw],by simp [xw];omega⟩
    · rw [if_neg c];exact h
  rw [if_neg k2]
  by_cases k3:a.kind=3
  · rw [if_pos k3]
    by_cases c1:0<=a.plate/\a.plate< S.n
    · rw [if_neg (not_not_intro c1)]
      by_cases c2:0<=a.bath/\a.bath< S.m
      · rw [if_neg (not_not_intro c2)]
        by_cases c3:dx S.r S.n (S.pl a.plate.toNat) a=0
        · rw [if_neg (by rw [c3];simp)]
          by_cases c4:dP S.r (S.pl a.plate.toNat) (S.tk a.bath.toNat) a=0
          · rw [if_neg (by rw [c4];simp)]
            have hz:=h.pl a.plate.toNat oM
            obtain⟨ht,hc1,hc2⟩:=h.tk a.bath.toNat oM
            obtain⟨z1,z2,z3⟩:=vU hz c3
            have hmx:=Rc.max_le h.r (S.pl a.plate.toNat).kind
            have hga:a.Im:=EN k3 hv
            obtain⟨q1,q2,q3,q4,q5⟩:=BR hga ht.yield
            obtain⟨q6,q7⟩:=BU hga
            have hms:iZ (S.tk a.bath.toNat).yield a<=(S.tk a.bath.toNat).stock:=by
              unfold dP at c4
              split at c4
              · cases c4
              · split at c4
                · cases c4
                · omega
            have hgn:=hz.grown
            refine⟨h.r,by show S.n+1<=S.l+1;omega,fun i hi=> ?_,h.m,fun i hi=> ?_,by show S.q<=S.l+1;omega⟩
            · show(fk (dN S.pl a.plate.toNat (S.pl a.plate.toNat).under) S.n _ i).ok
              unfold fk;split
              · rename_i hi'
                refine hset _ (S.pl a.plate.toNat).under ⟨hz.kind,hz.area,?_⟩ i hi'
                show 0<=(S.pl a.plate.toNat).grown+1/\(S.pl a.plate.toNat).grown+1<=1000
                omega
              · refine⟨?_,hz.area,by simp [Pl.over]⟩
                show(S.pl a.plate.toNat).kind+1<=3
                omega
            · show(mz S.tk a.bath.toNat _ i).ok/\0<=(mz S.tk a.bath.toNat _ i).charge/\(mz S.tk a.bath.toNat _ i).charge<=2199023255552*((S.l+1:Nat):Int)
              unfold mz;split
              · have w1:=ht.stock;have w2:=ht.laid;have w3:=ht.sum
                refine⟨⟨ht.yield,?_,?_,?_⟩,?_,?_⟩
                · show 0<=(S.tk a.bath.toNat).stock- iZ (S.tk a.bath.toNat).yield a;omega
                · show 0<=(S.tk a.bath.toNat).laid+iZ (S.tk a.bath.toNat).yield a;omega
                · show(S.tk a.bath.toNat).stock- iZ (S.tk a.bath.toNat).yield a+((S.tk a.bath.toNat).laid+iZ (S.tk a.bath.toNat).yield a)<=1099511627776;omega
                · show 0<=(S.tk a.bath.toNat).charge+F6 a;unfold F6;omega
                · show(S.tk a.bath.toNat).charge+F6 a<=_;unfold F6;omega
              · exact tk1 i hi
          · rw [if_pos c4];exact h
        · rw [if_pos c3];exact h
      · rw [if_pos c2];exact h
    · rw [if_pos c1];exact h
  rw [if_neg k3]
  by_cases c1:0<=a.plate/\a.plate< S.n
  · rw [if_neg (not_not_intro c1)]
    have hz:=h.pl a.plate.toNat oM
    by_cases k4:a.kind=4
    · rw [if_pos k4]
      split
      · exact h
      · exact⟨h.r,by show S.n<=S.l+1;omega,hset _ _ ⟨hz.kind,hz.area,hz.grown⟩,h.m,tk1,by show S.q+1<=S.l+1;omega⟩
    rw [if_neg k4]
    by_cases k5:a.kind=5
    · rw [if_pos k5]
      split
      · exact h
      split
      · exact h
      split
      · exact h
      · exact⟨h.r,by show S.n<=S.l+1;omega,hset _ _ ⟨hz.kind,hz.area,hz.grown⟩,h.m,tk1,by show S.q<=S.l+1;omega⟩
    rw [if_neg k5]
    split
    · exact h
    · exact⟨h.r,by show S.n<=S.l+1;omega,hset _ _ ⟨hz.kind,hz.area,hz.grown⟩,h.m,tk1,by show S.q<=S.l+1;omega⟩
  · rw [if_pos c1];exact h
theorem jW{S:Sh}{a:Act}(p:Sh×Int×Int->Prop)(hE:∀e:Int,e≠0->p (S,0,e))
    (hL:cm a=true->a.kind=1->p ({S with n:=S.n+1,pl:=fk S.pl S.n (tQ a),l:=S.l+1},S.n,0))
    (hB:cm a=true->a.kind=2->S.m< 8->p ({S with m:=S.m+1,tk:=mb S.m S.tk a,l:=S.l+1},S.m,0))
    (hG:cm a=true->a.kind=3->(0<=a.plate/\a.plate< S.n)->(0<=a.bath/\a.bath< S.m)->dx S.r S.n (S.pl a.plate.toNat) a=0->dP S.r (S.pl a.plate.toNat) (S.tk a.bath.toNat) a=0->
      p ({S with n:=S.n+1,pl:=fk (dN S.pl a.plate.toNat (S.pl a.plate.toNat).under) S.n ((S.pl a.plate.toNat).over a.plate (di (S.pl a.plate.toNat) (S.tk a.bath.toNat) a)),tk:=mz S.tk a.bath.toNat ((S.tk a.bath.toNat).used a),l:=S.l+1},S.n,0))
    (hF:cm a=true->a.kind=4->(0<=a.plate/\a.plate< S.n)->(S.pl a.plate.toNat).ret=false->p ({S with q:=S.q+1,g:=zO S.g S.q (a.plate,a.place),pl:=dN S.pl a.plate.toNat ((S.pl a.plate.toNat).w7 S.q),l:=S.l+1},S.q,0))
    (hM:cm a=true->a.kind=5->(0<=a.plate/\a.plate< S.n)->(0<=a.flaw/\a.flaw< S.q)->(S.pl a.plate.toNat).ret=false->(S.pl a.plate.toNat).fl a.flaw=true->p ({S with pl:=dN S.pl a.plate.toNat ((S.pl a.plate.toNat).Dm a.flaw),l:=S.l+1},0,0))
    (hR:cm a=true->a.kind=6->(0<=a.plate/\a.plate< S.n)->(S.pl a.plate.toNat).ret=false->p ({S with pl:=dN S.pl a.plate.toNat {S.pl a.plate.toNat with ret:=true},l:=S.l+1},0,0)):p (dA S a):=by
  unfold dA
  by_cases hv:cm a=false
  · rw [if_pos hv];exact hE 2 (by decide)
  rw [if_neg hv]
  have hv:cm a=true:=by simpa using hv
  by_cases k1:a.kind=1
  · rw [if_pos k1];exact hL hv k1
  rw [if_neg k1]
  by_cases k2:a.kind=2
  · rw [if_pos k2]
    by_cases c:S.m< 8
    · rw [if_pos c];exact hB hv k2 c
    · rw [if_neg c];exact hE 11 (by decide)
  rw [if_neg k2]
  by_cases k3:a.kind=3
  · rw [if_pos k3]
    by_cases c1:0<=a.plate/\a.plate< S.n
    · rw [if_neg (not_not_intro c1)]
      by_cases c2:0<=a.bath/\a.bath< S.m
      · rw [if_neg (not_not_intro c2)]
        by_cases c3:dx S.r S.n (S.pl a.plate.toNat) a=0
        · rw [if_neg (not_not_intro c3)]
          by_cases c4:dP S.r (S.pl a.plate.toNat) (S.tk a.bath.toNat) a=0
          · rw [if_neg (not_not_intro c4)];exact hG hv k3 c1 c2 c3 c4
          · rw [if_pos c4];exact hE _ c4
        · rw [if_pos c3];exact hE _ c3
      · rw [if_pos c2];exact hE 5 (by decide)
    · rw [if_pos c1];exact hE 5 (by decide)
  rw [if_neg k3]
  by_cases c1:0<=a.plate/\a.plate< S.n
  · rw [if_neg (not_not_intro c1)]
    by_cases k4:a.kind=4
    · rw [if_pos k4]
      by_cases c2:(S.pl a.plate.toNat).ret=true
      · rw [if_pos c2];exact hE 10 (by decide)
      · rw [if_neg c2];exact hF hv k4 c1 (by simpa using c2)
    rw [if_neg k4]
    by_cases k5:a.kind=5
    · rw [if_pos k5]
      by_cases c3:0<=a.flaw/\a.flaw< S.q
      · rw [if_neg (not_not_intro c3)]
        by_cases c2:(S.pl a.plate.toNat).ret=true
        · rw [if_pos c2];exact hE 10 (by decide)
        · rw [if_neg c2]
          by_cases c4:(S.pl a.plate.toNat).fl a.flaw=false
          · rw [if_pos c4];exact hE 19 (by decide)
          · rw [if_neg c4];exact hM hv k5 c1 c3 (by simpa using c2) (by simpa using c4)
      · rw [if_pos c3];exact hE 5 (by decide)
    rw [if_neg k5]
    by_cases c2:(S.pl a.plate.toNat).ret=true
    · rw [if_pos c2];exact hE 10 (by decide)
    · rw [if_neg c2]
      exact hR hv (by simp [cm,k1,k2,k3,k4,k5]at hv;exact hv) c1 (by simpa using c2)
  · rw [if_pos c1];exact hE 5 (by decide)
theorem HI(S:Sh)(a:Act):(dA S a).1.l<=S.l+1:= jW (fun x=>x.1.l<=S.l+1) (fun _ _=>Nat.le_succ _) (fun _ _=>Nat.le_refl _) (fun _ _ _=>Nat.le_refl _) (fun _ _ _ _ _ _=>Nat.le_refl _) (fun _ _ _ _=>Nat.le_refl _) (fun _ _ _ _ _ _=>Nat.le_refl _) (fun _ _ _ _=>Nat.le_refl _)
theorem MO(S:Sh)(a:Act):(dA S a).1.r=S.r:= jW (fun x=>x.1.r=S.r) (fun _ _=>rfl) (fun _ _=>rfl) (fun _ _ _=>rfl) (fun _ _ _ _ _ _=>rfl) (fun _ _ _ _=>rfl) (fun _ _ _ _ _ _=>rfl) (fun _ _ _ _=>rfl)
def cZ(S:Sh)(l:List Act):Sh:=l.foldl (fun S a=>(dA S a).1) S
theorem Cq{S:Sh}(h:S.ok):∀l,(cZ S l).ok/\(cZ S l).l<=S.l+l.length/\(cZ S l).r=S.r:=by
 intro l;induction l generalizing S with
 |nil=>exact⟨h,Nat.le_refl _,rfl⟩
 |cons a l ih=>obtain⟨h1,h2,h3⟩:=ih (wF h a);have:=HI S a;refine⟨h1,?_,h3.trans (MO S a)⟩;show(cZ (dA S a).1 l).l<=_;simp only [List.length_cons];omega
theorem Eg(S:Sh)(l:List Act)(a:Act):cZ S (l++[a])=(dA (cZ S l) a).1:=by simp [cZ]
def I9(p:Pl):V:= .fset false fun k=>match k with | .i n=>p.fl n | .s _=>false
def qC(S:Sh):V:= .ptr (de S.r (.sl 1 S.n fun i=>[.ptr ((S.pl i).c++[I9 (S.pl i)])]) (.sl 4 S.m fun i=>(S.tk i).c) (.sl 2 S.q (bw S.g)) (.sl 13 S.l bR))
theorem LW{S:Sh}{σ:Nat->Option Ob}(h:l8 S j5 σ):Fz σ (.ref 500 0) (qC S):=by
 refine Fz.refs (t:=123) (cs:=de S.r (.own 501) (.own 502) (.own 503) (.own 504)) h.s ?_;refine jA.append (jA.ck (l:= .b true::S.r.c) rfl) ⟨Fz.rows (e:=131) (sz:=1) (r:=fun i=>[.ref (j5.pl i) 0]) h.p fun i hi=>⟨?_,trivial⟩,Fz.rows (e:=55) (sz:=4) (r:=fun i=>(S.tk i).c) h.t fun i _=>jA.ck rfl,Fz.rows (e:=149) (sz:=2) (r:=bw S.g) h.f fun i _=>jA.ck rfl,Fz.rows (e:=40) (sz:=13) (r:=bR) h.a fun i _=>jA.ck rfl,trivial⟩;refine Fz.refs (t:=134) (cs:=(S.pl i).c++[V.own (j5.mp i)]) (h.pl i hi) (jA.append (jA.ck (l:=(S.pl i).c) rfl) ⟨?_,trivial⟩);exact .mp _ _ false (aQ (S.pl i).fl) _ (h.mp i hi) fun k hk=>by
  cases k with
  |s b=>cases hk
  |i n=>exact⟨ff _ _,fun u hu=> .inr (by rw [cP]at hu;split at hu <;> simp at hu;exact hu.symm)⟩
open Classical in
theorem Fh{P:Program}{N:Nat}{C:Cx P N}{Q:Exit->S->Prop}{s:S}{ι:Type}{c:Code}(hd:C.dfs=rD)(I:ι->S)(ok:ι->Prop)(μ:ι->Nat)(x0:ι)(hx:ok x0)(h0:ED s (I x0))(round:∀x,ok x->AW C c (dS (fun s'=>∃y,ok y/\ED s' (I y)/\μ y< μ x) Q) (I x)):AW C (.loop c) Q s:=by
 intro a w g;have pr:∃q:Go.Act->World->Nat->Prop,q=fun a' w' n=>∃x,ok x/\μ x=n/\Gm C (I x) a' w'/\aZ C.W w w':=⟨_,rfl⟩;obtain⟨q,hq⟩:=pr;have hqi:∀a' w' n,q a' w' n<->∃x,ok x/\μ x=n/\Gm C (I x) a' w'/\aZ C.W w w':=fun a' w' n=>by rw [hq]
 refine wpIn_loop (fun a' w'=>∃n,q a' w' n) (fun a' w'=>if h:∃n,q a' w' n then(least _ h).choose else 0) ⟨μ x0,(hqi _ _ _).2 ⟨x0,hx,rfl,h0 _ _ C a w hd g,aZ.refl _ _⟩⟩ ?_;rintro a' w' hex;have hl:=(least _ hex).choose_spec;obtain⟨x,hok,hμ,g',t'⟩:=(hqi _ _ _).1 hl.1;refine wpIn_mono (round x hok a' w' g') ?_;rintro e a'' w'' ⟨s'',r,g'',t''⟩;cases e with
 |normal=>obtain⟨y,hy,hle,hlt⟩:=r;have hqy:q a'' w'' (μ y):=(hqi _ _ _).2 ⟨y,hy,rfl,hle _ _ C _ _ hd g'',t'.trans t''⟩;refine⟨⟨μ y,hqy⟩,?_⟩;rw [dif_pos ⟨μ y,hqy⟩,dif_pos hex];have h1:=(least _ ⟨μ y,hqy⟩).choose_spec.2 (μ y) hqy;omega
 |_=>exact⟨s'',r,g'',t'.trans t''⟩
theorem Jw{tm:Nat->V}{σ:Nat->Option Ob}{nx nxc:Nat}{S S':Sh}{δ:List (Nat×Option Ob)}{tl:List (Nat×V)}(hn:S.n<=200)(hn':S'.n<=200)(hD:jC S S' nxc δ)(hσ:σ=bG (jl S fun _=>none) δ) (htm:∀h:Nat->Nat,h 500=500->m7 (fun p=>tm p.1=p.2.bD h) tl):ED ⟨tm,σ,nx⟩ ⟨gF tl,jl S' fun _=>none,1⟩:=by
 subst hσ;obtain⟨N,h,h1,h2,h3,h4⟩:=hD _ (nB hn _);obtain⟨h',hh⟩:∃h':Nat->Nat,∀id,h' id=if 500<=id/\id< 1000 then h id else nx*100000+id:=⟨_,fun _=>rfl⟩
 have hr:∀id,500<=id->id< 1000->h' id=h id:=fun id a b=>by rw [hh,if_pos ⟨a,b⟩]
 refine Mm h' hn' h1 ⟨fun i j hi hi2 hj hj2 he=>h2.inj i j hi hi2 hj hj2 (by rwa [hr i hi oM,hr j hj oM]at he),?_,?_,?_,?_,?_,fun i hi=> ?_,fun i hi=> ?_⟩ (fun id o _ ho=>by cases ho) (fun i j _ hi=>absurd rfl hi) (fun id hid=> ?_) (htm h' (by rw [hr 500 oM oM];exact h2.s));·rw [hr 500 oM oM];exact h2.s
 ·rw [hr 501 oM oM];exact h2.p
 ·rw [hr 502 oM oM];exact h2.t
 ·rw [hr 503 oM oM];exact h2.f
 ·rw [hr 504 oM oM];exact h2.a
 ·rw [hr _ oM oM];exact h2.pl i hi
 ·rw [hr _ oM oM];exact h2.mp i hi
 ·rw [hh,if_neg oM];omega
theorem Mn{tm:Nat->V}{σ:Nat->Option Ob}{nx s p t f a:Nat}{r:Rc}{tl:List (Nat×V)}(hne:(decide ([s,p,t,f,a].Nodup))=true)(h0:σ s=some (.box 123 (de r (.own p) (.own t) (.own f) (.own a))))(h1:∃g,σ p=some (.row 131 1 0 g))(h2:∃g,σ t=some (.row 55 4 0 g))(h3:∃g,σ f=some (.row 149 2 0 g))(h4:∃g,σ a=some (.row 40 13 0 g)) (htm:∀h:Nat->Nat,h 500=s->m7 (fun p=>tm p.1=p.2.bD h) tl):ED ⟨tm,σ,nx⟩ ⟨gF tl,jl (cU r) fun _=>none,1⟩:=by
 have hne:=of_decide_eq_true hne;simp at hne;obtain⟨g1,h1⟩:=h1;obtain⟨g2,h2⟩:=h2;obtain⟨g3,h3⟩:=h3;obtain⟨g4,h4⟩:=h4;obtain⟨h',hh⟩:∃h':Nat->Nat,∀id,h' id=if id=500 then s else if id=501 then p else if id=502 then t else if id=503 then f else if id=504 then a else nx*100000+id:=⟨_,fun _=>rfl⟩
 have hc:∀id o,jl (cU r) (fun _=>none) id=some o->id=500\/id=501\/id=502\/id=503\/id=504:=by
  intro id o ho;have hz:¬(id- 505) / 2< (cU r).n:=Nat.not_lt_zero _;unfold jl at ho;simp only [if_neg hz]at ho;repeat' split at ho
  all_goals first |omega |cases ho
 have q0:h' 500=s:=by rw [hh];rfl
 have q1:h' 501=p:=by rw [hh];rfl
 have q2:h' 502=t:=by rw [hh];rfl
 have q3:h' 503=f:=by rw [hh];rfl
 have q4:h' 504=a:=by rw [hh];rfl
 refine B3 h' (fun id o ho=> ?_) (fun i j hi hj he=> ?_) (fun id hid=> ?_) (htm h' q0)
 ·have hA:=nB (S:=cU r) (Nat.zero_le _) fun _=>none;rcases hc id o ho with rfl |rfl |rfl |rfl |rfl
  ·have:=hA.s;rw [ho]at this;injection this with this;subst this
   refine⟨_,by rw [q0];exact h0,?_⟩;show fH (.box _ _) (.box _ (V.aS h' (de r (.own 501) (.own 502) (.own 503) (.own 504))));rw [show V.aS h' (de r (.own 501) (.own 502) (.own 503) (.own 504))=de r (.own (h' 501)) (.own (h' 502)) (.own (h' 503)) (.own (h' 504))from rfl,q1,q2,q3,q4];exact⟨rfl,rfl⟩
  ·have:=hA.p;rw [show j5.p=501 from rfl,ho]at this;injection this with this;subst this
   refine⟨_,by rw [q1];exact h1,?_⟩;exact⟨rfl,rfl,rfl,fun i hi=>absurd hi (Nat.not_lt_zero _)⟩
  ·have:=hA.t;rw [show j5.t=502 from rfl,ho]at this;injection this with this;subst this
   refine⟨_,by rw [q2];exact h2,?_⟩;exact⟨rfl,rfl,rfl,fun i hi=>absurd hi (Nat.not_lt_zero _)⟩
  ·have:=hA.f;rw [show j5.f=503 from rfl,ho]at this;injection this with this;subst this
   refine⟨_,by rw [q3];exact h3,?_⟩;exact⟨rfl,rfl,rfl,fun i hi=>absurd hi (Nat.not_lt_zero _)⟩
  ·have:=hA.a;rw [show j5.a=504 from rfl,ho]at this;injection this with this;subst this
   refine⟨_,by rw [q4];exact h4,?_⟩;exact⟨rfl,rfl,rfl,fun i hi=>absurd hi (Nat.not_lt_zero _)⟩
 ·have e:∀i,jl (cU r) (fun _=>none) i≠none->i=500\/i=501\/i=502\/i=503\/i=504:=fun i hi=>by
   cases ho:jl (cU r) (fun _=>none) i with
   |none=>exact absurd ho hi
   |some o=>exact hc i o ho
  rcases e i hi with rfl |rfl |rfl |rfl |rfl <;> rcases e j hj with rfl |rfl |rfl |rfl |rfl <;> first |rfl | (simp only [q0,q1,q2,q3,q4]at he;omega)
 ·rw [hh,if_neg oM,if_neg oM,if_neg oM,if_neg oM,if_neg oM];omega
theorem CG{P:Program}{N:Nat}{C:Cx P N}{ops:Array Oper}{nx d:Nat}{o:Oper}{os:List Oper}{tm:Nat->V}{σ:Nat->Option Ob}{ks:List (List Nat×List Nat)}{K:(Nat->V)->(Nat->Option Ob)->List (List Nat×List Nat)->Prop}{S S':Sh}{v:V} (h:vc P C.W C.LB o (ev tm) nx d S S' v) (hg:o.guard=none) (ho:o.dst=some d) (hF:l8 S j5 σ) (hk:∀δ ks',jC S S' nx δ->bF C ops nx os (bL tm d v) (bG σ δ) ks' K):bF C ops nx (o::os) tm σ ks K:=by obtain⟨pre,nw,δ,hA,hnw,hpre,hD⟩:=h;refine eI hg hA (hpre σ hF) (by rw [ho];exact hnw) ?_;rw [ho];exact hk δ _ hD
def KM(l:List Act)(k:Nat):Act:=l.getD k ⟨0,0,0,0,0,0,0,0,0,0,0,0,0⟩
theorem HK{l:List Act}{k:Nat}(h:k< l.length):l.take (k+1)=l.take k++[KM l k]:=by rw [List.take_add_one,List.getElem?_eq_getElem h,KM,List.getD_eq_getElem?_getD,List.getElem?_eq_getElem h];rfl
abbrev Bz(l:List Act):V:= .sl 13 l.length fun i=>(KM l i).c
theorem Em(r:Rc)(hr:r.ok)(l:List Act)(hl:l.length<=60):AC Tryz.prog 20 [r.v,Bz l] (.tup [qC (cZ (cU r) l),.b true]) []:=by
 refine eT aj bX Tryz.func20 Tryz.ntmps20 fun C hC hF=> ?_;refine yS aj 2 3 [] ?_;refine sK fun K hK=>wR 3 ?_;refine aY aj 1 [] ?_;refine qz (first:=[]) (caps:=[]) (k:=200011) (v':=V.tup [V.ref 200011 0,V.i 0]) (ob':=Ob.box 123 [V.b true,V.i (Rc.n0 r),V.i (Rc.n1 r),V.i (Rc.n2 r),V.i (Rc.n3 r),V.i (Rc.k0 r),V.i (Rc.k1 r),V.i (Rc.k2 r),V.i (Rc.k3 r),V.i (Rc.seed r),V.i (Rc.soft r),V.i (Rc.hard r),V.i (Rc.mo r),V.i (Rc.st r),V.nil,V.nil,V.nil,V.nil]) (Lj r hr) kR kR kR kR kR kR kR ?_;refine yN aj 5 [] hK ?_;clear hK K;refine sK fun K hK=>yS aj 4 6 [] ?_;refine aB (t:=false) kR rfl ?_;refine aq ?_;refine ai (hK _ ?_);clear hK K;refine sK fun K hK=>yS aj 5 1 [] ?_;refine az ?_;refine lG (jo 200011 14 131 1 (fun _=>[]) (t:=123) (cs:=de r .nil .nil .nil .nil) kR rfl kR kR) ?_;refine lG (jo 200011 15 55 4 (fun _=>[]) (t:=123) (cs:=de r (.own 500014) .nil .nil .nil) kR rfl kR kR) ?_;refine lG (jo 200011 16 149 2 (fun _=>[]) (t:=123) (cs:=de r (.own 500014) (.own 600015) .nil .nil) kR rfl kR kR) ?_;refine lG (jo 200011 17 40 13 (fun _=>[]) (t:=123) (cs:=de r (.own 500014) (.own 600015) (.own 700016) .nil) kR rfl kR kR) ?_;refine Fh hC (fun k=>⟨gF [(1,Bz l),(6,.ref 500 0),(8,.i (k:Nat))],jl (cZ (cU r) (l.take k)) (fun _=>none),1⟩) (fun k=>k<=l.length) (fun k=>l.length- k) 0 (Nat.zero_le _) ?_ ?_;·rw [show cZ (cU r) (l.take 0)=cU r by simp [cZ]];exact Mn (s:=200011) (p:=500014) (t:=600015) (f:=700016) (a:=800017) rfl kR ⟨fun _=>[],kR⟩ ⟨fun _=>[],kR⟩ ⟨fun _=>[],kR⟩ ⟨fun _=>[],kR⟩ fun h hh=>⟨rfl,by show _=V.ref (h 500) 0;rw [hh];rfl,rfl,trivial⟩
 intro k hk;obtain⟨hS,hSl,hSr⟩:=Cq (we hr) (l.take k);have hSl2:(cZ (cU r) (l.take k)).l<=k:=by refine Nat.le_trans hSl ?_;show 0+_<=_;rw [List.length_take];omega
 have hSn:=hS.n;obtain⟨S,hSS⟩:∃S,S=cZ (cU r) (l.take k):=⟨_,rfl⟩;rw [<-hSS]at hS hSl2 hSn ⊢;refine sK fun K hK=>yS aj 2 4 [] ?_;refine ax (t:=decide ((↑k:Int)< (↑(List.length l):Int))) kR (fun c1=> ?_) (fun c1=> ?_)
 ·have hkl:k< l.length:=by simpa using c1
  refine aq ?_;refine ai (hK _ ?_);clear hK K;refine sK fun K hK=> ?_;refine az ?_;refine wR 3 ?_;refine aY aj 5 [(3,.c ((0:Int)<=(↑k:Int)/\(↑k:Int)< (↑(List.length l):Int)) oM)] ?_;refine CG (NB C.wl hS oM (KM l k) rfl kR (by decide) (by decide)) rfl rfl (nB oM _) fun δ ks hD=> ?_;refine aa (cn (ai (hK _ ?_)));clear hK K;refine wR 4 ?_;refine aY aj 3 [(1,.c (iR ((↑k:Int)+1)) oM)] ?_;refine aa (ai ?_);refine⟨k+1,by omega,?_,by omega⟩;rw [HK hkl,Eg,<-hSS];have h1:=wF hS (KM l k);have h2:=HI S (KM l k);exact Jw oM (by have:=h1.n;omega) hD rfl fun h hh=>⟨rfl,by show _=V.ref (h 500) 0;rw [hh];rfl,rfl,trivial⟩
 ·have hkl:k=l.length:=by simp at c1;omega
  refine lG (GF (tl:=[(6,qC S)]) ⟨LW (nB oM _),trivial⟩) ?_;refine bN ?_;refine cO ?_;refine cO ?_;refine cg ?_;refine ai ?_;clear hK K;refine hK _ ?_;clear hK K;refine yS aj 3 3 [] ?_;refine av ?_;rw [hSS,hkl,List.take_length];refine rP (V.tup [V.ptr [V.b true,V.i (Rc.n0 (Sh.r (cZ (cU r) l))),V.i (Rc.n1 (Sh.r (cZ (cU r) l))),V.i (Rc.n2 (Sh.r (cZ (cU r) l))),V.i (Rc.n3 (Sh.r (cZ (cU r) l))),V.i (Rc.k0 (Sh.r (cZ (cU r) l))),V.i (Rc.k1 (Sh.r (cZ (cU r) l))),V.i (Rc.k2 (Sh.r (cZ (cU r) l))),V.i (Rc.k3 (Sh.r (cZ (cU r) l))),V.i (Rc.seed (Sh.r (cZ (cU r) l))),V.i (Rc.soft (Sh.r (cZ (cU r) l))),V.i (Rc.hard (Sh.r (cZ (cU r) l))),V.i (Rc.mo (Sh.r (cZ (cU r) l))),V.i (Rc.st (Sh.r (cZ (cU r) l))),V.sl 1 (Sh.n (cZ (cU r) l)) fun(i:Nat)=>[V.ptr [V.i (↑(Pl.kind (Sh.pl (cZ (cU r) l) i)):Int),V.i (Pl.par (Sh.pl (cZ (cU r) l) i)),V.i (Pl.cut (Sh.pl (cZ (cU r) l) i)),V.i (Pl.area (Sh.pl (cZ (cU r) l) i)),V.i (Pl.aM (Sh.pl (cZ (cU r) l) i)),V.i (Pl.grown (Sh.pl (cZ (cU r) l) i)),V.b (Pl.ret (Sh.pl (cZ (cU r) l) i)),I9 (Sh.pl (cZ (cU r) l) i)]],V.sl 4 (Sh.m (cZ (cU r) l)) fun(i:Nat)=>aP.c (Sh.tk (cZ (cU r) l) i),V.sl 2 (Sh.q (cZ (cU r) l)) (bw (Sh.g (cZ (cU r) l))),V.sl 13 (Sh.l (cZ (cU r) l)) bR],V.b true])
abbrev O9(S:Sh)(i:Nat):List V:=(S.pl i).c++[I9 (S.pl i)]
theorem ud(S:Sh)(f:Int)(h:0<=f/\f< S.q)(hq:S.q<=1000):AC Tryz.prog 27 [qC S,.i f] (.tup [.i (S.g f.toNat).1,.i (S.g f.toNat).2,.i 0]) []:=by
 refine eT aj bX Tryz.func27 Tryz.ntmps27 fun C hC hF=> ?_;refine yS aj 2 3 [] ?_;refine sK fun K hK=>sK fun K hK=>wR 3 ?_;refine aY aj 1 [] ?_;refine eC (dD S.r (.sl 1 S.n fun i=>[.ptr ((S.pl i).c++[I9 (S.pl i)])]) (.sl 4 S.m fun i=>(S.tk i).c) (.sl 2 S.q (bw S.g)) (.sl 13 S.l bR)) ?_;refine nK hK ?_;clear hK K;refine aB (t:=false) kR rfl ?_;refine aq ?_;refine ai (hK _ ?_);clear hK K;refine sK fun K hK=>yS aj 4 11 [] ?_;refine ax (t:=decide (f< 0) || decide ((↑(Sh.q S):Int)<=f)) kR (fun c1=> ?_) (fun c1=> ?_);·simp at c1;omega
 refine aq ?_;refine ai (hK _ ?_);clear hK K;refine sK fun K hK=>wD 5 ?_;refine aY aj 19 [(5,.c ((0:Int)<=f/\f< (↑(Sh.q S):Int)) oM),(7,.c ((0:Int)<=f/\f< (↑(Sh.q S):Int)) oM)] ?_;refine aa ⟨kR,(ai (hK _ ?_))⟩;clear hK K;refine av ?_;refine rP (V.tup [V.i (Prod.fst (Sh.g S (Int.toNat f))),V.i (Prod.snd (Sh.g S (Int.toNat f))),V.i 0])
theorem zC(S:Sh)(f:Int)(h:¬(0<=f/\f< S.q))(hq:S.q<=1000):AC Tryz.prog 27 [qC S,.i f] (.tup [.i 0,.i 0,.i 5]) []:=by
 refine eT aj bX Tryz.func27 Tryz.ntmps27 fun C hC hF=> ?_;refine yS aj 2 3 [] ?_;refine sK fun K hK=>sK fun K hK=>wR 3 ?_;refine aY aj 1 [] ?_;refine eC (dD S.r (.sl 1 S.n fun i=>[.ptr ((S.pl i).c++[I9 (S.pl i)])]) (.sl 4 S.m fun i=>(S.tk i).c) (.sl 2 S.q (bw S.g)) (.sl 13 S.l bR)) ?_;refine nK hK ?_;clear hK K;refine aB (t:=false) kR rfl ?_;refine aq ?_;refine ai (hK _ ?_);clear hK K;refine sK fun K hK=>yS aj 4 11 [] ?_;refine ax (t:=decide (f< 0) || decide ((↑(Sh.q S):Int)<=f)) kR (fun c1=> ?_) (fun c1=> ?_);·refine sK fun K hK=> ?_;refine yT aj 5 3 [] hK ?_;clear hK K;refine av ?_;refine bB ?_;refine rP (V.tup [V.i 0,V.i 0,V.i 5])
 ·simp at c1;omega
def pG(S:Sh):Prop:=∀i,i< S.n->(S.pl i).par< (i:Int)/\ -1<=(S.pl i).par
def mB(S:Sh)(i:Int):Nat->Int
 |0=>i
 |m+1=>if 0<=mB S i m then(S.pl (mB S i m).toNat).par else mB S i m
def HU(S:Sh):Nat->Int->Nat
 |0,_=>0
 |f+1,i=>if 0<=i then HU S f (S.pl i.toNat).par+1 else 0
def dc(S:Sh)(i:Int):Nat:=HU S (S.n+1) i
theorem pg{S:Sh}{i:Int}(h:0<=i):∀m,mB S i (m+1)=mB S (S.pl i.toNat).par m
 |0=>by show(if 0<=i then _ else _)=_;rw [if_pos h];rfl
 |m+1=>by have ih:=pg (S:=S) h m;show(if 0<=mB S i (m+1)then(S.pl (mB S i (m+1)).toNat).par else mB S i (m+1))=(if 0<=mB S (S.pl i.toNat).par m then _ else _);rw [ih]
theorem CB{S:Sh}(hp:pG S):∀(f:Nat) (i:Int),i< f->i< S.n->(∀m,m< HU S f i->0<=mB S i m/\mB S i m< S.n)/\mB S i (HU S f i)< 0
 |0,i,h,hn=>⟨fun m hm=>absurd hm (Nat.not_lt_zero _),h⟩
 |f+1,i,h,hn=>by
  by_cases h0:0<=i
  ·have h1:=(hp i.toNat oM).1;obtain⟨k1,k2⟩:=CB hp f (S.pl i.toNat).par oM oM;have e:HU S (f+1) i=HU S f (S.pl i.toNat).par+1:=by rw [HU,if_pos h0]
   rw [e];refine⟨fun m hm=> ?_,by rw [pg h0];exact k2⟩;cases m with
   |zero=>exact⟨h0,hn⟩
   |succ m=>rw [pg h0];exact k1 m oM
  ·have e:HU S (f+1) i=0:=by rw [HU,if_neg h0]
   rw [e];exact⟨fun m hm=>absurd hm (Nat.not_lt_zero _),by show i< 0;omega⟩
theorem Ba{S:Sh}(hp:pG S){i:Int}(hi:i< S.n):(∀m,m< dc S i->0<=mB S i m/\mB S i m< S.n)/\mB S i (dc S i)< 0:=CB hp _ i oM hi
def Er(S:Sh)(i:Int):List (List V):=(List.range (dc S i)).map fun m=>[.i (mB S i m)]
theorem s4(S:Sh)(i:Int):(Er S i).length=dc S i:=by simp [Er]
theorem ze{S:Sh}{i:Int}{m:Nat}(h:m< dc S i):(Er S i)[m]?=some [.i (mB S i m)]:=by simp [Er,h]
theorem MV(S:Sh)(hp:pG S)(hn:S.n<=200)(i:Int)(hi:i< S.n)(hi2: -1<=i):zw Tryz.prog 129 [.ref 500 0,.ptr [qC S]] [.box 3 [.i i]] (Er S i):=by
 obtain⟨h1,h2⟩:=Ba hp hi;refine mH aj bX (fn:=Tryz.f129) (N:=_) ⟨Tryz.func129,rfl,Tryz.ntmps129,kR⟩ rfl (by simp) (fun Y=> ?_) (by simp);rw [s4];refine cv ?_;refine lK (ι:=Nat) (fun m=>⟨gF [(0,.c (.func (.yield Y.l) #[] #[])),(1,.ref 500 0),(2,.ptr [qC S])],eL [(500,.box 3 [.i (mB S i m)])],1⟩) (fun m=>m) (fun m=>m<=dc S i) (fun m=>dc S i- m) 0 (Nat.zero_le _) ?_ rfl ?_;·refine aH (sl:=[(500,Ob.box 3 [V.i (mB S i (0:Nat))])]) [] (.cons kR (.cons kR (.cons kR .nil))) (.cons oS .nil) kR kR
 intro m hm;by_cases c:m< dc S i
 ·obtain⟨q1,q2⟩:=h1 m c;have hg:=ze c;have hs:mB S i (m+1)=(S.pl (mB S i m).toNat).par:=by rw [mB,if_pos q1]
  obtain⟨p,hp1⟩:∃p:Nat,mB S i m=p:=⟨(mB S i m).toNat,by omega⟩;rw [hp1]at q1 q2 hg hs ⊢;have hpt:(p:Int).toNat=p:=rfl;rw [hpt]at hs;have hp2:=hp p oM;refine cD ?_;refine cD (ig 5 kR rfl fun C hF hC=> ?_);refine aY aj 5 [(0,.c ((0:Nat)<=(1:Nat)) oM),(3,.g (decide ((0:Int)<=(↑p:Int)) == true) ((0:Nat)<=(1:Nat)) (by(intro _;simp;done)))] ?_;refine aa ?_;refine⟨kR,kR,by kernel_rfl,⟨_,hg,cw.refl _,trivial⟩,rfl,fun C hF hC=> ?_,fun C hF hC=> ?_⟩
  ·refine aY aj 1 [] ?_;refine aa ?_;refine eH ?_;refine cA (t:=decide ((0:Int)<=(↑p:Int)) && true) kR (fun c3=> ?_) (fun c3=> ?_);·refine fJ ?_;refine eH ?_;refine cv ?_;refine fU fun C hF hC=> ?_;refine wD 3 ?_;refine aY aj 12 [(4,.c ((0:Nat)<=(1:Nat)) oM),(0,.c ((0:Int)<=(↑p:Int)/\(↑p:Int)< (↑(Sh.n S):Int)) oM),(5,.c ((0:Nat)+(1:Nat)<=(1:Nat)) oM)] ?_;refine aa ⟨kR,?_⟩;refine ta ?_;refine eH ?_;refine⟨rfl,m+1,by omega,?_,by omega,by omega⟩;rw [hs];refine aH (sl:=[(500,Ob.box 3 [V.i (Pl.par (Sh.pl S p))])]) [] (.cons kR (.cons kR (.cons kR .nil))) (.cons oS .nil) kR kR
   ·simp at c3
  ·refine aY aj 1 [] ?_;refine aa ?_;refine eH ?_;refine cA (t:=decide ((0:Int)<=(↑p:Int)) && false) kR (fun c3=> ?_) (fun c3=> ?_);·simp at c3
   ·refine ox ?_;refine tc ?_;refine tc ?_;refine jz ?_;exact⟨.inl rfl,fun h=>(by cases h),fun _=>c⟩
 ·have e:m=dc S i:=by omega
  have hm1:∀m,m<=dc S i-> -1<=mB S i m:=by
   intro m;induction m with
   |zero=>exact fun _=>hi2
   |succ m ih=>intro hm;obtain⟨z1,z2⟩:=h1 m oM;rw [mB,if_pos z1];exact(hp _ oM).2
  have e1:mB S i m= -1:=by rw [e];have:=hm1 (dc S i) (Nat.le_refl _);omega
  rw [e1];refine cD (bp fun C hF hC K hK=> ?_);refine wR 2 ?_;refine aY aj 5 [(0,.c ((0:Nat)<=(1:Nat)) oM),(3,.g (false == true) ((0:Nat)<=(1:Nat)) (by(intro _;simp;done)))] ?_;refine kE kR rfl ?_;refine yN aj 1 [] hK ?_;clear hK K;refine cA (t:=false) kR (fun h=>by cases h) (fun _=> ?_);refine ox ?_;refine tc ?_;refine tc ?_;refine jz ?_;skip
  exact⟨.inl rfl,fun _=>e,fun h=>by cases h⟩
def m9(S:Sh):Prop:=∀i,i< S.n->((S.pl i).kind=0/\(S.pl i).par= -1)\/(0< (S.pl i).kind/\(S.pl i).kind<=3/\0<=(S.pl i).par/\(S.pl i).par< (i:Int)/\(S.pl (S.pl i).par.toNat).kind+1=(S.pl i).kind)
theorem m9.par{S:Sh}(h:m9 S):pG S:=fun i hi=>by rcases h i hi with⟨_,h1⟩ | ⟨_,_,h1,h2,_⟩ <;> omega
theorem m9.of{S T:Sh}(h:m9 S)(hn:T.n=S.n)(hk:∀i,i< S.n->(T.pl i).kind=(S.pl i).kind/\(T.pl i).par=(S.pl i).par):m9 T:=fun i hi=>by
 rw [hn]at hi;obtain⟨e1,e2⟩:=hk i hi;rw [e1,e2];rcases h i hi with h1 | ⟨h1,h2,h3,h4,h5⟩;·exact .inl h1
 ·exact .inr ⟨h1,h2,h3,h4,by rw [(hk (S.pl i).par.toNat oM).1];exact h5⟩
theorem m9.app{S T:Sh}(h:m9 S){p:Pl}(hn:T.n=S.n+1)(hk:∀i,i< S.n->(T.pl i).kind=(S.pl i).kind/\(T.pl i).par=(S.pl i).par)(hp:T.pl S.n=p) (hq:(p.kind=0/\p.par= -1)\/(0< p.kind/\p.kind<=3/\0<=p.par/\p.par< (S.n:Int)/\(S.pl p.par.toNat).kind+1=p.kind)):m9 T:=fun i hi=>by
 by_cases q:i< S.n
 ·obtain⟨e1,e2⟩:=hk i q;rw [e1,e2];rcases h i q with h1 | ⟨h1,h2,h3,h4,h5⟩;·exact .inl h1
  ·exact .inr ⟨h1,h2,h3,h4,by rw [(hk (S.pl i).par.toNat oM).1];exact h5⟩
 ·have:i=S.n:=by omega
  subst this;rw [hp];rcases hq with h1 | ⟨h1,h2,h3,h4,h5⟩;·exact .inl h1
  ·exact .inr ⟨h1,h2,h3,h4,by rw [(hk p.par.toNat oM).1];exact h5⟩
theorem qL(f:Nat->Pl)(k:Nat)(p:Pl)(h1:p.kind=(f k).kind)(h2:p.par=(f k).par)(i:Nat):(dN f k p i).kind=(f i).kind/\(dN f k p i).par=(f i).par:=by
 unfold dN;split;·rename_i h;subst h;exact⟨h1,h2⟩
 ·exact⟨rfl,rfl⟩
theorem BB{f:Nat->Pl}{n i:Nat}{p:Pl}(h:i< n):fk f n p i=f i:=by unfold fk;rw [if_pos h]
theorem Fa{f:Nat->Pl}{n:Nat}{p:Pl}:fk f n p n=p:=by unfold fk;rw [if_neg (Nat.lt_irrefl n)]
theorem J0{S:Sh}(h:S.ok)(hk:m9 S)(a:Act):m9 (dA S a).1:=by
 refine jW (fun x=>m9 x.1) (fun _ _=>hk) (fun _ _=> ?_) (fun _ _ _=>hk.of rfl fun _ _=>⟨rfl,rfl⟩) (fun _ _ c1 c2 c3 c4=> ?_) (fun _ _ _ _=> ?_) (fun _ _ _ _ _ _=> ?_) (fun _ _ _ _=> ?_);·exact hk.app (p:=tQ a) rfl (fun i hi=>by rw [show(Sh.pl _ i)=fk S.pl S.n (tQ a) i from rfl,BB hi];exact⟨rfl,rfl⟩) Fa (.inl ⟨rfl,rfl⟩)
 ·obtain⟨z1,z2,z3⟩:=vU (h.pl a.plate.toNat oM) c3;refine hk.app (p:=(S.pl a.plate.toNat).over a.plate (di (S.pl a.plate.toNat) (S.tk a.bath.toNat) a)) rfl (fun i hi=> ?_) Fa (.inr ⟨?_,?_,c1.1,c1.2,rfl⟩);·rw [show(Sh.pl _ i)=fk (dN S.pl a.plate.toNat (S.pl a.plate.toNat).under) S.n _ i from rfl,BB hi];exact qL S.pl a.plate.toNat (S.pl a.plate.toNat).under rfl rfl i
  ·show 0< (S.pl a.plate.toNat).kind+1;omega
  ·show(S.pl a.plate.toNat).kind+1<=3;omega
 ·exact hk.of rfl fun i _=>qL S.pl a.plate.toNat ((S.pl a.plate.toNat).w7 S.q) rfl rfl i
 ·exact hk.of rfl fun i _=>qL S.pl a.plate.toNat ((S.pl a.plate.toNat).Dm a.flaw) rfl rfl i
 ·exact hk.of rfl fun i _=>qL S.pl a.plate.toNat {S.pl a.plate.toNat with ret:=true} rfl rfl i
theorem JG(r:Rc):m9 (cU r):=fun i hi=>absurd hi (Nat.not_lt_zero _)
theorem JU{S:Sh}(h:S.ok)(hk:m9 S):∀l,m9 (cZ S l):=by
 intro l;induction l generalizing S with
 |nil=>exact hk
 |cons a l ih=>exact ih (wF h a) (J0 h hk a)
end Go.Proofs.YtjmbpjlojjgggaaGreatDoor
